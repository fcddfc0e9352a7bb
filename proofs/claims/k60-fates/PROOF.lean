import PyProof.Rows.All
import Wide.All
import OpenK.AllK
import Wide.FinOn
import KE.KStateDown
import HandS.HeadHook2
import HandS.Head2
import KE.KNestM
import HandS.Codes
import HandS.Words
import HandS.Lambda
import KE.KLam
import KE.KSortKey
import KE.SortKeyHeap
import HandS.Zip
import KE.KDictZip
import KE.KDictKeyed
import HandS.Conv
import HandS.Style
import KE.KRevSl
import HandS.Dict
import HandS.Comp
import HandS.Iter
import HandS.Walk
import HandS.IsInst
import HandS.Property
import HandS.Star
import HandS.RaiseMore
import HandS.Strs
import PyProof.TupleOfSeq
import PyProof.SeqIndex
import HandS.TupAny
import HandS.Deep
import PyProof.AutoIntOps
import HandS.ForMost
import HandS.Wide
import KE.SortData
import KE.DataCmp
import PyProof.ReprRoads
import KE.DatumOrd
import PyProof.Rows.RegStrFacts
import HandS.EndTab
import PySem.Challenge.RW_pairedwatch_k60_whole_fates_and_what_a_p
set_option Elab.async false
set_option linter.all false
set_option maxRecDepth 100000
set_option autoImplicit false
/-! Dh1: a small head: what is looked at when the top has run. -/
namespace Dz
open PySem PySem.Spec PyProof.Rows L2
def noLists (K : PySem.W.Frag) : Bool := K.all fun p => match p.2.cls with
  | .type n => n != "list"
  | _ => true
/-- where a def stands -/
inductive At where
  | fn (x : Str) | me (c m : Str) | pr (c m : Str)
def prA (K : PySem.W.Frag) (c m : Str) : Addr := match PySem.W.recIn K (He.ma K (He.ga K c) m) "property" with
  | some (.ref f :: _) => f
  | _ => 0
def At.ad (K : PySem.W.Frag) : At → Addr
  | .fn x => He.ga K x
  | .me c m => He.ma K (He.ga K c) m
  | .pr c m => prA K c m
structure DefM where
  at_ : At
  name : Str
  qual : Str
  st : Stmt
abbrev FnV : Type := Option (Str × Str × Arguments × FuncBody × Scope × Addr × List (Str × Addr) × Value × Addr)
def fnV (K : PySem.W.Frag) (a : Addr) : FnV := match K.lookup a with
  | some ⟨_, _, .func fd, _⟩ => some (fd.name, fd.qualname, fd.params, fd.body, fd.scope, fd.globals, fd.closure, fd.defaults, fd.builtins)
  | _ => none
def DefM.val (d : DefM) : FnV := some (d.name, d.qual, C8.fnArgs d.st, .stmts (C8.fnBody d.st), C8.fnScope d.st, mainGlobals, [], .none, builtinsNs)
def codB (K : PySem.W.Frag) (a : Addr) (q : Str) : Bool := match K.lookup a with
  | some ⟨_, _, .func fd, _⟩ => PySem.W.codeIn K fd.code q
  | _ => false
def refB (x : Option (Option Value)) (a : Addr) : Bool := match x with
  | some (some (.ref b)) => b == a
  | _ => false
theorem refB_ok {x : Option (Option Value)} {a : Addr} (h : refB x a = true) : x = some (some (.ref a)) := by
  unfold refB at h
  split at h
  · rw [beq_iff_eq.mp h]
  · cases h
def DefM.ok (K : PySem.W.Frag) (d : DefM) : Bool := codB K (d.at_.ad K) d.qual && match d.at_ with
  | .fn x => refB (PySem.W.nsIn K mainGlobals x) (He.ga K x) && PySem.W.keepIn K (.ref (He.ga K x)) && decide (d.name = x) && decide (d.qual = x)
  | .me c m => refB (PySem.W.findIn K (.ref (He.ga K c)) m) (He.ma K (He.ga K c) m) && PySem.W.isFn K (.ref (He.ma K (He.ga K c) m)) && PySem.W.keepIn K (.ref (He.ma K (He.ga K c) m)) && decide (d.name = m)
  | .pr c m => refB (PySem.W.findIn K (.ref (He.ga K c)) m) (He.ma K (He.ga K c) m) && He.eqO (PySem.W.specialIn K (.ref (He.ma K (He.ga K c) m)) "__get__") (some (some (.builtin "property.__get__"))) && decide (PySem.W.takesIn K (.ref (He.ma K (He.ga K c) m)) = some true) &&
      (match PySem.W.recIn K (He.ma K (He.ga K c) m) "property" with
        | some (.ref f :: _) => f == prA K c m
        | _ => false) && decide (d.name = m)
theorem cod_of {K : PySem.W.Frag} {d : DefM} (e : fnV K (d.at_.ad K) = d.val) (c : codB K (d.at_.ad K) d.qual = true) :
    ∃ oc od osl kV doc pm an cdv ct, K.lookup (d.at_.ad K) = some ⟨oc, od, .func (PySem.W.fnOf d.name d.qual (C8.fnArgs d.st) (C8.fnBody d.st) (C8.fnScope d.st) .none kV doc pm an cdv ct), osl⟩ ∧ PySem.W.codeIn K cdv d.qual = true := by
  unfold fnV at e
  unfold codB at c
  cases q : K.lookup (d.at_.ad K) with
  | none => rw [q] at c; cases c
  | some o =>
    obtain ⟨oc, od, dt, osl⟩ := o
    rw [q] at c e
    cases dt with
    | func fd =>
      obtain ⟨n1, n2, n3, n4, n5, n6, n7, n8, n9, n10, n11, n12, n13, n14, n15⟩ := fd
      have e2 : (some (n1, n2, n3, n4, n5, n6, n7, n8, n15) : FnV) = some (d.name, d.qual, C8.fnArgs d.st, .stmts (C8.fnBody d.st), C8.fnScope d.st, mainGlobals, [], .none, builtinsNs) := e
      simp only [Option.some.injEq, Prod.mk.injEq] at e2
      obtain ⟨h1, h2, h3, h4, h5, h6, h7, h8, h9⟩ := e2
      subst h1 h2 h3 h4 h5 h6 h7 h8 h9
      exact ⟨oc, od, osl, n9, n10, n11, n12, n13, n14, rfl, c⟩
    | _ => cases c
/-! ### single facts -/
inductive Fc where
  | free (x : Str)
  | int (x : Str) (i : Int)
  | str (x z : Str)
  | cls (x : Str)
  | mkr (x : Str)
  | noat (x f : Str)
  | ins (x : Str)
def Fc.ok (K : PySem.W.Frag) : Fc → Bool
  | .free x => (He.Fa.free x).ok K
  | .int x i => (He.Fa.int x i).ok K
  | .str x z => (He.Fa.str x z).ok K
  | .cls x => (He.Fa.glo x).ok K && (He.Fa.cls x).ok K
  | .mkr x => PySem.W.makesIn K (He.ga K x) && PySem.W.keepIn K (.ref (He.ga K x))
  | .noat x f => (He.Fa.noat x f).ok K
  | .ins x => He.eqO (PySem.W.findIn K (.ref (He.ga K x)) "__class__") (some (some (.builtin "object.__class__"))) && He.eqO (PySem.W.specialIn K (.builtin "object.__class__") "__get__") (some (some (.builtin "getset_descriptor.__get__"))) &&
      decide (PySem.W.takesIn K (.builtin "object.__class__") = some true) && decide (PySem.W.mroIn K (He.ga K x) (.type "object") = some true) && decide (PySem.W.kitOne K (.ref (He.ga K x)) (.ref (He.ga K x)) = some true)
/-! ### tables -/
def tabObj? : Option Obj → Bool
  | some ⟨.none, none, .fields vs, sl⟩ => vs.size == 0 && sl.size == 0
  | _ => false
theorem tabObj_ok {o : Option Obj} (h : tabObj? o = true) : o = some { cls := .none, data := .fields #[] } := by
  unfold tabObj? at h
  split at h
  · rename_i vs sl
    simp only [Bool.and_eq_true, beq_iff_eq] at h
    obtain rfl : vs = #[] := Array.eq_empty_of_size_eq_zero h.1
    obtain rfl : sl = #[] := Array.eq_empty_of_size_eq_zero h.2
    rfl
  · cases h
/-- the code object of the def x, its table -/
def coA (K : PySem.W.Frag) (x : Str) : Addr := match K.lookup (He.ga K x) with
  | some ⟨_, _, .func fd, _⟩ => (match fd.code with
    | .ref c => c
    | _ => 0)
  | _ => 0
def isCo (K : PySem.W.Frag) (x : Str) : Bool := match K.lookup (He.ga K x) with
  | some ⟨_, _, .func fd, _⟩ => (match fd.code with
    | .ref c => true
    | _ => false)
  | _ => false
def tbA (K : PySem.W.Frag) (x : Str) : Addr := match K.lookup (coA K x) with
  | some ⟨_, _, .fields vs, _⟩ => (match (vs[11]? : Option Value) with
    | some (.ref P) => P
    | _ => 0)
  | _ => 0
def tabB (g : Addr → Option Obj) (K : PySem.W.Frag) (x : Str) : Bool := isCo K x && PySem.W.codeHdIn K (coA K x) (tbA K x) && tabObj? (g (tbA K x)) && (K.lookup (tbA K x)).isNone
structure TabAt (h : Heap) (K : PySem.W.Frag) (x : Str) : Prop where
  co : isCo K x = true
  hd : PySem.W.codeHdIn K (coA K x) (tbA K x) = true
  get : h.get? (tbA K x) = some { cls := .none, data := .fields #[] }
  no : K.lookup (tbA K x) = none
/-! ### the hook -/
abbrev AlM : Type := Bool × List FnV
def obsK (g : Addr → Option Obj) (K : PySem.W.Frag) (fc : List Fc) (fn : List DefM) (tb : List Str) : AlM := ((fc.all fun f => f.ok K) && (fn.all fun d => d.ok K) && noLists K && tb.all (tabB g K), fn.map fun d => fnV K (d.at_.ad K))
def valM (fn : List DefM) : AlM := (true, fn.map DefM.val)
structure SaysM (h : Heap) (K : PySem.W.Frag) (fc : List Fc) (fn : List DefM) (tb : List Str) : Prop where
  fc : ∀ f ∈ fc, f.ok K = true
  fn : ∀ d ∈ fn, d.ok K = true ∧ fnV K (d.at_.ad K) = d.val
  nl : noLists K = true
  tb : ∀ x ∈ tb, TabAt h K x
theorem map_eq_at {α β : Type} {f g : α → β} : ∀ {l : List α}, l.map f = l.map g → ∀ x ∈ l, f x = g x
  | [], _, _, h => by cases h
  | a :: l, e, x, h => by
    rw [List.map_cons, List.map_cons] at e
    obtain ⟨e1, e2⟩ := List.cons.inj e
    rcases List.mem_cons.mp h with rfl | h
    · exact e1
    · exact map_eq_at e2 x h
theorem saysM_of {h : Heap} {K : PySem.W.Frag} {fc : List Fc} {fn : List DefM} {tb : List Str} (e : obsK h.get? K fc fn tb = valM fn) : SaysM h K fc fn tb := by
  have e1 : ((fc.all fun f => f.ok K) && (fn.all fun d => d.ok K) && noLists K && tb.all (tabB h.get? K)) = true := congrArg (fun z : AlM => z.1) e
  have e2 : fn.map (fun d => fnV K (d.at_.ad K)) = fn.map DefM.val := congrArg (fun z : AlM => z.2) e
  simp only [Bool.and_eq_true] at e1
  obtain ⟨⟨⟨h1, h2⟩, h3⟩, h4⟩ := e1
  refine ⟨fun f hf => List.all_eq_true.mp h1 f hf, fun d hd => ⟨List.all_eq_true.mp h2 d hd, map_eq_at e2 d hd⟩, h3, fun x hx => ?_⟩
  have := List.all_eq_true.mp h4 x hx
  unfold tabB at this
  simp only [Bool.and_eq_true, Option.isNone_iff_eq_none] at this
  exact ⟨this.1.1.1, this.1.1.2, tabObj_ok this.1.2, this.2⟩
def obsL (L : List Addr) (fc : List Fc) (fn : List DefM) (tb : List Str) (g : Addr → Option Obj) : AlM := obsK g (He.frG g L) fc fn tb
/-- the hook over a list of addresses that is given -/
def hookL (L : List Addr) (fc : List Fc) (fn : List DefM) (tb : List Str) : PySem.W.Hook where
  α := AlM
  obs := fun s => obsL L fc fn tb s.heap.get?
  val := fun _ => valM fn
  says := fun _ h => ∃ K : PySem.W.Frag, K.In h ∧ SaysM h K fc fn tb
  of := fun _ _ e => ⟨_, He.frG_in, saysM_of e⟩
  keeps := fun _ _ _ ⟨K, hK, c⟩ k => ⟨K, PySem.W.Frag.In.keeps hK k, c.fc, c.fn, c.nl, fun x hx => let t := c.tb x hx; ⟨t.co, t.hd, k _ _ t.get, t.no⟩⟩
theorem obsL_eq {L : List Addr} {fc : List Fc} {fn : List DefM} {tb : List Str} {g : Addr → Option Obj} {s : Shared} (h : ∀ a, g a = s.heap.get? a) : obsL L fc fn tb g = (hookL L fc fn tb).obs s := by
  rw [funext h] <;> rfl

/-! ### which objects, which defs -/
def isTab : Option Obj → Bool
  | some ⟨.none, none, .fields _, _⟩ => true
  | _ => false
def asM (g : Addr → Option Obj) (n : Nat) : List Addr := (He.asD g n).filter fun a => !isTab (g a)
def frM (g : Addr → Option Obj) (n : Nat) : PySem.W.Frag := He.frG g (asM g n)
def encN (l : List Addr) : Nat := l.foldl (fun acc a => acc * 1048576 + (a + 1)) 0
end Dz
/-! k60: the head: the top's run, looked at (printed by asm.py). -/
namespace Dz60
open PySem PySem.Spec PyProof.Rows L2 Dz
def top (i : Nat) : Stmt := PySem.Challenge.pw_pairedwatch_k60_whole_fates_and_what_a_p.main.body.getD i (.Pass ⟨0, 0, 0, 0⟩)
abbrev t_is_integer : Stmt := top 20
abbrev t_is_between : Stmt := top 21
abbrev t_is_name : Stmt := top 22
abbrev t_Reader_init : Stmt := L2.inClass (top 29) 0
abbrev t_Reader_takes : Stmt := L2.inClass (top 29) 1
abbrev t_Reader_takes_guard : Stmt := L2.inClass (top 29) 2
abbrev t_Reader_takes_bond : Stmt := L2.inClass (top 29) 3
abbrev t_Reader_found : Stmt := L2.inClass (top 29) 4
abbrev t_is_bond_of : Stmt := top 30
abbrev t_Roll_init : Stmt := L2.inClass (top 31) 0
abbrev t_Roll_guards : Stmt := L2.inClass (top 31) 3
abbrev t_Roll_bonds : Stmt := L2.inClass (top 31) 4
abbrev t_Roll_pairs : Stmt := L2.inClass (top 31) 5
abbrev t_pair_of : Stmt := top 33
abbrev t_check_roll : Stmt := top 34
abbrev t_check_guard : Stmt := top 35
abbrev t_are_prices_of : Stmt := top 47
abbrev t_check_prices : Stmt := top 48
abbrev t_price_by : Stmt := top 49
abbrev t_cost_of : Stmt := top 50
abbrev t_full_pairings : Stmt := top 51
abbrev t_costs_of : Stmt := top 52
abbrev t_check_full : Stmt := top 53
abbrev t_fates : Stmt := top 54
abbrev t_may_cost : Stmt := top 55
abbrev t_law_take : Stmt := top 57
abbrev t_law_some : Stmt := top 58
abbrev t_law_word : Stmt := top 59
abbrev t_law_roll : Stmt := top 60
abbrev t_law_of : Stmt := top 61
abbrev t_law_pair : Stmt := top 62
abbrev t_law_pairs : Stmt := top 63
abbrev t_law_price : Stmt := top 64
abbrev t_law_cost : Stmt := top 65
abbrev t_law_text : Stmt := top 66
abbrev t_law_prices : Stmt := top 67
abbrev t_law_full : Stmt := top 68
abbrev t_law_cells : Stmt := top 69
abbrev t_law_pot : Stmt := top 70
abbrev t_law_whole_roll : Stmt := top 71
abbrev t_law_words : Stmt := top 72
abbrev t_law_is_pair_right : Stmt := top 73
abbrev t_law_right : Stmt := top 74
abbrev t_law : Stmt := top 75
def fn0 : List DefM := [(DefM.mk (.fn "is_integer") "is_integer" "is_integer" t_is_integer), (DefM.mk (.fn "is_between") "is_between" "is_between" t_is_between), (DefM.mk (.fn "is_name") "is_name" "is_name" t_is_name), (DefM.mk (.me "Reader" "__init__") "__init__" "Reader.__init__" t_Reader_init), (DefM.mk (.me "Reader" "takes") "takes" "Reader.takes" t_Reader_takes), (DefM.mk (.me "Reader" "takes_guard") "takes_guard" "Reader.takes_guard" t_Reader_takes_guard), (DefM.mk (.me "Reader" "takes_bond") "takes_bond" "Reader.takes_bond" t_Reader_takes_bond), (DefM.mk (.pr "Reader" "found") "found" "Reader.found" t_Reader_found), (DefM.mk (.fn "is_bond_of") "is_bond_of" "is_bond_of" t_is_bond_of), (DefM.mk (.me "Roll" "__init__") "__init__" "Roll.__init__" t_Roll_init), (DefM.mk (.pr "Roll" "guards") "guards" "Roll.guards" t_Roll_guards), (DefM.mk (.pr "Roll" "bonds") "bonds" "Roll.bonds" t_Roll_bonds), (DefM.mk (.pr "Roll" "pairs") "pairs" "Roll.pairs" t_Roll_pairs), (DefM.mk (.fn "pair_of") "pair_of" "pair_of" t_pair_of), (DefM.mk (.fn "check_roll") "check_roll" "check_roll" t_check_roll), (DefM.mk (.fn "check_guard") "check_guard" "check_guard" t_check_guard), (DefM.mk (.fn "are_prices_of") "are_prices_of" "are_prices_of" t_are_prices_of), (DefM.mk (.fn "check_prices") "check_prices" "check_prices" t_check_prices), (DefM.mk (.fn "price_by") "price_by" "price_by" t_price_by), (DefM.mk (.fn "cost_of") "cost_of" "cost_of" t_cost_of)]
def fn1 : List DefM := [(DefM.mk (.fn "full_pairings") "full_pairings" "full_pairings" t_full_pairings), (DefM.mk (.fn "costs_of") "costs_of" "costs_of" t_costs_of), (DefM.mk (.fn "check_full") "check_full" "check_full" t_check_full), (DefM.mk (.fn "fates") "fates" "fates" t_fates), (DefM.mk (.fn "may_cost") "may_cost" "may_cost" t_may_cost), (DefM.mk (.fn "_law_take") "_law_take" "_law_take" t_law_take), (DefM.mk (.fn "_law_some") "_law_some" "_law_some" t_law_some), (DefM.mk (.fn "_law_word") "_law_word" "_law_word" t_law_word), (DefM.mk (.fn "_law_roll") "_law_roll" "_law_roll" t_law_roll), (DefM.mk (.fn "_law_of") "_law_of" "_law_of" t_law_of), (DefM.mk (.fn "_law_pair") "_law_pair" "_law_pair" t_law_pair), (DefM.mk (.fn "_law_pairs") "_law_pairs" "_law_pairs" t_law_pairs), (DefM.mk (.fn "_law_price") "_law_price" "_law_price" t_law_price), (DefM.mk (.fn "_law_cost") "_law_cost" "_law_cost" t_law_cost), (DefM.mk (.fn "_law_text") "_law_text" "_law_text" t_law_text), (DefM.mk (.fn "_law_prices") "_law_prices" "_law_prices" t_law_prices), (DefM.mk (.fn "_law_full") "_law_full" "_law_full" t_law_full), (DefM.mk (.fn "_law_cells") "_law_cells" "_law_cells" t_law_cells), (DefM.mk (.fn "_law_pot") "_law_pot" "_law_pot" t_law_pot), (DefM.mk (.fn "_law_whole_roll") "_law_whole_roll" "_law_whole_roll" t_law_whole_roll)]
def fn2 : List DefM := [(DefM.mk (.fn "_law_words") "_law_words" "_law_words" t_law_words), (DefM.mk (.fn "_law_is_pair_right") "_law_is_pair_right" "_law_is_pair_right" t_law_is_pair_right), (DefM.mk (.fn "_law_right") "_law_right" "_law_right" t_law_right), (DefM.mk (.fn "law") "law" "law" t_law)]
def fn : List DefM := fn0 ++ fn1 ++ fn2
def fc0 : List Fc := [.cls "Reader", .mkr "Reader", .cls "Roll", .mkr "Roll", .str "LETTERS" "abcdefghijklmnopqrstuvwxyz", .str "FIGURES" "0123456789", .int "MOST_SIGNS" 8, .int "MOST_GUARDS_rolls" 24, .int "MOST_BONDS" 200, .str "GUARD" "guard", .str "BOND" "bond", .int "MOST_GUARDS_cheap" 10, .int "MOST_PRICE" 999, .str "NEVER" "never", .str "ALL" "all", .str "SOME" "some", .str "NONE" "none", .noat "Reader" "own_guards", .noat "Reader" "own_bonds", .noat "Roll" "own_text"]
def fc1 : List Fc := [.noat "Roll" "own_guards", .noat "Roll" "own_bonds", .noat "Roll" "own_pairs", .ins "Roll", .free "len", .free "abs", .free "int", .free "str", .free "repr", .free "min", .free "max", .free "sum", .free "any", .free "all", .free "tuple", .free "list", .free "sorted", .free "isinstance", .free "range", .free "enumerate"]
def fc2 : List Fc := [.free "zip", .free "bool", .free "dict"]
def fc : List Fc := fc0 ++ fc1 ++ fc2
def lo0 : List Str := ["WatchError", "BadBonds", "BadLot", "BadPrices", "BadRoll", "NoBond", "NoGuard", "NoRoll", "NotAll", "TooMany", "Pairs", "Search", "spare_of", "barrier_of", "LETTERS", "FIGURES", "MOST_SIGNS", "is_integer", "is_between", "is_name"]
def lo1 : List Str := ["are_unlike", "MOST_GUARDS_rolls", "MOST_BONDS", "GUARD", "BOND", "Reader", "is_bond_of", "Roll", "roll_of", "pair_of", "check_roll", "check_guard", "in_sequence", "is_lot_of", "barrier_in", "MOST_GUARDS_cheap", "MOST_PRICE", "NEVER", "ALL", "SOME"]
def lo2 : List Str := ["NONE", "are_prices_of", "check_prices", "price_by", "cost_of", "full_pairings", "costs_of", "check_full", "fates", "may_cost", "_law_take", "_law_some", "_law_word", "_law_roll", "_law_of", "_law_pair", "_law_pairs", "_law_price", "_law_cost", "_law_text"]
def lo3 : List Str := ["_law_prices", "_law_full", "_law_cells", "_law_pot", "_law_whole_roll", "_law_words", "_law_is_pair_right", "_law_right"]
def lo : List Str := lo0 ++ lo1 ++ lo2 ++ lo3
abbrev R : PySem.W.OpenRow := PySem.W.OpenLaw.row PySem.Challenge.rw_pairedwatch_k60_whole_fates_and_what_a_p
def ad0 : List Addr := [3, 6, 4, 33, 46, 58, 70, 82, 94, 106, 118, 130, 142, 190, 267, 276, 281, 288, 295, 300, 307, 353, 362, 426, 435, 442, 449, 456, 461, 466, 473, 478, 485, 492, 497, 502, 507, 514, 519, 524, 531, 538, 543, 550, 557, 564, 569, 576, 581, 586, 591, 596, 603, 610, 617, 622, 627, 632, 637, 0]
def ad1 : List Addr := [32, 45, 57, 69, 81, 93, 105, 117, 129, 141, 189, 266, 275, 280, 287, 294, 299, 306, 352, 361, 425, 434, 441, 448, 455, 460, 465, 472, 477, 484, 491, 496, 501, 506, 513, 518, 523, 530, 537, 542, 549, 556, 563, 568, 575, 580, 585, 590, 595, 602, 609, 616, 621, 626, 631, 636, 30, 31, 34, 44]
def ad2 : List Addr := [56, 68, 80, 92, 104, 116, 128, 140, 156, 161, 168, 175, 182, 187, 188, 191, 192, 208, 215, 222, 229, 236, 243, 250, 257, 264, 265, 268, 269, 272, 274, 277, 279, 282, 284, 285, 286, 289, 291, 292, 293, 296, 298, 301, 303, 304, 305, 321, 328, 335, 342, 350, 351, 354, 355, 358, 360, 374, 381, 389]
def ad3 : List Addr := [397, 405, 413, 418, 423, 424, 427, 428, 431, 433, 436, 438, 439, 440, 443, 445, 446, 447, 450, 452, 453, 454, 457, 459, 462, 464, 467, 469, 470, 471, 474, 476, 479, 481, 482, 483, 486, 488, 489, 490, 493, 495, 498, 500, 503, 505, 508, 510, 511, 512, 515, 517, 520, 522, 525, 527, 528, 529, 532, 534]
def ad4 : List Addr := [535, 536, 539, 541, 544, 546, 547, 548, 551, 553, 554, 555, 558, 560, 561, 562, 565, 567, 570, 572, 573, 574, 577, 579, 582, 584, 587, 589, 592, 594, 597, 599, 600, 601, 604, 606, 607, 608, 611, 613, 614, 615, 618, 620, 623, 625, 628, 630, 633, 635, 29, 18, 155, 160, 167, 174, 181, 186, 207, 214]
def ad5 : List Addr := [221, 228, 235, 242, 249, 256, 263, 320, 327, 334, 341, 349, 373, 380, 388, 396, 404, 412, 417, 422, 24, 26, 27, 28, 152, 154, 157, 159, 162, 164, 165, 166, 169, 171, 172, 173, 176, 178, 179, 180, 183, 185, 202, 204, 205, 206, 209, 211, 212, 213, 216, 218, 219, 220, 223, 225, 226, 227, 230, 232]
def ad6 : List Addr := [233, 234, 237, 239, 240, 241, 244, 246, 247, 248, 251, 253, 254, 255, 258, 260, 261, 262, 315, 317, 318, 319, 322, 324, 325, 326, 329, 331, 332, 333, 336, 338, 339, 340, 348, 370, 372, 375, 377, 378, 379, 387, 395, 403, 411, 414, 416, 419, 421, 343, 345, 346, 347, 382, 384, 385, 386, 390, 392, 393]
def ad7 : List Addr := [394, 398, 400, 401, 402, 406, 408, 409, 410]
def ad : List Addr := ad0 ++ ad1 ++ ad2 ++ ad3 ++ ad4 ++ ad5 ++ ad6 ++ ad7
abbrev hk : PySem.W.Hook := hookL ad fc fn ["pair_of"]
def ob (s : PySem.W.SharedT) : AlM := obsL ad fc fn ["pair_of"] (HandSHeadRun.getT s)
theorem ob_eq (s : PySem.W.SharedT) : ob s = hk.obs s.abs := obsL_eq (HandSHeadRun.getT_eq s)
theorem run (w : World) : HandSHeadRun.RunEq R (PySem.W.view R.prog [75]) hk ob 8000 lo w := by
  intro os
  kernel_rfl
end Dz60
/-! Dz1: data values over the hand layer: frozen data as values, owned objects by address. -/
namespace Dz
open PySem PySem.Spec PyProof.Rows L2

/-- a datum: frozen things are values; an owned object is known by its address -/
inductive D where
  | non | bl (b : Bool) | int (i : Int) | str (x : Str) | ref (a : Addr)
  | tup (xs : List D) | utup (xs : List D) | lst (xs : List D) | fls (xs : List D) | dic (t : Bool) (kvs : List (D × D)) | ins (c : Str) (fs : List (Str × D))
/-- what stands at an owned address -/
inductive Ob where
  | lst (xs : List D) | dic (kvs : List (D × D)) | ins (c : Str) (fs : List (Str × D))
abbrev Sto := Addr → Option Ob
def sup (S : Sto) (a : Addr) (o : Ob) : Sto := fun b => if b = a then some o else S b
def sdel (S : Sto) (a : Addr) : Sto := fun b => if b = a then none else S b
theorem sup_same {S : Sto} {a : Addr} {o : Ob} : sup S a o a = some o := by unfold sup; rw [if_pos rfl]
theorem sup_ne {S : Sto} {a b : Addr} {o : Ob} (h : b ≠ a) : sup S a o b = S b := by unfold sup; rw [if_neg h]
theorem sup_sup {S : Sto} {a : Addr} {o u : Ob} : sup (sup S a o) a u = sup S a u := by
  funext b; unfold sup; split <;> rfl
theorem sup_comm {S : Sto} {a b : Addr} {o u : Ob} (h : a ≠ b) : sup (sup S a o) b u = sup (sup S b u) a o := by
  funext c; unfold sup
  by_cases h1 : c = b
  · subst h1; rw [if_pos rfl, if_neg (Ne.symm h), if_pos rfl]
  · rw [if_neg h1]
    by_cases h2 : c = a
    · rw [if_pos h2, if_pos h2]
    · rw [if_neg h2, if_neg h2, if_neg h1]
theorem sup_self {S : Sto} {a : Addr} {o : Ob} (h : S a = some o) : sup S a o = S := by
  funext b; unfold sup
  by_cases e : b = a
  · rw [if_pos e, e, h]
  · rw [if_neg e]
theorem sdel_sup {S : Sto} {a : Addr} {o : Ob} (h : S a = none) : sdel (sup S a o) a = S := by
  funext b; unfold sdel sup
  by_cases e : b = a
  · rw [if_pos e, e, h]
  · rw [if_neg e, if_neg e]

/-- plain signs alone -/
def okS (x : Str) : Bool := x.cps.toList.all (· < 128)
def okK : Key → Bool
  | .inl _ => true
  | .inr x => okS x
def kD : Key → D
  | .inl i => .int i
  | .inr x => .str x

/-- the classes' addresses, and how a tuple of keys is hashed -/
structure CL where
  c : Str → Option Addr
  tabs : List (Addr × Str)
  hs : List Key → Int
/-- at a stands a dict with these entries -/
def DTφ (es : List DictEntry) (a : Addr) : Heap → Prop := fun h => ∃ o ep, h.get? a = some o ∧ o.ExactDict ∧ o.data = .dict es.toArray ep
/-- things that are never locked -/
def isSq : HO → Bool
  | .lst _ => true
  | .tup _ => true
  | .frz _ (.tup _) => true
  | .ext _ => true
  | .ins _ _ _ => true
  | _ => false
def isRd : HO → Bool
  | .lst _ => true
  | .dK _ => true
  | _ => false
/-- neither owned nor hidden -/
abbrev Fr (S : Sto) (T : Hp) (a : Addr) : Prop := S a = none ∧ T a = none
mutual
inductive Rp (cl : CL) (S : Sto) (T : Hp) (H : Hp) : D → V → Prop
  | non : Rp cl S T H .non .non
  | bl (b : Bool) : Rp cl S T H (.bl b) (.bl b)
  | int (i : Int) : Rp cl S T H (.int i) (.int i)
  | str (x : Str) : okS x = true → Rp cl S T H (.str x) (.str x)
  | ref (a : Addr) : Rp cl S T H (.ref a) (.ref a)
  | tup {a : Addr} {ob : Obj} {xs : List V} {ds : List D} : H a = some (.frz ob (.tup xs)) → ob.dict = none → Fr S T a → RpL cl S T H ds xs → Rp cl S T H (.tup ds) (.ref a)
  | utup {a : Addr} {xs : List V} {ds : List D} : H a = some (.tup xs) → Fr S T a → RpL cl S T H ds xs → Rp cl S T H (.utup ds) (.ref a)
  | lst {a : Addr} {xs : List V} {ds : List D} : H a = some (.lst xs) → Fr S T a → RpL cl S T H ds xs → Rp cl S T H (.lst ds) (.ref a)
  | fls {a : Addr} {xs : List V} {ds : List D} : Rd H a (.lst xs) → Fr S T a → RpL cl S T H ds xs → Rp cl S T H (.fls ds) (.ref a)
  | dk {a : Addr} {kvs : List (Key × V)} {ds : List (D × D)} : Rd H a (.dK kvs) → Fr S T a → RpK cl S T H ds kvs → Rp cl S T H (.dic false ds) (.ref a)
  | dt {a : Addr} {es : List DictEntry} {ds : List (D × D)} : H a = some (.ext (DTφ es a)) → (ds.map (·.1)).Nodup → Fr S T a → RpT cl S T H ds es → Rp cl S T H (.dic true ds) (.ref a)
  | ins {a C dx : Addr} {gs : List (Str × V)} {c : Str} {fs : List (Str × D)} : H a = some (.ins C dx gs) → cl.c c = some C → Fr S T a → RpF cl S T H fs gs → Rp cl S T H (.ins c fs) (.ref a)
inductive RpL (cl : CL) (S : Sto) (T : Hp) (H : Hp) : List D → List V → Prop
  | nil : RpL cl S T H [] []
  | cons {d : D} {v : V} {ds : List D} {vs : List V} : Rp cl S T H d v → RpL cl S T H ds vs → RpL cl S T H (d :: ds) (v :: vs)
inductive RpK (cl : CL) (S : Sto) (T : Hp) (H : Hp) : List (D × D) → List (Key × V) → Prop
  | nil : RpK cl S T H [] []
  | cons {k : Key} {d : D} {v : V} {ds : List (D × D)} {vs : List (Key × V)} : okK k = true → Rp cl S T H d v → RpK cl S T H ds vs → RpK cl S T H ((kD k, d) :: ds) ((k, v) :: vs)
inductive RpT (cl : CL) (S : Sto) (T : Hp) (H : Hp) : List (D × D) → List DictEntry → Prop
  | nil : RpT cl S T H [] []
  | cons {k : List Key} {b : Addr} {ob : Obj} {d : D} {v : V} {u : Value} {ds : List (D × D)} {es : List DictEntry} : H b = some (.frz ob (.tup (k.map kV))) → Fr S T b → RelV v u → Rp cl S T H d v → RpT cl S T H ds es → RpT cl S T H ((.tup (k.map kD), d) :: ds) (⟨cl.hs k, .ref b, u⟩ :: es)
inductive RpF (cl : CL) (S : Sto) (T : Hp) (H : Hp) : List (Str × D) → List (Str × V) → Prop
  | nil : RpF cl S T H [] []
  | cons {f : Str} {d : D} {v : V} {ds : List (Str × D)} {vs : List (Str × V)} : Rp cl S T H d v → RpF cl S T H ds vs → RpF cl S T H ((f, d) :: ds) ((f, v) :: vs)
end

/-- what stands untouched: all that is neither owned nor hidden; the hidden things are just as they were -/
structure Ex (S S2 : Sto) (T : Hp) (H H2 : Hp) : Prop where
  rd : ∀ a u, isRd u = true → Fr S T a → Rd H a u → Rd H2 a u
  sq : ∀ a u, Fr S T a → H a = some u → isSq u = true → H2 a = some u
  st : ∀ a o, Fr S T a → H a = some o → S2 a = none ∧ ∃ o', H2 a = some o'
  hid : ∀ a u, T a = some u → H a = some u → S a = none → H2 a = some u ∧ S2 a = none
theorem Rd.some {H : Hp} {a : Addr} {u : HO} (h : Rd H a u) : ∃ o, H a = some o := by
  rcases h with h | ⟨o, h⟩
  · exact ⟨_, h⟩
  · exact ⟨_, h⟩
theorem Ex.refl (S : Sto) (T H : Hp) : Ex S S T H H := ⟨fun _ _ _ _ h => h, fun _ _ _ h _ => h, fun _ o h e => ⟨h.1, o, e⟩, fun _ _ _ h n => ⟨h, n⟩⟩
theorem Ex.trans {S S1 S2 : Sto} {T H H1 H2 : Hp} (x : Ex S S1 T H H1) (y : Ex S1 S2 T H1 H2) : Ex S S2 T H H2 := by
  have f : ∀ a o, Fr S T a → H a = some o → Fr S1 T a ∧ ∃ o', H1 a = some o' := fun a o h1 h2 => ⟨⟨(x.st a o h1 h2).1, h1.2⟩, (x.st a o h1 h2).2⟩
  refine ⟨fun a u i h1 h2 => ?_, fun a u h1 h2 hq => ?_, fun a o h1 h2 => ?_, fun a u h1 h2 h3 => ?_⟩
  · obtain ⟨o, e⟩ := Rd.some h2
    exact y.rd a u i (f a o h1 e).1 (x.rd a u i h1 h2)
  · exact y.sq a u (f a _ h1 h2).1 (x.sq a u h1 h2 hq) hq
  · obtain ⟨q, o', e⟩ := f a o h1 h2
    exact y.st a o' q e
  · obtain ⟨p, q⟩ := x.hid a u h1 h2 h3
    exact y.hid a u h1 p q

variable {cl : CL} {S S1 S2 : Sto} {T H H1 H2 : Hp}
/-- what was frozen is still so, and as it was; the hidden lot may be another -/
structure Lt (S S2 : Sto) (T T2 : Hp) (H H2 : Hp) : Prop where
  rd : ∀ a u, isRd u = true → Fr S T a → Rd H a u → Rd H2 a u
  sq : ∀ a u, Fr S T a → H a = some u → isSq u = true → H2 a = some u
  fr : ∀ a o, Fr S T a → H a = some o → Fr S2 T2 a ∧ ∃ o', H2 a = some o'
theorem Ex.lt (x : Ex S S2 T H H2) : Lt S S2 T T H H2 := ⟨x.rd, x.sq, fun a o n e => ⟨⟨(x.st a o n e).1, n.2⟩, (x.st a o n e).2⟩⟩
theorem Lt.trans {S S1 S2 : Sto} {T T1 T2 H H1 H2 : Hp} (x : Lt S S1 T T1 H H1) (y : Lt S1 S2 T1 T2 H1 H2) : Lt S S2 T T2 H H2 := by
  refine ⟨fun a u i h1 h2 => ?_, fun a u h1 h2 hq => ?_, fun a o h1 h2 => ?_⟩
  · obtain ⟨o, e⟩ := Rd.some h2
    exact y.rd a u i (x.fr a o h1 e).1 (x.rd a u i h1 h2)
  · exact y.sq a u (x.fr a _ h1 h2).1 (x.sq a u h1 h2 hq) hq
  · obtain ⟨q, o', e⟩ := x.fr a o h1 h2
    exact y.fr a o' q e
theorem Lt.fr' {T2 : Hp} (x : Lt S S2 T T2 H H2) {a : Addr} {u : HO} (n : Fr S T a) (h : Rd H a u) : Fr S2 T2 a :=
  let ⟨o, e⟩ := Rd.some h; (x.fr a o n e).1
variable {T2 : Hp}
mutual
theorem Rp.lt (x : Lt S S2 T T2 H H2) : ∀ {d : D} {v : V}, Rp cl S T H d v → Rp cl S2 T2 H2 d v
  | _, _, .non => .non
  | _, _, .bl b => .bl b
  | _, _, .int i => .int i
  | _, _, .str s h => .str s h
  | _, _, .ref a => .ref a
  | _, _, .tup h o n r => .tup (x.sq _ _ n h rfl) o (x.fr _ _ n h).1 (RpL.lt x r)
  | _, _, .utup h n r => .utup (x.sq _ _ n h rfl) (x.fr _ _ n h).1 (RpL.lt x r)
  | _, _, .lst h n r => .lst (x.sq _ _ n h rfl) (x.fr _ _ n h).1 (RpL.lt x r)
  | _, _, .fls h n r => .fls (x.rd _ _ rfl n h) (x.fr' n h) (RpL.lt x r)
  | _, _, .dk h n r => .dk (x.rd _ _ rfl n h) (x.fr' n h) (RpK.lt x r)
  | _, _, .dt h o n r => .dt (x.sq _ _ n h rfl) o (x.fr _ _ n h).1 (RpT.lt x r)
  | _, _, .ins h c n r => .ins (x.sq _ _ n h rfl) c (x.fr _ _ n h).1 (RpF.lt x r)
theorem RpL.lt (x : Lt S S2 T T2 H H2) : ∀ {d : List D} {v : List V}, RpL cl S T H d v → RpL cl S2 T2 H2 d v
  | _, _, .nil => .nil
  | _, _, .cons a b => .cons (Rp.lt x a) (RpL.lt x b)
theorem RpK.lt (x : Lt S S2 T T2 H H2) : ∀ {d : List (D × D)} {v : List (Key × V)}, RpK cl S T H d v → RpK cl S2 T2 H2 d v
  | _, _, .nil => .nil
  | _, _, .cons o a b => .cons o (Rp.lt x a) (RpK.lt x b)
theorem RpT.lt (x : Lt S S2 T T2 H H2) : ∀ {d : List (D × D)} {v : List DictEntry}, RpT cl S T H d v → RpT cl S2 T2 H2 d v
  | _, _, .nil => .nil
  | _, _, .cons h n q a b => .cons (x.sq _ _ n h rfl) (x.fr _ _ n h).1 q (Rp.lt x a) (RpT.lt x b)
theorem RpF.lt (x : Lt S S2 T T2 H H2) : ∀ {d : List (Str × D)} {v : List (Str × V)}, RpF cl S T H d v → RpF cl S2 T2 H2 d v
  | _, _, .nil => .nil
  | _, _, .cons a b => .cons (Rp.lt x a) (RpF.lt x b)
end
theorem Rp.ext (x : Ex S S2 T H H2) {d : D} {v : V} (r : Rp cl S T H d v) : Rp cl S2 T H2 d v := r.lt x.lt
theorem RpL.ext (x : Ex S S2 T H H2) {d : List D} {v : List V} (r : RpL cl S T H d v) : RpL cl S2 T H2 d v := r.lt x.lt
theorem RpK.ext (x : Ex S S2 T H H2) {d : List (D × D)} {v : List (Key × V)} (r : RpK cl S T H d v) : RpK cl S2 T H2 d v := r.lt x.lt
theorem RpT.ext (x : Ex S S2 T H H2) {d : List (D × D)} {v : List DictEntry} (r : RpT cl S T H d v) : RpT cl S2 T H2 d v := r.lt x.lt
theorem RpF.ext (x : Ex S S2 T H H2) {d : List (Str × D)} {v : List (Str × V)} (r : RpF cl S T H d v) : RpF cl S2 T H2 d v := r.lt x.lt
theorem RpL.length : ∀ {d : List D} {v : List V}, RpL cl S T H d v → d.length = v.length
  | _, _, .nil => rfl
  | _, _, .cons _ b => by simp [RpL.length b]
theorem RpK.length : ∀ {d : List (D × D)} {v : List (Key × V)}, RpK cl S T H d v → d.length = v.length
  | _, _, .nil => rfl
  | _, _, .cons _ _ b => by simp [RpK.length b]
theorem RpT.length : ∀ {d : List (D × D)} {v : List DictEntry}, RpT cl S T H d v → d.length = v.length
  | _, _, .nil => rfl
  | _, _, .cons _ _ _ _ b => by simp [RpT.length b]
theorem RpF.length : ∀ {d : List (Str × D)} {v : List (Str × V)}, RpF cl S T H d v → d.length = v.length
  | _, _, .nil => rfl
  | _, _, .cons _ b => by simp [RpF.length b]

/-- an owned object and what the hand layer tracks -/
inductive RpO (cl : CL) (S : Sto) (T H : Hp) : Ob → HO → Prop
  | lst {ds : List D} {xs : List V} : RpL cl S T H ds xs → RpO cl S T H (.lst ds) (.lst xs)
  | dk {ds : List (D × D)} {kvs : List (Key × V)} : RpK cl S T H ds kvs → RpO cl S T H (.dic ds) (.dK kvs)
  | ins {C dx : Addr} {gs : List (Str × V)} {c : Str} {fs : List (Str × D)} : cl.c c = some C → RpF cl S T H fs gs → RpO cl S T H (.ins c fs) (.ins C dx gs)
theorem RpO.ext (x : Ex S S2 T H H2) {o : Ob} {u : HO} (r : RpO cl S T H o u) : RpO cl S2 T H2 o u := by
  cases r with
  | lst r => exact .lst (r.ext x)
  | dk r => exact .dk (r.ext x)
  | ins c r => exact .ins c (r.ext x)
/-- the tables of code objects -/
def TabD (cl : CL) (S : Sto) (T H : Hp) : Prop := ∀ p ∈ cl.tabs, Fr S T p.1 ∧ ∃ ps : Array Value, H p.1 = some (.tbl ps) ∧ TriplesOk ps.toList ∧
  ∀ (pos : Pos) (cv : Value), codeAmong pos ps.toList = some cv → ∃ c, cv = .ref c ∧ H c = some (LamX.CodeO c p.2) ∧ Fr S T c
theorem TabD.lt {S S2 : Sto} {T T2 H H2 : Hp} (t : TabD cl S T H) (x : Lt S S2 T T2 H H2) (hb : ∀ a ps, Fr S T a → H a = some (.tbl ps) → H2 a = some (.tbl ps)) : TabD cl S2 T2 H2 := fun p hp => by
  obtain ⟨f, ps, h1, h2, h3⟩ := t p hp
  refine ⟨(x.fr _ _ f h1).1, ps, hb _ _ f h1, h2, fun pos cv h => ?_⟩
  obtain ⟨c, e, h4, h5⟩ := h3 pos cv h
  exact ⟨c, e, x.sq _ _ h5 h4 rfl, (x.fr _ _ h5 h4).1⟩
structure Sm (cl : CL) (S : Sto) (T H : Hp) : Prop where
  tab : TabD cl S T H
  ob : ∀ a o, S a = some o → ∃ u, H a = some u ∧ RpO cl S T H o u
  hid : ∀ a u, T a = some u → H a = some u ∧ S a = none
theorem Sm.free (m : Sm cl S T H) {p : Addr} (h : H p = none) : S p = none := by
  cases e : S p with
  | none => rfl
  | some o =>
    obtain ⟨u, q, _⟩ := m.ob p o e
    rw [h] at q
    cases q
theorem Sm.freeT (m : Sm cl S T H) {p : Addr} (h : H p = none) : T p = none := by
  cases e : T p with
  | none => rfl
  | some o =>
    have q := (m.hid p o e).1
    rw [h] at q
    cases q
theorem Sm.fr (m : Sm cl S T H) {p : Addr} (h : H p = none) : Fr S T p := ⟨m.free h, m.freeT h⟩
theorem Sm.own (m : Sm cl S T H) {p : Addr} {o : Ob} (h : S p = some o) : T p = none := by
  cases e : T p with
  | none => rfl
  | some u =>
    have q := (m.hid p u e).2
    rw [h] at q
    cases q
/-- a new tracked object that nobody owns (it is frozen from the start) -/
theorem Ex.newF {p : Addr} {u : HO} (hp : H p = none) : Ex S S T H (upd H p u) := by
  have ne : ∀ a o, H a = some o → a ≠ p := fun a o e z => by rw [z, hp] at e; cases e
  refine ⟨fun a o _ _ h2 => ?_, fun a u _ h2 _ => ?_, fun a o h1 h2 => ⟨h1.1, o, by rw [upd_ne (ne _ _ h2)]; exact h2⟩, fun a u _ h n => ⟨?_, n⟩⟩
  · rcases h2 with h2 | ⟨ob, h2⟩
    · exact .inl (by rw [upd_ne (ne _ _ h2)]; exact h2)
    · exact .inr ⟨ob, by rw [upd_ne (ne _ _ h2)]; exact h2⟩
  · rw [upd_ne (ne _ _ h2)]; exact h2
  · rw [upd_ne (ne _ _ h)]; exact h
theorem Sm.newF (m : Sm cl S T H) {p : Addr} {u : HO} (hp : H p = none) : Sm cl S T (upd H p u) := by
  have ne : ∀ a o, H a = some o → a ≠ p := fun a o e z => by rw [z, hp] at e; cases e
  refine ⟨m.tab.lt (Ex.newF hp).lt fun a ps _ e => by rw [upd_ne (ne _ _ e)]; exact e, fun a o e => ?_, fun a w e => ?_⟩
  · obtain ⟨w, h, r⟩ := m.ob a o e
    exact ⟨w, by rw [upd_ne (ne _ _ h)]; exact h, r.ext (Ex.newF hp)⟩
  · obtain ⟨h, n⟩ := m.hid a w e
    exact ⟨by rw [upd_ne (ne _ _ h)]; exact h, n⟩
/-- a new owned object -/
theorem Ex.newO {p : Addr} {u : HO} {o : Ob} (hp : H p = none) : Ex S (sup S p o) T H (upd H p u) := by
  have ne : ∀ a o, H a = some o → a ≠ p := fun a o e z => by rw [z, hp] at e; cases e
  refine ⟨fun a o _ _ h2 => ?_, fun a u _ h2 _ => ?_, fun a o h1 h2 => ⟨?_, o, by rw [upd_ne (ne _ _ h2)]; exact h2⟩, fun a u _ h n => ⟨?_, ?_⟩⟩
  · rcases h2 with h2 | ⟨ob, h2⟩
    · exact .inl (by rw [upd_ne (ne _ _ h2)]; exact h2)
    · exact .inr ⟨ob, by rw [upd_ne (ne _ _ h2)]; exact h2⟩
  · rw [upd_ne (ne _ _ h2)]; exact h2
  · rw [sup_ne (ne _ _ h2)]; exact h1.1
  · rw [upd_ne (ne _ _ h)]; exact h
  · rw [sup_ne (ne _ _ h)]; exact n
theorem Sm.newO (m : Sm cl S T H) {p : Addr} {u : HO} {o : Ob} (hp : H p = none) (r : RpO cl S T H o u) : Sm cl (sup S p o) T (upd H p u) := by
  have x : Ex S (sup S p o) T H (upd H p u) := Ex.newO hp
  have ne : ∀ a o, H a = some o → a ≠ p := fun a o e z => by rw [z, hp] at e; cases e
  refine ⟨m.tab.lt x.lt fun a ps _ e => by rw [upd_ne (ne _ _ e)]; exact e, fun a ob e => ?_, fun a w e => ?_⟩
  · by_cases h : a = p
    · subst h
      rw [sup_same] at e
      cases e
      exact ⟨u, upd_same, r.ext x⟩
    · rw [sup_ne h] at e
      obtain ⟨w, hw, r'⟩ := m.ob a ob e
      exact ⟨w, by rw [upd_ne h]; exact hw, r'.ext x⟩
  · obtain ⟨h, n⟩ := m.hid a w e
    exact x.hid a w e h n
/-- an owned object is written -/
theorem Ex.wr {p : Addr} {u : HO} {o o' : Ob} (hp : S p = some o) : Ex S (sup S p o') T H (upd H p u) := by
  have ne : ∀ a, S a = none → a ≠ p := fun a e z => by rw [z, hp] at e; cases e
  refine ⟨fun a o _ h1 h2 => ?_, fun a u h1 h2 hq => ?_, fun a o h1 h2 => ⟨?_, o, by rw [upd_ne (ne _ h1.1)]; exact h2⟩, fun a u h h2 n => ⟨?_, ?_⟩⟩
  · rcases h2 with h2 | ⟨ob, h2⟩
    · exact .inl (by rw [upd_ne (ne _ h1.1)]; exact h2)
    · exact .inr ⟨ob, by rw [upd_ne (ne _ h1.1)]; exact h2⟩
  · rw [upd_ne (ne _ h1.1)]; exact h2
  · rw [sup_ne (ne _ h1.1)]; exact h1.1
  · rw [upd_ne (ne _ n)]; exact h2
  · rw [sup_ne (ne _ n)]; exact n
theorem Sm.wr (m : Sm cl S T H) {p : Addr} {u : HO} {o o' : Ob} (hp : S p = some o) (r : RpO cl S T H o' u) : Sm cl (sup S p o') T (upd H p u) := by
  have x : Ex S (sup S p o') T H (upd H p u) := Ex.wr hp
  have ne : ∀ a, S a = none → a ≠ p := fun a e z => by rw [z, hp] at e; cases e
  refine ⟨m.tab.lt x.lt fun a ps f e => by rw [upd_ne (ne _ f.1)]; exact e, fun a ob e => ?_, fun a w e => ?_⟩
  · by_cases h : a = p
    · subst h
      rw [sup_same] at e
      cases e
      exact ⟨u, upd_same, r.ext x⟩
    · rw [sup_ne h] at e
      obtain ⟨w, hw, r'⟩ := m.ob a ob e
      exact ⟨w, by rw [upd_ne h]; exact hw, r'.ext x⟩
  · obtain ⟨h, n⟩ := m.hid a w e
    exact x.hid a w e h n

/-! ### forgetting and freezing -/
def Sub (S' S : Sto) : Prop := ∀ a, S' a = none ∨ S' a = S a
theorem Sub.refl (S : Sto) : Sub S S := fun _ => .inr rfl
theorem Sub.sdel (S : Sto) (p : Addr) : Sub (sdel S p) S := fun a => by
  unfold Dz.sdel
  by_cases h : a = p
  · exact .inl (if_pos h)
  · exact .inr (if_neg h)
theorem Sub.sup {S : Sto} {p : Addr} {o : Ob} (h : S p = none) : Sub S (sup S p o) := fun a => by
  by_cases e : a = p
  · subst e; exact .inl h
  · exact .inr (sup_ne e).symm
theorem Sub.trans {S S1 S2 : Sto} (x : Sub S S1) (y : Sub S1 S2) : Sub S S2 := fun a => by
  rcases x a with h | h
  · exact .inl h
  · rw [h]; exact y a
theorem Sub.none {S' S : Sto} (x : Sub S' S) {a : Addr} (h : S a = none) : S' a = none := by
  rcases x a with e | e
  · exact e
  · rw [e]; exact h
theorem Ex.sub {S' S : Sto} (x : Sub S' S) (T H : Hp) : Ex S S' T H H := ⟨fun _ _ _ _ h => h, fun _ _ _ h _ => h, fun _ o h e => ⟨x.none h.1, o, e⟩, fun _ _ _ h n => ⟨h, x.none n⟩⟩
theorem Sm.sub {S' S : Sto} (m : Sm cl S T H) (x : Sub S' S) : Sm cl S' T H := by
  refine ⟨m.tab.lt (Ex.sub x T H).lt fun _ _ _ e => e, fun a o e => ?_, fun a u e => ⟨(m.hid a u e).1, x.none (m.hid a u e).2⟩⟩
  rcases x a with h | h
  · rw [h] at e; cases e
  · rw [h] at e
    obtain ⟨u, q, r⟩ := m.ob a o e
    exact ⟨u, q, r.ext (Ex.sub x T H)⟩
mutual
inductive Fz (S S' : Sto) : D → D → Prop
  | same (d : D) : Fz S S' d d
  | lst {p : Addr} {ds es : List D} : S p = some (.lst ds) → S' p = none → FzL S S' ds es → Fz S S' (.ref p) (.lst es)
  | dic {p : Addr} {ds es : List (D × D)} : S p = some (.dic ds) → S' p = none → FzK S S' ds es → Fz S S' (.ref p) (.dic false es)
  | ins {p : Addr} {c : Str} {ds es : List (Str × D)} : S p = some (.ins c ds) → S' p = none → FzF S S' ds es → Fz S S' (.ref p) (.ins c es)
  | tup {ds es : List D} : FzL S S' ds es → Fz S S' (.tup ds) (.tup es)
inductive FzL (S S' : Sto) : List D → List D → Prop
  | nil : FzL S S' [] []
  | cons {d e : D} {ds es : List D} : Fz S S' d e → FzL S S' ds es → FzL S S' (d :: ds) (e :: es)
inductive FzK (S S' : Sto) : List (D × D) → List (D × D) → Prop
  | nil : FzK S S' [] []
  | cons {k d e : D} {ds es : List (D × D)} : Fz S S' d e → FzK S S' ds es → FzK S S' ((k, d) :: ds) ((k, e) :: es)
inductive FzF (S S' : Sto) : List (Str × D) → List (Str × D) → Prop
  | nil : FzF S S' [] []
  | cons {f : Str} {d e : D} {ds es : List (Str × D)} : Fz S S' d e → FzF S S' ds es → FzF S S' ((f, d) :: ds) ((f, e) :: es)
end
theorem FzL.same {S S' : Sto} : ∀ ds : List D, FzL S S' ds ds
  | [] => .nil
  | d :: ds => .cons (.same d) (FzL.same ds)
theorem FzK.same {S S' : Sto} : ∀ ds : List (D × D), FzK S S' ds ds
  | [] => .nil
  | (k, d) :: ds => .cons (.same d) (FzK.same ds)
theorem FzF.same {S S' : Sto} : ∀ ds : List (Str × D), FzF S S' ds ds
  | [] => .nil
  | (k, d) :: ds => .cons (.same d) (FzF.same ds)
mutual
theorem Rp.fz {S S' : Sto} (x : Sub S' S) (m : Sm cl S T H) : ∀ {d e : D} {v : V}, Fz S S' d e → Rp cl S T H d v → Rp cl S' T H e v
  | _, _, _, .same d, r => r.ext (Ex.sub x T H)
  | _, _, _, .lst h n f, r => by
    cases r
    obtain ⟨u, hu, ro⟩ := m.ob _ _ h
    cases ro with
    | lst rl => exact .lst hu ⟨n, m.own h⟩ (RpL.fz x m f rl)
  | _, _, _, .dic h n f, r => by
    cases r
    obtain ⟨u, hu, ro⟩ := m.ob _ _ h
    cases ro with
    | dk rl => exact .dk (.inl hu) ⟨n, m.own h⟩ (RpK.fz x m f rl)
  | _, _, _, .ins h n f, r => by
    cases r
    obtain ⟨u, hu, ro⟩ := m.ob _ _ h
    cases ro with
    | ins c rl => exact .ins hu c ⟨n, m.own h⟩ (RpF.fz x m f rl)
  | _, _, _, .tup f, r => by
    cases r with
    | tup h o n rl => exact .tup h o ⟨x.none n.1, n.2⟩ (RpL.fz x m f rl)
theorem RpL.fz {S S' : Sto} (x : Sub S' S) (m : Sm cl S T H) : ∀ {d e : List D} {v : List V}, FzL S S' d e → RpL cl S T H d v → RpL cl S' T H e v
  | _, _, _, .nil, r => by cases r; exact .nil
  | _, _, _, .cons a b, r => by
    cases r with
    | cons p q => exact .cons (Rp.fz x m a p) (RpL.fz x m b q)
theorem RpK.fz {S S' : Sto} (x : Sub S' S) (m : Sm cl S T H) : ∀ {d e : List (D × D)} {v : List (Key × V)}, FzK S S' d e → RpK cl S T H d v → RpK cl S' T H e v
  | _, _, _, .nil, r => by cases r; exact .nil
  | _, _, _, .cons a b, r => by
    cases r with
    | cons o p q => exact .cons o (Rp.fz x m a p) (RpK.fz x m b q)
theorem RpF.fz {S S' : Sto} (x : Sub S' S) (m : Sm cl S T H) : ∀ {d e : List (Str × D)} {v : List (Str × V)}, FzF S S' d e → RpF cl S T H d v → RpF cl S' T H e v
  | _, _, _, .nil, r => by cases r; exact .nil
  | _, _, _, .cons a b, r => by
    cases r with
    | cons p q => exact .cons (Rp.fz x m a p) (RpF.fz x m b q)
end

/-! ### environments and readings -/
abbrev Rho := List (Option D)
structure SmE (cl : CL) (r : Rho) (S : Sto) (T : Hp) (s : L2.St) (H : Hp) : Prop where
  len : r.length = s.length
  get : ∀ (i : Nat) (d : D), r[i]? = some (some d) → ∃ v, s[i]? = some (some v) ∧ Rp cl S T H d v
theorem SmE.ext {r : Rho} {s : L2.St} (x : Ex S S2 T H H2) (e : SmE cl r S T s H) : SmE cl r S2 T s H2 :=
  ⟨e.len, fun i d h => let ⟨v, a, b⟩ := e.get i d h; ⟨v, a, b.ext x⟩⟩
theorem SmE.set {r : Rho} {s : L2.St} {d : D} {v : V} (e : SmE cl r S T s H) (rd : Rp cl S T H d v) (i : Nat) : SmE cl (r.set i (some d)) S T (s.set i (some v)) H := by
  refine ⟨by rw [List.length_set, List.length_set]; exact e.len, fun j w h => ?_⟩
  by_cases hj : i = j
  · subst hj
    have hl : i < r.length := by
      have := (List.getElem?_eq_some_iff.mp h).1
      rwa [List.length_set] at this
    rw [List.getElem?_set_self hl] at h
    cases h
    exact ⟨v, List.getElem?_set_self (by rw [← e.len]; exact hl), rd⟩
  · rw [List.getElem?_set_ne hj] at h
    obtain ⟨u, a, b⟩ := e.get j w h
    exact ⟨u, by rw [List.getElem?_set_ne hj]; exact a, b⟩
theorem SmE.setN {r : Rho} {s : L2.St} (e : SmE cl r S T s H) (i : Nat) : SmE cl (r.set i none) S T (s.set i none) H := by
  refine ⟨by rw [List.length_set, List.length_set]; exact e.len, fun j w h => ?_⟩
  by_cases hj : i = j
  · subst hj
    have hl : i < r.length := by
      have := (List.getElem?_eq_some_iff.mp h).1
      rwa [List.length_set] at this
    rw [List.getElem?_set_self hl] at h
    cases h
  · rw [List.getElem?_set_ne hj] at h
    obtain ⟨u, a, b⟩ := e.get j w h
    exact ⟨u, by rw [List.getElem?_set_ne hj]; exact a, b⟩

abbrev DK := D → Sto → Prop
abbrev TE' := Rho → Sto → DK → Prop
abbrev TT' := Rho → Sto → (Bool → Sto → Prop) → Prop
abbrev TA' := Rho → Sto → (List D → Sto → Prop) → Prop
structure Ends' where
  nx : Rho → Sto → Prop
  rt : DK
  bk : Rho → Sto → Prop := fun _ _ => False
  ct : Rho → Sto → Prop := fun _ _ => False
abbrev TS' := Ends' → Rho → Sto → Prop
abbrev TG' := D → Rho → Sto → (Rho → Sto → Prop) → Prop
/-- what the hand layer is to show behind an expression -/
def kQ (cl : CL) (S : Sto) (T H : Hp) (Q : VK) : DK := fun d S2 => ∀ v H2, Ex S S2 T H H2 → Sm cl S2 T H2 → Rp cl S2 T H2 d v → Q v H2
def kB (cl : CL) (S : Sto) (T H : Hp) (Q : Bool → Hp → Prop) : Bool → Sto → Prop := fun b S2 => ∀ H2, Ex S S2 T H H2 → Sm cl S2 T H2 → Q b H2
def kA (cl : CL) (S : Sto) (T H : Hp) (Q : List V → Hp → Prop) : List D → Sto → Prop := fun ds S2 => ∀ vs H2, Ex S S2 T H H2 → Sm cl S2 T H2 → RpL cl S2 T H2 ds vs → Q vs H2
def kN (cl : CL) (S : Sto) (T H : Hp) (Q : L2.St → Hp → Prop) : Rho → Sto → Prop := fun r S2 => ∀ s H2, Ex S S2 T H H2 → Sm cl S2 T H2 → SmE cl r S2 T s H2 → Q s H2
def kE (cl : CL) (S : Sto) (T H : Hp) (Z : Ends) : Ends' := { nx := kN cl S T H Z.nx, rt := kQ cl S T H Z.rt, bk := kN cl S T H Z.bk, ct := kN cl S T H Z.ct }
def tr (cl : CL) (t : TE') : TE := fun s H Q => ∃ r S T, Sm cl S T H ∧ SmE cl r S T s H ∧ t r S (kQ cl S T H Q)
def trB (cl : CL) (t : TT') : TT := fun s H Q => ∃ r S T, Sm cl S T H ∧ SmE cl r S T s H ∧ t r S (kB cl S T H Q)
def trA (cl : CL) (t : TA') : TA := fun s H Q => ∃ r S T, Sm cl S T H ∧ SmE cl r S T s H ∧ t r S (kA cl S T H Q)
def trS (cl : CL) (t : TS') : TS := fun Z s H => ∃ r S T, Sm cl S T H ∧ SmE cl r S T s H ∧ t (kE cl S T H Z) r S
def trG (cl : CL) (t : TG') : TG := fun v s H Q => ∃ d r S T, Sm cl S T H ∧ SmE cl r S T s H ∧ Rp cl S T H d v ∧ t d r S (kN cl S T H Q)
def MonoE (t : TE') : Prop := ∀ r S (Q Q' : DK), (∀ d S', Q d S' → Q' d S') → t r S Q → t r S Q'
def MonoT (t : TT') : Prop := ∀ r S (Q Q' : Bool → Sto → Prop), (∀ d S', Q d S' → Q' d S') → t r S Q → t r S Q'
def MonoA (t : TA') : Prop := ∀ r S (Q Q' : List D → Sto → Prop), (∀ d S', Q d S' → Q' d S') → t r S Q → t r S Q'
def MonoG (t : TG') : Prop := ∀ d r S (Q Q' : Rho → Sto → Prop), (∀ r' S', Q r' S' → Q' r' S') → t d r S Q → t d r S Q'
structure LeE (Z Z' : Ends') : Prop where
  nx : ∀ r S, Z.nx r S → Z'.nx r S
  rt : ∀ d S, Z.rt d S → Z'.rt d S
  bk : ∀ r S, Z.bk r S → Z'.bk r S
  ct : ∀ r S, Z.ct r S → Z'.ct r S
def MonoS (t : TS') : Prop := ∀ Z Z' r S, LeE Z Z' → t Z r S → t Z' r S

theorem PE.imp {X : Cx} {e : Expr} {t t2 : TE} (h : PE X e t) (i : ∀ s H Q, t2 s H Q → t s H Q) : PE X e t2 := ⟨fun pins s σ H Q I q => h.run pins s σ H Q I (i σ H Q q)⟩
theorem PT.imp {X : Cx} {e : Expr} {t t2 : TT} (h : PT X e t) (i : ∀ s H Q, t2 s H Q → t s H Q) : PT X e t2 := ⟨fun pins s σ H Q I q => h.run pins s σ H Q I (i σ H Q q)⟩
theorem PW.imp {X : Cx} {e : Expr} {t t2 : TT} (h : PW X e t) (i : ∀ s H Q, t2 s H Q → t s H Q) : PW X e t2 := ⟨fun w pins s σ H Q I q => h.run w pins s σ H Q I (i σ H Q q)⟩
theorem PA.imp {X : Cx} {e : List Expr} {t t2 : TA} (h : PA X e t) (i : ∀ s H Q, t2 s H Q → t s H Q) : PA X e t2 := ⟨fun pos pins s σ H Q I q => h.run pos pins s σ H Q I (i σ H Q q)⟩
theorem PS.imp {X : Cx} {e : Stmt} {t t2 : TS} (h : PS X e t) (i : ∀ Z s H, t2 Z s H → t Z s H) : PS X e t2 := ⟨fun pins s σ H Z I q => h.run pins s σ H Z I (i Z σ H q)⟩
theorem PSs.imp {X : Cx} {e : List Stmt} {t t2 : TS} (h : PSs X e t) (i : ∀ Z s H, t2 Z s H → t Z s H) : PSs X e t2 := ⟨fun pins s σ H Z I q => h.run pins s σ H Z I (i Z σ H q)⟩
theorem PG.imp {X : Cx} {e : Expr} {t t2 : TG} (h : PG X e t) (i : ∀ v s H Q, t2 v s H Q → t v s H Q) : PG X e t2 := ⟨fun pins s σ H v u Q I r q => h.run pins s σ H v u Q I r (i v σ H Q q)⟩
/-- from a datum's reading on -/
theorem tr_then {t : TE'} (mo : MonoE t) {r : Rho} {s : L2.St} {Q : VK} {k : DK} (m : Sm cl S T H) (e : SmE cl r S T s H)
    (h : t r S k) (g : ∀ d S1 v H1, Ex S S1 T H H1 → Sm cl S1 T H1 → SmE cl r S1 T s H1 → Rp cl S1 T H1 d v → k d S1 → Q v H1) : tr cl t s H Q :=
  ⟨r, S, T, m, e, mo _ _ _ _ (fun d S1 q v H1 x m1 rp => g d S1 v H1 x m1 (e.ext x) rp q) h⟩
theorem trB_then {t : TT'} (mo : MonoT t) {r : Rho} {s : L2.St} {Q : Bool → Hp → Prop} {k : Bool → Sto → Prop} (m : Sm cl S T H) (e : SmE cl r S T s H)
    (h : t r S k) (g : ∀ b S1 H1, Ex S S1 T H H1 → Sm cl S1 T H1 → SmE cl r S1 T s H1 → k b S1 → Q b H1) : trB cl t s H Q :=
  ⟨r, S, T, m, e, mo _ _ _ _ (fun d S1 q H1 x m1 => g d S1 H1 x m1 (e.ext x) q) h⟩
theorem trA_then {t : TA'} (mo : MonoA t) {r : Rho} {s : L2.St} {Q : List V → Hp → Prop} {k : List D → Sto → Prop} (m : Sm cl S T H) (e : SmE cl r S T s H)
    (h : t r S k) (g : ∀ ds S1 vs H1, Ex S S1 T H H1 → Sm cl S1 T H1 → SmE cl r S1 T s H1 → RpL cl S1 T H1 ds vs → k ds S1 → Q vs H1) : trA cl t s H Q :=
  ⟨r, S, T, m, e, mo _ _ _ _ (fun d S1 q v H1 x m1 rp => g d S1 v H1 x m1 (e.ext x) rp q) h⟩
theorem trG_then {t : TG'} (mo : MonoG t) {r : Rho} {s : L2.St} {d : D} {v : V} {Q : L2.St → Hp → Prop} {k : Rho → Sto → Prop} (m : Sm cl S T H) (e : SmE cl r S T s H) (rd : Rp cl S T H d v)
    (h : t d r S k) (g : ∀ r1 S1 s1 H1, Ex S S1 T H H1 → Sm cl S1 T H1 → SmE cl r1 S1 T s1 H1 → k r1 S1 → Q s1 H1) : trG cl t v s H Q :=
  ⟨d, r, S, T, m, e, rd, mo _ _ _ _ _ (fun r1 S1 q s1 H1 x m1 e1 => g r1 S1 s1 H1 x m1 e1 q) h⟩
theorem kQ.up {Q : VK} {d : D} {S3 : Sto} (x : Ex S S1 T H H1) (k : kQ cl S T H Q d S3) : kQ cl S1 T H1 Q d S3 := fun v H3 y m r => k v H3 (x.trans y) m r
theorem kB.up {Q : Bool → Hp → Prop} {d : Bool} {S3 : Sto} (x : Ex S S1 T H H1) (k : kB cl S T H Q d S3) : kB cl S1 T H1 Q d S3 := fun H3 y m => k H3 (x.trans y) m
theorem kA.up {Q : List V → Hp → Prop} {d : List D} {S3 : Sto} (x : Ex S S1 T H H1) (k : kA cl S T H Q d S3) : kA cl S1 T H1 Q d S3 := fun v H3 y m r => k v H3 (x.trans y) m r
theorem kN.up {Q : L2.St → Hp → Prop} {r : Rho} {S3 : Sto} (x : Ex S S1 T H H1) (k : kN cl S T H Q r S3) : kN cl S1 T H1 Q r S3 := fun s H3 y m e => k s H3 (x.trans y) m e
theorem kE.up {Z : Ends} (x : Ex S S1 T H H1) : LeE (kE cl S T H Z) (kE cl S1 T H1 Z) := ⟨fun _ _ k => kN.up x k, fun _ _ k => kQ.up x k, fun _ _ k => kN.up x k, fun _ _ k => kN.up x k⟩
end Dz
/-! Dz2: a small syntax and its readings over data. -/
namespace Dz
open PySem PySem.Spec PyProof.Rows L2

/-! ### plain data -/
/-- whole numbers, texts, None, and tuples and lists of them, at most n deep -/
def Pl : Nat → D → Prop
  | _, .non => True
  | _, .int _ => True
  | _, .str _ => True
  | n + 1, .tup ds => ∀ d ∈ ds, Pl n d
  | n + 1, .lst ds => ∀ d ∈ ds, Pl n d
  | _, _ => False
abbrev P6 (d : D) : Prop := Pl 6 d
noncomputable instance : DecidableEq D := fun a b => Classical.propDecidable (a = b)
/-- an owned thing read -/
def vw (S : Sto) : D → D
  | .ref p => match S p with
    | some (.lst ds) => .lst ds
    | some (.dic kvs) => .dic false kvs
    | some (.ins c fs) => .ins c fs
    | none => .ref p
  | d => d
noncomputable def lookD (kvs : List (D × D)) (k : D) : Option D := (kvs.find? fun p => decide (p.1 = k)).map (·.2)
noncomputable def putD (kvs : List (D × D)) (k v : D) : List (D × D) :=
  if kvs.any (fun p => decide (p.1 = k)) then kvs.map (fun p => if p.1 = k then (p.1, v) else p) else kvs ++ [(k, v)]
noncomputable def dropD (kvs : List (D × D)) (k : D) : List (D × D) := kvs.filter fun p => decide (p.1 ≠ k)
noncomputable def mergeD (kvs more : List (D × D)) : List (D × D) := more.foldl (fun acc p => putD acc p.1 p.2) kvs
/-- a datum that may be a key -/
def isKey1 : D → Bool
  | .int _ => true
  | .str _ => true
  | _ => false
def isKey (t : Bool) : D → Bool
  | .int _ => !t
  | .str _ => !t
  | .tup ds => t && ds.all isKey1
  | _ => false

/-! ### what is made -/
def finL (own : Bool) (ds : List D) (S : Sto) (Q : DK) : Prop :=
  ds.length ≤ sizeLine ∧ if own = true then ∀ p, S p = none → Q (.ref p) (sup S p (.lst ds)) else Q (.lst ds) S
def finD (own : Bool) (t : Bool) (ds : List (D × D)) (S : Sto) (Q : DK) : Prop :=
  ds.length ≤ sizeLine ∧ if own = true then t = false ∧ ∀ p, S p = none → Q (.ref p) (sup S p (.dic ds)) else Q (.dic t ds) S
def finT (ds : List D) (S : Sto) (Q : DK) : Prop := ds.length ≤ sizeLine ∧ Q (.tup ds) S
/-- the items of a list or tuple -/
def itemsD (S : Sto) (d : D) : Option (List D) := match vw S d with
  | .lst ds => some ds
  | .fls ds => some ds
  | .tup ds => some ds
  | .utup ds => some ds
  | _ => none

/-- the items of a list, or of a tuple that is known -/
def seqD (S : Sto) (d : D) : Option (List D) := match vw S d with
  | .lst ds => some ds
  | .fls ds => some ds
  | .tup ds => some ds
  | _ => none
/-- the items of a list -/
def lstD (S : Sto) (d : D) : Option (List D) := match vw S d with
  | .lst ds => some ds
  | .fls ds => some ds
  | _ => none

/-! ### operators -/
def wBin (op : Operator) (own : Bool) (a b : D) (S : Sto) (Q : DK) : Prop :=
  match op, vw S a, vw S b with
  | .Add, .int i, .int j => Q (.int (i + j)) S
  | .Add, .str x, .str y => x.length + y.length ≤ sizeLine ∧ Q (.str (x ++ y)) S
  | .Add, .lst xs, .lst ys => finL own (xs ++ ys) S Q
  | .Add, .tup xs, .tup ys => finT (xs ++ ys) S Q
  | .Sub, .int i, .int j => Q (.int (i - j)) S
  | .Mult, .int i, .int j => CMulW i j ∧ Q (.int (i * j)) S
  | .Mod, .int i, .int j => 0 < j ∧ Q (.int (i % j)) S
  | .FloorDiv, .int i, .int j => CDivW i j ∧ Q (.int (i / j)) S
  | .Pow, .int i, .int j => (1 < i ∧ 0 < j ∧ j ≤ 100 ∧ i.natAbs.log2 < 10000) ∧ Q (.int (i ^ j.toNat)) S
  | _, _, _ => False
noncomputable def eqD (a b : D) (Q : Bool → Prop) : Prop :=
  match a, b with
  | .bl x, .bl y => Q (decide (x = y))
  | a, b => P6 a ∧ P6 b ∧ Q (decide (a = b))
mutual
/-- the library's data -/
def pyOf : D → PyData
  | .bl b => .bool b
  | .int i => .int i
  | .str x => .str x
  | .tup ds => .tuple (pyAll ds)
  | .lst ds => .list (pyAll ds)
  | .fls ds => .list (pyAll ds)
  | _ => .none
def pyAll : List D → List PyData
  | [] => []
  | d :: ds => pyOf d :: pyAll ds
end
def dlt (a b : D) : Bool := PySem.W.dataLt (pyOf a) (pyOf b)
def alikeD (a b : D) : Prop := PySem.W.alike (pyOf a) (pyOf b) = true
def ltD (a b : D) (Q : Bool → Prop) : Prop :=
  match a, b with
  | .int i, .int j => Q (decide (i < j))
  | a, b => P6 a ∧ P6 b ∧ a ≠ .non ∧ alikeD a b ∧ Q (dlt a b)
noncomputable def inD (x c : D) (Q : Bool → Prop) : Prop :=
  match c with
  | .lst ys => P6 x ∧ (∀ y ∈ ys, Pl 5 y) ∧ Q (decide (x ∈ ys))
  | .tup ys => P6 x ∧ (∀ y ∈ ys, Pl 5 y) ∧ Q (decide (x ∈ ys))
  | .str z => ∃ c, x = .str ⟨#[c]⟩ ∧ Q (decide (c ∈ z.cps.toList))
  | .dic false kvs => isKey false x = true ∧ Q (lookD kvs x).isSome
  | _ => False
noncomputable def wCmp (op : CmpOp) (a b : D) (S : Sto) (Q : Bool → Prop) : Prop :=
  match op with
  | .Eq => eqD (vw S a) (vw S b) Q
  | .NotEq => eqD (vw S a) (vw S b) fun r => Q (!r)
  | .Lt => ltD (vw S a) (vw S b) Q
  | .Gt => ∃ i j, a = .int i ∧ b = .int j ∧ Q (decide (j < i))
  | .LtE => ∃ i j, a = .int i ∧ b = .int j ∧ Q (decide (i ≤ j))
  | .GtE => ∃ i j, a = .int i ∧ b = .int j ∧ Q (decide (j ≤ i))
  | .In => inD a (vw S b) Q
  | .NotIn => inD a (vw S b) fun r => Q (!r)
  | .Is => (b = .non ∧ Q (decide (a = .non))) ∨ ∃ x y, a = .bl x ∧ b = .bl y ∧ Q (decide (x = y))
  | .IsNot => (b = .non ∧ Q (!decide (a = .non))) ∨ ∃ x y, a = .bl x ∧ b = .bl y ∧ Q (!decide (x = y))

/-! ### built-in functions, by name -/
inductive Bi where
  | len | abs | int | str | repr | min2 | max2 | min1 | max1 | sum | any | all | tuple | list | sorted
  deriving DecidableEq
def intsD : List D → Option (List Int)
  | [] => some []
  | .int i :: r => (intsD r).map (i :: ·)
  | _ => none
def blsD : List D → Option (List Bool)
  | [] => some []
  | .bl i :: r => (blsD r).map (i :: ·)
  | _ => none
def strsD : List D → Option (List Str)
  | [] => some []
  | .str i :: r => (strsD r).map (i :: ·)
  | _ => none
/-- what can be sorted: alike items, no None, tuples with an item at least or none a tuple -/
structure Srt (ds : List D) : Prop where
  pl : ∀ d ∈ ds, Pl 5 d
  alike : ∀ d ∈ ds, ∀ e ∈ ds, alikeD d e
  kind : (∀ d ∈ ds, ∃ x r, d = .tup (x :: r)) ∨ ∀ d ∈ ds, d ≠ .non ∧ ∀ r, d ≠ .tup r
def sortD (ds : List D) : List D := ds.mergeSort fun a b => !dlt b a
/-- a datum as Python shows it -/
def shD (d : D) : Str := PyData.shown (pyOf d)
def wBi (f : Bi) (own : Bool) (ds : List D) (S : Sto) (Q : DK) : Prop :=
  match f, ds with
  | .len, [d] => (match vw S d with
    | .lst xs => Q (.int xs.length) S
    | .fls xs => Q (.int xs.length) S
    | .tup xs => Q (.int xs.length) S
    | .dic false xs => Q (.int xs.length) S
    | .str x => x.length ≤ sizeLine ∧ Q (.int x.length) S
    | _ => False)
  | .abs, [.int i] => Q (.int i.natAbs) S
  | .int, [.int i] => Q (.int i) S
  | .int, [.bl b] => Q (.int (if b then 1 else 0)) S
  | .str, [.int i] => (0 ≤ i ∧ i < 1000000) ∧ Q (.str (Str.ofString (toString i))) S
  | .repr, [d] => P6 (vw S d) ∧ PyData.showable (pyOf (vw S d)) = true ∧ (shD (vw S d)).length ≤ sizeLine ∧ Q (.str (shD (vw S d))) S
  | .min2, [.int i, .int j] => Q (.int (min i j)) S
  | .max2, [.int i, .int j] => Q (.int (max i j)) S
  | .min1, [d] => ∃ xs ns, lstD S d = some xs ∧ intsD xs = some ns ∧ ns ≠ [] ∧ ∀ m, m ∈ ns → (∀ y ∈ ns, m ≤ y) → Q (.int m) S
  | .max1, [d] => ∃ xs ns, lstD S d = some xs ∧ intsD xs = some ns ∧ ns ≠ [] ∧ ∀ m, m ∈ ns → (∀ y ∈ ns, y ≤ m) → Q (.int m) S
  | .sum, [d] => ∃ xs ns, lstD S d = some xs ∧ intsD xs = some ns ∧ Q (.int ns.sum) S
  | .any, [d] => ∃ xs bs, lstD S d = some xs ∧ blsD xs = some bs ∧ Q (.bl (bs.any id)) S
  | .all, [d] => ∃ xs bs, lstD S d = some xs ∧ blsD xs = some bs ∧ Q (.bl (bs.all id)) S
  | .tuple, [d] => ∃ xs, seqD S d = some xs ∧ finT xs S Q
  | .list, [d] => ∃ xs, itemsD S d = some xs ∧ finL own xs S Q
  | .sorted, [d] => ∃ xs, itemsD S d = some xs ∧ Srt xs ∧ finL own (sortD xs) S Q
  | _, _ => False

/-! ### methods of built-in types -/
inductive Bm where
  | append | extend | pop0 | pop | index | split | join | get2 | update
  deriving DecidableEq
/-- the receiver's type, by its view -/
def bmTy : Bm → D → Option String
  | .append, .lst _ => some "list"
  | .extend, .lst _ => some "list"
  | .pop0, .lst _ => some "list"
  | .pop, .lst _ => some "list"
  | .index, .lst _ => some "list"
  | .index, .tup _ => some "tuple"
  | .split, .str _ => some "str"
  | .join, .str _ => some "str"
  | _, _ => none
def wBm (f : Bm) (own : Bool) (o : D) (ds : List D) (S : Sto) (Q : DK) : Prop :=
  match f, ds with
  | .append, [d] => ∃ p xs, o = .ref p ∧ S p = some (.lst xs) ∧ xs.length < sizeLine ∧ Q .non (sup S p (.lst (xs ++ [d])))
  | .extend, [d] => ∃ p xs ys, o = .ref p ∧ S p = some (.lst xs) ∧ (match vw S d with
      | .lst zs => some zs
      | _ => none) = some ys ∧ xs.length + ys.length ≤ sizeLine ∧ Q .non (sup S p (.lst (xs ++ ys)))
  | .pop, [.int i] => ∃ p xs y, o = .ref p ∧ S p = some (.lst xs) ∧ 0 ≤ i ∧ i < 1000000 ∧ xs[i.toNat]? = some y ∧ Q y (sup S p (.lst (xs.eraseIdx i.toNat)))
  | .pop0, [] => ∃ p xs y, o = .ref p ∧ S p = some (.lst xs) ∧ xs[xs.length - 1]? = some y ∧ Q y (sup S p (.lst xs.dropLast))
  | .index, [d] => ∃ xs i, (vw S o = .lst xs ∨ vw S o = .tup xs) ∧ P6 d ∧ (∀ y ∈ xs, Pl 5 y) ∧ xs[i]? = some d ∧ (∀ j, j < i → xs[j]? ≠ some d) ∧ Q (.int (i : Nat)) S
  | .split, [.str y] => ∃ x, o = .str x ∧ y.length ≠ 0 ∧ x.length + 2 ≤ sizeLine ∧ finL own ((Txt.split x y).map .str) S Q
  | .join, [d] => ∃ x xs ys, o = .str x ∧ itemsD S d = some xs ∧ strsD xs = some ys ∧ (ys.map (·.length)).sum + ys.length * x.length ≤ 16777216 ∧ Q (.str (Txt.join x ys)) S
  | _, _ => False

/-! ### items and slices -/
def wIx (a i : D) (S : Sto) (Q : DK) : Prop :=
  match vw S a with
  | .lst xs => ∃ k v, i = .int k ∧ atI xs k = some v ∧ Q v S
  | .fls xs => ∃ k v, i = .int k ∧ atI xs k = some v ∧ Q v S
  | .tup xs => ∃ k v, i = .int k ∧ atI xs k = some v ∧ Q v S
  | .utup xs => ∃ k v, i = .int k ∧ atI xs k = some v ∧ Q v S
  | .str x => ∃ k c, i = .int k ∧ x.length ≤ sizeLine ∧ atI x.cps.toList k = some c ∧ Q (.str ⟨#[c]⟩) S
  | .dic t kvs => ∃ v, isKey t i = true ∧ lookD kvs i = some v ∧ Q v S
  | _ => False
def cutL (xs : List D) (lo hi : Option Int) : List D := (xs.drop (HT.sIx xs.length 0 lo)).take (HT.sIx xs.length xs.length hi - HT.sIx xs.length 0 lo)
def wSl (own : Bool) (a : D) (lo hi : Option Int) (S : Sto) (Q : DK) : Prop :=
  match vw S a with
  | .lst xs => finL own (cutL xs lo hi) S Q
  | .fls xs => finL own (cutL xs lo hi) S Q
  | .tup xs => finT (cutL xs lo hi) S Q
  | .str x => x.length ≤ sizeLine ∧ Q (.str (cutS x lo hi)) S
  | _ => False
def wRev (own : Bool) (a : D) (S : Sto) (Q : DK) : Prop :=
  match vw S a with
  | .lst xs => finL own xs.reverse S Q
  | .tup xs => finT xs.reverse S Q
  | _ => False
def wSet (o i v : D) (S : Sto) (Q : Sto → Prop) : Prop :=
  ∃ p, o = .ref p ∧ ((∃ xs k, S p = some (.lst xs) ∧ i = .int k ∧ 0 ≤ k ∧ k < xs.length ∧ Q (sup S p (.lst (xs.set k.toNat v)))) ∨
    ∃ kvs, S p = some (.dic kvs) ∧ isKey false i = true ∧ kvs.length < sizeLine ∧ Q (sup S p (.dic (putD kvs i v))))
/-- a field is stored -/
def putFD (f : Str) (v : D) : List (Str × D) → List (Str × D)
  | [] => [(f, v)]
  | (g, w) :: r => if g = f then (g, v) :: r else (g, w) :: putFD f v r
def wFldSet (c f : Str) (o v : D) (S : Sto) (Q : Sto → Prop) : Prop :=
  ∃ p fs, o = .ref p ∧ S p = some (.ins c fs) ∧ fs.length < 1000 ∧ Q (sup S p (.ins c (putFD f v fs)))
def wFld (c f : Str) (o : D) (S : Sto) (Q : DK) : Prop :=
  ∃ fs v, vw S o = .ins c fs ∧ fs.lookup f = some v ∧ Q v S
/-- built-in types that isinstance is asked for -/
inductive BT where
  | str | int | bool | tuple | list | dict
  deriving DecidableEq
def isbD (d : D) (t : BT) : Option Bool :=
  match d with
  | .non => some false
  | .bl _ => some (decide (t = .bool ∨ t = .int))
  | .int _ => some (decide (t = .int))
  | .str _ => some (decide (t = .str))
  | .tup _ => some (decide (t = .tuple))
  | .lst _ => some (decide (t = .list))
  | _ => none
end Dz
/-! Dz3: the small syntax and its readings. -/
namespace Dz
open PySem PySem.Spec PyProof.Rows L2

inductive Cst where
  | non | bl (b : Bool) | int (i : Int) | str (x : Str)
def Cst.d : Cst → D
  | .non => .non
  | .bl b => .bl b
  | .int i => .int i
  | .str x => .str x
mutual
inductive E where
  | var (i : Nat)
  | cst (c : Cst)
  | glob (x : Str)
  | bin (op : Operator) (own : Bool) (a b : E)
  | neg (a : E)
  | cmp (op : CmpOp) (a b : E)
  | cmp2 (o p : CmpOp) (a b c : E)
  | not (a : E)
  | and (a b : E)
  | or (a b : E)
  | ite (c a b : E)
  | tup (es : Es)
  | lst (own : Bool) (es : Es)
  | dict (own : Bool) (kvs : Kvs)
  | ix (a i : E)
  | sl (own : Bool) (a : E) (lo hi : Oe)
  | rev (own : Bool) (a : E)
  | fld (c : Str) (a : E) (f : Str)
  | prop (c : Str) (a : E) (f : Str)
  | call (f : Str) (es : Es)
  | callk (f : Str) (es : Es) (ks : List Str) (kes : Es)
  | mk (c : Str) (es : Es)
  | meth (c : Str) (o : E) (m : Str) (es : Es)
  | bi (f : Bi) (own : Bool) (es : Es)
  | isb (a : E) (t : BT)
  | isc (a : E) (c : Str)
  | bm (f : Bm) (own : Bool) (o : E) (es : Es)
  | lr1 (own : Bool) (a : E)
  | lr2 (own : Bool) (a b : E)
  | comp (own : Bool) (vs : List Nat) (t : Tg) (e : E) (c : Oe) (s : Src)
  | dzip (a b : E)
  | srtk (own : Bool) (a : E) (g : E)
  | frz (e : E)
inductive Es where
  | nil | cons (star : Bool) (e : E) (r : Es)
inductive Kvs where
  | nil | cons (k v : E) (r : Kvs)
inductive Oe where
  | no | yes (e : E)
inductive Src where
  | of (e : E)
  | range (es : Es)
  | enum (e : E)
  | zip (a b : E)
  | items (e : E)
inductive Tg where
  | name (i : Nat)
  | tup (ts : Tgs)
  | fld (c : Str) (o : E) (f : Str)
  | sub (o i : E)
inductive Tgs where
  | nil | cons (t : Tg) (r : Tgs)
end
mutual
inductive Sn where
  | set (t : Tg) (e : E)
  | par2 (i j : Nat) (a b : E)
  | par3 (i j k : Nat) (a b c : E)
  | expr (e : E)
  | ret (e : E)
  | retN
  | ife (c : E) (a b : Ss)
  | whil (c : E) (b : Ss)
  | for (t : Tg) (s : Src) (b : Ss)
  | pass | brk | cont | never
  | ghost
inductive Ss where
  | nil | cons (s : Sn) (r : Ss)
end

def tgsLen : Tgs → Nat
  | .nil => 0
  | .cons _ r => tgsLen r + 1
/-- what a def promises: its arguments' data, the owned things, what follows -/
abbrev DSp := List D → Sto → DK → Prop
def MonoSp (sp : DSp) : Prop := ∀ ds S (Q Q' : DK), (∀ d S', Q d S' → Q' d S') → sp ds S Q → sp ds S Q'
structure Sg where
  cl : Str → Option Addr
  gl : Str → Option D
  fn : Str → Option DSp
  mk0 : Str → Option DSp
  mt : Str → Str → Option DSp
  pr : Str → Str → Option DSp

def wipeR (r : Rho) : List Nat → Rho
  | [] => r
  | v :: vs => (wipeR r vs).set v none
/-- a comprehension's turns -/
def wComp (g : Sto → Prop) (step : D → Sto → (Option D → Sto → Prop) → Prop) : List D → List D → Sto → (List D → Sto → Prop) → Prop
  | [], acc, S, Q => g S ∧ Q acc S
  | d :: ds, acc, S, Q => g S ∧ step d S fun o S' => match o with
    | some y => acc.length < sizeLine ∧ wComp g step ds (acc ++ [y]) S' Q
    | none => wComp g step ds acc S' Q
/-- a for's turns -/
def wFor (g : Sto → Prop) (Z : Ends') (step : D → Ends' → Rho → Sto → Prop) : List D → Rho → Sto → Prop
  | [], r, S => g S ∧ Z.nx r S
  | d :: ds, r, S => g S ∧ step d { nx := wFor g Z step ds, rt := Z.rt, bk := Z.nx, ct := wFor g Z step ds } r S
def wWhile (Z : Ends') (c : Rho → Sto → (Bool → Sto → Prop) → Prop) (b : Ends' → Rho → Sto → Prop) : Nat → Rho → Sto → Prop
  | 0, _, _ => False
  | n + 1, r, S => c r S fun k S1 => if k = true then b { nx := wWhile Z c b n, rt := Z.rt, bk := Z.nx, ct := wWhile Z c b n } r S1 else Z.nx r S1
def rangeD (lo c : Int) (n : Nat) : List D := (List.range n).map fun (i : Nat) => D.int (lo + (i : Int) * c)
def okI (i : Int) : Prop := -(2 ^ 62) ≤ i ∧ i < 2 ^ 62
def wLr (own : Bool) (i j : Int) (S : Sto) (Q : DK) : Prop := okI i ∧ okI j ∧ (j - i).toNat ≤ 16777216 ∧ finL own (rangeD i 1 (j - i).toNat) S Q
/-- the items of a range -/
def wRange (ds : List D) (Q : List D → Prop) : Prop :=
  match ds with
  | [.int n] => okI n ∧ Q (rangeD 0 1 n.toNat)
  | [.int a, .int b] => okI a ∧ okI b ∧ Q (rangeD a 1 (b - a).toNat)
  | [.int a, .int b, .int c] => okI a ∧ okI b ∧ (0 < c ∧ c < 1000) ∧ Q (rangeD a c ((b - a + c - 1) / c).toNat)
  | _ => False
/-- what a source holds: the items, and what must stay so while they are walked -/
def wSeq (d : D) (S : Sto) (K : (Sto → Prop) → List D → Prop) : Prop :=
  match d with
  | .ref p => ∃ ds, S p = some (.lst ds) ∧ K (fun S' => S' p = some (.lst ds)) ds
  | .lst ds => K (fun _ => True) ds
  | .tup ds => K (fun _ => True) ds
  | .utup ds => K (fun _ => True) ds
  | .fls ds => K (fun _ => True) ds
  | .str x => K (fun _ => True) (x.cps.toList.map fun c => D.str ⟨#[c]⟩)
  | _ => False
def isLs (S : Sto) (d : D) : Prop := ∃ ds, vw S d = .lst ds ∨ vw S d = .fls ds
def isTp (d : D) : Prop := ∃ ds, d = .tup ds ∨ d = .utup ds
def enumD (ds : List D) : List D := ds.zipIdx.map fun p => D.utup [.int (p.2 : Nat), p.1]
def zipD (xs ys : List D) : List D := (xs.zip ys).map fun p => D.utup [p.1, p.2]
noncomputable def dictOf (xs ys : List D) : List (D × D) := mergeD [] (xs.zip ys)
def oInt : D → Option Int
  | .int i => some i
  | _ => none

mutual
noncomputable def wE (G : Sg) : E → TE'
  | .var i, r, S, Q => ∃ d, r[i]? = some (some d) ∧ Q d S
  | .cst c, _, S, Q => Q c.d S
  | .glob x, _, S, Q => ∃ d, G.gl x = some d ∧ Q d S
  | .bin op own a b, r, S, Q => wE G a r S fun x S1 => wE G b r S1 fun y S2 => wBin op own x y S2 Q
  | .neg a, r, S, Q => wE G a r S fun x S1 => ∃ i, x = .int i ∧ Q (.int (-i)) S1
  | .cmp op a b, r, S, Q => wE G a r S fun x S1 => wE G b r S1 fun y S2 => wCmp op x y S2 fun k => Q (.bl k) S2
  | .cmp2 o p a b c, r, S, Q => wE G a r S fun x S1 => wE G b r S1 fun y S2 => wCmp o x y S2 fun k => if k = true then wE G c r S2 fun z S3 => wCmp p y z S3 fun m => Q (.bl m) S3 else Q (.bl false) S2
  | .not a, r, S, Q => wE G a r S fun x S1 => ∃ k, x = .bl k ∧ Q (.bl (!k)) S1
  | .and a b, r, S, Q => wE G a r S fun x S1 => ∃ k, x = .bl k ∧ if k = true then wE G b r S1 (fun y S2 => ∃ m, y = .bl m ∧ Q (.bl m) S2) else Q (.bl false) S1
  | .or a b, r, S, Q => wE G a r S fun x S1 => ∃ k, x = .bl k ∧ if k = true then Q (.bl true) S1 else wE G b r S1 (fun y S2 => ∃ m, y = .bl m ∧ Q (.bl m) S2)
  | .ite c a b, r, S, Q => wE G c r S fun x S1 => ∃ k, x = .bl k ∧ if k = true then wE G a r S1 Q else wE G b r S1 Q
  | .tup es, r, S, Q => wEs G es r S fun ds S1 => finT ds S1 Q
  | .lst own es, r, S, Q => wEs G es r S fun ds S1 => finL own ds S1 Q
  | .dict own kvs, r, S, Q => wKvs G kvs r S fun ps S1 => (∀ p ∈ ps, isKey false p.1 = true) ∧ ps.length ≤ 15 ∧ finD own false (mergeD [] ps) S1 Q
  | .ix a i, r, S, Q => wE G a r S fun x S1 => wE G i r S1 fun y S2 => wIx x y S2 Q
  | .sl own a lo hi, r, S, Q => wE G a r S fun x S1 => wOe G lo r S1 fun l S2 => wOe G hi r S2 fun h S3 => wSl own x l h S3 Q
  | .rev own a, r, S, Q => wE G a r S fun x S1 => wRev own x S1 Q
  | .fld c a f, r, S, Q => wE G a r S fun x S1 => wFld c f x S1 Q
  | .prop c a f, r, S, Q => ∃ sp, G.pr c f = some sp ∧ wE G a r S fun x S1 => (∃ fs, vw S1 x = .ins c fs) ∧ sp [x] S1 Q
  | .call f es, r, S, Q => ∃ sp, G.fn f = some sp ∧ wEs G es r S fun ds S1 => sp ds S1 Q
  | .callk f es _ kes, r, S, Q => ∃ sp, G.fn f = some sp ∧ wEs G es r S fun ds S1 => wEs G kes r S1 fun es S2 => sp (ds ++ es) S2 Q
  | .mk c es, r, S, Q => ∃ sp, G.mk0 c = some sp ∧ wEs G es r S fun ds S1 => ∀ p, S1 p = none → sp (.ref p :: ds) (sup S1 p (.ins c [])) fun d S2 => d = .non ∧ Q (.ref p) S2
  | .meth c o m es, r, S, Q => ∃ sp, G.mt c m = some sp ∧ wE G o r S fun x S1 => (∃ fs, vw S1 x = .ins c fs ∧ fs.lookup m = none) ∧ wEs G es r S1 fun ds S2 => sp (x :: ds) S2 Q
  | .bi f own es, r, S, Q => wEs G es r S fun ds S1 => wBi f own ds S1 Q
  | .isb a t, r, S, Q => wE G a r S fun x S1 => ∃ k, isbD (vw S1 x) t = some k ∧ Q (.bl k) S1
  | .isc a c, r, S, Q => wE G a r S fun x S1 => (∃ fs, vw S1 x = .ins c fs) ∧ Q (.bl true) S1
  | .bm f own o es, r, S, Q => wE G o r S fun x S1 => (∃ t, bmTy f (vw S1 x) = some t) ∧ wEs G es r S1 fun ds S2 => wBm f own x ds S2 Q
  | .lr1 own a, r, S, Q => wE G a r S fun d S1 => ∃ n, d = .int n ∧ wLr own 0 n S1 Q
  | .lr2 own a b, r, S, Q => wE G a r S fun d S1 => wE G b r S1 fun d2 S2 => ∃ i j, d = .int i ∧ d2 = .int j ∧ wLr own i j S2 Q
  | .comp own vs t e c s, r, S, Q => wSrc G s r S fun g ds S1 => wComp g (fun d S' k => wTg G t d (wipeR r vs) S' fun r1 S2 =>
      wC G c r1 S2 fun b S3 => if b = true then wE G e r1 S3 fun y S4 => k (some y) S4 else k none S3) ds [] S1 fun ys S5 => finL own ys S5 Q
  | .dzip a b, r, S, Q => wE G a r S fun x S1 => wE G b r S1 fun y S2 => ∃ xs ys, itemsD S2 x = some xs ∧ y = .tup ys ∧ xs.length = ys.length ∧ (∀ z ∈ xs, isKey true z = true) ∧ xs.Nodup ∧ Q (.dic true (xs.zip ys)) S2
  | .srtk own a g, r, S, Q => wE G a r S fun x S1 => wE G g r S1 fun y S2 => ∃ xs ys, itemsD S2 x = some xs ∧ itemsD S2 y = some ys ∧
      (∀ z ∈ xs, ∃ i : Nat, ys[i]? = some z ∧ ∀ j, j < i → ys[j]? ≠ some z) ∧ (∀ z ∈ xs, Pl 5 z) ∧ (∀ z ∈ ys, Pl 5 z) ∧ finL own (xs.mergeSort fun u v => decide (ys.idxOf u ≤ ys.idxOf v)) S2 Q
  | .frz e, r, S, Q => wE G e r S fun d S1 => ∃ d' S2, Sub S2 S1 ∧ Fz S1 S2 d d' ∧ Q d' S2
noncomputable def wEs (G : Sg) : Es → TA'
  | .nil, _, S, Q => Q [] S
  | .cons star e es, r, S, Q => wE G e r S fun d S1 =>
      if star = true then ∃ xs, itemsD S1 d = some xs ∧ wEs G es r S1 fun ds S2 => Q (xs ++ ds) S2 else wEs G es r S1 fun ds S2 => Q (d :: ds) S2
noncomputable def wOe (G : Sg) : Oe → Rho → Sto → (Option Int → Sto → Prop) → Prop
  | .no, _, S, Q => Q none S
  | .yes e, r, S, Q => wE G e r S fun d S1 => ∃ i, d = .int i ∧ Q (some i) S1
/-- a comprehension's test -/
noncomputable def wC (G : Sg) : Oe → TT'
  | .no, _, S, Q => Q true S
  | .yes e, r, S, Q => wE G e r S fun d S1 => ∃ k, d = .bl k ∧ Q k S1
noncomputable def wKvs (G : Sg) : Kvs → Rho → Sto → (List (D × D) → Sto → Prop) → Prop
  | .nil, _, S, Q => Q [] S
  | .cons k v kvs, r, S, Q => wE G k r S fun x S1 => wE G v r S1 fun y S2 => wKvs G kvs r S2 fun ps S3 => Q ((x, y) :: ps) S3
noncomputable def wSrc (G : Sg) : Src → Rho → Sto → ((Sto → Prop) → List D → Sto → Prop) → Prop
  | .of e, r, S, K => wE G e r S fun d S1 => wSeq d S1 fun g ds => K g ds S1
  | .range es, r, S, K => wEs G es r S fun ds S1 => wRange ds fun xs => K (fun _ => True) xs S1
  | .enum e, r, S, K => wE G e r S fun d S1 => isLs S1 d ∧ wSeq d S1 fun g ds => K g (enumD ds) S1
  | .zip a b, r, S, K => wE G a r S fun x S1 => wE G b r S1 fun y S2 => ((isLs S2 x ∧ isLs S2 y) ∨ (isTp x ∧ isTp y)) ∧ wSeq x S2 fun g ds => wSeq y S2 fun g' es => K (fun S' => g S' ∧ g' S') (zipD ds es) S2
  | .items _, _, _, _ => False
noncomputable def wTg (G : Sg) : Tg → TG'
  | .name i, d, r, S, Q => Q (r.set i (some d)) S
  | .tup ts, d, r, S, Q => ∃ ds, (d = .tup ds ∨ d = .utup ds) ∧ ds.length = tgsLen ts ∧ wTgs G ts ds r S Q
  | .fld c o f, d, r, S, Q => wE G o r S fun x S1 => wFldSet c f x d S1 fun S2 => Q r S2
  | .sub o i, d, r, S, Q => wE G o r S fun x S1 => wE G i r S1 fun y S2 => wSet x y d S2 fun S3 => Q r S3
noncomputable def wTgs (G : Sg) : Tgs → List D → Rho → Sto → (Rho → Sto → Prop) → Prop
  | .nil, ds, r, S, Q => ds = [] ∧ Q r S
  | .cons t ts, ds, r, S, Q => ∃ d ds', ds = d :: ds' ∧ wTg G t d r S fun r1 S1 => wTgs G ts ds' r1 S1 Q
end
/-- slots and owned things, some of them forgotten or frozen -/
def FzR (S S' : Sto) (r r' : Rho) : Prop := r'.length = r.length ∧ ∀ (i : Nat) (d' : D), r'[i]? = some (some d') → ∃ d, r[i]? = some (some d) ∧ Fz S S' d d'
mutual
noncomputable def wS (G : Sg) : Sn → TS'
  | .set t e, Z, r, S => wE G e r S fun d S1 => wTg G t d r S1 Z.nx
  | .par2 i j a b, Z, r, S => wE G a r S fun x S1 => wE G b r S1 fun y S2 => Z.nx ((r.set i (some x)).set j (some y)) S2
  | .par3 i j k a b c, Z, r, S => wE G a r S fun x S1 => wE G b r S1 fun y S2 => wE G c r S2 fun z S3 => Z.nx (((r.set i (some x)).set j (some y)).set k (some z)) S3
  | .expr e, Z, r, S => wE G e r S fun _ S1 => Z.nx r S1
  | .ret e, Z, r, S => wE G e r S Z.rt
  | .retN, Z, _, S => Z.rt .non S
  | .ife c a b, Z, r, S => wE G c r S fun x S1 => ∃ k, x = .bl k ∧ if k = true then wSs G a Z r S1 else wSs G b Z r S1
  | .whil c b, Z, r, S => ∃ n, wWhile Z (fun r S Q => wE G c r S fun x S1 => ∃ k, x = .bl k ∧ Q k S1) (fun Z' r S => wSs G b Z' r S) n r S
  | .for t s b, Z, r, S => wSrc G s r S fun g ds S1 => wFor g Z (fun d Z' r S => wTg G t d r S fun r1 S2 => wSs G b Z' r1 S2) ds r S1
  | .pass, Z, r, S => Z.nx r S
  | .brk, Z, r, S => Z.bk r S
  | .cont, Z, r, S => Z.ct r S
  | .never, _, _, _ => False
  | .ghost, Z, r, S => ∃ r' S', Sub S' S ∧ FzR S S' r r' ∧ Z.nx r' S'
noncomputable def wSs (G : Sg) : Ss → TS'
  | .nil, Z, r, S => Z.nx r S
  | .cons s ss, Z, r, S => wS G s { nx := wSs G ss Z, rt := Z.rt, bk := Z.bk, ct := Z.ct } r S
end
end Dz
/-! Dz4: the readings are monotone. -/
namespace Dz
open PySem PySem.Spec PyProof.Rows L2

section
variable {S : Sto} {Q Q' : DK} {own t : Bool} {a b i : D} {ds : List D} {kvs : List (D × D)}
theorem finL_mono (h : ∀ d S', Q d S' → Q' d S') : finL own ds S Q → finL own ds S Q' := by
  unfold finL
  rintro ⟨z, q⟩
  refine ⟨z, ?_⟩
  split at q <;> rename_i e
  · rw [if_pos e]; exact fun p n => h _ _ (q p n)
  · rw [if_neg e]; exact h _ _ q
theorem finD_mono (h : ∀ d S', Q d S' → Q' d S') : finD own t kvs S Q → finD own t kvs S Q' := by
  unfold finD
  rintro ⟨z, q⟩
  refine ⟨z, ?_⟩
  split at q <;> rename_i e
  · rw [if_pos e]; exact ⟨q.1, fun p n => h _ _ (q.2 p n)⟩
  · rw [if_neg e]; exact h _ _ q
theorem finT_mono (h : ∀ d S', Q d S' → Q' d S') : finT ds S Q → finT ds S Q' := fun ⟨z, q⟩ => ⟨z, h _ _ q⟩
theorem wBin_mono {op : Operator} (h : ∀ d S', Q d S' → Q' d S') : wBin op own a b S Q → wBin op own a b S Q' := by
  unfold wBin
  intro q
  split at q <;> first | exact h _ _ q | exact ⟨q.1, h _ _ q.2⟩ | exact finL_mono h q | exact finT_mono h q | exact q.elim
theorem eqD_mono {P P' : Bool → Prop} (h : ∀ k, P k → P' k) : eqD a b P → eqD a b P' := by
  unfold eqD
  intro q
  split at q <;> first | exact h _ q | exact ⟨q.1, q.2.1, h _ q.2.2⟩
theorem ltD_mono {P P' : Bool → Prop} (h : ∀ k, P k → P' k) : ltD a b P → ltD a b P' := by
  unfold ltD
  intro q
  split at q <;> first | exact h _ q | exact ⟨q.1, q.2.1, q.2.2.1, q.2.2.2.1, h _ q.2.2.2.2⟩
theorem inD_mono {P P' : Bool → Prop} (h : ∀ k, P k → P' k) : inD a b P → inD a b P' := by
  unfold inD
  intro q
  split at q
  · exact ⟨q.1, q.2.1, h _ q.2.2⟩
  · exact ⟨q.1, q.2.1, h _ q.2.2⟩
  · obtain ⟨c, e, q⟩ := q; exact ⟨c, e, h _ q⟩
  · exact ⟨q.1, h _ q.2⟩
  · exact q.elim
theorem wCmp_mono {op : CmpOp} {P P' : Bool → Prop} (h : ∀ k, P k → P' k) : wCmp op a b S P → wCmp op a b S P' := by
  cases op
  · exact eqD_mono h
  · exact eqD_mono fun k => h (!k)
  · exact ltD_mono h
  · rintro ⟨i, j, e1, e2, q⟩; exact ⟨i, j, e1, e2, h _ q⟩
  · rintro ⟨i, j, e1, e2, q⟩; exact ⟨i, j, e1, e2, h _ q⟩
  · rintro ⟨i, j, e1, e2, q⟩; exact ⟨i, j, e1, e2, h _ q⟩
  · rintro (⟨e, q⟩ | ⟨x, y, e1, e2, q⟩)
    · exact .inl ⟨e, h _ q⟩
    · exact .inr ⟨x, y, e1, e2, h _ q⟩
  · rintro (⟨e, q⟩ | ⟨x, y, e1, e2, q⟩)
    · exact .inl ⟨e, h _ q⟩
    · exact .inr ⟨x, y, e1, e2, h _ q⟩
  · exact inD_mono h
  · exact inD_mono fun k => h (!k)
theorem wBi_mono {f : Bi} (h : ∀ d S', Q d S' → Q' d S') : wBi f own ds S Q → wBi f own ds S Q' := by
  unfold wBi
  intro q
  split at q
  · split at q <;> first | exact h _ _ q | exact ⟨q.1, h _ _ q.2⟩ | exact q.elim
  · exact h _ _ q
  · exact h _ _ q
  · exact h _ _ q
  · exact ⟨q.1, h _ _ q.2⟩
  · exact ⟨q.1, q.2.1, q.2.2.1, h _ _ q.2.2.2⟩
  · exact h _ _ q
  · exact h _ _ q
  · obtain ⟨xs, ns, e1, e2, e3, q⟩ := q; exact ⟨xs, ns, e1, e2, e3, fun m h1 h2 => h _ _ (q m h1 h2)⟩
  · obtain ⟨xs, ns, e1, e2, e3, q⟩ := q; exact ⟨xs, ns, e1, e2, e3, fun m h1 h2 => h _ _ (q m h1 h2)⟩
  · obtain ⟨xs, ns, e1, e2, q⟩ := q; exact ⟨xs, ns, e1, e2, h _ _ q⟩
  · obtain ⟨xs, ns, e1, e2, q⟩ := q; exact ⟨xs, ns, e1, e2, h _ _ q⟩
  · obtain ⟨xs, ns, e1, e2, q⟩ := q; exact ⟨xs, ns, e1, e2, h _ _ q⟩
  · obtain ⟨xs, e1, q⟩ := q; exact ⟨xs, e1, finT_mono h q⟩
  · obtain ⟨xs, e1, q⟩ := q; exact ⟨xs, e1, finL_mono h q⟩
  · obtain ⟨xs, e1, e2, q⟩ := q; exact ⟨xs, e1, e2, finL_mono h q⟩
  · exact q.elim
theorem wBm_mono {f : Bm} (h : ∀ d S', Q d S' → Q' d S') : wBm f own a ds S Q → wBm f own a ds S Q' := by
  unfold wBm
  intro q
  split at q
  · obtain ⟨p, xs, e1, e2, e3, q⟩ := q; exact ⟨p, xs, e1, e2, e3, h _ _ q⟩
  · obtain ⟨p, xs, ys, e1, e2, e3, e4, q⟩ := q; exact ⟨p, xs, ys, e1, e2, e3, e4, h _ _ q⟩
  · obtain ⟨p, xs, y, e1, e2, e3, e4, e5, q⟩ := q; exact ⟨p, xs, y, e1, e2, e3, e4, e5, h _ _ q⟩
  · obtain ⟨p, xs, y, e1, e2, e3, q⟩ := q; exact ⟨p, xs, y, e1, e2, e3, h _ _ q⟩
  · obtain ⟨xs, i, e1, e2, e3, e4, e5, q⟩ := q; exact ⟨xs, i, e1, e2, e3, e4, e5, h _ _ q⟩
  · obtain ⟨x, e1, e2, e3, q⟩ := q; exact ⟨x, e1, e2, e3, finL_mono h q⟩
  · obtain ⟨x, xs, ys, e1, e2, e3, e4, q⟩ := q; exact ⟨x, xs, ys, e1, e2, e3, e4, h _ _ q⟩
  · exact q.elim
theorem wIx_mono (h : ∀ d S', Q d S' → Q' d S') : wIx a i S Q → wIx a i S Q' := by
  unfold wIx
  intro q
  split at q
  · obtain ⟨k, v, e1, e2, q⟩ := q; exact ⟨k, v, e1, e2, h _ _ q⟩
  · obtain ⟨k, v, e1, e2, q⟩ := q; exact ⟨k, v, e1, e2, h _ _ q⟩
  · obtain ⟨k, v, e1, e2, q⟩ := q; exact ⟨k, v, e1, e2, h _ _ q⟩
  · obtain ⟨k, v, e1, e2, q⟩ := q; exact ⟨k, v, e1, e2, h _ _ q⟩
  · obtain ⟨k, v, e1, e2, e3, q⟩ := q; exact ⟨k, v, e1, e2, e3, h _ _ q⟩
  · obtain ⟨v, e1, e2, q⟩ := q; exact ⟨v, e1, e2, h _ _ q⟩
  · exact q.elim
theorem wSl_mono {lo hi : Option Int} (h : ∀ d S', Q d S' → Q' d S') : wSl own a lo hi S Q → wSl own a lo hi S Q' := by
  unfold wSl
  intro q
  split at q <;> first | exact finL_mono h q | exact finT_mono h q | exact ⟨q.1, h _ _ q.2⟩ | exact q.elim
theorem wRev_mono (h : ∀ d S', Q d S' → Q' d S') : wRev own a S Q → wRev own a S Q' := by
  unfold wRev
  intro q
  split at q <;> first | exact finL_mono h q | exact finT_mono h q | exact q.elim
theorem wSet_mono {v : D} {P P' : Sto → Prop} (h : ∀ S', P S' → P' S') : wSet a i v S P → wSet a i v S P' := by
  rintro ⟨p, e, (⟨xs, k, e1, e2, e3, e4, q⟩ | ⟨kvs, e1, e2, e3, q⟩)⟩
  · exact ⟨p, e, .inl ⟨xs, k, e1, e2, e3, e4, h _ q⟩⟩
  · exact ⟨p, e, .inr ⟨kvs, e1, e2, e3, h _ q⟩⟩
theorem wFldSet_mono {c f : Str} {P P' : Sto → Prop} (h : ∀ S', P S' → P' S') : wFldSet c f a i S P → wFldSet c f a i S P' := by
  rintro ⟨p, fs, e, e1, e2, q⟩
  exact ⟨p, fs, e, e1, e2, h _ q⟩
theorem wFld_mono {c f : Str} (h : ∀ d S', Q d S' → Q' d S') : wFld c f a S Q → wFld c f a S Q' := by
  rintro ⟨fs, v, e, e1, q⟩
  exact ⟨fs, v, e, e1, h _ _ q⟩
theorem wRange_mono {P P' : List D → Prop} (h : ∀ k, P k → P' k) : wRange ds P → wRange ds P' := by
  unfold wRange
  intro q
  split at q
  · exact ⟨q.1, h _ q.2⟩
  · exact ⟨q.1, q.2.1, h _ q.2.2⟩
  · exact ⟨q.1, q.2.1, q.2.2.1, h _ q.2.2.2⟩
  · exact q.elim
theorem wSeq_mono {K K' : (Sto → Prop) → List D → Prop} (h : ∀ g ds, K g ds → K' g ds) : wSeq a S K → wSeq a S K' := by
  unfold wSeq
  intro q
  split at q
  · obtain ⟨ds, e, q⟩ := q; exact ⟨ds, e, h _ _ q⟩
  · exact h _ _ q
  · exact h _ _ q
  · exact h _ _ q
  · exact h _ _ q
  · exact h _ _ q
  · exact q.elim
end
theorem wComp_mono {g : Sto → Prop} {step : D → Sto → (Option D → Sto → Prop) → Prop} (hs : ∀ d S (K K' : Option D → Sto → Prop), (∀ o S', K o S' → K' o S') → step d S K → step d S K') {Q Q' : List D → Sto → Prop} (h : ∀ ds S, Q ds S → Q' ds S) :
    ∀ (ds acc : List D) (S : Sto), wComp g step ds acc S Q → wComp g step ds acc S Q'
  | [], acc, S, q => ⟨q.1, h _ _ q.2⟩
  | d :: ds, acc, S, q => by
    refine ⟨q.1, hs d S _ _ (fun o S' k => ?_) q.2⟩
    cases o with
    | some y => exact ⟨k.1, wComp_mono hs h ds _ S' k.2⟩
    | none => exact wComp_mono hs h ds _ S' k
theorem wComp_step {g : Sto → Prop} {step step' : D → Sto → (Option D → Sto → Prop) → Prop} (hs : ∀ d S (K K' : Option D → Sto → Prop), (∀ o S', K o S' → K' o S') → step d S K → step' d S K') {Q : List D → Sto → Prop} :
    ∀ (ds acc : List D) (S : Sto), wComp g step ds acc S Q → wComp g step' ds acc S Q
  | [], acc, S, q => q
  | d :: ds, acc, S, q => by
    refine ⟨q.1, hs d S _ _ (fun o S' k => ?_) q.2⟩
    cases o with
    | some y => exact ⟨k.1, wComp_step hs ds _ S' k.2⟩
    | none => exact wComp_step hs ds _ S' k
theorem wFor_mono {g : Sto → Prop} {step : D → Ends' → Rho → Sto → Prop} (hs : ∀ d Z Z' r S, LeE Z Z' → step d Z r S → step d Z' r S) {Z Z' : Ends'} (h : LeE Z Z') :
    ∀ (ds : List D) (r : Rho) (S : Sto), wFor g Z step ds r S → wFor g Z' step ds r S
  | [], r, S, q => ⟨q.1, h.nx _ _ q.2⟩
  | d :: ds, r, S, q => ⟨q.1, hs d { nx := wFor g Z step ds, rt := Z.rt, bk := Z.nx, ct := wFor g Z step ds } { nx := wFor g Z' step ds, rt := Z'.rt, bk := Z'.nx, ct := wFor g Z' step ds } r S ⟨fun r S k => wFor_mono hs h ds r S k, h.rt, h.nx, fun r S k => wFor_mono hs h ds r S k⟩ q.2⟩
theorem wWhile_mono {c : Rho → Sto → (Bool → Sto → Prop) → Prop} {b : Ends' → Rho → Sto → Prop} (hc : MonoT c) (hb : ∀ Z Z' r S, LeE Z Z' → b Z r S → b Z' r S) {Z Z' : Ends'} (h : LeE Z Z') :
    ∀ (n : Nat) (r : Rho) (S : Sto), wWhile Z c b n r S → wWhile Z' c b n r S
  | 0, _, _, q => q
  | n + 1, r, S, q => hc r S _ _ (fun k S1 q => by
      cases k with
      | true =>
        rw [if_pos rfl] at q ⊢
        exact hb { nx := wWhile Z c b n, rt := Z.rt, bk := Z.nx, ct := wWhile Z c b n } { nx := wWhile Z' c b n, rt := Z'.rt, bk := Z'.nx, ct := wWhile Z' c b n } r S1 ⟨fun r S k => wWhile_mono hc hb h n r S k, h.rt, h.nx, fun r S k => wWhile_mono hc hb h n r S k⟩ q
      | false =>
        rw [if_neg Bool.false_ne_true] at q ⊢
        exact h.nx _ _ q) q

structure MonoG' (G : Sg) : Prop where
  fn : ∀ f sp, G.fn f = some sp → MonoSp sp
  mk0 : ∀ f sp, G.mk0 f = some sp → MonoSp sp
  mt : ∀ c f sp, G.mt c f = some sp → MonoSp sp
  pr : ∀ c f sp, G.pr c f = some sp → MonoSp sp
mutual
theorem wE_mono {G : Sg} (hG : MonoG' G) : ∀ e : E, MonoE (wE G e)
  | .var i, r, S, Q, Q', h, q => by
    simp only [wE] at q ⊢
    obtain ⟨d, e, q⟩ := q
    exact ⟨d, e, h _ _ q⟩
  | .cst c, r, S, Q, Q', h, q => by simp only [wE] at q ⊢; exact h _ _ q
  | .glob x, r, S, Q, Q', h, q => by
    simp only [wE] at q ⊢
    obtain ⟨d, e, q⟩ := q
    exact ⟨d, e, h _ _ q⟩
  | .bin op own a b, r, S, Q, Q', h, q => by
    simp only [wE] at q ⊢
    exact wE_mono hG a _ _ _ _ (fun _ _ q => wE_mono hG b _ _ _ _ (fun _ _ q => wBin_mono h q) q) q
  | .neg a, r, S, Q, Q', h, q => by
    simp only [wE] at q ⊢
    exact wE_mono hG a _ _ _ _ (fun _ _ ⟨i, e, q⟩ => ⟨i, e, h _ _ q⟩) q
  | .cmp op a b, r, S, Q, Q', h, q => by
    simp only [wE] at q ⊢
    exact wE_mono hG a _ _ _ _ (fun _ _ q => wE_mono hG b _ _ _ _ (fun _ _ q => wCmp_mono (fun _ q => h _ _ q) q) q) q
  | .cmp2 o p a b c, r, S, Q, Q', h, q => by
    simp only [wE] at q ⊢
    refine wE_mono hG a _ _ _ _ (fun _ _ q => wE_mono hG b _ _ _ _ (fun _ _ q => wCmp_mono (fun k q => ?_) q) q) q
    cases k with
    | true =>
      rw [if_pos rfl] at q ⊢
      exact wE_mono hG c _ _ _ _ (fun _ _ q => wCmp_mono (fun _ q => h _ _ q) q) q
    | false =>
      rw [if_neg Bool.false_ne_true] at q ⊢
      exact h _ _ q
  | .not a, r, S, Q, Q', h, q => by
    simp only [wE] at q ⊢
    exact wE_mono hG a _ _ _ _ (fun _ _ ⟨i, e, q⟩ => ⟨i, e, h _ _ q⟩) q
  | .and a b, r, S, Q, Q', h, q => by
    simp only [wE] at q ⊢
    refine wE_mono hG a _ _ _ _ (fun _ _ ⟨k, e, q⟩ => ⟨k, e, ?_⟩) q
    cases k with
    | true =>
      rw [if_pos rfl] at q ⊢
      exact wE_mono hG b _ _ _ _ (fun _ _ ⟨m, e, q⟩ => ⟨m, e, h _ _ q⟩) q
    | false =>
      rw [if_neg Bool.false_ne_true] at q ⊢
      exact h _ _ q
  | .or a b, r, S, Q, Q', h, q => by
    simp only [wE] at q ⊢
    refine wE_mono hG a _ _ _ _ (fun _ _ ⟨k, e, q⟩ => ⟨k, e, ?_⟩) q
    cases k with
    | true =>
      rw [if_pos rfl] at q ⊢
      exact h _ _ q
    | false =>
      rw [if_neg Bool.false_ne_true] at q ⊢
      exact wE_mono hG b _ _ _ _ (fun _ _ ⟨m, e, q⟩ => ⟨m, e, h _ _ q⟩) q
  | .ite c a b, r, S, Q, Q', h, q => by
    simp only [wE] at q ⊢
    refine wE_mono hG c _ _ _ _ (fun _ _ ⟨k, e, q⟩ => ⟨k, e, ?_⟩) q
    cases k with
    | true =>
      rw [if_pos rfl] at q ⊢
      exact wE_mono hG a _ _ _ _ h q
    | false =>
      rw [if_neg Bool.false_ne_true] at q ⊢
      exact wE_mono hG b _ _ _ _ h q
  | .tup es, r, S, Q, Q', h, q => by
    simp only [wE] at q ⊢
    exact wEs_mono hG es _ _ _ _ (fun _ _ q => finT_mono h q) q
  | .lst own es, r, S, Q, Q', h, q => by
    simp only [wE] at q ⊢
    exact wEs_mono hG es _ _ _ _ (fun _ _ q => finL_mono h q) q
  | .dict own kvs, r, S, Q, Q', h, q => by
    simp only [wE] at q ⊢
    exact wKvs_mono hG kvs _ _ _ _ (fun _ _ ⟨q1, q2, q⟩ => ⟨q1, q2, finD_mono h q⟩) q
  | .ix a i, r, S, Q, Q', h, q => by
    simp only [wE] at q ⊢
    exact wE_mono hG a _ _ _ _ (fun _ _ q => wE_mono hG i _ _ _ _ (fun _ _ q => wIx_mono h q) q) q
  | .sl own a lo hi, r, S, Q, Q', h, q => by
    simp only [wE] at q ⊢
    exact wE_mono hG a _ _ _ _ (fun _ _ q => wOe_mono hG lo _ _ _ _ (fun _ _ q => wOe_mono hG hi _ _ _ _ (fun _ _ q => wSl_mono h q) q) q) q
  | .rev own a, r, S, Q, Q', h, q => by
    simp only [wE] at q ⊢
    exact wE_mono hG a _ _ _ _ (fun _ _ q => wRev_mono h q) q
  | .fld c a f, r, S, Q, Q', h, q => by
    simp only [wE] at q ⊢
    exact wE_mono hG a _ _ _ _ (fun _ _ q => wFld_mono h q) q
  | .prop c a f, r, S, Q, Q', h, q => by
    simp only [wE] at q ⊢
    obtain ⟨sp, e, q⟩ := q
    exact ⟨sp, e, wE_mono hG a _ _ _ _ (fun _ _ ⟨z, q⟩ => ⟨z, hG.pr _ _ _ e _ _ _ _ h q⟩) q⟩
  | .call f es, r, S, Q, Q', h, q => by
    simp only [wE] at q ⊢
    obtain ⟨sp, e, q⟩ := q
    exact ⟨sp, e, wEs_mono hG es _ _ _ _ (fun _ _ q => hG.fn _ _ e _ _ _ _ h q) q⟩
  | .callk f es ks kes, r, S, Q, Q', h, q => by
    simp only [wE] at q ⊢
    obtain ⟨sp, e, q⟩ := q
    exact ⟨sp, e, wEs_mono hG es _ _ _ _ (fun _ _ q => wEs_mono hG kes _ _ _ _ (fun _ _ q => hG.fn _ _ e _ _ _ _ h q) q) q⟩
  | .mk c es, r, S, Q, Q', h, q => by
    simp only [wE] at q ⊢
    obtain ⟨sp, e, q⟩ := q
    exact ⟨sp, e, wEs_mono hG es _ _ _ _ (fun _ _ q p n => hG.mk0 _ _ e _ _ _ _ (fun _ _ ⟨z, q⟩ => ⟨z, h _ _ q⟩) (q p n)) q⟩
  | .meth c o m es, r, S, Q, Q', h, q => by
    simp only [wE] at q ⊢
    obtain ⟨sp, e, q⟩ := q
    exact ⟨sp, e, wE_mono hG o _ _ _ _ (fun _ _ ⟨z, q⟩ => ⟨z, wEs_mono hG es _ _ _ _ (fun _ _ q => hG.mt _ _ _ e _ _ _ _ h q) q⟩) q⟩
  | .bi f own es, r, S, Q, Q', h, q => by
    simp only [wE] at q ⊢
    exact wEs_mono hG es _ _ _ _ (fun _ _ q => wBi_mono h q) q
  | .isb a t, r, S, Q, Q', h, q => by
    simp only [wE] at q ⊢
    exact wE_mono hG a _ _ _ _ (fun _ _ ⟨k, e, q⟩ => ⟨k, e, h _ _ q⟩) q
  | .isc a c, r, S, Q, Q', h, q => by
    simp only [wE] at q ⊢
    exact wE_mono hG a _ _ _ _ (fun _ _ ⟨e, q⟩ => ⟨e, h _ _ q⟩) q
  | .bm f own o es, r, S, Q, Q', h, q => by
    simp only [wE] at q ⊢
    exact wE_mono hG o _ _ _ _ (fun _ _ ⟨e, q⟩ => ⟨e, wEs_mono hG es _ _ _ _ (fun _ _ q => wBm_mono h q) q⟩) q
  | .lr1 own a, r, S, Q, Q', h, q => by
    simp only [wE] at q ⊢
    exact wE_mono hG a _ _ _ _ (fun _ _ ⟨n, e, q⟩ => ⟨n, e, q.1, q.2.1, q.2.2.1, finL_mono h q.2.2.2⟩) q
  | .lr2 own a b, r, S, Q, Q', h, q => by
    simp only [wE] at q ⊢
    exact wE_mono hG a _ _ _ _ (fun _ _ q => wE_mono hG b _ _ _ _ (fun _ _ ⟨i, j, e, e2, q⟩ => ⟨i, j, e, e2, q.1, q.2.1, q.2.2.1, finL_mono h q.2.2.2⟩) q) q
  | .comp own vs t e c s, r, S, Q, Q', h, q => by
    simp only [wE] at q ⊢
    refine wSrc_mono hG s _ _ _ _ (fun _ _ _ q => wComp_mono (fun d S' K K' hK k => ?_) (fun _ _ q => finL_mono h q) _ _ _ q) q
    refine wTg_mono hG t _ _ _ _ _ (fun r1 S2 k => wC_mono hG c _ _ _ _ (fun b S3 k => ?_) k) k
    cases b with
    | true =>
      rw [if_pos rfl] at k ⊢
      exact wE_mono hG e _ _ _ _ (fun _ _ k => hK _ _ k) k
    | false =>
      rw [if_neg Bool.false_ne_true] at k ⊢
      exact hK _ _ k
  | .dzip a b, r, S, Q, Q', h, q => by
    simp only [wE] at q ⊢
    exact wE_mono hG a _ _ _ _ (fun _ _ q => wE_mono hG b _ _ _ _ (fun _ _ ⟨xs, ys, e1, e2, e3, e4, e5, q⟩ => ⟨xs, ys, e1, e2, e3, e4, e5, h _ _ q⟩) q) q
  | .srtk own a g, r, S, Q, Q', h, q => by
    simp only [wE] at q ⊢
    exact wE_mono hG a _ _ _ _ (fun _ _ q => wE_mono hG g _ _ _ _ (fun _ _ ⟨xs, ys, e1, e2, e3, e4, e5, q⟩ => ⟨xs, ys, e1, e2, e3, e4, e5, finL_mono h q⟩) q) q
  | .frz e, r, S, Q, Q', h, q => by
    simp only [wE] at q ⊢
    exact wE_mono hG e _ _ _ _ (fun _ _ ⟨d', S2, z1, z2, q⟩ => ⟨d', S2, z1, z2, h _ _ q⟩) q
theorem wEs_mono {G : Sg} (hG : MonoG' G) : ∀ es : Es, MonoA (wEs G es)
  | .nil, r, S, Q, Q', h, q => by simp only [wEs] at q ⊢; exact h _ _ q
  | .cons star e es, r, S, Q, Q', h, q => by
    simp only [wEs] at q ⊢
    refine wE_mono hG e _ _ _ _ (fun _ _ q => ?_) q
    split at q <;> rename_i hs
    · rw [if_pos hs]
      obtain ⟨xs, e1, q⟩ := q
      exact ⟨xs, e1, wEs_mono hG es _ _ _ _ (fun _ _ q => h _ _ q) q⟩
    · rw [if_neg hs]
      exact wEs_mono hG es _ _ _ _ (fun _ _ q => h _ _ q) q
theorem wOe_mono {G : Sg} (hG : MonoG' G) : ∀ (o : Oe) (r : Rho) (S : Sto) (Q Q' : Option Int → Sto → Prop), (∀ d S', Q d S' → Q' d S') → wOe G o r S Q → wOe G o r S Q'
  | .no, r, S, Q, Q', h, q => by simp only [wOe] at q ⊢; exact h _ _ q
  | .yes e, r, S, Q, Q', h, q => by
    simp only [wOe] at q ⊢
    exact wE_mono hG e _ _ _ _ (fun _ _ ⟨i, e, q⟩ => ⟨i, e, h _ _ q⟩) q
theorem wC_mono {G : Sg} (hG : MonoG' G) : ∀ (o : Oe), MonoT (wC G o)
  | .no, r, S, Q, Q', h, q => by simp only [wC] at q ⊢; exact h _ _ q
  | .yes e, r, S, Q, Q', h, q => by
    simp only [wC] at q ⊢
    exact wE_mono hG e _ _ _ _ (fun _ _ ⟨i, e, q⟩ => ⟨i, e, h _ _ q⟩) q
theorem wKvs_mono {G : Sg} (hG : MonoG' G) : ∀ (k : Kvs) (r : Rho) (S : Sto) (Q Q' : List (D × D) → Sto → Prop), (∀ d S', Q d S' → Q' d S') → wKvs G k r S Q → wKvs G k r S Q'
  | .nil, r, S, Q, Q', h, q => by simp only [wKvs] at q ⊢; exact h _ _ q
  | .cons k v ks, r, S, Q, Q', h, q => by
    simp only [wKvs] at q ⊢
    exact wE_mono hG k _ _ _ _ (fun _ _ q => wE_mono hG v _ _ _ _ (fun _ _ q => wKvs_mono hG ks _ _ _ _ (fun _ _ q => h _ _ q) q) q) q
theorem wSrc_mono {G : Sg} (hG : MonoG' G) : ∀ (s : Src) (r : Rho) (S : Sto) (K K' : (Sto → Prop) → List D → Sto → Prop), (∀ g ds S', K g ds S' → K' g ds S') → wSrc G s r S K → wSrc G s r S K'
  | .of e, r, S, K, K', h, q => by
    simp only [wSrc] at q ⊢
    exact wE_mono hG e _ _ _ _ (fun _ _ q => wSeq_mono (fun _ _ q => h _ _ _ q) q) q
  | .range es, r, S, K, K', h, q => by
    simp only [wSrc] at q ⊢
    exact wEs_mono hG es _ _ _ _ (fun _ _ q => wRange_mono (fun _ q => h _ _ _ q) q) q
  | .enum e, r, S, K, K', h, q => by
    simp only [wSrc] at q ⊢
    exact wE_mono hG e _ _ _ _ (fun _ _ ⟨z, q⟩ => ⟨z, wSeq_mono (fun _ _ q => h _ _ _ q) q⟩) q
  | .zip a b, r, S, K, K', h, q => by
    simp only [wSrc] at q ⊢
    exact wE_mono hG a _ _ _ _ (fun _ _ q => wE_mono hG b _ _ _ _ (fun _ _ ⟨z1, q⟩ => ⟨z1, wSeq_mono (fun _ _ q => wSeq_mono (fun _ _ q => h _ _ _ q) q) q⟩) q) q
  | .items e, r, S, K, K', h, q => by
    simp only [wSrc] at q
theorem wTg_mono {G : Sg} (hG : MonoG' G) : ∀ t : Tg, MonoG (wTg G t)
  | .name i, d, r, S, Q, Q', h, q => by simp only [wTg] at q ⊢; exact h _ _ q
  | .tup ts, d, r, S, Q, Q', h, q => by
    simp only [wTg] at q ⊢
    obtain ⟨ds, e, e2, q⟩ := q
    exact ⟨ds, e, e2, wTgs_mono hG ts _ _ _ _ _ h q⟩
  | .fld c o f, d, r, S, Q, Q', h, q => by
    simp only [wTg] at q ⊢
    exact wE_mono hG o _ _ _ _ (fun _ _ q => wFldSet_mono (fun _ q => h _ _ q) q) q
  | .sub o i, d, r, S, Q, Q', h, q => by
    simp only [wTg] at q ⊢
    exact wE_mono hG o _ _ _ _ (fun _ _ q => wE_mono hG i _ _ _ _ (fun _ _ q => wSet_mono (fun _ q => h _ _ q) q) q) q
theorem wTgs_mono {G : Sg} (hG : MonoG' G) : ∀ (t : Tgs) (ds : List D) (r : Rho) (S : Sto) (Q Q' : Rho → Sto → Prop), (∀ r' S', Q r' S' → Q' r' S') → wTgs G t ds r S Q → wTgs G t ds r S Q'
  | .nil, ds, r, S, Q, Q', h, q => by simp only [wTgs] at q ⊢; exact ⟨q.1, h _ _ q.2⟩
  | .cons t ts, ds, r, S, Q, Q', h, q => by
    simp only [wTgs] at q ⊢
    obtain ⟨d, ds', e, q⟩ := q
    exact ⟨d, ds', e, wTg_mono hG t _ _ _ _ _ (fun _ _ q => wTgs_mono hG ts _ _ _ _ _ h q) q⟩
end
mutual
theorem wS_mono {G : Sg} (hG : MonoG' G) : ∀ s : Sn, MonoS (wS G s)
  | .set t e, Z, Z', r, S, h, q => by
    simp only [wS] at q ⊢
    exact wE_mono hG e _ _ _ _ (fun _ _ q => wTg_mono hG t _ _ _ _ _ h.nx q) q
  | .par2 i j a b, Z, Z', r, S, h, q => by
    simp only [wS] at q ⊢
    exact wE_mono hG a _ _ _ _ (fun _ _ q => wE_mono hG b _ _ _ _ (fun _ _ q => h.nx _ _ q) q) q
  | .par3 i j k a b c, Z, Z', r, S, h, q => by
    simp only [wS] at q ⊢
    exact wE_mono hG a _ _ _ _ (fun _ _ q => wE_mono hG b _ _ _ _ (fun _ _ q => wE_mono hG c _ _ _ _ (fun _ _ q => h.nx _ _ q) q) q) q
  | .expr e, Z, Z', r, S, h, q => by
    simp only [wS] at q ⊢
    exact wE_mono hG e _ _ _ _ (fun _ _ q => h.nx _ _ q) q
  | .ret e, Z, Z', r, S, h, q => by
    simp only [wS] at q ⊢
    exact wE_mono hG e _ _ _ _ h.rt q
  | .retN, Z, Z', r, S, h, q => by
    simp only [wS] at q ⊢
    exact h.rt _ _ q
  | .ife c a b, Z, Z', r, S, h, q => by
    simp only [wS] at q ⊢
    refine wE_mono hG c _ _ _ _ (fun _ _ ⟨k, e, q⟩ => ⟨k, e, ?_⟩) q
    cases k with
    | true =>
      rw [if_pos rfl] at q ⊢
      exact wSs_mono hG a _ _ _ _ h q
    | false =>
      rw [if_neg Bool.false_ne_true] at q ⊢
      exact wSs_mono hG b _ _ _ _ h q
  | .whil c b, Z, Z', r, S, h, q => by
    simp only [wS] at q ⊢
    obtain ⟨n, q⟩ := q
    exact ⟨n, wWhile_mono (c := fun r S Q => wE G c r S fun x S1 => ∃ k, x = .bl k ∧ Q k S1) (b := fun Z' r S => wSs G b Z' r S) (fun r S Q Q' hq q => wE_mono hG c r S _ _ (fun _ _ ⟨k, e, q⟩ => ⟨k, e, hq _ _ q⟩) q) (fun Z Z' r S h q => wSs_mono hG b Z Z' r S h q) h n r S q⟩
  | .for t s b, Z, Z', r, S, h, q => by
    simp only [wS] at q ⊢
    exact wSrc_mono hG s r S _ _ (fun g ds S1 q => wFor_mono (g := g) (step := fun d Z' r S => wTg G t d r S fun r1 S2 => wSs G b Z' r1 S2) (fun d Z Z' r S hz q => wTg_mono hG t d r S _ _ (fun r1 S2 q => wSs_mono hG b Z Z' r1 S2 hz q) q) h ds r S1 q) q
  | .pass, Z, Z', r, S, h, q => by simp only [wS] at q ⊢; exact h.nx _ _ q
  | .brk, Z, Z', r, S, h, q => by simp only [wS] at q ⊢; exact h.bk _ _ q
  | .cont, Z, Z', r, S, h, q => by simp only [wS] at q ⊢; exact h.ct _ _ q
  | .never, Z, Z', r, S, h, q => by simp only [wS] at q
  | .ghost, Z, Z', r, S, h, q => by
    simp only [wS] at q ⊢
    obtain ⟨r', S', z1, z2, q⟩ := q
    exact ⟨r', S', z1, z2, h.nx _ _ q⟩
theorem wSs_mono {G : Sg} (hG : MonoG' G) : ∀ s : Ss, MonoS (wSs G s)
  | .nil, Z, Z', r, S, h, q => by simp only [wSs] at q ⊢; exact h.nx _ _ q
  | .cons s ss, Z, Z', r, S, h, q => by
    simp only [wSs] at q ⊢
    exact wS_mono hG s { nx := wSs G ss Z, rt := Z.rt, bk := Z.bk, ct := Z.ct } { nx := wSs G ss Z', rt := Z'.rt, bk := Z'.bk, ct := Z'.ct } r S ⟨fun r S q => wSs_mono hG ss Z Z' r S h q, h.rt, h.bk, h.ct⟩ q
end
end Dz
/-! Dz5: operators and comparisons of data. -/
namespace Dz
open PySem PySem.Spec PyProof.Rows L2

variable {cl : CL} {S : Sto} {T H : Hp}
/-! ### what stands behind a view -/
theorem vw_ref {S : Sto} {a : Addr} : vw S (.ref a) = (match S a with
    | some (.lst ds) => .lst ds
    | some (.dic kvs) => .dic false kvs
    | some (.ins c fs) => .ins c fs
    | none => .ref a) := rfl
theorem vw_lst {d : D} {v : V} {ds : List D} (m : Sm cl S T H) (r : Rp cl S T H d v) (h : vw S d = .lst ds) : ∃ a xs, v = .ref a ∧ H a = some (.lst xs) ∧ RpL cl S T H ds xs := by
  cases r with
  | ref a =>
    rw [vw_ref] at h
    cases e : S a with
    | none => rw [e] at h; cases h
    | some o =>
      rw [e] at h
      obtain ⟨u, hu, ro⟩ := m.ob a o e
      cases ro with
      | lst rl => cases h; exact ⟨a, _, rfl, hu, rl⟩
      | dk rl => cases h
      | ins c rl => cases h
  | lst h1 h2 rl => cases h; exact ⟨_, _, rfl, h1, rl⟩
  | _ => cases h
theorem vw_fls {d : D} {v : V} {ds : List D} (r : Rp cl S T H d v) (h : vw S d = .fls ds) : ∃ a xs, v = .ref a ∧ Rd H a (.lst xs) ∧ RpL cl S T H ds xs := by
  cases r with
  | ref a =>
    rw [vw_ref] at h
    cases e : S a with
    | none => rw [e] at h; cases h
    | some o => rw [e] at h; cases o <;> cases h
  | fls h1 h2 rl => cases h; exact ⟨_, _, rfl, h1, rl⟩
  | _ => cases h
theorem vw_tup {d : D} {ds : List D} (h : vw S d = .tup ds) : d = .tup ds := by
  cases d with
  | ref a => rw [vw_ref] at h; cases e : S a with
    | none => rw [e] at h; cases h
    | some o => rw [e] at h; cases o <;> cases h
  | _ => exact h
theorem vw_int {d : D} {i : Int} (h : vw S d = .int i) : d = .int i := by
  cases d with
  | ref a => rw [vw_ref] at h; cases e : S a with
    | none => rw [e] at h; cases h
    | some o => rw [e] at h; cases o <;> cases h
  | _ => exact h
theorem vw_str {d : D} {i : Str} (h : vw S d = .str i) : d = .str i := by
  cases d with
  | ref a => rw [vw_ref] at h; cases e : S a with
    | none => rw [e] at h; cases h
    | some o => rw [e] at h; cases o <;> cases h
  | _ => exact h
theorem vw_bl {d : D} {i : Bool} (h : vw S d = .bl i) : d = .bl i := by
  cases d with
  | ref a => rw [vw_ref] at h; cases e : S a with
    | none => rw [e] at h; cases h
    | some o => rw [e] at h; cases o <;> cases h
  | _ => exact h
theorem tup_of {ds : List D} {v : V} (r : Rp cl S T H (.tup ds) v) : ∃ a xs, v = .ref a ∧ Rd H a (.tup xs) ∧ RpL cl S T H ds xs := by
  cases r with
  | tup h1 _ h2 rl => exact ⟨_, _, rfl, .inr ⟨_, h1⟩, rl⟩
theorem utup_of {ds : List D} {v : V} (r : Rp cl S T H (.utup ds) v) : ∃ a xs, v = .ref a ∧ Rd H a (.tup xs) ∧ RpL cl S T H ds xs := by
  cases r with
  | utup h1 h2 rl => exact ⟨_, _, rfl, .inl h1, rl⟩
theorem vw_utup {d : D} {ds : List D} (h : vw S d = .utup ds) : d = .utup ds := by
  cases d with
  | ref a => rw [vw_ref] at h; cases e : S a with
    | none => rw [e] at h; cases h
    | some o => rw [e] at h; cases o <;> cases h
  | _ => exact h
theorem int_of {i : Int} {v : V} (r : Rp cl S T H (.int i) v) : v = .int i := by cases r; rfl
theorem bl_of {i : Bool} {v : V} (r : Rp cl S T H (.bl i) v) : v = .bl i := by cases r; rfl
theorem str_of {i : Str} {v : V} (r : Rp cl S T H (.str i) v) : v = .str i ∧ okS i = true := by cases r with | str _ h => exact ⟨rfl, h⟩
theorem non_of {v : V} (r : Rp cl S T H .non v) : v = .non := by cases r; rfl
/-- a readable sequence -/
theorem items_of {K : PySem.W.Frag} {d : D} {v : V} {ds : List D} (m : Sm cl S T H) (r : Rp cl S T H d v) (h : itemsD S d = some ds) : ∃ a xs, v = .ref a ∧ (SqL K H a xs ∨ SqT K H a xs) ∧ RpL cl S T H ds xs := by
  unfold itemsD at h
  split at h
  · cases h
    rename_i e
    obtain ⟨a, xs, e1, e2, rl⟩ := vw_lst m r e
    exact ⟨a, xs, e1, .inl (SqL.of e2), rl⟩
  · cases h
    rename_i e
    obtain ⟨a, xs, e1, e2, rl⟩ := vw_fls r e
    exact ⟨a, xs, e1, .inl (.inl e2), rl⟩
  · cases h
    rename_i e
    obtain rfl := vw_tup e
    obtain ⟨a, xs, e1, e2, rl⟩ := tup_of r
    exact ⟨a, xs, e1, .inr (.inl e2), rl⟩
  · cases h
    rename_i e
    obtain rfl := vw_utup e
    obtain ⟨a, xs, e1, e2, rl⟩ := utup_of r
    exact ⟨a, xs, e1, .inr (.inl e2), rl⟩
  · cases h

/-! ### what is made -/
theorem finL_go {own : Bool} {ds : List D} {xs : List V} {Q : VK} (m : Sm cl S T H) (r : RpL cl S T H ds xs) (q : finL own ds S (kQ cl S T H Q)) : xs.length ≤ sizeLine ∧ ∀ p, H p = none → Q (.ref p) (upd H p (.lst xs)) := by
  obtain ⟨z, q⟩ := q
  refine ⟨by rw [← r.length]; exact z, fun p hp => ?_⟩
  split at q
  · exact q p (m.free hp) (.ref p) _ (Ex.newO hp) (m.newO hp (.lst r)) (.ref p)
  · exact q (.ref p) _ (Ex.newF hp) (m.newF hp) (.lst upd_same (m.fr hp) (r.ext (Ex.newF hp)))
/-- a tuple, known to its object -/
def KT (H : Hp) (p : Addr) (xs : List V) : Hp → Prop := fun H2 => ∃ ob : Obj, ob.dict = none ∧ H2 = upd H p (.frz ob (.tup xs))
theorem finT_go {ds : List D} {xs : List V} {Q : VK} (m : Sm cl S T H) (r : RpL cl S T H ds xs) (q : finT ds S (kQ cl S T H Q)) : xs.length ≤ sizeLine ∧ ∀ p H2, H p = none → KT H p xs H2 → Q (.ref p) H2 := by
  obtain ⟨z, q⟩ := q
  refine ⟨by rw [← r.length]; exact z, fun p H2 hp ⟨ob, h1, h2⟩ => ?_⟩
  subst h2
  exact q (.ref p) _ (Ex.newF hp) (m.newF hp) (.tup upd_same h1 (m.fr hp) (r.ext (Ex.newF hp)))
theorem kQ.here {Q : VK} {d : D} {v : V} (m : Sm cl S T H) (r : Rp cl S T H d v) (k : kQ cl S T H Q d S) : Q v H := k v H (Ex.refl S T H) m r
theorem RpL.append {ds es : List D} {xs ys : List V} : RpL cl S T H ds xs → RpL cl S T H es ys → RpL cl S T H (ds ++ es) (xs ++ ys)
  | .nil, r => r
  | .cons a b, r => .cons a (RpL.append b r)
theorem RpL.reverse {ds : List D} {xs : List V} (h : RpL cl S T H ds xs) : RpL cl S T H ds.reverse xs.reverse := by
  have go : ∀ {ds : List D} {xs : List V}, RpL cl S T H ds xs → RpL cl S T H ds.reverse xs.reverse := by
    intro ds
    induction ds with
    | nil => intro xs h; cases h; exact .nil
    | cons d ds ih =>
      intro xs h
      cases h with
      | cons a b =>
        rw [List.reverse_cons, List.reverse_cons]
        exact (ih b).append (.cons a .nil)
  exact go h
theorem RpL.drop : ∀ {ds : List D} {xs : List V} (n : Nat), RpL cl S T H ds xs → RpL cl S T H (ds.drop n) (xs.drop n)
  | _, _, 0, r => r
  | _, _, _ + 1, .nil => .nil
  | _, _, n + 1, .cons _ b => RpL.drop n b
theorem RpL.take : ∀ {ds : List D} {xs : List V} (n : Nat), RpL cl S T H ds xs → RpL cl S T H (ds.take n) (xs.take n)
  | _, _, 0, _ => .nil
  | _, _, _ + 1, .nil => .nil
  | _, _, n + 1, .cons a b => .cons a (RpL.take n b)
theorem RpL.get : ∀ {ds : List D} {xs : List V} {i : Nat} {d : D}, RpL cl S T H ds xs → ds[i]? = some d → ∃ x, xs[i]? = some x ∧ Rp cl S T H d x
  | _, _, _, _, .nil, e => by simp at e
  | _, _, 0, _, .cons a _, e => by simp at e; subst e; exact ⟨_, rfl, a⟩
  | _, _, i + 1, d, .cons _ b, e => by
    obtain ⟨x, h1, h2⟩ := RpL.get (i := i) (d := d) b (by simpa using e)
    exact ⟨x, by simpa using h1, h2⟩
theorem RpL.getV : ∀ {ds : List D} {xs : List V} {i : Nat} {x : V}, RpL cl S T H ds xs → xs[i]? = some x → ∃ d, ds[i]? = some d ∧ Rp cl S T H d x
  | _, _, _, _, .nil, e => by simp at e
  | _, _, 0, _, .cons a _, e => by simp at e; subst e; exact ⟨_, rfl, a⟩
  | _, _, i + 1, x, .cons _ b, e => by
    obtain ⟨d, h1, h2⟩ := RpL.getV (i := i) (x := x) b (by simpa using e)
    exact ⟨d, by simpa using h1, h2⟩
theorem RpL.set {d : D} {x : V} (r : Rp cl S T H d x) : ∀ {ds : List D} {xs : List V} (i : Nat), RpL cl S T H ds xs → RpL cl S T H (ds.set i d) (xs.set i x)
  | _, _, _, .nil => .nil
  | _, _, 0, .cons _ b => .cons r b
  | _, _, i + 1, .cons a b => .cons a (RpL.set r i b)
theorem RpL.eraseIdx : ∀ {ds : List D} {xs : List V} (i : Nat), RpL cl S T H ds xs → RpL cl S T H (ds.eraseIdx i) (xs.eraseIdx i)
  | _, _, _, .nil => .nil
  | _, _, 0, .cons _ b => b
  | _, _, i + 1, .cons a b => .cons a (RpL.eraseIdx i b)
theorem RpL.dropLast {ds : List D} {xs : List V} (r : RpL cl S T H ds xs) : RpL cl S T H ds.dropLast xs.dropLast := by
  rw [List.dropLast_eq_take, List.dropLast_eq_take, r.length]
  exact r.take _
theorem RpL.ints : ∀ {ds : List D} {xs : List V} {ns : List Int}, RpL cl S T H ds xs → intsD ds = some ns → xs = ns.map V.int
  | _, _, _, .nil, e => by simp [intsD] at e; subst e; rfl
  | .int i :: ds, _, ns, .cons a b, e => by
    simp only [intsD, Option.map_eq_some_iff] at e
    obtain ⟨ms, e1, rfl⟩ := e
    rw [RpL.ints b e1, int_of a]
    rfl
theorem RpL.bls : ∀ {ds : List D} {xs : List V} {ns : List Bool}, RpL cl S T H ds xs → blsD ds = some ns → xs = ns.map V.bl
  | _, _, _, .nil, e => by simp [blsD] at e; subst e; rfl
  | .bl i :: ds, _, ns, .cons a b, e => by
    simp only [blsD, Option.map_eq_some_iff] at e
    obtain ⟨ms, e1, rfl⟩ := e
    rw [RpL.bls b e1, bl_of a]
    rfl
theorem RpL.strs : ∀ {ds : List D} {xs : List V} {ns : List Str}, RpL cl S T H ds xs → strsD ds = some ns → xs = ns.map V.str ∧ ∀ z ∈ ns, okS z = true
  | _, _, _, .nil, e => by simp [strsD] at e; subst e; exact ⟨rfl, fun _ h => nomatch h⟩
  | .str i :: ds, _, ns, .cons a b, e => by
    simp only [strsD, Option.map_eq_some_iff] at e
    obtain ⟨ms, e1, rfl⟩ := e
    obtain ⟨h1, h2⟩ := RpL.strs b e1
    obtain ⟨h3, h4⟩ := str_of a
    refine ⟨by rw [h1, h3]; rfl, fun z hz => ?_⟩
    rcases List.mem_cons.mp hz with e | hz
    · rw [e]; exact h4
    · exact h2 z hz

/-! ### plain data as the library's data -/
mutual
theorem dp_of {K : PySem.W.Frag} : ∀ {n : Nat} {d : D} {v : V}, Rp cl S T H d v → Pl n d → Dp K H v (pyOf d)
  | _, _, _, .non, _ => by simp only [pyOf]; exact .non
  | _, _, _, .int i, _ => by simp only [pyOf]; exact .int i
  | _, _, _, .str x _, _ => by simp only [pyOf]; exact .str x
  | n + 1, _, _, .tup h _ _ r, p => by simp only [pyOf]; exact .tup (.inl (.inr ⟨_, h⟩)) (dpAll_of r p)
  | n + 1, _, _, .lst h _ r, p => by simp only [pyOf]; exact .lst (SqL.of h) (dpAll_of r p)
  | 0, _, _, .tup _ _ _ _, p => p.elim
  | 0, _, _, .utup _ _ _, p => p.elim
  | n + 1, _, _, .utup _ _ _, p => p.elim
  | 0, _, _, .lst _ _ _, p => p.elim
  | 0, _, _, .bl _, p => p.elim
  | n + 1, _, _, .bl _, p => p.elim
  | 0, _, _, .ref _, p => p.elim
  | n + 1, _, _, .ref _, p => p.elim
  | 0, _, _, .fls _ _ _, p => p.elim
  | n + 1, _, _, .fls _ _ _, p => p.elim
  | 0, _, _, .dk _ _ _, p => p.elim
  | n + 1, _, _, .dk _ _ _, p => p.elim
  | 0, _, _, .dt _ _ _ _, p => p.elim
  | n + 1, _, _, .dt _ _ _ _, p => p.elim
  | 0, _, _, .ins _ _ _ _, p => p.elim
  | n + 1, _, _, .ins _ _ _ _, p => p.elim
theorem dpAll_of {K : PySem.W.Frag} : ∀ {n : Nat} {ds : List D} {xs : List V}, RpL cl S T H ds xs → (∀ d ∈ ds, Pl n d) → DpAll K H xs (pyAll ds)
  | _, _, _, .nil, _ => by simp only [pyAll]; exact .nil
  | _, _, _, .cons a b, p => by simp only [pyAll]; exact .cons (dp_of a (p _ (List.mem_cons_self ..))) (dpAll_of b fun d hd => p d (List.mem_cons_of_mem _ hd))
end
theorem okS_strOk {x : Str} (h : okS x = true) : PyData.strOk x = true := by
  unfold okS at h
  unfold PyData.strOk
  rw [List.all_eq_true] at h
  rw [Array.all_eq_true']
  intro c hc
  have := h c (Array.mem_toList_iff.mpr hc)
  simp only [decide_eq_true_eq] at this ⊢
  omega
mutual
theorem lay_of : ∀ {n : Nat} {d : D} {v : V}, Rp cl S T H d v → Pl n d → (pyOf d).canLay0 = true ∧ (pyOf d).depth ≤ n
  | n, _, _, .non, _ => by simp [pyOf, PyData.canLay0, PyData.depth]
  | n, _, _, .int i, _ => by simp [pyOf, PyData.canLay0, PyData.depth]
  | n, _, _, .str x h, _ => by simp [pyOf, PyData.canLay0, PyData.depth, okS_strOk h]
  | n + 1, _, _, .tup h _ _ r, p => by
    have := layAll_of r p
    simp only [pyOf, PyData.canLay0, PyData.depth]
    exact ⟨this.1, by omega⟩
  | n + 1, _, _, .lst h _ r, p => by
    have := layAll_of r p
    simp only [pyOf, PyData.canLay0, PyData.depth]
    exact ⟨this.1, by omega⟩
  | 0, _, _, .tup _ _ _ _, p => p.elim
  | 0, _, _, .utup _ _ _, p => p.elim
  | n + 1, _, _, .utup _ _ _, p => p.elim
  | 0, _, _, .lst _ _ _, p => p.elim
  | 0, _, _, .bl _, p => p.elim
  | n + 1, _, _, .bl _, p => p.elim
  | 0, _, _, .ref _, p => p.elim
  | n + 1, _, _, .ref _, p => p.elim
  | 0, _, _, .fls _ _ _, p => p.elim
  | n + 1, _, _, .fls _ _ _, p => p.elim
  | 0, _, _, .dk _ _ _, p => p.elim
  | n + 1, _, _, .dk _ _ _, p => p.elim
  | 0, _, _, .dt _ _ _ _, p => p.elim
  | n + 1, _, _, .dt _ _ _ _, p => p.elim
  | 0, _, _, .ins _ _ _ _, p => p.elim
  | n + 1, _, _, .ins _ _ _ _, p => p.elim
theorem layAll_of : ∀ {n : Nat} {ds : List D} {xs : List V}, RpL cl S T H ds xs → (∀ d ∈ ds, Pl n d) → PyData.canLayAll0 (pyAll ds) = true ∧ PyData.depthAll (pyAll ds) ≤ n
  | _, _, _, .nil, _ => by simp [pyAll, PyData.canLayAll0, PyData.depthAll]
  | _, _, _, .cons a b, p => by
    have h1 := lay_of a (p _ (List.mem_cons_self ..))
    have h2 := layAll_of b fun d hd => p d (List.mem_cons_of_mem _ hd)
    simp only [pyAll, PyData.canLayAll0, PyData.depthAll, Bool.and_eq_true]
    exact ⟨⟨h1.1, h2.1⟩, by omega⟩
end
theorem Pl.mono : ∀ {n m : Nat} {d : D}, n ≤ m → Pl n d → Pl m d
  | n, m, .non, _, _ => by cases m <;> trivial
  | n, m, .int _, _, _ => by cases m <;> trivial
  | n, m, .str _, _, _ => by cases m <;> trivial
  | n + 1, m + 1, .tup ds, h, p => fun d hd => Pl.mono (by omega) (p d hd)
  | n + 1, m + 1, .lst ds, h, p => fun d hd => Pl.mono (by omega) (p d hd)
  | n + 1, 0, _, h, _ => by omega
  | 0, _, .tup ds, h, p => p.elim
  | 0, _, .lst ds, h, p => p.elim
  | 0, _, .utup _, _, p => p.elim
  | n + 1, _, .utup _, _, p => p.elim
  | 0, _, .bl _, _, p => p.elim
  | n + 1, _, .bl _, _, p => p.elim
  | 0, _, .ref _, _, p => p.elim
  | n + 1, _, .ref _, _, p => p.elim
  | 0, _, .fls _, _, p => p.elim
  | n + 1, _, .fls _, _, p => p.elim
  | 0, _, .dic _ _, _, p => p.elim
  | n + 1, _, .dic _ _, _, p => p.elim
  | 0, _, .ins _ _, _, p => p.elim
  | n + 1, _, .ins _ _, _, p => p.elim
/-- a view of plain data -/
theorem dp_vw {K : PySem.W.Frag} {n : Nat} {d : D} {v : V} (m : Sm cl S T H) (r : Rp cl S T H d v) (p : Pl n (vw S d)) : Dp K H v (pyOf (vw S d)) ∧ (pyOf (vw S d)).canLay0 = true ∧ (pyOf (vw S d)).depth ≤ n := by
  cases e : vw S d with
  | lst ds =>
    rw [e] at p
    obtain ⟨a, xs, rfl, h, rl⟩ := vw_lst m r e
    cases n with
    | zero => exact p.elim
    | succ n =>
      have l := layAll_of rl p
      simp only [pyOf, PyData.canLay0, PyData.depth]
      exact ⟨.lst (SqL.of h) (dpAll_of rl p), l.1, by omega⟩
  | tup ds =>
    rw [e] at p
    obtain rfl := vw_tup e
    exact ⟨dp_of r p, lay_of r p⟩
  | int i => obtain rfl := vw_int e; rw [e] at p; exact ⟨dp_of r p, lay_of r p⟩
  | str i => obtain rfl := vw_str e; rw [e] at p; exact ⟨dp_of r p, lay_of r p⟩
  | non =>
    have hd : d = .non := by
      cases d with
      | ref a => rw [vw_ref] at e; cases q : S a with
        | none => rw [q] at e; cases e
        | some o => rw [q] at e; cases o <;> cases e
      | _ => exact e
    subst hd
    exact ⟨dp_of (n := n) r (by cases n <;> trivial), lay_of r (by cases n <;> trivial)⟩
  | _ => rw [e] at p; cases n <;> exact p.elim
theorem shaped_of {d : PyData} {n : Nat} (h : d.canLay0 = true ∧ d.depth ≤ n) (hn : n ≤ 64) : SeqAt.shaped d = true := by
  unfold SeqAt.shaped
  rw [Bool.and_eq_true]
  exact ⟨h.1, decide_eq_true (by omega)⟩
mutual
theorem eqv_of : ∀ (n m : Nat) (d e : D), Pl n d → Pl m e → PyData.eqv (pyOf d) (pyOf e) = decide (d = e)
  | n, m, .non, .non, _, _ => by simp [pyOf, PyData.eqv]
  | n, m, .non, .int _, _, _ => by simp [pyOf, PyData.eqv]
  | n, m, .non, .str _, _, _ => by simp [pyOf, PyData.eqv]
  | n, m, .non, .tup _, _, _ => by simp [pyOf, PyData.eqv]
  | n, m, .non, .lst _, _, _ => by simp [pyOf, PyData.eqv]
  | n, m, .int _, .non, _, _ => by simp [pyOf, PyData.eqv]
  | n, m, .int i, .int j, _, _ => by
    simp only [pyOf, PyData.eqv, D.int.injEq]
    by_cases h : i = j <;> simp [h]
  | n, m, .int _, .str _, _, _ => by simp [pyOf, PyData.eqv]
  | n, m, .int _, .tup _, _, _ => by simp [pyOf, PyData.eqv]
  | n, m, .int _, .lst _, _, _ => by simp [pyOf, PyData.eqv]
  | n, m, .str _, .non, _, _ => by simp [pyOf, PyData.eqv]
  | n, m, .str _, .int _, _, _ => by simp [pyOf, PyData.eqv]
  | n, m, .str i, .str j, _, _ => by
    simp only [pyOf, PyData.eqv, D.str.injEq]
    by_cases h : i = j <;> simp [h]
  | n, m, .str _, .tup _, _, _ => by simp [pyOf, PyData.eqv]
  | n, m, .str _, .lst _, _, _ => by simp [pyOf, PyData.eqv]
  | n, m, .tup _, .non, _, _ => by simp [pyOf, PyData.eqv]
  | n, m, .tup _, .int _, _, _ => by simp [pyOf, PyData.eqv]
  | n, m, .tup _, .str _, _, _ => by simp [pyOf, PyData.eqv]
  | n + 1, m + 1, .tup ds, .tup es, p, q => by
    simp only [pyOf, PyData.eqv, D.tup.injEq]
    exact eqvAll_of n m ds es p q
  | n, m, .tup _, .lst _, _, _ => by simp [pyOf, PyData.eqv]
  | n, m, .lst _, .non, _, _ => by simp [pyOf, PyData.eqv]
  | n, m, .lst _, .int _, _, _ => by simp [pyOf, PyData.eqv]
  | n, m, .lst _, .str _, _, _ => by simp [pyOf, PyData.eqv]
  | n, m, .lst _, .tup _, _, _ => by simp [pyOf, PyData.eqv]
  | n + 1, m + 1, .lst ds, .lst es, p, q => by
    simp only [pyOf, PyData.eqv, D.lst.injEq]
    exact eqvAll_of n m ds es p q
  | 0, _, .tup _, .tup _, p, _ => p.elim
  | _ + 1, 0, .tup _, .tup _, _, p => p.elim
  | 0, _, .lst _, .lst _, p, _ => p.elim
  | _ + 1, 0, .lst _, .lst _, _, p => p.elim
  | n, m, .bl _, _, p, _ => by cases n <;> exact p.elim
  | n, m, .utup _, _, p, _ => by cases n <;> exact p.elim
  | n, m, .ref _, _, p, _ => by cases n <;> exact p.elim
  | n, m, .fls _, _, p, _ => by cases n <;> exact p.elim
  | n, m, .dic _ _, _, p, _ => by cases n <;> exact p.elim
  | n, m, .ins _ _, _, p, _ => by cases n <;> exact p.elim
  | n, m, _, .bl _, _, p => by cases m <;> exact p.elim
  | n, m, _, .utup _, _, p => by cases m <;> exact p.elim
  | n, m, _, .ref _, _, p => by cases m <;> exact p.elim
  | n, m, _, .fls _, _, p => by cases m <;> exact p.elim
  | n, m, _, .dic _ _, _, p => by cases m <;> exact p.elim
  | n, m, _, .ins _ _, _, p => by cases m <;> exact p.elim
theorem eqvAll_of : ∀ (n m : Nat) (ds es : List D), (∀ d ∈ ds, Pl n d) → (∀ d ∈ es, Pl m d) → PyData.eqvAll (pyAll ds) (pyAll es) = decide (ds = es)
  | n, m, [], [], _, _ => by simp [pyAll, PyData.eqvAll]
  | n, m, [], _ :: _, _, _ => by simp [pyAll, PyData.eqvAll]
  | n, m, _ :: _, [], _, _ => by simp [pyAll, PyData.eqvAll]
  | n, m, d :: ds, e :: es, p, q => by
    simp only [pyAll, PyData.eqvAll, List.cons.injEq]
    rw [eqv_of n m d e (p _ (List.mem_cons_self ..)) (q _ (List.mem_cons_self ..)), eqvAll_of n m ds es (fun d hd => p d (List.mem_cons_of_mem _ hd)) (fun d hd => q d (List.mem_cons_of_mem _ hd))]
    by_cases h1 : d = e <;> by_cases h2 : ds = es <;> simp [h1, h2]
end
end Dz
/-! Dz6: operators and comparisons, by values. -/
namespace Dz
open PySem PySem.Spec PyProof.Rows L2

/-- what is asked of the context throughout -/
structure XC (cl : CL) (X : Cx) : Prop where
  hs : cl.hs = (tupleKind (mixKind X.prog X.w)).hash
  calm : X.calm = true
  room : Room 0 X.A
  guards : X.A.guards = some []
  nd : X.N.Nodup
  own : PassesOwn (model X.prog X.w) X.A X.env X.xe
variable {cl : CL} {X : Cx}
/-- a tuple is laid, known to its object -/
theorem kt_lay {pins : List (Addr × Obj)} {σ : L2.St} {s : Shared} {H : Hp} {xs : List V} {its : List Value} {Q : VK} (I : Inv X pins σ H s) (hz : xs.length ≤ sizeLine) (r : Vals xs its) (q : ∀ p H2, H p = none → KT H p xs H2 → Q (.ref p) H2) :
    EP X pins σ Q (.ref s.heap.objs.size) { s with heap := s.heap.push { cls := .type "tuple", data := .seq its.toArray } } := by
  refine ⟨.ref s.heap.objs.size, _, I.laid (t' := s.toks) (o := .frz { cls := .type "tuple", data := .seq its.toArray } (.tup xs)) (fun b ob q => Heap.get?_push_of_some _ q) (Nat.le_refl _) ?_, rfl, q _ _ (I.hok.fresh (Nat.le_refl _)) ⟨_, rfl, rfl⟩⟩
  exact ⟨Heap.get?_push_size _ rfl, hz, its, r, ⟨_, Heap.get?_push_size _ rfl, rfl, _, rfl⟩⟩
/-- two data in a row, by values -/
def r2 (cl : CL) (f : D → D → Sto → DK → Prop) : R2 := fun x y H Q => ∃ d e S T, Sm cl S T H ∧ Rp cl S T H d x ∧ Rp cl S T H e y ∧ f d e S (kQ cl S T H Q)
theorem pow_wide {prog : Program} {w : World} {A : Around} {E : Value → Shared → Prop} {s : Shared} {a b : Int} {t u : Tok} {Q : Value → Shared → Prop} (h1 : 1 < a) (h2 : 0 < b) (h3 : b ≤ 100) (h4 : a.natAbs.log2 < 10000)
    (h : Q (.int (a ^ b.toNat) s.toks) { s with toks := s.toks + 1 }) : wpAny (model prog w) A (binaryOp .Pow (.int a t) (.int b u)) Q E s := by
  refine AutoIntOps.pow_4 (by omega) (by simp; omega) (by simp; omega) (by simp; omega) ?_ ?_
  · have hb : Builtin.Int.intBits a ≤ a.natAbs.log2 + 1 := by
      unfold Builtin.Int.intBits
      split <;> omega
    have e : bitsLine = 134217728 := by decide
    unfold Builtin.Int.intTooBig
    intro z
    have z3 := of_decide_eq_true z
    rw [e] at z3
    have h5 : ((Builtin.Int.intBits a : Nat) : Int) * b ≤ 10001 * 100 := by
      refine Int.le_trans (Int.mul_le_mul_of_nonneg_left h3 (by omega)) ?_
      exact Int.mul_le_mul_of_nonneg_right (by omega) (by omega)
    omega
  · exact h
theorem bin_ok (op : Operator) (own : Bool) : OpR X (binaryOp op) (r2 cl (wBin op own)) := by
  intro pins s σ H x y v u Q I rx ry h
  obtain ⟨d, e, S, T, m, rd, re, q⟩ := h
  unfold wBin at q
  split at q
  · rename_i h1 h2
    obtain rfl := vw_int h1; obtain rfl := vw_int h2
    obtain rfl := int_of rd; obtain rfl := int_of re
    exact op_add pins s σ H _ _ v u Q I rx ry ⟨_, _, rfl, rfl, q.here m (.int _)⟩
  · rename_i h1 h2
    obtain rfl := vw_str h1; obtain rfl := vw_str h2
    obtain ⟨rfl, k1⟩ := str_of rd; obtain ⟨rfl, k2⟩ := str_of re
    refine op_add_str pins s σ H _ _ v u Q I rx ry ⟨_, _, rfl, rfl, q.1, q.2.here m (.str _ ?_)⟩
    unfold okS at k1 k2 ⊢
    rename_i i j
    have : (i ++ j).cps.toList = i.cps.toList ++ j.cps.toList := by
      show (i.cps ++ j.cps).toList = _
      simp
    rw [this, List.all_append, k1, k2]
    rfl
  · rename_i h1 h2
    obtain ⟨a, xs, rfl, ea, ra⟩ := vw_lst m rd h1
    obtain ⟨b, ys, rfl, eb, rb⟩ := vw_lst m re h2
    have g := finL_go m (ra.append rb) q
    exact op_cat pins s σ H _ _ v u Q I rx ry ⟨a, b, xs, ys, rfl, rfl, ea, eb, by have := g.1; rw [List.length_append] at this; exact this, g.2⟩
  · rename_i h1 h2
    obtain rfl := vw_tup h1; obtain rfl := vw_tup h2
    obtain ⟨a, xs, rfl, ea, ra⟩ := tup_of rd
    obtain ⟨b, ys, rfl, eb, rb⟩ := tup_of re
    have g := finT_go m (ra.append rb) q
    have hz : xs.length + ys.length ≤ sizeLine := by have := g.1; rw [List.length_append] at this; exact this
    cases rx
    cases ry
    obtain ⟨its, r1, p1, _⟩ := I.tuple (show SqT X.K H a xs from .inl ea)
    obtain ⟨its2, r2, p2, _⟩ := I.tuple (show SqT X.K H b ys from .inl eb)
    by_cases hx : xs = []
    · subst hx
      cases ra
      cases r1
      exact cat_tup0 p1 p2 ⟨.ref b, H, I, rfl, q.2.here m re⟩
    · refine HT.cat_tup p1 p2 (fun z => hx (r1.nil_iff.mp z)) (fun z => ⟨.ref a, H, I, rfl, ?_⟩) (fun z => ?_) (by rw [← r1.length, ← r2.length]; exact hz)
      · have := r2.nil_iff.mp z
        subst this
        cases rb
        rw [List.append_nil] at q
        exact q.2.here m rd
      · exact kt_lay I g.1 (r1.append r2) g.2
  · rename_i h1 h2
    obtain rfl := vw_int h1; obtain rfl := vw_int h2
    obtain rfl := int_of rd; obtain rfl := int_of re
    exact op_sub pins s σ H _ _ v u Q I rx ry ⟨_, _, rfl, rfl, q.here m (.int _)⟩
  · rename_i h1 h2
    obtain rfl := vw_int h1; obtain rfl := vw_int h2
    obtain rfl := int_of rd; obtain rfl := int_of re
    exact op_mulW pins s σ H _ _ v u Q I rx ry ⟨_, _, rfl, rfl, q.1, q.2.here m (.int _)⟩
  · rename_i h1 h2
    obtain rfl := vw_int h1; obtain rfl := vw_int h2
    obtain rfl := int_of rd; obtain rfl := int_of re
    exact op_mod pins s σ H _ _ v u Q I rx ry ⟨_, _, rfl, rfl, q.1, q.2.here m (.int _)⟩
  · rename_i h1 h2
    obtain rfl := vw_int h1; obtain rfl := vw_int h2
    obtain rfl := int_of rd; obtain rfl := int_of re
    exact op_fdivW pins s σ H _ _ v u Q I rx ry ⟨_, _, rfl, rfl, q.1, q.2.here m (.int _)⟩
  · rename_i h1 h2
    obtain rfl := vw_int h1; obtain rfl := vw_int h2
    obtain rfl := int_of rd; obtain rfl := int_of re
    obtain ⟨t, rfl⟩ := rx
    obtain ⟨t', rfl⟩ := ry
    exact pow_wide q.1.1 q.1.2.1 q.1.2.2.1 q.1.2.2.2 ⟨.int _, H, I.tok _, ⟨_, rfl⟩, q.2.here m (.int _)⟩
  · exact q.elim

/-! ### comparisons -/
theorem vwD {S : Sto} {T H : Hp} {K : PySem.W.Frag} {d : D} {v : V} {n : Nat} (m : Sm cl S T H) (r : Rp cl S T H d v) (p : Pl n (vw S d)) (hn : n ≤ 64) : Dp K H v (pyOf (vw S d)) ∧ SeqAt.shaped (pyOf (vw S d)) = true :=
  let ⟨a, b⟩ := dp_vw (K := K) m r p; ⟨a, shaped_of b hn⟩
def rB (cl : CL) (f : D → D → Sto → (Bool → Prop) → Prop) : R2 := fun x y H Q => ∃ d e S T, Sm cl S T H ∧ Rp cl S T H d x ∧ Rp cl S T H e y ∧ f d e S fun k => kQ cl S T H Q (.bl k) S
theorem eq_ok (hc : XC cl X) : OpR X (compareOp .Eq) (rB cl (wCmp .Eq)) := by
  intro pins s σ H x y v u Q I rx ry h
  obtain ⟨d, e, S, T, m, rd, re, q⟩ := h
  have hu := hc.room.units
  simp only [wCmp] at q
  unfold eqD at q
  split at q
  · rename_i i j h1 h2
    obtain rfl := vw_bl h1; obtain rfl := vw_bl h2
    obtain rfl := bl_of rd; obtain rfl := bl_of re
    refine op_eqD hu pins s σ H _ _ v u Q I rx ry ⟨.bool i, .bool j, .bl _, .bl _, by rfl, by rfl, ?_⟩
    have : PyData.eqv (.bool i) (.bool j) = decide (i = j) := by cases i <;> cases j <;> simp [PyData.eqv]
    rw [this]
    exact q.here m (.bl _)
  · obtain ⟨p1, p2, q⟩ := q
    have g1 := vwD (K := X.K) m rd p1 (by decide)
    have g2 := vwD (K := X.K) m re p2 (by decide)
    refine op_eqD hu pins s σ H _ _ v u Q I rx ry ⟨_, _, g1.1, g2.1, g1.2, g2.2, ?_⟩
    rw [eqv_of 6 6 _ _ p1 p2]
    exact q.here m (.bl _)
theorem ne_ok (hc : XC cl X) : OpR X (compareOp .NotEq) (rB cl (wCmp .NotEq)) := by
  intro pins s σ H x y v u Q I rx ry h
  obtain ⟨d, e, S, T, m, rd, re, q⟩ := h
  have hu := hc.room.units
  simp only [wCmp] at q
  unfold eqD at q
  split at q
  · rename_i i j h1 h2
    obtain rfl := vw_bl h1; obtain rfl := vw_bl h2
    obtain rfl := bl_of rd; obtain rfl := bl_of re
    refine op_neD hu pins s σ H _ _ v u Q I rx ry ⟨.bool i, .bool j, .bl _, .bl _, by rfl, by rfl, ?_⟩
    have : PyData.eqv (.bool i) (.bool j) = decide (i = j) := by cases i <;> cases j <;> simp [PyData.eqv]
    rw [this]
    exact q.here m (.bl _)
  · obtain ⟨p1, p2, q⟩ := q
    have g1 := vwD (K := X.K) m rd p1 (by decide)
    have g2 := vwD (K := X.K) m re p2 (by decide)
    refine op_neD hu pins s σ H _ _ v u Q I rx ry ⟨_, _, g1.1, g2.1, g1.2, g2.2, ?_⟩
    rw [eqv_of 6 6 _ _ p1 p2]
    exact q.here m (.bl _)
theorem pyOf_non : ∀ {n : Nat} {d : D}, Pl n d → d ≠ .non → pyOf d ≠ .none
  | _, .non, _, h => absurd rfl h
  | _, .int _, _, _ => by simp [pyOf]
  | _, .str _, _, _ => by simp [pyOf]
  | _, .tup _, _, _ => by simp [pyOf]
  | _, .lst _, _, _ => by simp [pyOf]
  | n, .bl _, p, _ => by cases n <;> exact p.elim
  | n, .utup _, p, _ => by cases n <;> exact p.elim
  | n, .ref _, p, _ => by cases n <;> exact p.elim
  | n, .fls _, p, _ => by cases n <;> exact p.elim
  | n, .dic _ _, p, _ => by cases n <;> exact p.elim
  | n, .ins _ _, p, _ => by cases n <;> exact p.elim
theorem lt_ok (hc : XC cl X) : OpR X (compareOp .Lt) (rB cl (wCmp .Lt)) := by
  intro pins s σ H x y v u Q I rx ry h
  obtain ⟨d, e, S, T, m, rd, re, q⟩ := h
  have hu := hc.room.units
  simp only [wCmp] at q
  unfold ltD at q
  split at q
  · rename_i i j h1 h2
    obtain rfl := vw_int h1; obtain rfl := vw_int h2
    obtain rfl := int_of rd; obtain rfl := int_of re
    exact op_lt pins s σ H _ _ v u Q I rx ry ⟨_, _, rfl, rfl, q.here m (.bl _)⟩
  · obtain ⟨p1, p2, nn, al, q⟩ := q
    obtain ⟨g1, l1, l1'⟩ := dp_vw (K := X.K) m rd p1
    obtain ⟨g2, l2, l2'⟩ := dp_vw (K := X.K) m re p2
    obtain ⟨as, w1⟩ := Dp.reads I _ _ _ g1 rx
    obtain ⟨bs, w2⟩ := Dp.reads I _ _ _ g2 ry
    exact PySem.W.lt_data w1 w2 al (pyOf_non p1 nn) (by omega) ⟨.bl _, H, I, rfl, q.here m (.bl _)⟩
theorem gt_ok : OpR X (compareOp .Gt) (rB cl (wCmp .Gt)) := by
  intro pins s σ H x y v u Q I rx ry h
  obtain ⟨d, e, S, T, m, rd, re, i, j, rfl, rfl, q⟩ := h
  obtain rfl := int_of rd; obtain rfl := int_of re
  exact op_gt pins s σ H _ _ v u Q I rx ry ⟨_, _, rfl, rfl, q.here m (.bl _)⟩
theorem le_ok : OpR X (compareOp .LtE) (rB cl (wCmp .LtE)) := by
  intro pins s σ H x y v u Q I rx ry h
  obtain ⟨d, e, S, T, m, rd, re, i, j, rfl, rfl, q⟩ := h
  obtain rfl := int_of rd; obtain rfl := int_of re
  exact op_le pins s σ H _ _ v u Q I rx ry ⟨_, _, rfl, rfl, q.here m (.bl _)⟩
theorem ge_ok : OpR X (compareOp .GtE) (rB cl (wCmp .GtE)) := by
  intro pins s σ H x y v u Q I rx ry h
  obtain ⟨d, e, S, T, m, rd, re, i, j, rfl, rfl, q⟩ := h
  obtain rfl := int_of rd; obtain rfl := int_of re
  exact op_ge pins s σ H _ _ v u Q I rx ry ⟨_, _, rfl, rfl, q.here m (.bl _)⟩
/-- None is told by its value -/
theorem non_iff {S : Sto} {T H : Hp} {d : D} {v : V} (r : Rp cl S T H d v) : decide (d = D.non) = decide (v = V.non) := by
  cases r <;> simp
theorem is_ok : OpR X (compareOp .Is) (rB cl (wCmp .Is)) := by
  intro pins s σ H x y v u Q I rx ry h
  obtain ⟨d, e, S, T, m, rd, re, (⟨rfl, q⟩ | ⟨i, j, rfl, rfl, q⟩)⟩ := h
  · obtain rfl := non_of re
    cases ry
    rw [non_iff rd] at q
    exact is_none_gen ⟨.bl _, H, I, by rw [rx.none_iff]; rfl, q.here m (.bl _)⟩
  · obtain rfl := bl_of rd; obtain rfl := bl_of re
    exact op_isBl pins s σ H _ _ v u Q I rx ry ⟨i, j, rfl, rfl, q.here m (.bl _)⟩
theorem isnot_ok : OpR X (compareOp .IsNot) (rB cl (wCmp .IsNot)) := by
  intro pins s σ H x y v u Q I rx ry h
  obtain ⟨d, e, S, T, m, rd, re, (⟨rfl, q⟩ | ⟨i, j, rfl, rfl, q⟩)⟩ := h
  · obtain rfl := non_of re
    cases ry
    rw [non_iff rd] at q
    exact isnot_none_gen ⟨.bl _, H, I, by rw [rx.none_iff]; rfl, q.here m (.bl _)⟩
  · obtain rfl := bl_of rd; obtain rfl := bl_of re
    exact op_notBl pins s σ H _ _ v u Q I rx ry ⟨i, j, rfl, rfl, q.here m (.bl _)⟩
end Dz
/-! Dz7: dicts, membership, items, slices, stores. -/
namespace Dz
open PySem PySem.Spec PyProof.Rows L2

variable {cl : CL} {X : Cx} {S : Sto} {T H : Hp}
theorem kD_inj {a b : Key} (h : kD a = kD b) : a = b := by
  cases a <;> cases b <;> simp [kD] at h <;> rw [h]
theorem kDs_inj : ∀ {a b : List Key}, a.map kD = b.map kD → a = b
  | [], [], _ => rfl
  | [], _ :: _, h => by simp at h
  | _ :: _, [], h => by simp at h
  | x :: xs, y :: ys, h => by
    rw [List.map_cons, List.map_cons, List.cons.injEq] at h
    rw [kD_inj h.1, kDs_inj h.2]
theorem key1_of {d : D} {v : V} (h : isKey1 d = true) (r : Rp cl S T H d v) : ∃ k, d = kD k ∧ v = kV k ∧ okK k = true := by
  cases r with
  | int i => exact ⟨.inl i, rfl, rfl, rfl⟩
  | str x hx => exact ⟨.inr x, rfl, rfl, hx⟩
  | _ => simp [isKey1] at h
theorem keys_of : ∀ {ds : List D} {vs : List V}, ds.all isKey1 = true → RpL cl S T H ds vs → ∃ ks : List Key, ds = ks.map kD ∧ vs = ks.map kV ∧ ks.all okK = true
  | _, _, _, .nil => ⟨[], rfl, rfl, rfl⟩
  | _, _, h, .cons a b => by
    rw [List.all_cons, Bool.and_eq_true] at h
    obtain ⟨k, e1, e2, e3⟩ := key1_of h.1 a
    obtain ⟨ks, e4, e5, e6⟩ := keys_of h.2 b
    refine ⟨k :: ks, by rw [e1, e4]; rfl, by rw [e2, e5]; rfl, ?_⟩
    rw [List.all_cons, e3, e6]
    rfl
theorem keyF_of {d : D} {v : V} (h : isKey false d = true) (r : Rp cl S T H d v) : ∃ k, d = kD k ∧ v = kV k ∧ okK k = true := by
  refine key1_of ?_ r
  cases r <;> first | rfl | (simp [isKey] at h)
theorem keyT_of {d : D} {v : V} (h : isKey true d = true) (r : Rp cl S T H d v) : ∃ (ks : List Key) (b : Addr) (ob : Obj), d = .tup (ks.map kD) ∧ v = .ref b ∧ H b = some (.frz ob (.tup (ks.map kV))) ∧ ob.dict = none ∧ Fr S T b ∧ ks.all okK = true := by
  cases r with
  | tup h1 h0 h2 rl =>
    simp only [isKey, Bool.true_and] at h
    obtain ⟨ks, e1, e2, e3⟩ := keys_of h rl
    subst e1 e2
    exact ⟨ks, _, _, rfl, rfl, h1, h0, h2, e3⟩
  | _ => simp [isKey] at h
theorem lookD_nil {k : D} : lookD [] k = none := rfl
theorem lookD_cons {a w k : D} {r : List (D × D)} : lookD ((a, w) :: r) k = if a = k then some w else lookD r k := by
  unfold lookD
  rw [List.find?_cons]
  by_cases h : a = k
  · simp [h]
  · simp [h]
theorem lookK : ∀ {ds : List (D × D)} {kvs : List (Key × V)} (k : Key), RpK cl S T H ds kvs → (lookD ds (kD k) = none ∧ valV kvs k = none) ∨ ∃ d v, lookD ds (kD k) = some d ∧ valV kvs k = some v ∧ Rp cl S T H d v
  | _, _, k, .nil => .inl ⟨rfl, rfl⟩
  | _, _, k, .cons (k := j) o a b => by
    rw [lookD_cons]
    by_cases h : j = k
    · subst h
      exact .inr ⟨_, _, if_pos rfl, valV_pos rfl, a⟩
    · rw [if_neg (fun e => h (kD_inj e)), valV_neg h]
      exact lookK k b
theorem key_ofF {P : Program} {w : World} {h : Heap} {b : Addr} {ob : Obj} {k : List Key} (x : HOk P w H h) (e : H b = some (.frz ob (.tup (k.map kV)))) : (tupleKind (mixKind P w)).is h k b := by
  obtain ⟨_, _, its, r, o, h1, h2, n, h3⟩ := x b _ e
  exact ⟨o, its.toArray, n, h1, h2, h3, by simpa using items_are r⟩
/-- a dict that is read -/
theorem vw_dic {d : D} {v : V} {ds : List (D × D)} (m : Sm cl S T H) (r : Rp cl S T H d v) (h : vw S d = .dic false ds) :
    ∃ a, v = .ref a ∧ ∃ kvs, Rd H a (.dK kvs) ∧ RpK cl S T H ds kvs := by
  cases r with
  | ref a =>
    rw [vw_ref] at h
    cases e : S a with
    | none => rw [e] at h; cases h
    | some o =>
      rw [e] at h
      obtain ⟨u, hu, ro⟩ := m.ob a o e
      cases ro with
      | dk rl => cases h; exact ⟨a, rfl, _, .inl hu, rl⟩
      | lst rl => cases h
      | ins c rl => cases h
  | dk h1 h2 rl => cases h; exact ⟨_, rfl, _, h1, rl⟩
  | _ => cases h
theorem vw_dt {d : D} {ds : List (D × D)} (h : vw S d = .dic true ds) : d = .dic true ds := by
  cases d with
  | ref a => rw [vw_ref] at h; cases e : S a with
    | none => rw [e] at h; cases h
    | some o => rw [e] at h; cases o <;> cases h
  | _ => exact h
theorem dget_of {d i : D} {v vi : V} {ds : List (D × D)} (m : Sm cl S T H) (r : Rp cl S T H d v) (h : vw S d = .dic false ds) (hk : isKey false i = true) (ri : Rp cl S T H i vi) :
    ∃ a o, v = .ref a ∧ DGet H a vi o ∧ ((lookD ds i = none ∧ o = none) ∨ ∃ w u, lookD ds i = some w ∧ o = some u ∧ Rp cl S T H w u) := by
  obtain ⟨a, rfl, kvs, e, rk⟩ := vw_dic m r h
  obtain ⟨k, rfl, rfl, _⟩ := keyF_of hk ri
  refine ⟨a, valV kvs k, rfl, .inl ⟨kvs, k, e, rfl, rfl⟩, ?_⟩
  rcases lookK k rk with ⟨h1, h2⟩ | ⟨w, u, h1, h2, h3⟩
  · exact .inl ⟨h1, h2⟩
  · exact .inr ⟨w, u, h1, h2, h3⟩

/-! ### membership -/
theorem any_of {n : Nat} {d : D} (p : Pl n d) : ∀ (ds : List D), (∀ y ∈ ds, Pl 5 y) → ((pyAll ds).any fun z => PyData.eqv z (pyOf d)) = decide (d ∈ ds)
  | [], _ => by simp [pyAll]
  | y :: ys, q => by
    simp only [pyAll, List.any_cons]
    rw [eqv_of 5 n y d (q _ (List.mem_cons_self ..)) p, any_of p ys fun z hz => q z (List.mem_cons_of_mem _ hz)]
    by_cases h1 : y = d
    · subst h1; simp
    · by_cases h2 : d ∈ ys
      · simp [h2]
      · have h3 : ¬ d = y := fun e => h1 e.symm
        simp [h1, h2, h3]
theorem lst_dp {K : PySem.W.Frag} {d : D} {v : V} {ds : List D} (m : Sm cl S T H) (r : Rp cl S T H d v) (h : vw S d = .lst ds) (p : ∀ y ∈ ds, Pl 5 y) : Dp K H v (.list (pyAll ds)) ∧ SeqAt.shaped (.list (pyAll ds)) = true := by
  obtain ⟨a, xs, rfl, e, rl⟩ := vw_lst m r h
  have l := layAll_of rl p
  exact ⟨.lst (SqL.of e) (dpAll_of rl p), shaped_of (n := 6) ⟨by simp only [PyData.canLay0]; exact l.1, by simp only [PyData.depth]; omega⟩ (by decide)⟩
theorem in_ok (hc : XC cl X) : OpR X (compareOp .In) (rB cl (wCmp .In)) := by
  intro pins s σ H x y v u Q I rx ry h
  obtain ⟨d, e, S, T, m, rd, re, q⟩ := h
  have hu : X.A.units + 65 < cLine := by have := hc.room.un; omega
  simp only [wCmp] at q
  unfold inD at q
  split at q
  · rename_i ys hy
    obtain ⟨p1, p2, q⟩ := q
    have g := lst_dp (K := X.K) m re hy p2
    refine op_inD hu pins s σ H _ _ v u Q I rx ry ⟨pyOf d, pyAll ys, dp_of rd p1, g.1, shaped_of (lay_of rd p1) (by decide), g.2, ?_⟩
    rw [any_of p1 ys p2]
    exact q.here m (.bl _)
  · rename_i ys hy
    obtain rfl := vw_tup hy
    obtain ⟨p1, p2, q⟩ := q
    have p3 : Pl 6 (.tup ys) := p2
    obtain ⟨as, w1⟩ := Dp.reads I _ _ _ (dp_of (K := X.K) rd p1) rx
    obtain ⟨bs, w2⟩ := Dp.reads I _ _ _ (dp_of (K := X.K) re p3) ry
    simp only [pyOf] at w2
    have l := lay_of re p3
    simp only [pyOf, PyData.canLay0] at l
    refine SeqAt.in_tuple_reads w2 w1 l.1 (lay_of rd p1).1 (room_in_shaped (shaped_of (lay_of rd p1) (by decide)) hu) ?_
    rw [any_of p1 ys p2]
    exact ⟨.bl _, H, I, rfl, q.here m (.bl _)⟩
  · rename_i z hz
    obtain rfl := vw_str hz
    obtain ⟨c, rfl, q⟩ := q
    obtain ⟨rfl, _⟩ := str_of rd
    obtain ⟨rfl, _⟩ := str_of re
    exact op_in_sign pins s σ H _ _ v u Q I rx ry ⟨c, z, rfl, rfl, q.here m (.bl _)⟩
  · rename_i kvs hz
    obtain ⟨a, o, rfl, g, l⟩ := dget_of m re hz q.1 rd
    cases ry
    refine d_in (by omega) I g rx fun s' I' => ⟨.bl o.isSome, H, I', rfl, ?_⟩
    have : (lookD kvs d).isSome = o.isSome := by
      rcases l with ⟨h1, h2⟩ | ⟨w, u', h1, h2, _⟩ <;> rw [h1, h2] <;> rfl
    rw [← this]
    exact q.2.here m (.bl _)
  · exact q.elim
theorem notIn_ok (hc : XC cl X) : OpR X (compareOp .NotIn) (rB cl (wCmp .NotIn)) := by
  intro pins s σ H x y v u Q I rx ry h
  obtain ⟨d, e, S, T, m, rd, re, q⟩ := h
  have hu : X.A.units + 65 < cLine := by have := hc.room.un; omega
  simp only [wCmp] at q
  unfold inD at q
  split at q
  · rename_i ys hy
    obtain ⟨p1, p2, q⟩ := q
    have g := lst_dp (K := X.K) m re hy p2
    refine op_notInD hu pins s σ H _ _ v u Q I rx ry ⟨pyOf d, pyAll ys, dp_of rd p1, g.1, shaped_of (lay_of rd p1) (by decide), g.2, ?_⟩
    rw [any_of p1 ys p2]
    exact q.here m (.bl _)
  · rename_i ys hy
    obtain rfl := vw_tup hy
    obtain ⟨p1, p2, q⟩ := q
    have p3 : Pl 6 (.tup ys) := p2
    obtain ⟨as, w1⟩ := Dp.reads I _ _ _ (dp_of (K := X.K) rd p1) rx
    obtain ⟨bs, w2⟩ := Dp.reads I _ _ _ (dp_of (K := X.K) re p3) ry
    simp only [pyOf] at w2
    have l := lay_of re p3
    simp only [pyOf, PyData.canLay0] at l
    refine SeqAt.notIn_tuple_reads w2 w1 l.1 (lay_of rd p1).1 (room_in_shaped (shaped_of (lay_of rd p1) (by decide)) hu) ?_
    rw [any_of p1 ys p2]
    exact ⟨.bl _, H, I, rfl, q.here m (.bl _)⟩
  · rename_i z hz
    obtain rfl := vw_str hz
    obtain ⟨c, rfl, q⟩ := q
    obtain ⟨rfl, _⟩ := str_of rd
    obtain ⟨rfl, _⟩ := str_of re
    exact op_notIn_sign pins s σ H _ _ v u Q I rx ry ⟨c, z, rfl, rfl, q.here m (.bl _)⟩
  · rename_i kvs hz
    obtain ⟨a, o, rfl, g, l⟩ := dget_of m re hz q.1 rd
    cases ry
    refine d_notIn (by omega) I g rx fun s' I' => ⟨.bl (!o.isSome), H, I', rfl, ?_⟩
    have : (lookD kvs d).isSome = o.isSome := by
      rcases l with ⟨h1, h2⟩ | ⟨w, u', h1, h2, _⟩ <;> rw [h1, h2] <;> rfl
    rw [← this]
    exact q.2.here m (.bl _)
  · exact q.elim
/-- any comparison -/
theorem cmp_ok (hc : XC cl X) : ∀ op : CmpOp, OpR X (compareOp op) (rB cl (wCmp op))
  | .Eq => eq_ok hc
  | .NotEq => ne_ok hc
  | .Lt => lt_ok hc
  | .LtE => le_ok
  | .Gt => gt_ok
  | .GtE => ge_ok
  | .Is => is_ok
  | .IsNot => isnot_ok
  | .In => in_ok hc
  | .NotIn => notIn_ok hc

/-! ### items -/
theorem RpL.at {ds : List D} {xs : List V} {k : Int} {d : D} (r : RpL cl S T H ds xs) (h : atI ds k = some d) : ∃ x, atI xs k = some x ∧ Rp cl S T H d x := by
  unfold atI at h ⊢
  rw [← r.length]
  cases e : ixN ds.length k with
  | none => rw [e] at h; cases h
  | some j =>
    rw [e] at h
    obtain ⟨x, h1, h2⟩ := r.get (i := j) (d := d) h
    exact ⟨x, h1, h2⟩
theorem okS_one {x : Str} {k : Int} {c : Nat} (h : okS x = true) (e : atI x.cps.toList k = some c) : okS ⟨#[c]⟩ = true := by
  obtain ⟨j, _, h2, _⟩ := atI_get e
  unfold okS at h ⊢
  have := List.all_eq_true.mp h c (List.mem_of_getElem? h2)
  simpa using this
/-- the entries of a dict by tuples -/
theorem dt_walk {pins : List (Addr × Obj)} {σ : L2.St} {s : Shared} (I : Inv X pins σ H s) (hcl : cl.hs = (tupleKind (mixKind X.prog X.w)).hash) : ∀ {ds : List (D × D)} {es : List DictEntry}, RpT cl S T H ds es →
    ∃ xs : List (List Key × Addr × Value), es = xs.map (entryOfKey (tupleKind (mixKind X.prog X.w))) ∧ ds.map (·.1) = xs.map (fun x => D.tup (x.1.map kD)) ∧ (∀ x ∈ xs, (tupleKind (mixKind X.prog X.w)).is s.heap x.1 x.2.1) ∧
      ∀ k w, lookD ds (.tup (k.map kD)) = some w → ∃ b u v, atKey xs k = some (b, u) ∧ RelV v u ∧ Rp cl S T H w v
  | _, _, .nil => ⟨[], rfl, rfl, (fun _ h => nomatch h), fun k w h => by rw [lookD_nil] at h; cases h⟩
  | _, _, .cons (k := j) (b := b) (v := v) (u := u) h n r a t => by
    obtain ⟨xs, e1, e2, e3, e4⟩ := dt_walk I hcl t
    refine ⟨(j, b, u) :: xs, ?_, by rw [List.map_cons, e2]; rfl, fun x hx => ?_, fun k w hw => ?_⟩
    · rw [e1, hcl]; rfl
    · rcases List.mem_cons.mp hx with e | hx
      · subst e
        exact key_ofF I.hok h
      · exact e3 x hx
    · rw [lookD_cons] at hw
      by_cases hk : j = k
      · subst hk
        rw [if_pos rfl] at hw
        cases hw
        exact ⟨b, u, v, by unfold atKey; simp, r, a⟩
      · rw [if_neg (fun e => hk (kDs_inj (D.tup.inj e)))] at hw
        obtain ⟨b', u', v', q1, q2, q3⟩ := e4 k w hw
        refine ⟨b', u', v', ?_, q2, q3⟩
        unfold atKey at q1 ⊢
        rw [List.find?_cons]
        simp only [hk, decide_false]
        exact q1
theorem dt_item (hc : XC cl X) {pins : List (Addr × Obj)} {σ : L2.St} {s : Shared} {ds : List (D × D)} {i w : D} {x y : V} {v u : Value} {value slice : Expr} {E : Value → Shared → Prop} {Q : Value → Shared → Prop} (m : Sm cl S T H) (I : Inv X pins σ H s)
    (rd : Rp cl S T H (.dic true ds) x) (re : Rp cl S T H i y) (hk : isKey true i = true) (hw : lookD ds i = some w) (rx : RelV x v) (ry : RelV y u)
    (q : ∀ w2 u2 s2, Inv X pins σ H s2 → RelV w2 u2 → Rp cl S T H w w2 → Q u2 s2)
    (hs : subscripted slice false v u = operate [v, u] (getItem v u)) : wpAny (model X.prog X.w) X.A (subscriptTail value slice v u) Q E s := by
  obtain ⟨ks, b, ob, rfl, rfl, hb, _, _, _⟩ := keyT_of hk re
  cases rd with
  | dt h1 h2 h3 rt =>
    obtain ⟨xs, e1, e2, e3, e4⟩ := dt_walk I hc.hs rt
    obtain ⟨b', u', v', k1, k2, k3⟩ := e4 ks w hw
    cases rx
    cases ry
    obtain ⟨o, ep, ho, hx, hd⟩ := (I.hok _ _ h1).1
    have dd : s.heap.DictOfH (tupleKind (mixKind X.prog X.w)) _ xs := ⟨o, _, ep, ho, hx, hd, by rw [e1], e3, by
      rw [e2] at h2
      have : xs.map (fun x => D.tup (x.1.map kD)) = (xs.map (·.1)).map fun k => D.tup (k.map kD) := by rw [List.map_map]; rfl
      rw [this] at h2
      exact List.Pairwise.imp (fun hne e => hne (by rw [e])) (List.pairwise_map.mp h2)⟩
    have hu : X.A.units + 1 < cLine := by have := hc.room.un; omega
    exact tail_any dd.typeIs PySem.F.slot_dict_getitem.lookup (wpAny_getItem_heap (tupleKind_room_in1 hu) (key_ofF I.hok hb) dd k1 (q v' u' _ (I.tok _) k2 k3)) hs
theorem ix_ok (hc : XC cl X) : IxR X (r2 cl wIx) := by
  intro value slice pins s σ H x y v u Q I rx ry h hs
  obtain ⟨d, e, S, T, m, rd, re, q⟩ := h
  have hu : X.A.units + 1 < cLine := by have := hc.room.un; omega
  unfold wIx at q
  split at q
  · rename_i xs hx
    obtain ⟨a, vs, rfl, ea, ra⟩ := vw_lst m rd hx
    obtain ⟨k, w, rfl, hw, q⟩ := q
    obtain rfl := int_of re
    obtain ⟨z, hz, rz⟩ := ra.at hw
    exact ix_list value slice pins s σ H _ _ v u Q I rx ry ⟨a, vs, k, z, rfl, rfl, SqL.of ea, hz, q.here m rz⟩ hs
  · rename_i xs hx
    obtain ⟨a, vs, rfl, ea, ra⟩ := vw_fls rd hx
    obtain ⟨k, w, rfl, hw, q⟩ := q
    obtain rfl := int_of re
    obtain ⟨z, hz, rz⟩ := ra.at hw
    exact ix_list value slice pins s σ H _ _ v u Q I rx ry ⟨a, vs, k, z, rfl, rfl, .inl ea, hz, q.here m rz⟩ hs
  · rename_i xs hx
    obtain rfl := vw_tup hx
    obtain ⟨a, vs, rfl, ea, ra⟩ := tup_of rd
    obtain ⟨k, w, rfl, hw, q⟩ := q
    obtain rfl := int_of re
    obtain ⟨z, hz, rz⟩ := ra.at hw
    exact ix_tup value slice pins s σ H _ _ v u Q I rx ry ⟨a, vs, k, z, rfl, rfl, .inl ea, hz, q.here m rz⟩ hs
  · rename_i xs hx
    obtain rfl := vw_utup hx
    obtain ⟨a, vs, rfl, ea, ra⟩ := utup_of rd
    obtain ⟨k, w, rfl, hw, q⟩ := q
    obtain rfl := int_of re
    obtain ⟨z, hz, rz⟩ := ra.at hw
    exact ix_tup value slice pins s σ H _ _ v u Q I rx ry ⟨a, vs, k, z, rfl, rfl, .inl ea, hz, q.here m rz⟩ hs
  · rename_i z hz
    obtain rfl := vw_str hz
    obtain ⟨rfl, ok⟩ := str_of rd
    obtain ⟨k, c, rfl, hl, hk, q⟩ := q
    obtain rfl := int_of re
    exact ix_str value slice pins s σ H _ _ v u Q I rx ry ⟨z, k, c, rfl, rfl, hl, hk, q.here m (.str _ (okS_one ok hk))⟩ hs
  · rename_i t kvs hz
    obtain ⟨w, hk, hw, q⟩ := q
    cases t with
    | false =>
      obtain ⟨a, o, rfl, g, l⟩ := dget_of m rd hz hk re
      rcases l with ⟨h1, _⟩ | ⟨w', u', h1, rfl, rw'⟩
      · rw [h1] at hw; cases hw
      · rw [h1] at hw
        cases hw
        cases rx
        exact tail_any (dict_typeIs I g) PySem.F.slot_dict_getitem.lookup (d_getItem hu I g ry fun w2 s2 I2 r2' => ⟨u', H, I2, r2', q.here m rw'⟩) hs
    | true =>
      obtain rfl := vw_dt hz
      exact dt_item hc m I rd re hk hw rx ry (fun w2 u2 s2 I2 rr rw' => ⟨w2, H, I2, rr, q.here m rw'⟩) hs
  · exact q.elim

/-! ### slices -/
def r3S (cl : CL) (own : Bool) : V → Option Int → Option Int → Hp → VK → Prop := fun x lo hi H Q => ∃ d S T, Sm cl S T H ∧ Rp cl S T H d x ∧ wSl own d lo hi S (kQ cl S T H Q)
theorem RpL.cut {ds : List D} {xs : List V} (r : RpL cl S T H ds xs) (lo hi : Option Int) : RpL cl S T H (cutL ds lo hi) (cutV xs lo hi) := by
  unfold cutL cutV
  rw [r.length]
  exact (r.drop _).take _
theorem okS_cut {x : Str} {lo hi : Option Int} (h : okS x = true) : okS (cutS x lo hi) = true := by
  unfold okS at h ⊢
  rw [List.all_eq_true] at h ⊢
  intro c hc
  refine h c ?_
  unfold cutS at hc
  simp only at hc
  exact List.mem_of_mem_drop (List.mem_of_mem_take (by simpa using hc))
theorem sl_ok (own : Bool) : SlR X (r3S cl own) := by
  intro pins s σ H x v vl vu lo hi sl Q I rx hs pl pu h
  obtain ⟨d, S, T, m, rd, q⟩ := h
  unfold wSl at q
  split at q
  · rename_i xs hx
    obtain ⟨a, vs, rfl, ea, ra⟩ := vw_lst m rd hx
    exact sl_list pins s σ H _ v vl vu lo hi sl Q I rx hs pl pu ⟨a, vs, rfl, SqL.of ea, (finL_go m (ra.cut lo hi) q).2⟩
  · rename_i xs hx
    obtain ⟨a, vs, rfl, ea, ra⟩ := vw_fls rd hx
    exact sl_list pins s σ H _ v vl vu lo hi sl Q I rx hs pl pu ⟨a, vs, rfl, .inl ea, (finL_go m (ra.cut lo hi) q).2⟩
  · rename_i xs hx
    obtain rfl := vw_tup hx
    obtain ⟨a, vs, rfl, ea, ra⟩ := tup_of rd
    cases rx
    obtain ⟨its, r, ht, hz⟩ := I.tuple (show SqT X.K H a vs from .inl ea)
    have hlen : its.toArray.size = vs.length := by rw [List.size_toArray]; exact r.length.symm
    by_cases hw : HT.sIx vs.length 0 lo = 0 ∧ HT.sIx vs.length vs.length hi = vs.length
    · have e : cutL xs lo hi = xs := by
        unfold cutL
        rw [ra.length, hw.1, hw.2, List.drop_zero, Nat.sub_zero, ← ra.length, List.take_length]
      rw [e] at q
      refine ⟨"tuple", _, PyProof.Rows.slot_tuple_getitem.lookup, ht.typeIs, ?_⟩
      exact getItem_tuple_whole ht hs pl pu (by rw [hlen]; exact hw) ⟨.ref a, H, I, rfl, q.2.here m rd⟩
    · refine ⟨"tuple", _, PyProof.Rows.slot_tuple_getitem.lookup, ht.typeIs, ?_⟩
      refine HT.getItem_tuple_cut ht hs pl pu (by rw [hlen]; exact hw) ?_ (by rw [hlen]; exact hz)
      rw [hlen]
      have g := finT_go m (ra.cut lo hi) q
      exact kt_lay I g.1 ((r.drop (HT.sIx vs.length 0 lo)).take (HT.sIx vs.length vs.length hi - HT.sIx vs.length 0 lo)) g.2
  · rename_i z hz
    obtain rfl := vw_str hz
    obtain ⟨rfl, ok⟩ := str_of rd
    exact sl_str pins s σ H _ v vl vu lo hi sl Q I rx hs pl pu ⟨z, rfl, q.1, q.2.here m (.str _ (okS_cut ok))⟩
  · exact q.elim

/-! ### stores -/
def rSet' (cl : CL) : TSet := fun o i v H Q => ∃ d e w S T, Sm cl S T H ∧ Rp cl S T H d o ∧ Rp cl S T H e i ∧ Rp cl S T H w v ∧
  wSet d e w S fun S2 => ∀ H2, Ex S S2 T H H2 → Sm cl S2 T H2 → Q H2
theorem RpK.ext' {ds : List (D × D)} {kvs : List (Key × V)} (r : RpK cl S T H ds kvs) (k : Key) : (ds.any fun p => decide (p.1 = kD k)) = kvs.any fun p => decide (p.1 = k) := by
  have go : ∀ {ds : List (D × D)} {kvs : List (Key × V)}, RpK cl S T H ds kvs → (ds.any fun p => decide (p.1 = kD k)) = kvs.any fun p => decide (p.1 = k) := by
    intro ds
    induction ds with
    | nil => intro kvs r; cases r; rfl
    | cons p ds ih =>
      intro kvs r
      cases r with
      | @cons j _ _ _ _ o a b =>
        rw [List.any_cons, List.any_cons, ih b]
        by_cases h : j = k
        · subst h; simp
        · have h2 : ¬ kD j = kD k := fun e => h (kD_inj e)
          simp [h, h2]
  exact go r
theorem RpK.app {ds es : List (D × D)} {xs ys : List (Key × V)} : RpK cl S T H ds xs → RpK cl S T H es ys → RpK cl S T H (ds ++ es) (xs ++ ys)
  | .nil, r => r
  | .cons o a b, r => .cons o a (RpK.app b r)
theorem putK_eq (kvs : List (Key × V)) (k : Key) (v : V) : putK kvs k v = if kvs.any (fun p => decide (p.1 = k)) then kvs.map (fun p => if p.1 = k then (p.1, v) else p) else kvs ++ [(k, v)] := by
  first | rfl | (unfold putK; rfl)
theorem RpK.rep {w : D} {v : V} {k : Key} (rw' : Rp cl S T H w v) : ∀ {ds : List (D × D)} {kvs : List (Key × V)}, RpK cl S T H ds kvs → RpK cl S T H (ds.map fun p => if p.1 = kD k then (p.1, w) else p) (kvs.map fun p => if p.1 = k then (p.1, v) else p)
  | _, _, .nil => .nil
  | _, _, .cons (k := j) o a b => by
    rw [List.map_cons, List.map_cons]
    by_cases h : j = k
    · subst h
      rw [if_pos rfl, if_pos rfl]
      exact .cons o rw' (RpK.rep rw' b)
    · rw [if_neg (fun e => h (kD_inj e)), if_neg h]
      exact .cons o a (RpK.rep rw' b)
theorem RpK.put {ds : List (D × D)} {kvs : List (Key × V)} {w : D} {v : V} {k : Key} (r : RpK cl S T H ds kvs) (o : okK k = true) (rw' : Rp cl S T H w v) : RpK cl S T H (putD ds (kD k) w) (putK kvs k v) := by
  rw [putK_eq]
  unfold putD
  rw [r.ext' k]
  split
  · exact r.rep rw'
  · exact r.app (.cons o rw' .nil)
theorem ixN_nat {n : Nat} {k : Int} (h1 : 0 ≤ k) (h2 : k < n) : ixN n k = some k.toNat := by
  unfold ixN
  rw [if_pos h1, if_pos h2]
theorem set_ok (hc : XC cl X) : PSet X (rSet' cl) := by
  intro pins s σ H o i v ov iv u Q I ro ri rv h
  obtain ⟨d, e, w, S, T, m, rd, re, rw', p, rfl, h⟩ := h
  have hu : X.A.units + 1 < cLine := by have := hc.room.un; omega
  cases rd
  rcases h with ⟨xs, k, hp, rfl, h0, hk, q⟩ | ⟨kvs, hp, hk, hl, q⟩
  · obtain ⟨ho, hh, rO⟩ := m.ob _ _ hp
    cases rO with
    | lst rl =>
      obtain rfl := int_of re
      refine set_list pins s σ H _ _ v ov iv u Q I ro ri rv ⟨p, _, k, k.toNat, rfl, rfl, hh, ixN_nat h0 (by rw [← rl.length]; exact hk), ?_⟩
      exact q _ (Ex.wr hp) (m.wr hp (.lst (rl.set rw' _)))
  · obtain ⟨ho, hh, rO⟩ := m.ob _ _ hp
    cases ro
    cases rO with
    | dk rl =>
      obtain ⟨k, rfl, rfl, ok⟩ := keyF_of hk re
      exact d_setItem hu I (DPut.k hh (by rw [← rl.length]; exact hl)) ri rv fun s' I' => ⟨_, I', q _ (Ex.wr hp) (m.wr hp (.dk (rl.put ok rw')))⟩
end Dz
/-! Dz8: built-in functions. -/
namespace Dz
open PySem PySem.Spec PyProof.Rows L2

variable {cl : CL} {X : Cx} {S : Sto} {T H : Hp}
/-! ### sorted, of a list or a tuple -/
mutual
theorem reads_lt {h : Heap} : ∀ {v : Value} {d : PyData} {as : List Addr}, Reads h v d as → ∀ b ∈ as, b < h.objs.size
  | _, _, _, .none => fun _ hb => by cases hb
  | _, _, _, .bool _ => fun _ hb => by cases hb
  | _, _, _, .int _ _ => fun _ hb => by cases hb
  | _, _, _, .str _ _ => fun _ hb => by cases hb
  | _, _, _, .list h1 _ _ h4 => fun b hb => by
    rcases List.mem_cons.mp hb with e | hb
    · rw [e]; exact Heap.lt_size h1
    · exact readsAll_lt h4 b hb
  | _, _, _, .tuple _ _ _ h4 => fun b hb => readsAll_lt h4 b hb
  | _, _, _, .dict h1 _ _ h4 h5 => fun b hb => by
    rw [List.cons_append] at hb
    rcases List.mem_cons.mp hb with e | hb
    · rw [e]; exact Heap.lt_size h1
    · rcases List.mem_append.mp hb with hb | hb
      · exact readsAll_lt h4 b hb
      · exact readsAll_lt h5 b hb
theorem readsAll_lt {h : Heap} : ∀ {vs : List Value} {ds : List PyData} {as : List Addr}, ReadsAll h vs ds as → ∀ b ∈ as, b < h.objs.size
  | _, _, _, .nil => fun _ hb => by cases hb
  | _, _, _, .cons h1 h2 => fun b hb => by
    rcases List.mem_append.mp hb with hb | hb
    · exact reads_lt h1 b hb
    · exact readsAll_lt h2 b hb
end
/-- what a list or tuple is collected into -/
def colHeap (h : Heap) (items : Array Value) : Heap := (h.push { cls := .type "list", data := .seq #[] 0 }).update h.objs.size (Obj.mapSeq (· ++ items))
theorem colHeap_old {h : Heap} {items : Array Value} {b : Addr} {o : Obj} (e : h.get? b = some o) : (colHeap h items).get? b = some o :=
  (Heap.get?_update_other _ _ (Nat.ne_of_gt (Heap.lt_size e))).trans (Heap.get?_push_of_some _ e)
theorem colHeap_size (h : Heap) (items : Array Value) : (colHeap h items).objs.size = h.objs.size + 1 := by
  unfold colHeap
  rw [Heap.size_update, Heap.size_push]
theorem collect_col {prog : Program} {w : World} {A : Around} {E : Value → Shared → Prop} {s : Shared} {Q : List Value → Shared → Prop} (it : Addr) {t : String} {o : Obj} {items : Array Value} {n : Nat} (hT : t = "list" ∨ t = "tuple")
    (ho : s.heap.get? it = some o) (hc : o.cls = .type t) (hd : o.data = .seq items n) (hsz : items.size ≤ sizeLine) (hQ : Q items.toList { s with heap := colHeap s.heap items }) :
    wpAny (model prog w) A (collect (.ref it)) Q E s := by
  unfold collect
  refine wpAny_bind (wpAny_runValue (codeAny_builtin F.entry_proto_collect ?_))
  rw [Around.under_plainId F.plain_proto_collect _]
  show wpAny _ A.in1 (newList [] >>= fun l => again (.builtin "list.__iadd__" ⟨[l, .ref it], []⟩)) _ _ s
  refine wpAny_bind (wpAny_newObj_type ?_)
  refine wpAny_pure ⟨plainId_quiet F.plain_list_iadd _, codeAny_builtin F.entry_list_iadd ?_⟩
  rw [Around.under_plainId F.plain_list_iadd _]
  show wpAny _ A.in1 (Builtin.List.listExtendWith (.ref s.heap.objs.size) (.ref it) (.ref s.heap.objs.size)) _ _ _
  have h0 : (s.heap.push { cls := .type "list", data := .seq ([] : List Value).toArray }).get? s.heap.objs.size = some { cls := .type "list", data := .seq #[] 0 } := Heap.get?_push_size _ rfl
  have h2 := Heap.get?_update_self (Obj.mapSeq (· ++ items)) h0 rfl
  have fin : wpAny (model prog w) A (match Value.ref s.heap.objs.size with
      | Value.ref a => do
        match (← load a).data with
          | Data.seq xs _ => pure xs.toList
          | _ => unsupported "internal:collect"
      | _ => unsupported "internal:collect") Q E { s with heap := colHeap s.heap items } := by
    show wpAny _ A (load s.heap.objs.size >>= _) _ _ _
    refine wpAny_bind (wpAny_load h2 (wpAny_pure ?_))
    have e : ((#[] : Array Value) ++ items).toList = items.toList := by simp
    show Q ((#[] : Array Value) ++ items).toList _
    rw [e]
    exact hQ
  refine wpAny_mono (wpAny_extend_seq (hsz := hsz) (A := A) (R := fun r s' => r = .ok (.ret (.ref s.heap.objs.size)) ∧ s' = { s with heap := colHeap s.heap items })
    (s := { s with heap := s.heap.push { cls := .type "list", data := .seq ([] : List Value).toArray } }) _ it _ 0 hT h0 (Heap.get?_push_of_some _ ho) hc hd ⟨rfl, rfl⟩) (fun fi s' h => ?_) (fun e s' h => ?_)
  · cases fi with
    | done f =>
      obtain ⟨e, rfl⟩ := h
      cases e
      exact fin
    | again c' => exact ⟨h.1, codeAny_mono h.2 fun r s'' hr => by obtain ⟨rfl, rfl⟩ := hr; exact fin⟩
  · exact absurd h.1 (by simp)
theorem sorted_any {prog : Program} {w : World} {A : Around} {E : Value → Shared → Prop} {s : Shared} {β : Type} {bs : List β} {enc : β → PyData} {R : Value → β → Prop} {it : Addr} {t : String} {o : Obj} {items : Array Value} {n : Nat} {Q : Value → Shared → Prop}
    (hT : t = "list" ∨ t = "tuple") (ho : s.heap.get? it = some o) (hc : o.cls = .type t) (hd : o.data = .seq items n)
    (e : PySem.W.EachIs R items.toList bs) (er : PySem.W.EachIs (fun v b => ∃ as, Reads s.heap v (enc b) as) items.toList bs) (hal : PySem.W.AllAlike (bs.map enc)) (hk : PySem.W.Sortable (bs.map enc)) (hL : bs.length ≤ sizeLine)
    (hu : ∀ b, b ∈ bs → A.units + 2 + (enc b).depth < cLine)
    (h : ∀ (l : Addr) (h' : Heap) (out : List Value) (c : Nat), s.heap.objs.size ≤ l → (∀ b o', s.heap.get? b = some o' → h'.get? b = some o') → h'.get? l = some { cls := .type "list", data := .seq out.toArray c } →
      PySem.W.EachIs R out (bs.mergeSort (PySem.W.dataLe false enc)) → Q (.ref l) { s with heap := h' }) :
    wpAny (model prog w) A (call (.builtin "sorted") [.ref it]) Q E s := by
  have hlen : items.toList.length = bs.length := e.length
  have hsz : items.size ≤ sizeLine := by rw [← Array.length_toList, hlen]; exact hL
  refine call_function_entry_kw kind_sorted plain_sorted entry_sorted (args_sorted1 _) ?_
  unfold Builtin.«sorted»
  refine wpAny_bind (m := checkCount "sorted" 1 1 _) (wpAny_pure ?_)
  refine wpAny_bind (collect_col it hT ho hc hd hsz ?_)
  generalize hh : colHeap s.heap items = h'
  have hk' : ∀ b o', s.heap.get? b = some o' → h'.get? b = some o' := fun b o' q => by rw [← hh]; exact colHeap_old q
  have lt' : s.heap.objs.size ≤ h'.objs.size := by rw [← hh, colHeap_size]; omega
  refine wpAny_bind (wpAny_newList ?_ (by rw [hlen]; exact hL))
  have hn : (h'.push { cls := .type "list", data := .seq items.toList.toArray }).get? h'.objs.size = some (seqObj "list" items.toList.toArray 0) := Heap.get?_push_size _ rfl
  have old : ∀ b o', s.heap.get? b = some o' → (h'.push { cls := .type "list", data := .seq items.toList.toArray }).get? b = some o' := fun b o' q => Heap.get?_push_of_some _ (hk' b o' q)
  refine wpAny_bind (wpAny_holding ?_)
  refine PySem.W.list_sort_data (R := R) (enc := enc) (vs := items.toList) (bs := bs) (s := { s with heap := h'.push { cls := .type "list", data := .seq items.toList.toArray } }) hn e
    (er.mono fun v b ⟨as, r⟩ => ⟨as, PyProof.Rows.Reads.keeps old r, fun hm => absurd (reads_lt r _ hm) (Nat.not_lt_of_le lt')⟩) hal hk hL (fun b hb => by have := hu b hb; show A.units + 1 + 1 + _ < _; omega) fun out h1 h2 => ?_
  obtain ⟨ep, hat⟩ := sortedHeap_at (out := List.toArray out) hn
  exact wpAny_pure ⟨_, rfl, h _ _ out ep lt' (fun b o' q => by
    have hb := Heap.lt_size q
    rw [sortedHeap_old (Nat.ne_of_lt (Nat.lt_of_lt_of_le hb lt')) (Heap.lt_size (old b o' q))]
    exact old b o' q) hat h2⟩
theorem mem_pyAll {p : PyData} : ∀ {ds : List D}, p ∈ pyAll ds → ∃ d ∈ ds, p = pyOf d
  | [], h => by simp [pyAll] at h
  | d :: ds, h => by
    simp only [pyAll] at h
    rcases List.mem_cons.mp h with e | h
    · exact ⟨d, List.mem_cons_self .., e⟩
    · obtain ⟨d', h1, h2⟩ := mem_pyAll h
      exact ⟨d', List.mem_cons_of_mem _ h1, h2⟩
theorem pyAll_map : ∀ ds : List D, pyAll ds = ds.map pyOf
  | [] => rfl
  | d :: ds => by simp only [pyAll, List.map_cons, pyAll_map ds]
/-- values stand for data -/
def RVD (cl : CL) (S : Sto) (T H : Hp) (u : Value) (d : D) : Prop := ∃ v, RelV v u ∧ Rp cl S T H d v
theorem each_of : ∀ {ds : List D} {vs : List V} {us : List Value}, RpL cl S T H ds vs → Vals vs us → PySem.W.EachIs (RVD cl S T H) us ds
  | _, _, _, .nil, .nil => .nil
  | _, _, _, .cons a b, .cons r t => .cons ⟨_, r, a⟩ (each_of b t)
theorem of_each : ∀ {ds : List D} {us : List Value}, PySem.W.EachIs (RVD cl S T H) us ds → ∃ vs, RpL cl S T H ds vs ∧ Vals vs us
  | _, _, .nil => ⟨[], .nil, .nil⟩
  | _, _, .cons ⟨v, r, a⟩ t => by
    obtain ⟨vs, b, q⟩ := of_each t
    exact ⟨v :: vs, .cons a b, .cons r q⟩
theorem each_reads {pins : List (Addr × Obj)} {σ : L2.St} {s : Shared} (I : Inv X pins σ H s) {n : Nat} : ∀ {ds : List D} {us : List Value}, PySem.W.EachIs (RVD cl S T H) us ds → (∀ d ∈ ds, Pl n d) → PySem.W.EachIs (fun v d => ∃ as, Reads s.heap v (pyOf d) as) us ds
  | _, _, .nil, _ => .nil
  | _, _, .cons ⟨v, r, a⟩ t, p => .cons (Dp.reads I _ _ _ (dp_of a (p _ (List.mem_cons_self ..))) r) (each_reads I t fun d hd => p d (List.mem_cons_of_mem _ hd))
theorem rpL_lay {n : Nat} : ∀ {ds : List D} {vs : List V}, RpL cl S T H ds vs → (∀ d ∈ ds, Pl n d) → ∀ d ∈ ds, (pyOf d).depth ≤ n
  | _, _, .nil, _, d, hd => by cases hd
  | _, _, .cons a b, p, d, hd => by
    rcases List.mem_cons.mp hd with e | hd
    · rw [e]; exact (lay_of a (p _ (List.mem_cons_self ..))).2
    · exact rpL_lay b (fun d hd => p d (List.mem_cons_of_mem _ hd)) d hd
theorem sortable_of {ds : List D} (h : Srt ds) : PySem.W.AllAlike (ds.map pyOf) ∧ PySem.W.Sortable (ds.map pyOf) := by
  refine ⟨fun p hp q hq => ?_, ?_⟩
  · obtain ⟨d, hd, rfl⟩ := List.mem_map.mp hp
    obtain ⟨e, he, rfl⟩ := List.mem_map.mp hq
    exact h.alike d hd e he
  · rcases h.kind with k | k
    · refine .inl fun p hp => ?_
      obtain ⟨d, hd, rfl⟩ := List.mem_map.mp hp
      obtain ⟨x, r, rfl⟩ := k d hd
      exact ⟨pyOf x, pyAll r, by simp only [pyOf, pyAll]⟩
    · refine .inr fun p hp => ?_
      obtain ⟨d, hd, rfl⟩ := List.mem_map.mp hp
      refine ⟨pyOf_non (h.pl d hd) (k d hd).1, fun xs e => ?_⟩
      cases d with
      | tup r => exact (k _ hd).2 r rfl
      | _ => simp [pyOf] at e
/-- sorted(xs) by values -/
theorem sorted_ok (hc : XC cl X) (own : Bool) : CallR X (.builtin "sorted") (fun xs H Q => ∃ d x S T ds, xs = [x] ∧ Sm cl S T H ∧ Rp cl S T H d x ∧ itemsD S d = some ds ∧ Srt ds ∧ finL own (sortD ds) S (kQ cl S T H Q)) := by
  intro pins s σ H xs us Q I r h
  obtain ⟨d, x, S, T, ds, rfl, m, rd, hi, hs, q⟩ := h
  obtain ⟨a, vs, rfl, hq, rl⟩ := items_of (K := X.K) m rd hi
  obtain ⟨u, rfl, rx⟩ := vals1 r
  cases rx
  have hun : X.A.units + 2 + 64 < cLine := by have := hc.room.un; omega
  have hsa := sortable_of hs
  have go : ∀ (t : String) (o : Obj) (its : List Value) (n : Nat), (t = "list" ∨ t = "tuple") → s.heap.get? a = some o → o.cls = .type t → o.data = .seq its.toArray n → Vals vs its → vs.length ≤ sizeLine →
      wpAny (model X.prog X.w) X.A (call (.builtin "sorted") [.ref a]) (EP X pins σ Q) X.xe s := by
    intro t o its n hT ho hcl hd rv hz
    have e := each_of rl rv
    refine sorted_any (R := RVD cl S T H) (enc := pyOf) (bs := ds) hT ho hcl hd (by simpa using e) (by simpa using each_reads I e hs.pl) hsa.1 hsa.2 (by rw [rl.length]; exact hz) (fun b hb => by have := rpL_lay rl hs.pl b hb; omega) fun l h' out c h1 h2 h3 h4 => ?_
    obtain ⟨ws, r1, r2⟩ := of_each h4
    have e2 : ds.mergeSort (PySem.W.dataLe false pyOf) = sortD ds := rfl
    rw [e2] at r1
    have g := finL_go m r1 q
    exact ⟨.ref l, upd H l (.lst ws), I.laid (t' := s.toks) h2 h1 (show ObjOk X.prog X.w _ h' l (.lst ws) from ⟨g.1, out, c, r2, h3⟩), rfl, g.2 l (I.hok.fresh h1)⟩
  rcases hq with hq | hq
  · obtain ⟨its, rv, pl, hz⟩ := I.list hq
    obtain ⟨o, n, ho, hcl, hdn, hd⟩ := pl
    exact go "list" o its n (.inl rfl) ho hcl hd rv hz
  · obtain ⟨its, rv, ⟨o, ho, hcl, n, hd⟩, hz⟩ := I.tuple hq
    exact go "tuple" o its n (.inr rfl) ho hcl hd rv hz
end Dz
/-! Dz9: built-in functions, all; repr. -/
namespace Dz
open PySem PySem.Spec PyProof.Rows L2

variable {cl : CL} {X : Cx} {S : Sto} {T H : Hp}
/-! ### what is shown is plain -/
def okL (l : List Nat) : Bool := l.all (· < 128)
theorem okS_eq (x : Str) : okS x = okL x.cps.toList := rfl
theorem okS_app {x y : Str} (hx : okS x = true) (hy : okS y = true) : okS (x ++ y) = true := by
  have : (x ++ y).cps.toList = x.cps.toList ++ y.cps.toList := by
    show (x.cps ++ y.cps).toList = _
    simp
  unfold okS at hx hy ⊢
  rw [this, List.all_append, hx, hy]
  rfl
theorem okL_char : ∀ c < 128, okL (Builtin.Str.reprChar 39 c) = true ∧ okL (Builtin.Str.reprChar 34 c) = true := by decide +kernel
theorem okS_repr {x : Str} (h : okS x = true) : okS (reprText x) = true := by
  have hq : reprQuote x = 39 ∨ reprQuote x = 34 := by
    unfold reprQuote
    split
    · exact .inr rfl
    · exact .inl rfl
  have fold : ∀ (l : List Nat) (acc : Array Nat), okL l = true → okL acc.toList = true → okL (l.foldl (fun out c => out ++ (Builtin.Str.reprChar (reprQuote x) c).toArray) acc).toList = true := by
    intro l
    induction l with
    | nil => intro acc _ ha; exact ha
    | cons c l ih =>
      intro acc hl ha
      unfold okL at hl
      rw [List.all_cons, Bool.and_eq_true] at hl
      rw [List.foldl_cons]
      refine ih _ hl.2 ?_
      have hcc := okL_char c (by simpa using hl.1)
      unfold okL at ha ⊢
      rw [Array.toList_append, List.all_append, ha, Bool.true_and]
      rcases hq with e | e <;> rw [e]
      · exact hcc.1
      · exact hcc.2
  unfold reprText
  show okL (Array.push _ _).toList = true
  rw [Array.toList_push, ← Array.foldl_toList]
  have hq2 : okL [reprQuote x] = true := by rcases hq with e | e <;> rw [e] <;> rfl
  have h3 := fold x.cps.toList #[reprQuote x] h hq2
  unfold okL at h3 hq2 ⊢
  rw [List.all_append, h3, hq2]
  rfl
theorem okS_lit {x : String} (h : okS (Str.ofString x) = true) : okS (x : Str) = true := h
theorem okS_textFrom : ∀ (ts : List Str) (k : Nat) (acc : Str), (∀ t ∈ ts, okS t = true) → okS acc = true → okS (textFrom k acc ts) = true
  | [], _, _, _, h => h
  | t :: ts, k, acc, ht, ha => by
    show okS (textFrom (k + 1) (acc ++ (if k > 0 then ", " else "" : String) ++ t) ts) = true
    refine okS_textFrom ts _ _ (fun u hu => ht u (List.mem_cons_of_mem _ hu)) (okS_app (okS_app ha ?_) (ht t (List.mem_cons_self ..)))
    split <;> decide +kernel
theorem okS_join (y : Str) (hy : okS y = true) : ∀ ts : List Str, (∀ t ∈ ts, okS t = true) → okS (Str.join y ts) = true
  | [], _ => by show okS (Str.join y []) = true; unfold Str.join; rfl
  | [x], h => h x (List.mem_cons_self ..)
  | x :: z :: r, h => by
    show okS (x ++ y ++ Str.join y (z :: r)) = true
    exact okS_app (okS_app (h x (List.mem_cons_self ..)) hy) (okS_join y hy (z :: r) fun t ht => h t (List.mem_cons_of_mem _ ht))
theorem okL_digits (n : Nat) : okL (TL.numL n) = true := by
  have h := TL.numL_digits n
  unfold okL
  rw [List.all_eq_true]
  intro c hc
  have := h c hc
  simp only [decide_eq_true_eq]
  omega
theorem okS_num (i : Int) : okS (Str.ofString (toString i)) = true := by
  cases i with
  | ofNat n =>
    rw [okS_eq]
    have := TL.tl_num n
    unfold TL.tl at this
    show okL (Str.ofString (toString ((n : Nat) : Int))).cps.toList = true
    rw [this]
    exact okL_digits n
  | negSucc n =>
    have e : toString (Int.negSucc n) = "-" ++ toString ((n + 1 : Nat) : Int) := rfl
    rw [e]
    have e2 : Str.ofString ("-" ++ toString ((n + 1 : Nat) : Int)) = Str.ofString "-" ++ Str.ofString (toString ((n + 1 : Nat) : Int)) := by
      rw [Str.ofString_eq_toList, Str.ofString_eq_toList, Str.ofString_eq_toList]
      show _ = (⟨_ ++ _⟩ : Str)
      simp
    rw [e2]
    refine okS_app (by decide +kernel) ?_
    rw [okS_eq]
    have := TL.tl_num (n + 1)
    unfold TL.tl at this
    rw [this]
    exact okL_digits (n + 1)
mutual
theorem okS_shown : ∀ {n : Nat} {d : D} {v : V}, Rp cl S T H d v → Pl n d → okS (PyData.shown (pyOf d)) = true
  | n, _, _, .non, _ => by simp only [pyOf, PyData.shown]; decide +kernel
  | n, _, _, .int i, _ => by simp only [pyOf, PyData.shown]; exact okS_num i
  | n, _, _, .str x h, _ => by simp only [pyOf, PyData.shown]; exact okS_repr h
  | n + 1, _, _, .tup h _ _ r, p => by
    simp only [pyOf, PyData.shown]
    unfold tupleText
    refine okS_app (okS_app (by decide +kernel) (okS_join _ (by decide +kernel) _ (okS_shownAll r p))) ?_
    split <;> decide +kernel
  | n + 1, _, _, .lst h _ r, p => by
    simp only [pyOf, PyData.shown]
    unfold listText
    exact okS_app (okS_textFrom _ _ _ (okS_shownAll r p) (by decide +kernel)) (by decide +kernel)
  | 0, _, _, .tup _ _ _ _, p => p.elim
  | 0, _, _, .utup _ _ _, p => p.elim
  | n + 1, _, _, .utup _ _ _, p => p.elim
  | 0, _, _, .lst _ _ _, p => p.elim
  | 0, _, _, .bl _, p => p.elim
  | n + 1, _, _, .bl _, p => p.elim
  | 0, _, _, .ref _, p => p.elim
  | n + 1, _, _, .ref _, p => p.elim
  | 0, _, _, .fls _ _ _, p => p.elim
  | n + 1, _, _, .fls _ _ _, p => p.elim
  | 0, _, _, .dk _ _ _, p => p.elim
  | n + 1, _, _, .dk _ _ _, p => p.elim
  | 0, _, _, .dt _ _ _ _, p => p.elim
  | n + 1, _, _, .dt _ _ _ _, p => p.elim
  | 0, _, _, .ins _ _ _ _, p => p.elim
  | n + 1, _, _, .ins _ _ _ _, p => p.elim
theorem okS_shownAll : ∀ {n : Nat} {ds : List D} {vs : List V}, RpL cl S T H ds vs → (∀ d ∈ ds, Pl n d) → ∀ t ∈ PyData.shownAll (pyAll ds), okS t = true
  | _, _, _, .nil, _, t, ht => by simp [pyAll, PyData.shownAll] at ht
  | _, _, _, .cons a b, p, t, ht => by
    simp only [pyAll, PyData.shownAll] at ht
    rcases List.mem_cons.mp ht with e | ht
    · rw [e]; exact okS_shown a (p _ (List.mem_cons_self ..))
    · exact okS_shownAll b (fun d hd => p d (List.mem_cons_of_mem _ hd)) t ht
end
theorem hasDict_no : ∀ {d : PyData}, d.canLay0 = true → d.hasDict = false := fun {d} h => PyData.hasDict_of_canLay d h
theorem repr_ok (hc : XC cl X) : CallR X (.builtin "repr") (fun xs H Q => ∃ d x S T, xs = [x] ∧ Sm cl S T H ∧ Rp cl S T H d x ∧ P6 d ∧ PyData.showable (pyOf d) = true ∧ (shD d).length ≤ sizeLine ∧ kQ cl S T H Q (.str (shD d)) S) := by
  intro pins s σ H xs us Q I r h
  obtain ⟨d, x, S, T, rfl, m, rd, p, sh, sz, q⟩ := h
  obtain ⟨u, rfl, rx⟩ := vals1 r
  have hok : okS (shD d) = true := okS_shown rd p
  have fin : ∀ (t : Tok) (s' : Shared), Inv X pins σ H s' → EP X pins σ Q (.str (shD d) t) s' := fun t s' I' => ⟨.str (shD d), H, I', ⟨t, rfl⟩, q.here m (.str _ hok)⟩
  have hl := lay_of rd p
  obtain ⟨as, w1⟩ := Dp.reads I _ _ _ (dp_of (K := X.K) rd p) rx
  have hun := hc.room.un
  have byRef : ∀ a, u = .ref a → wpAny (model X.prog X.w) X.A (call (.builtin "repr") [u]) (EP X pins σ Q) X.xe s := fun a e => by
    subst e
    refine repr_of_reads' w1 sh (fun hd => ?_) hc.guards (by omega) (fun _ _ e => e) (fun h' t tk hk => fin t _ (I.kept (t' := tk) hk)) sz
    rw [hasDict_no hl.1] at hd
    cases hd
  cases rd with
  | non =>
    cases rx
    exact call_repr_gives (typeIs_none s) F.slot_NoneType_repr F.entry_NoneType_repr (F.args_NoneType_repr_1 _) gives_none_repr (fin _ _ (I.tok _)) rfl (by decide)
  | int i => exact SkE.call_repr_int pins s σ H _ _ Q I r ⟨i, rfl, by simpa [pyOf, PyData.showable] using sh, q.here m (.str _ hok)⟩
  | str z hz =>
    obtain ⟨t, rfl⟩ := rx
    exact call_repr_gives (typeIs_str s z t) F.slot_str_repr F.entry_str_repr (F.args_str_repr_1 _) (gives_str_repr z t) (fin _ _ (I.tok _)) rfl sz
  | tup h1 _ h2 rl => exact byRef _ rx
  | lst h1 h2 rl => exact byRef _ rx
  | _ => exact p.elim
/-- an owned list shown -/
theorem reprV_ok (hc : XC cl X) : CallR X (.builtin "repr") (fun xs H Q => ∃ d x S T, xs = [x] ∧ Sm cl S T H ∧ Rp cl S T H d x ∧ P6 (vw S d) ∧ PyData.showable (pyOf (vw S d)) = true ∧ (shD (vw S d)).length ≤ sizeLine ∧ kQ cl S T H Q (.str (shD (vw S d))) S) := by
  intro pins s σ H xs us Q I r h
  obtain ⟨d, x, S, T, rfl, m, rd, p, sh, sz, q⟩ := h
  by_cases e : ∃ a ds, d = .ref a ∧ vw S d = .lst ds
  · obtain ⟨a, ds, rfl, e⟩ := e
    rw [e] at p sh sz q
    obtain ⟨b, xs, rfl, hb, rl⟩ := vw_lst m rd e
    obtain ⟨u, rfl, rx⟩ := vals1 r
    have hok : okS (shD (.lst ds)) = true := by
      unfold shD
      simp only [pyOf, PyData.shown]
      unfold listText
      exact okS_app (okS_textFrom _ _ _ (okS_shownAll rl p) (by decide +kernel)) (by decide +kernel)
    have hl := layAll_of rl p
    have dp : Dp X.K H (.ref b) (pyOf (.lst ds)) := by simp only [pyOf]; exact .lst (SqL.of hb) (dpAll_of rl p)
    obtain ⟨as, w1⟩ := Dp.reads I _ _ _ dp rx
    have hun := hc.room.un
    have h5 : PyData.depthAll (pyAll ds) ≤ 5 := hl.2
    cases rx
    refine repr_of_reads' w1 sh (fun hd => ?_) hc.guards (by simp only [pyOf, PyData.depth]; omega) (fun _ _ e => e) (fun h' t tk hk => ⟨.str _, H, I.kept (t' := tk) hk, ⟨t, rfl⟩, q.here m (.str _ hok)⟩) sz
    rw [hasDict_no (d := pyOf (.lst ds)) (by simp only [pyOf, PyData.canLay0]; exact hl.1)] at hd
    cases hd
  · have e2 : vw S d = d := by
      cases d with
      | ref a =>
        exfalso
        rw [vw_ref] at p e
        cases q2 : S a with
        | none => rw [q2] at p; exact p.elim
        | some o =>
          rw [q2] at p e
          cases o with
          | lst ds => exact e ⟨a, ds, rfl, rfl⟩
          | dic kvs => exact p.elim
          | ins c fs => exact p.elim
      | _ => rfl
    rw [e2] at p sh sz q
    exact repr_ok hc pins s σ H _ us Q I r ⟨d, x, S, T, rfl, m, rd, p, sh, sz, q⟩
end Dz
/-! Dz10: built-in functions, all. -/
namespace Dz
open PySem PySem.Spec PyProof.Rows L2

variable {cl : CL} {X : Cx} {S : Sto} {T H : Hp}
/-- what is shown, for CallR -/
def rBi (cl : CL) (f : Bi) (own : Bool) : List V → Hp → VK → Prop := fun xs H Q => ∃ ds S T, Sm cl S T H ∧ RpL cl S T H ds xs ∧ wBi f own ds S (kQ cl S T H Q)
def biV : Bi → Value
  | .len => .builtin "len"
  | .abs => .builtin "abs"
  | .int => .type "int"
  | .str => .type "str"
  | .repr => .builtin "repr"
  | .min2 => .builtin "min"
  | .max2 => .builtin "max"
  | .min1 => .builtin "min"
  | .max1 => .builtin "max"
  | .sum => .builtin "sum"
  | .any => .builtin "any"
  | .all => .builtin "all"
  | .tuple => .type "tuple"
  | .list => .type "list"
  | .sorted => .builtin "sorted"
theorem rp1 {d : D} {xs : List V} (r : RpL cl S T H [d] xs) : ∃ x, xs = [x] ∧ Rp cl S T H d x := by
  cases r with
  | cons a b => cases b; exact ⟨_, rfl, a⟩
theorem rp2 {d e : D} {xs : List V} (r : RpL cl S T H [d, e] xs) : ∃ x y, xs = [x, y] ∧ Rp cl S T H d x ∧ Rp cl S T H e y := by
  cases r with
  | cons a b =>
    obtain ⟨y, rfl, h⟩ := rp1 b
    exact ⟨_, y, rfl, a, h⟩
/-- a list that is read -/
theorem lst_of {K : PySem.W.Frag} {d : D} {v : V} {ds : List D} (m : Sm cl S T H) (r : Rp cl S T H d v) (h : lstD S d = some ds) : ∃ a xs, v = .ref a ∧ SqL K H a xs ∧ RpL cl S T H ds xs := by
  unfold lstD at h
  split at h
  · cases h
    rename_i e
    obtain ⟨a, xs, e1, e2, rl⟩ := vw_lst m r e
    exact ⟨a, xs, e1, SqL.of e2, rl⟩
  · cases h
    rename_i e
    obtain ⟨a, xs, e1, e2, rl⟩ := vw_fls r e
    exact ⟨a, xs, e1, .inl e2, rl⟩
  · cases h
theorem log_small {i : Int} (h : 0 ≤ i ∧ i < 1000000) : i.natAbs.log2 < 1920 := by
  by_cases e : i.natAbs = 0
  · rw [e]; decide
  · rw [Nat.log2_lt e]
    have h1 : i.natAbs < 2 ^ 20 := by omega
    exact Nat.lt_of_lt_of_le h1 (Nat.pow_le_pow_right (by decide) (by decide))
theorem tuple_ok (hc : XC cl X) (own : Bool) : CallR X (.type "tuple") (rBi cl .tuple own) := by
  intro pins s σ H xs us Q I r h
  obtain ⟨ds, S, T, m, rl, q⟩ := h
  simp only [wBi] at q
  split at q <;> rename_i hd <;> try (exact q.elim)
  all_goals try (cases hd; done)
  rename_i d
  obtain ⟨es, hs, q⟩ := q
  obtain ⟨x, rfl, rd⟩ := rp1 rl
  obtain ⟨u, rfl, rx⟩ := vals1 r
  unfold seqD at hs
  have byL : ∀ a vs, x = .ref a → SqL X.K H a vs → RpL cl S T H es vs → wpAny (model X.prog X.w) X.A (call (.type "tuple") [u]) (EP X pins σ Q) X.xe s := fun a vs e hq rv => by
    subst e
    cases rx
    obtain ⟨its, r', pl, hz⟩ := I.list hq
    have hlen := r'.length
    refine call_tuple_list pl.isList (fun h' kp => ?_) (by simp only [List.size_toArray] <;> omega)
    have I1 : Inv X pins σ H { s with heap := h' } := I.kept (t' := s.toks) kp
    have g := finT_go m rv q
    exact kt_lay I1 g.1 r' g.2
  split at hs
  · cases hs
    rename_i e
    obtain ⟨a, vs, e1, e2, rv⟩ := vw_lst m rd e
    exact byL a vs e1 (SqL.of e2) rv
  · cases hs
    rename_i e
    obtain ⟨a, vs, e1, e2, rv⟩ := vw_fls rd e
    exact byL a vs e1 (.inl e2) rv
  · cases hs
    rename_i e
    obtain rfl := vw_tup e
    obtain ⟨a, vs, e1, e2, rv⟩ := tup_of rd
    subst e1
    cases rx
    obtain ⟨its, r', pl, hz⟩ := I.tuple (show SqT X.K H a vs from .inl e2)
    exact call_tuple_same pl ⟨.ref a, H, I, rfl, q.2.here m rd⟩
  · cases hs
theorem bi_ok (hc : XC cl X) (f : Bi) (own : Bool) : CallR X (biV f) (rBi cl f own) := by
  cases f with
  | tuple => exact tuple_ok hc own
  | len =>
    intro pins s σ H xs us Q I r h
    obtain ⟨ds, S, T, m, rl, q⟩ := h
    unfold wBi at q
    split at q <;> try (rename_i hd; cases hd; done)
    · obtain ⟨x, rfl, rd⟩ := rp1 rl
      split at q
      · rename_i hx
        obtain ⟨a, vs, rfl, ea, ra⟩ := vw_lst m rd hx
        exact call_len_seq pins s σ H _ us Q I r ⟨a, vs, rfl, .inl (SqL.of ea), by rw [← ra.length]; exact q.here m (.int _)⟩
      · rename_i hx
        obtain ⟨a, vs, rfl, ea, ra⟩ := vw_fls rd hx
        exact call_len_seq pins s σ H _ us Q I r ⟨a, vs, rfl, .inl (.inl ea), by rw [← ra.length]; exact q.here m (.int _)⟩
      · rename_i hx
        obtain rfl := vw_tup hx
        obtain ⟨a, vs, rfl, ea, ra⟩ := tup_of rd
        exact call_len_seq pins s σ H _ us Q I r ⟨a, vs, rfl, .inr (.inl ea), by rw [← ra.length]; exact q.here m (.int _)⟩
      · rename_i hx
        obtain ⟨a, rfl, kvs, ea, ra⟩ := vw_dic m rd hx
        obtain ⟨u, rfl, rx⟩ := vals1 r
        cases rx
        exact d_len I ea fun t s' I' => ⟨.int kvs.length, H, I', ⟨t, rfl⟩, by rw [← ra.length]; exact q.here m (.int _)⟩
      · rename_i hx
        obtain rfl := vw_str hx
        obtain ⟨rfl, ok⟩ := str_of rd
        exact call_len_str pins s σ H _ us Q I r ⟨_, rfl, q.1, q.2.here m (.int _)⟩
      · exact q.elim
    · exact q.elim
  | abs =>
    intro pins s σ H xs us Q I r h
    obtain ⟨ds, S, T, m, rl, q⟩ := h
    unfold wBi at q
    split at q <;> try (rename_i hd; cases hd; done)
    · obtain ⟨x, rfl, rd⟩ := rp1 rl
      obtain rfl := int_of rd
      refine call_abs pins s σ H _ us Q I r ⟨_, rfl, ?_⟩
      rename_i i _
      have : (if i < 0 then -i else i) = ((i.natAbs : Nat) : Int) := by split <;> omega
      rw [this]
      exact q.here m (.int _)
    · exact q.elim
  | int =>
    intro pins s σ H xs us Q I r h
    obtain ⟨ds, S, T, m, rl, q⟩ := h
    unfold wBi at q
    split at q <;> try (rename_i hd; cases hd; done)
    · obtain ⟨x, rfl, rd⟩ := rp1 rl
      obtain rfl := int_of rd
      exact call_int1 pins s σ H _ us Q I r (.inl ⟨_, rfl, q.here m (.int _)⟩)
    · obtain ⟨x, rfl, rd⟩ := rp1 rl
      obtain rfl := bl_of rd
      exact call_int1 pins s σ H _ us Q I r (.inr ⟨_, rfl, q.here m (.int _)⟩)
    · exact q.elim
  | str =>
    intro pins s σ H xs us Q I r h
    obtain ⟨ds, S, T, m, rl, q⟩ := h
    unfold wBi at q
    split at q <;> try (rename_i hd; cases hd; done)
    · obtain ⟨x, rfl, rd⟩ := rp1 rl
      obtain rfl := int_of rd
      exact call_str_int pins s σ H _ us Q I r ⟨_, rfl, log_small q.1, q.2.here m (.str _ (okS_num _))⟩
    · exact q.elim
  | repr =>
    intro pins s σ H xs us Q I r h
    obtain ⟨ds, S, T, m, rl, q⟩ := h
    unfold wBi at q
    split at q <;> try (rename_i hd; cases hd; done)
    · obtain ⟨x, rfl, rd⟩ := rp1 rl
      exact reprV_ok hc pins s σ H _ us Q I r ⟨_, _, S, T, rfl, m, rd, q⟩
    · exact q.elim
  | min2 =>
    intro pins s σ H xs us Q I r h
    obtain ⟨ds, S, T, m, rl, q⟩ := h
    unfold wBi at q
    split at q <;> try (rename_i hd; cases hd; done)
    · obtain ⟨x, y, rfl, rd, re⟩ := rp2 rl
      obtain rfl := int_of rd; obtain rfl := int_of re
      refine call_min2 hc.calm pins s σ H _ us Q I r ⟨_, _, rfl, ?_⟩
      rename_i i j _
      have : (if j < i then j else i) = min i j := by split <;> omega
      rw [this]
      exact q.here m (.int _)
    · exact q.elim
  | max2 =>
    intro pins s σ H xs us Q I r h
    obtain ⟨ds, S, T, m, rl, q⟩ := h
    unfold wBi at q
    split at q <;> try (rename_i hd; cases hd; done)
    · obtain ⟨x, y, rfl, rd, re⟩ := rp2 rl
      obtain rfl := int_of rd; obtain rfl := int_of re
      refine call_max2 hc.calm pins s σ H _ us Q I r ⟨_, _, rfl, ?_⟩
      rename_i i j _
      have : (if j > i then j else i) = max i j := by split <;> omega
      rw [this]
      exact q.here m (.int _)
    · exact q.elim
  | min1 =>
    intro pins s σ H xs us Q I r h
    obtain ⟨ds, S, T, m, rl, q⟩ := h
    unfold wBi at q
    split at q <;> try (rename_i hd; cases hd; done)
    · obtain ⟨x, rfl, rd⟩ := rp1 rl
      obtain ⟨es, ns, h1, h2, h3, q⟩ := q
      obtain ⟨a, vs, rfl, hq, rv⟩ := lst_of (K := X.K) m rd h1
      obtain rfl := rv.ints h2
      exact cr_min hc.calm pins s σ H _ us Q I r ⟨a, ns, rfl, hq, List.length_pos_iff.mpr h3, fun k k1 k2 => (q k k1 k2).here m (.int _)⟩
    · exact q.elim
  | max1 =>
    intro pins s σ H xs us Q I r h
    obtain ⟨ds, S, T, m, rl, q⟩ := h
    unfold wBi at q
    split at q <;> try (rename_i hd; cases hd; done)
    · obtain ⟨x, rfl, rd⟩ := rp1 rl
      obtain ⟨es, ns, h1, h2, h3, q⟩ := q
      obtain ⟨a, vs, rfl, hq, rv⟩ := lst_of (K := X.K) m rd h1
      obtain rfl := rv.ints h2
      exact cr_max hc.calm pins s σ H _ us Q I r ⟨a, ns, rfl, hq, List.length_pos_iff.mpr h3, fun k k1 k2 => (q k k1 k2).here m (.int _)⟩
    · exact q.elim
  | sum =>
    intro pins s σ H xs us Q I r h
    obtain ⟨ds, S, T, m, rl, q⟩ := h
    unfold wBi at q
    split at q <;> try (rename_i hd; cases hd; done)
    · obtain ⟨x, rfl, rd⟩ := rp1 rl
      obtain ⟨es, ns, h1, h2, q⟩ := q
      obtain ⟨a, vs, rfl, hq, rv⟩ := lst_of (K := X.K) m rd h1
      obtain rfl := rv.ints h2
      exact cr_sum hc.calm pins s σ H _ us Q I r ⟨a, ns, rfl, hq, q.here m (.int _)⟩
    · exact q.elim
  | any =>
    intro pins s σ H xs us Q I r h
    obtain ⟨ds, S, T, m, rl, q⟩ := h
    unfold wBi at q
    split at q <;> try (rename_i hd; cases hd; done)
    · obtain ⟨x, rfl, rd⟩ := rp1 rl
      obtain ⟨es, ns, h1, h2, q⟩ := q
      obtain ⟨a, vs, rfl, hq, rv⟩ := lst_of (K := X.K) m rd h1
      obtain rfl := rv.bls h2
      exact cr_any hc.calm pins s σ H _ us Q I r ⟨a, ns, rfl, hq, q.here m (.bl _)⟩
    · exact q.elim
  | all =>
    intro pins s σ H xs us Q I r h
    obtain ⟨ds, S, T, m, rl, q⟩ := h
    unfold wBi at q
    split at q <;> try (rename_i hd; cases hd; done)
    · obtain ⟨x, rfl, rd⟩ := rp1 rl
      obtain ⟨es, ns, h1, h2, q⟩ := q
      obtain ⟨a, vs, rfl, hq, rv⟩ := lst_of (K := X.K) m rd h1
      obtain rfl := rv.bls h2
      exact cr_all hc.calm pins s σ H _ us Q I r ⟨a, ns, rfl, hq, q.here m (.bl _)⟩
    · exact q.elim
  | list =>
    intro pins s σ H xs us Q I r h
    obtain ⟨ds, S, T, m, rl, q⟩ := h
    unfold wBi at q
    split at q <;> try (rename_i hd; cases hd; done)
    · obtain ⟨x, rfl, rd⟩ := rp1 rl
      obtain ⟨es, h1, q⟩ := q
      obtain ⟨a, vs, rfl, hq, rv⟩ := items_of (K := X.K) m rd h1
      exact call_list_of pins s σ H _ us Q I r ⟨a, vs, rfl, hq, (finL_go m rv q).2⟩
    · exact q.elim
  | sorted =>
    intro pins s σ H xs us Q I r h
    obtain ⟨ds, S, T, m, rl, q⟩ := h
    unfold wBi at q
    split at q <;> try (rename_i hd; cases hd; done)
    · obtain ⟨x, rfl, rd⟩ := rp1 rl
      obtain ⟨es, h1, h2, q⟩ := q
      exact sorted_ok hc own pins s σ H _ us Q I r ⟨_, _, S, T, es, rfl, m, rd, h1, h2, q⟩
    · exact q.elim
end Dz
/-! Dz11: methods of built-in types. -/
namespace Dz
open PySem PySem.Spec PyProof.Rows L2

variable {cl : CL} {X : Cx} {S : Sto} {T H : Hp}
def bmName : Bm → Str
  | .append => "append"
  | .extend => "extend"
  | .pop0 => "pop"
  | .pop => "pop"
  | .index => "index"
  | .split => "split"
  | .join => "join"
  | .get2 => "get"
  | .update => "update"
def bmId (t : String) : Bm → String
  | .append => "list.append"
  | .extend => "list.extend"
  | .pop0 => "list.pop"
  | .pop => "list.pop"
  | .index => if t = "tuple" then "tuple.index" else "list.index"
  | .split => "str.split"
  | .join => "str.join"
  | .get2 => "dict.get"
  | .update => "dict.update"
structure MFact (t : String) (name : Str) (id : String) : Prop where
  pa : PlainAttrs t
  slot : Slot t name id
  ty : typeOf (.builtin id) = pure (.type "method_descriptor")
theorem bm_fact {f : Bm} {d : D} {t : String} (h : bmTy f d = some t) : MFact t (bmName f) (bmId t f) := by
  unfold bmTy at h
  split at h <;> cases h
  · exact ⟨PySem.F.plainAttrs_list, PySem.F.slot_list_append, PySem.F.type_list_append⟩
  · exact ⟨PySem.F.plainAttrs_list, PySem.F.slot_list_extend, PySem.F.type_list_extend⟩
  · exact ⟨PySem.F.plainAttrs_list, PySem.F.slot_list_pop, PySem.F.type_list_pop⟩
  · exact ⟨PySem.F.plainAttrs_list, PySem.F.slot_list_pop, PySem.F.type_list_pop⟩
  · exact ⟨PySem.F.plainAttrs_list, PySem.F.slot_list_index, PySem.F.type_list_index⟩
  · exact ⟨PySem.F.plainAttrs_tuple, PySem.F.slot_tuple_index, PySem.F.type_tuple_index⟩
  · exact ⟨PySem.F.plainAttrs_str, PySem.F.slot_str_split, PySem.F.type_str_split⟩
  · exact ⟨PySem.F.plainAttrs_str, PySem.F.slot_str_join, PySem.F.type_str_join⟩
/-- the receiver's type in the heap -/
theorem bm_type {pins : List (Addr × Obj)} {σ : L2.St} {s : Shared} {f : Bm} {d : D} {t : String} {x : V} {v : Value} (I : Inv X pins σ H s) (m : Sm cl S T H) (r : Rp cl S T H d x) (rv : RelV x v) (h : bmTy f (vw S d) = some t) :
    s.TypeIs v t ∧ ∀ a, v = .ref a → ∃ ob, s.heap.get? a = some ob ∧ ob.dict = none := by
  have byL : ∀ ds, vw S d = .lst ds → s.TypeIs v "list" ∧ ∀ a, v = .ref a → ∃ ob, s.heap.get? a = some ob ∧ ob.dict = none := fun ds e => by
    obtain ⟨a, xs, rfl, ea, _⟩ := vw_lst m r e
    cases rv
    obtain ⟨its, _, pl, _⟩ := I.list (SqL.of ea)
    refine ⟨pl.isList.typeIs, fun a e => ?_⟩
    cases e
    obtain ⟨o, n, e, c, hd, _⟩ := pl
    exact ⟨o, e, hd⟩
  have byS : ∀ z, vw S d = .str z → s.TypeIs v "str" ∧ ∀ a, v = .ref a → ∃ ob, s.heap.get? a = some ob ∧ ob.dict = none := fun z e => by
    obtain rfl := vw_str e
    obtain ⟨rfl, _⟩ := str_of r
    obtain ⟨k, rfl⟩ := rv
    exact ⟨typeIs_str s z k, fun _ e => nomatch e⟩
  unfold bmTy at h
  split at h <;> cases h
  all_goals (rename_i e; first | exact byL _ e | exact byS _ e | skip)
  obtain rfl := vw_tup e
  cases r with
  | tup h1 h0 h2 rl =>
    cases rv
    obtain ⟨g1, _, its, _, o, h3, h4, _⟩ := I.hok _ _ h1
    exact ⟨⟨o, h3, h4⟩, fun a e => by cases e; exact ⟨_, g1, h0⟩⟩
/-- a method by values -/
def rBm (cl : CL) (f : Bm) (t : String) (own : Bool) : V → List V → Hp → VK → Prop := fun x xs H Q => ∃ d ds S T, (t = "tuple" ↔ ∃ ts, d = .tup ts) ∧ Sm cl S T H ∧ Rp cl S T H d x ∧ RpL cl S T H ds xs ∧ wBm f own d ds S (kQ cl S T H Q)
theorem okS_parts (y : Str) : ∀ {ps : List Str}, okS (Str.join y ps) = true → ∀ p ∈ ps, okS p = true
  | [], _, _, h => nomatch h
  | [p], h, q, hq => by
    rcases List.mem_cons.mp hq with e | hq
    · rw [e]; exact h
    · cases hq
  | p :: z :: r, h, q, hq => by
    have h' : okS (p ++ y ++ Str.join y (z :: r)) = true := h
    have e : (p ++ y ++ Str.join y (z :: r)).cps.toList = p.cps.toList ++ y.cps.toList ++ (Str.join y (z :: r)).cps.toList := by
      show ((p.cps ++ y.cps) ++ (Str.join y (z :: r)).cps).toList = _
      simp
    unfold okS at h'
    rw [e, List.all_append, List.all_append, Bool.and_eq_true, Bool.and_eq_true] at h'
    rcases List.mem_cons.mp hq with e | hq
    · rw [e]; exact h'.1.1
    · exact okS_parts y h'.2 q hq
theorem rpL_strs : ∀ {ps : List Str}, (∀ p ∈ ps, okS p = true) → RpL cl S T H (ps.map .str) (ps.map V.str)
  | [], _ => .nil
  | p :: ps, h => .cons (.str p (h p (List.mem_cons_self ..))) (rpL_strs fun q hq => h q (List.mem_cons_of_mem _ hq))
theorem pyAll_get : ∀ {ds : List D} {j : Nat}, (pyAll ds)[j]? = (ds[j]?).map pyOf
  | [], j => by simp [pyAll]
  | d :: ds, 0 => by simp [pyAll]
  | d :: ds, j + 1 => by simp only [pyAll, List.getElem?_cons_succ]; exact pyAll_get
theorem index_ok (hc : XC cl X) (own : Bool) (t : String) : MtR X (bmId t .index) (rBm cl .index t own) := by
  intro pins s σ H x xs v us Q I rx rxs h
  obtain ⟨d, ds, S, T, ht, m, rd, rl, q⟩ := h
  unfold wBm at q
  split at q <;> try (rename_i hd; cases hd; done)
  · rename_i d2 _
    obtain ⟨ys, j, hv, p1, p2, hj, hno, q⟩ := q
    obtain ⟨y, rfl, re⟩ := rp1 rl
    have hu : X.A.units + 65 < cLine := by have := hc.room.un; omega
    have hz : (pyAll ys)[j]? = some (pyOf d2) := by rw [pyAll_get, hj]; rfl
    have hzj : PyData.eqv (pyOf d2) (pyOf d2) = true := by rw [eqv_of 6 6 _ _ p1 p1]; simp
    have hno' : ∀ (k : Nat) (z' : PyData), k < j → (pyAll ys)[k]? = some z' → PyData.eqv z' (pyOf d2) = false := fun k z' hk hz' => by
      rw [pyAll_get] at hz'
      obtain ⟨w, hw, rfl⟩ := Option.map_eq_some_iff.mp hz'
      rw [eqv_of 5 6 w d2 (p2 w (List.mem_of_getElem? hw)) p1]
      exact decide_eq_false fun e => hno k hk (by rw [hw, e])
    rcases hv with hv | hv
    · have hne : t ≠ "tuple" := fun e => by
        obtain ⟨ts, e2⟩ := ht.mp e
        rw [e2] at hv
        cases hv
      have e : bmId t .index = "list.index" := if_neg hne
      rw [e]
      obtain ⟨a, vs, e1, _, _⟩ := vw_lst m rd hv
      have g := lst_dp (K := X.K) m rd hv p2
      subst e1
      refine mt_indexD hu pins s σ H _ _ v us Q I rx rxs ⟨a, y, pyOf d2, pyAll ys, j, pyOf d2, rfl, rfl, g.1, dp_of re p1, g.2, shaped_of (lay_of re p1) (by decide), hz, hzj, hno', q.here m (.int _)⟩
    · obtain rfl := vw_tup hv
      have e : bmId t .index = "tuple.index" := if_pos (ht.mpr ⟨_, rfl⟩)
      rw [e]
      have p3 : Pl 6 (.tup ys) := p2
      have l := lay_of rd p3
      simp only [pyOf, PyData.canLay0, PyData.depth] at l
      obtain ⟨a, vs, rfl, ea, rv⟩ := tup_of rd
      cases rx
      obtain ⟨u, rfl, ru⟩ := vals1 rxs
      obtain ⟨bs, r1⟩ := Dp.reads I _ _ _ (dp_of (K := X.K) re p1) ru
      obtain ⟨its, rvv, pl, hlen⟩ := I.tuple (show SqT X.K H a vs from .inl ea)
      obtain ⟨⟨cls, dd, dt, sl⟩, ho, hcl, n, hd⟩ := pl
      simp only at hcl hd
      subst hcl hd
      obtain ⟨as, h4⟩ := Dp.readsAll I (pyAll ys) _ its (dpAll_of (K := X.K) rv p2) rvv
      have hn : its.length = (pyAll ys).length := SeqAt.ReadsAll.length (pyAll ys) its as h4
      have hmap : its.map (SeqAt.readOf s.heap) = pyAll ys := SeqAt.readsAll_map (pyAll ys) its as l.1 h4
      have hdl := lay_of re p1
      have hroom : X.A.units + 1 + min (PyData.depthAll (pyAll ys)) (pyOf d2).depth < cLine := by
        have := Nat.min_le_right (PyData.depthAll (pyAll ys)) (pyOf d2).depth
        omega
      obtain ⟨hjd, _⟩ := List.getElem?_eq_some_iff.mp hz
      have hjl : j < its.length := by omega
      have hj' : j < its.toArray.size := by simpa using hjl
      have at_ : ∀ (k : Nat) (hk : k < its.toArray.size) (z' : PyData), (pyAll ys)[k]? = some z' → SeqAt.readOf s.heap its.toArray[k] = z' := by
        intro k hk z' hz'
        have hml : k < its.length := by simpa using hk
        rw [← hmap, List.getElem?_map, List.getElem?_eq_getElem hml] at hz'
        have e1 : SeqAt.readOf s.heap its[k] = z' := Option.some.inj (show some (SeqAt.readOf s.heap its[k]) = some z' from hz')
        simpa using e1
      refine call_meets PySem.F.slot_tuple_index ⟨_, ho, rfl⟩ PySem.F.entry_tuple_index (PySem.F.args_tuple_index_2 _ _)
        (TI.tuple_indexAt a its.toArray n dd sl u (fun w => PyData.eqv (SeqAt.readOf s.heap w) (pyOf d2)) j hj' ?_ ?_)
        ⟨ho, SeqAt.items_eqAt (vs := its.toArray) (show ReadsAll s.heap its.toArray.toList (pyAll ys) as from h4) r1 l.1 hdl.1 hroom, ?_⟩
      · show PyData.eqv (SeqAt.readOf s.heap its.toArray[j]) (pyOf d2) = true
        rw [at_ j hj' _ hz]
        exact hzj
      · intro k hk hkj
        have hkd : k < (pyAll ys).length := by omega
        have hz' : (pyAll ys)[k]? = some (pyAll ys)[k] := List.getElem?_eq_getElem hkd
        show PyData.eqv (SeqAt.readOf s.heap its.toArray[k]) (pyOf d2) = false
        rw [at_ k hk _ hz']
        exact hno' k _ hkj hz'
      · exact ⟨.int (j : Nat), H, I.tok _, ⟨_, rfl⟩, q.here m (.int _)⟩
  · exact q.elim
theorem bm_ok (hc : XC cl X) (f : Bm) (own : Bool) (t : String) : MtR X (bmId t f) (rBm cl f t own) := by
  cases f with
  | index => exact index_ok hc own t
  | append =>
    intro pins s σ H x xs v us Q I rx rxs h
    obtain ⟨d, ds, S, T, ht, m, rd, rl, q⟩ := h
    unfold wBm at q
    split at q <;> try (rename_i hd; cases hd; done)
    · obtain ⟨p, ys, rfl, hp, hl, q⟩ := q
      obtain ⟨y, rfl, re⟩ := rp1 rl
      cases rd
      obtain ⟨ho, hh, rO⟩ := m.ob _ _ hp
      cases rO with
      | lst rs =>
        refine mt_append pins s σ H _ _ v us Q I rx rxs ⟨p, _, y, rfl, rfl, hh, by rw [← rs.length]; exact hl, ?_⟩
        exact q .non _ (Ex.wr hp) (m.wr hp (.lst (rs.append (.cons re .nil)))) .non
    · exact q.elim
  | extend =>
    intro pins s σ H x xs v us Q I rx rxs h
    obtain ⟨d, ds, S, T, ht, m, rd, rl, q⟩ := h
    unfold wBm at q
    split at q <;> try (rename_i hd; cases hd; done)
    · obtain ⟨p, ys, zs, rfl, hp, hz, hl, q⟩ := q
      obtain ⟨y, rfl, re⟩ := rp1 rl
      cases rd
      obtain ⟨ho, hh, rO⟩ := m.ob _ _ hp
      cases rO with
      | lst rs =>
        split at hz
        · rename_i hv
          cases hz
          obtain ⟨b, ws, rfl, hb, rw'⟩ := vw_lst m re hv
          refine mt_extend pins s σ H _ _ v us Q I rx rxs ⟨p, b, _, ws, rfl, rfl, hh, hb, by rw [← rs.length, ← rw'.length]; exact hl, ?_⟩
          exact q .non _ (Ex.wr hp) (m.wr hp (.lst (rs.append rw'))) .non
        · cases hz
    · exact q.elim
  | pop =>
    intro pins s σ H x xs v us Q I rx rxs h
    obtain ⟨d, ds, S, T, ht, m, rd, rl, q⟩ := h
    unfold wBm at q
    split at q <;> try (rename_i hd; cases hd; done)
    · obtain ⟨p, ys, z, rfl, hp, h0, h1, hz, q⟩ := q
      obtain ⟨y, rfl, re⟩ := rp1 rl
      obtain rfl := int_of re
      cases rd
      obtain ⟨ho, hh, rO⟩ := m.ob _ _ hp
      rename_i i _
      cases rO with
      | lst rs =>
        obtain ⟨w, hw, rw'⟩ := rs.get hz
        have hlt := (List.getElem?_eq_some_iff.mp hw).1
        have hsq : ∀ n : Nat, i.toNat < n → seqIndex? i n = some i.toNat := fun n hn => by
          have e : i = ((i.toNat : Nat) : Int) := by omega
          rw [e]
          unfold seqIndex?
          simp
          omega
        refine mt_popAt pins s σ H _ _ v us Q I rx rxs ⟨p, _, i, i.toNat, w, rfl, rfl, hh, by omega, by omega, hsq _ hlt, hw, ?_⟩
        exact q _ _ (Ex.wr hp) (m.wr hp (.lst (rs.eraseIdx _))) (rw'.ext (Ex.wr hp))
    · exact q.elim
  | pop0 =>
    intro pins s σ H x xs v us Q I rx rxs h
    obtain ⟨d, ds, S, T, ht, m, rd, rl, q⟩ := h
    unfold wBm at q
    split at q <;> try (rename_i hd; cases hd; done)
    · obtain ⟨p, ys, z, rfl, hp, hz, q⟩ := q
      cases rl
      cases rd
      obtain ⟨ho, hh, rO⟩ := m.ob _ _ hp
      cases rO with
      | lst rs =>
        obtain ⟨w, hw, rw'⟩ := rs.get hz
        rw [rs.length] at hw
        refine mt_pop pins s σ H _ _ v us Q I rx rxs ⟨p, _, w, rfl, rfl, hh, hw, ?_⟩
        exact q _ _ (Ex.wr hp) (m.wr hp (.lst rs.dropLast)) (rw'.ext (Ex.wr hp))
    · exact q.elim
  | split =>
    intro pins s σ H x xs v us Q I rx rxs h
    obtain ⟨d, ds, S, T, ht, m, rd, rl, q⟩ := h
    unfold wBm at q
    split at q <;> try (rename_i hd; cases hd; done)
    · obtain ⟨z, rfl, h0, hl, q⟩ := q
      obtain ⟨y, rfl, re⟩ := rp1 rl
      obtain ⟨rfl, k1⟩ := str_of re
      obtain ⟨rfl, k2⟩ := str_of rd
      refine mt_split pins s σ H _ _ v us Q I rx rxs ⟨z, _, rfl, rfl, by simpa using h0, hl, ?_⟩
      rename_i y2 _
      have ok : ∀ p ∈ Txt.split z y2, okS p = true := okS_parts y2 (by rw [StrLaws.join_split]; exact k2)
      exact (finL_go m (rpL_strs ok) q).2
    · exact q.elim
  | join =>
    intro pins s σ H x xs v us Q I rx rxs h
    obtain ⟨d, ds, S, T, ht, m, rd, rl, q⟩ := h
    unfold wBm at q
    split at q <;> try (rename_i hd; cases hd; done)
    · obtain ⟨z, es, ys, rfl, hi, hs, hl, q⟩ := q
      obtain ⟨y, rfl, re⟩ := rp1 rl
      obtain ⟨rfl, k2⟩ := str_of rd
      obtain ⟨a, vs, rfl, hq, rv⟩ := items_of (K := X.K) m re hi
      obtain ⟨rfl, k1⟩ := rv.strs hs
      refine mt_join pins s σ H _ _ v us Q I rx rxs ⟨z, a, ys, rfl, rfl, hq, hl, ?_⟩
      refine q.here m (.str _ ?_)
      have e : Txt.join z ys = Str.join z ys := eq_of_beq (PyProof.Rows.join_plain_closes z ys)
      rw [e]
      exact okS_join z k2 ys k1
    · exact q.elim
  | _ =>
    intro pins s σ H x xs v us Q I rx rxs h
    obtain ⟨d, ds, S, T, ht, m, rd, rl, q⟩ := h
    unfold wBm at q
    split at q <;> first | exact q.elim | (rename_i hd; cases hd; done)
end Dz
/-! Dz12: expressions, each from its parts. -/
namespace Dz
open PySem PySem.Spec PyProof.Rows L2

variable {cl : CL} {X : Cx} {a b c e : Expr} {ta tb tc : TE'} {pos : Pos}
abbrev PE' (cl : CL) (X : Cx) (e : Expr) (t : TE') : Prop := PE X e (tr cl t)
abbrev PT' (cl : CL) (X : Cx) (e : Expr) (t : TT') : Prop := PT X e (trB cl t)
abbrev PW' (cl : CL) (X : Cx) (e : Expr) (t : TT') : Prop := PW X e (trB cl t)
abbrev PA' (cl : CL) (X : Cx) (es : List Expr) (t : TA') : Prop := PA X es (trA cl t)
/-- a value's reading as a test -/
def tst (t : TE') : TT' := fun r S Q => t r S fun x S1 => ∃ k, x = .bl k ∧ Q k S1
theorem MonoE.tst {t : TE'} (m : MonoE t) : MonoT (tst t) := fun r S Q Q' h q => m r S _ _ (fun d S' ⟨k, e, q⟩ => ⟨k, e, h _ _ q⟩) q

theorem q_var {i : Nat} {x : Str} (hN : X.N[i]? = some x) (hv : Vis X.env.scope x) (hd : (x == ("__debug__" : Str)) = false) (hcd : (x == ("__classdict__" : Str)) = false) :
    PE' cl X (.Name x pos) (fun r S Q => ∃ d, r[i]? = some (some d) ∧ Q d S) :=
  PE.imp (pe_var hN hv hd hcd) fun s H Q ⟨r, S, T, m, e, d, hr, q⟩ => by
    obtain ⟨v, h1, h2⟩ := e.get i d hr
    exact ⟨v, h1, q.here m h2⟩
theorem q_con {k : Nat} {x : Const} {v : V} {d : D} (h : PE X (.Constant x k pos) (tC v)) (rp : ∀ S T H, Rp cl S T H d v) : PE' cl X (.Constant x k pos) (fun r S Q => Q d S) :=
  PE.imp h fun s H Q ⟨r, S, T, m, e, q⟩ => q.here m (rp S T H)
theorem q_glob {x : Str} {v : V} {u : Value} {d : D} (hg : Gl X x) (hm : X.mg x = some u) (r : RelV v u) (rp : ∀ S T H, Rp cl S T H d v) (hd : (x == ("__debug__" : Str)) = false) : PE' cl X (.Name x pos) (fun r S Q => Q d S) :=
  PE.imp (pe_glob hg hm r hd) fun s H Q ⟨r, S, T, m, e, q⟩ => q.here m (rp S T H)
/-- two in a row, then an operation by values -/
theorem seq2 (mA : MonoE ta) (mB : MonoE tb) {f : D → D → Sto → DK → Prop} (mf : ∀ d e S (Q Q' : DK), (∀ x S', Q x S' → Q' x S') → f d e S Q → f d e S Q') {s : L2.St} {H : Hp} {Q : VK}
    (h : tr cl (fun r S Q => ta r S fun x S1 => tb r S1 fun y S2 => f x y S2 Q) s H Q) : tOp (r2 cl f) (tr cl ta) (tr cl tb) s H Q := by
  obtain ⟨r, S, T, m, e, h⟩ := h
  refine tr_then mA m e h fun d S1 v H1 x m1 e1 rp k => ?_
  refine tr_then mB m1 e1 k fun d2 S2 v2 H2 x2 m2 e2 rp2 k2 => ?_
  exact ⟨d, d2, S2, T, m2, rp.ext x2, rp2, mf _ _ _ _ _ (fun _ _ => kQ.up (x.trans x2)) k2⟩
theorem seqB (mA : MonoE ta) (mB : MonoE tb) {f : D → D → Sto → (Bool → Prop) → Prop} (mf : ∀ d e S (Q Q' : Bool → Prop), (∀ x, Q x → Q' x) → f d e S Q → f d e S Q') {s : L2.St} {H : Hp} {Q : VK}
    (h : tr cl (fun r S Q => ta r S fun x S1 => tb r S1 fun y S2 => f x y S2 fun k => Q (.bl k) S2) s H Q) : tOp (rB cl f) (tr cl ta) (tr cl tb) s H Q := by
  obtain ⟨r, S, T, m, e, h⟩ := h
  refine tr_then mA m e h fun d S1 v H1 x m1 e1 rp k => ?_
  refine tr_then mB m1 e1 k fun d2 S2 v2 H2 x2 m2 e2 rp2 k2 => ?_
  exact ⟨d, d2, S2, T, m2, rp.ext x2, rp2, mf _ _ _ _ _ (fun _ => kQ.up (x.trans x2)) k2⟩
theorem q_bin (op : Operator) (own : Bool) (mA : MonoE ta) (mB : MonoE tb) (ha : PE' cl X a ta) (hb : PE' cl X b tb) :
    PE' cl X (.BinOp a op b pos) (fun r S Q => ta r S fun x S1 => tb r S1 fun y S2 => wBin op own x y S2 Q) :=
  PE.imp (pe_op (bin_ok op own) ha hb) fun _ _ _ h => seq2 (f := wBin op own) mA mB (fun _ _ _ _ _ h q => wBin_mono h q) h
theorem q_neg (mA : MonoE ta) (ha : PE' cl X a ta) : PE' cl X (.UnaryOp .USub a pos) (fun r S Q => ta r S fun x S1 => ∃ i, x = .int i ∧ Q (.int (-i)) S1) :=
  PE.imp (pe_un un_neg ha) fun s H Q ⟨r, S, T, m, e, h⟩ => tr_then mA m e h fun d S1 v H1 x m1 e1 rp ⟨i, ed, k⟩ => by
    subst ed
    obtain rfl := int_of rp
    exact ⟨i, rfl, k _ _ x m1 (.int _)⟩
theorem q_cmp (hc : XC cl X) (op : CmpOp) (mA : MonoE ta) (mB : MonoE tb) (ha : PE' cl X a ta) (hb : PE' cl X b tb) (hm : behindInMarks op b = false) :
    PE' cl X (.Compare a [op] [b] pos) (fun r S Q => ta r S fun x S1 => tb r S1 fun y S2 => wCmp op x y S2 fun k => Q (.bl k) S2) :=
  PE.imp (pe_cmpR (cmp_ok hc op) ha hb hm) fun _ _ _ h => seqB (f := wCmp op) mA mB (fun _ _ _ _ _ h q => wCmp_mono h q) h
/-- a test's answer -/
theorem kQ_test {S S1 : Sto} {T H H1 : Hp} {Q : Bool → Hp → Prop} (x : Ex S S1 T H H1) {d : D} {S2 : Sto} (k : ∃ b, d = .bl b ∧ kB cl S T H Q b S2) : kQ cl S1 T H1 (fun v H2 => ∃ b, v = .bl b ∧ Q b H2) d S2 := by
  obtain ⟨b, rfl, k⟩ := k
  intro v H2 y m2 r2
  obtain rfl := bl_of r2
  exact ⟨b, rfl, k H2 (x.trans y) m2⟩
theorem test_in {t : TE'} (mo : MonoE t) {s : L2.St} {H : Hp} {Q : Bool → Hp → Prop} (h : trB cl (tst t) s H Q) : tr cl t s H (fun v H2 => ∃ b, v = .bl b ∧ Q b H2) := by
  obtain ⟨r, S, T, m, e, h⟩ := h
  exact ⟨r, S, T, m, e, mo _ _ _ _ (fun d S1 q => kQ_test (Ex.refl S T H) q) h⟩
theorem t_cmp (hc : XC cl X) (op : CmpOp) (mA : MonoE ta) (mB : MonoE tb) (ha : PE' cl X a ta) (hb : PE' cl X b tb) (hm : behindInMarks op b = false) :
    PT' cl X (.Compare a [op] [b] pos) (tst fun r S Q => ta r S fun x S1 => tb r S1 fun y S2 => wCmp op x y S2 fun k => Q (.bl k) S2) :=
  PT.imp (pt_cmpR (cmp_ok hc op) ha hb hm) fun s H Q h => by
    have mo : MonoE (fun r S Q => ta r S fun x S1 => tb r S1 fun y S2 => wCmp op x y S2 fun k => Q (.bl k) S2) := fun r S Q Q' h q => mA _ _ _ _ (fun _ _ q => mB _ _ _ _ (fun _ _ q => wCmp_mono (fun _ => h _ _) q) q) q
    exact seqB (f := wCmp op) mA mB (fun _ _ _ _ _ h q => wCmp_mono h q) (test_in mo h)
theorem t_val (mA : MonoE ta) (ha : PE' cl X a ta) (he : ∀ whole, isTrue a X.env whole = (do let v ← whole; standAt a.pos; holding [v] (truthy v))) : PT' cl X a (tst ta) :=
  PT.imp (pt_val ha he) fun s H Q h => test_in mA h
theorem q_chain (hc : XC cl X) (o p : CmpOp) (mA : MonoE ta) (mB : MonoE tb) (mC : MonoE tc) (ha : PE' cl X a ta) (hb : PE' cl X b tb) (hcc : PE' cl X c tc) (hm : lastMarks [o, p] [b, c] = false) :
    PE' cl X (.Compare a [o, p] [b, c] pos) (fun r S Q => ta r S fun x S1 => tb r S1 fun y S2 => wCmp o x y S2 fun k => if k = true then tc r S2 fun z S3 => wCmp p y z S3 fun m => Q (.bl m) S3 else Q (.bl false) S2) :=
  PE.imp (pe_chain (cmp_ok hc o) (cmp_ok hc p) ha hb hcc hm) fun s H Q ⟨r, S, T, m, e, h⟩ => by
    refine tr_then mA m e h fun d S1 v H1 x m1 e1 rp k => ?_
    refine tr_then mB m1 e1 k fun d2 S2 v2 H2 x2 m2 e2 rp2 k2 => ?_
    refine ⟨d, d2, S2, T, m2, rp.ext x2, rp2, wCmp_mono (fun b k3 => ?_) k2⟩
    intro vb H3 x3 m3 r3
    obtain rfl := bl_of r3
    refine ⟨b, rfl, ?_⟩
    split at k3
    · rename_i hb
      rw [if_pos hb]
      refine tr_then mC m3 (e2.ext x3) k3 fun d4 S4 v4 H4 x4 m4 e4 rp4 k4 => ?_
      exact ⟨d2, d4, S4, T, m4, (rp2.ext x3).ext x4, rp4, wCmp_mono (fun _ => kQ.up (((x.trans x2).trans x3).trans x4)) k4⟩
    · rename_i hb
      rw [if_neg hb]
      exact k3 _ _ ((x.trans x2).trans x3) m3 (.bl _)
theorem t_chain (hc : XC cl X) (o p : CmpOp) (mA : MonoE ta) (mB : MonoE tb) (mC : MonoE tc) (ha : PE' cl X a ta) (hb : PE' cl X b tb) (hcc : PE' cl X c tc) (hm : lastMarks [o, p] [b, c] = false) :
    PT' cl X (.Compare a [o, p] [b, c] pos) (tst fun r S Q => ta r S fun x S1 => tb r S1 fun y S2 => wCmp o x y S2 fun k => if k = true then tc r S2 fun z S3 => wCmp p y z S3 fun m => Q (.bl m) S3 else Q (.bl false) S2) :=
  PT.imp (pt_chain (cmp_ok hc o) (cmp_ok hc p) ha hb hcc hm) fun s H Q ⟨r, S, T, m, e, h⟩ => by
    refine tr_then mA m e h fun d S1 v H1 x m1 e1 rp k => ?_
    refine tr_then mB m1 e1 k fun d2 S2 v2 H2 x2 m2 e2 rp2 k2 => ?_
    refine ⟨d, d2, S2, T, m2, rp.ext x2, rp2, wCmp_mono (fun b k3 => ?_) k2⟩
    intro vb H3 x3 m3 r3
    obtain rfl := bl_of r3
    refine ⟨b, rfl, ?_⟩
    split at k3
    · rename_i hb
      rw [if_pos hb]
      refine tr_then mC m3 (e2.ext x3) k3 fun d4 S4 v4 H4 x4 m4 e4 rp4 k4 => ?_
      exact ⟨d2, d4, S4, T, m4, (rp2.ext x3).ext x4, rp4, wCmp_mono (fun _ k5 => kQ_test (((x.trans x2).trans x3).trans x4) k5) k4⟩
    · rename_i hb
      rw [if_neg hb]
      obtain ⟨b', eb, k4⟩ := k3
      cases eb
      exact ⟨false, rfl, k4 _ ((x.trans x2).trans x3) m3⟩
theorem q_not (mA : MonoE ta) (ha : PE' cl X a ta) : PE' cl X (.UnaryOp .Not a pos) (fun r S Q => ta r S fun x S1 => ∃ k, x = .bl k ∧ Q (.bl (!k)) S1) :=
  PE.imp (pe_not ha) fun s H Q ⟨r, S, T, m, e, h⟩ => tr_then mA m e h fun d S1 v H1 x m1 e1 rp ⟨k, ed, q⟩ => by
    subst ed
    obtain rfl := bl_of rp
    exact ⟨k, rfl, q _ _ x m1 (.bl _)⟩
theorem t_not (mA : MonoE ta) (ha : PT' cl X a (tst ta)) : PT' cl X (.UnaryOp .Not a pos) (tst fun r S Q => ta r S fun x S1 => ∃ k, x = .bl k ∧ Q (.bl (!k)) S1) :=
  PT.imp (pt_not ha) fun s H Q ⟨r, S, T, m, e, h⟩ => ⟨r, S, T, m, e, mA _ _ _ _ (fun d S1 ⟨k, ed, b, eb, q⟩ => ⟨k, ed, by
    cases eb
    exact q⟩) h⟩
/-- and, or: a value -/
def tAnd' (ta tb : TE') : TE' := fun r S Q => ta r S fun x S1 => ∃ k, x = .bl k ∧ if k = true then tb r S1 (fun y S2 => ∃ m, y = .bl m ∧ Q (.bl m) S2) else Q (.bl false) S1
def tOr' (ta tb : TE') : TE' := fun r S Q => ta r S fun x S1 => ∃ k, x = .bl k ∧ if k = true then Q (.bl true) S1 else tb r S1 (fun y S2 => ∃ m, y = .bl m ∧ Q (.bl m) S2)
theorem tAnd_mono (mA : MonoE ta) (mB : MonoE tb) : MonoE (tAnd' ta tb) := fun r S Q Q' h q => mA _ _ _ _ (fun x S1 ⟨k, ek, q⟩ => ⟨k, ek, by
  split at q <;> rename_i hk
  · rw [if_pos hk]; exact mB _ _ _ _ (fun y S2 ⟨m, em, q⟩ => ⟨m, em, h _ _ q⟩) q
  · rw [if_neg hk]; exact h _ _ q⟩) q
theorem tOr_mono (mA : MonoE ta) (mB : MonoE tb) : MonoE (tOr' ta tb) := fun r S Q Q' h q => mA _ _ _ _ (fun x S1 ⟨k, ek, q⟩ => ⟨k, ek, by
  split at q <;> rename_i hk
  · rw [if_pos hk]; exact h _ _ q
  · rw [if_neg hk]; exact mB _ _ _ _ (fun y S2 ⟨m, em, q⟩ => ⟨m, em, h _ _ q⟩) q⟩) q
theorem q_and {rest : List Expr} (mA : MonoE ta) (mB : MonoE tb) (ha : PE' cl X a ta) (hb : PE' cl X (.BoolOp .And (b :: rest) pos) tb) : PE' cl X (.BoolOp .And (a :: b :: rest) pos) (tAnd' ta tb) :=
  PE.imp (pe_and ha hb) fun s H Q ⟨r, S, T, m, e, h⟩ => tr_then mA m e h fun d S1 v H1 x m1 e1 rp ⟨k, ed, q⟩ => by
    subst ed
    obtain rfl := bl_of rp
    refine ⟨k, rfl, ?_⟩
    split at q <;> rename_i hk
    · rw [if_pos hk]
      refine ⟨r, S1, T, m1, e1, mB _ _ _ _ (fun y S2 ⟨b, eb, q⟩ => ?_) q⟩
      subst eb
      exact kQ.up x q
    · rw [if_neg hk]
      exact q _ _ x m1 (.bl _)
theorem q_or {rest : List Expr} (mA : MonoE ta) (mB : MonoE tb) (ha : PE' cl X a ta) (hb : PE' cl X (.BoolOp .Or (b :: rest) pos) tb) : PE' cl X (.BoolOp .Or (a :: b :: rest) pos) (tOr' ta tb) :=
  PE.imp (pe_or ha hb) fun s H Q ⟨r, S, T, m, e, h⟩ => tr_then mA m e h fun d S1 v H1 x m1 e1 rp ⟨k, ed, q⟩ => by
    subst ed
    obtain rfl := bl_of rp
    refine ⟨k, rfl, ?_⟩
    split at q <;> rename_i hk
    · rw [if_pos hk]
      exact q _ _ x m1 (.bl _)
    · rw [if_neg hk]
      refine ⟨r, S1, T, m1, e1, mB _ _ _ _ (fun y S2 ⟨b, eb, q⟩ => ?_) q⟩
      subst eb
      exact kQ.up x q
theorem t_and {rest : List Expr} (mA : MonoE ta) (mB : MonoE tb) (ha : PT' cl X a (tst ta)) (hb : PW' cl X (.BoolOp .And (b :: rest) pos) (tst tb)) : PW' cl X (.BoolOp .And (a :: b :: rest) pos) (tst (tAnd' ta tb)) :=
  PW.imp (pw_and ha hb) fun s H Q ⟨r, S, T, m, e, h⟩ => by
    have h' : tst ta r S (fun k S1 => if k = true then tst tb r S1 (kB cl S T H Q) else kB cl S T H Q false S1) := mA _ _ _ _ (fun d S1 ⟨k, ed, q⟩ => ⟨k, ed, by
      split at q <;> rename_i hk
      · rw [if_pos hk]
        exact mB _ _ _ _ (fun y S2 ⟨b, eb, b', eb', q⟩ => ⟨b, eb, by cases eb'; exact q⟩) q
      · rw [if_neg hk]
        obtain ⟨b, eb, q⟩ := q
        cases eb
        exact q⟩) h
    refine trB_then mA.tst m e h' fun k S1 H1 x m1 e1 q => ?_
    · split at q <;> rename_i hk
      · rw [if_pos hk]
        exact ⟨r, S1, T, m1, e1, mB.tst _ _ _ _ (fun b S2 q => kB.up x q) q⟩
      · rw [if_neg hk]
        exact q _ x m1
theorem t_or {rest : List Expr} (mA : MonoE ta) (mB : MonoE tb) (ha : PT' cl X a (tst ta)) (hb : PW' cl X (.BoolOp .Or (b :: rest) pos) (tst tb)) : PW' cl X (.BoolOp .Or (a :: b :: rest) pos) (tst (tOr' ta tb)) :=
  PW.imp (pw_or ha hb) fun s H Q ⟨r, S, T, m, e, h⟩ => by
    have h' : tst ta r S (fun k S1 => if k = true then kB cl S T H Q true S1 else tst tb r S1 (kB cl S T H Q)) := mA _ _ _ _ (fun d S1 ⟨k, ed, q⟩ => ⟨k, ed, by
      split at q <;> rename_i hk
      · rw [if_pos hk]
        obtain ⟨b, eb, q⟩ := q
        cases eb
        exact q
      · rw [if_neg hk]
        exact mB _ _ _ _ (fun y S2 ⟨b, eb, b', eb', q⟩ => ⟨b, eb, by cases eb'; exact q⟩) q⟩) h
    refine trB_then mA.tst m e h' fun k S1 H1 x m1 e1 q => ?_
    · split at q <;> rename_i hk
      · rw [if_pos hk]
        exact q _ x m1
      · rw [if_neg hk]
        exact ⟨r, S1, T, m1, e1, mB.tst _ _ _ _ (fun b S2 q => kB.up x q) q⟩
theorem q_ite (mA : MonoE ta) (mB : MonoE tb) (mC : MonoE tc) (hc : PT' cl X c (tst tc)) (ha : PE' cl X a ta) (hb : PE' cl X b tb) :
    PE' cl X (.IfExp c a b pos) (fun r S Q => tc r S fun x S1 => ∃ k, x = .bl k ∧ if k = true then ta r S1 Q else tb r S1 Q) :=
  PE.imp (pe_ifExp hc ha hb) fun s H Q ⟨r, S, T, m, e, h⟩ => by
    refine trB_then (k := fun k S1 => if k = true then ta r S1 (kQ cl S T H Q) else tb r S1 (kQ cl S T H Q)) mC.tst m e h fun k S1 H1 x m1 e1 q => ?_
    split at q <;> rename_i hk
    · rw [if_pos hk]
      exact ⟨r, S1, T, m1, e1, mA _ _ _ _ (fun d S2 q => kQ.up x q) q⟩
    · rw [if_neg hk]
      exact ⟨r, S1, T, m1, e1, mB _ _ _ _ (fun d S2 q => kQ.up x q) q⟩

/-! ### arguments, displays -/
variable {es : List Expr} {t : TA'}
theorem q_nil : PA' cl X [] (fun _ S Q => Q [] S) := PA.imp pa_nil fun s H Q ⟨r, S, T, m, e, q⟩ => q [] H (Ex.refl S T H) m .nil
theorem q_cons (mA : MonoE ta) (mt : MonoA t) (ha : PE' cl X a ta) (hr : PA' cl X es t) (hs : starEach (a :: es) X.env = (false, eval a X.env) :: starEach es X.env) :
    PA' cl X (a :: es) (fun r S Q => ta r S fun d S1 => t r S1 fun ds S2 => Q (d :: ds) S2) :=
  PA.imp (pa_cons ha hr hs) fun s H Q ⟨r, S, T, m, e, h⟩ => by
    refine tr_then mA m e h fun d S1 v H1 x m1 e1 rp k => ?_
    refine trA_then mt m1 e1 k fun ds S2 vs H2 x2 m2 e2 rps k2 => ?_
    exact k2 (v :: vs) H2 (x.trans x2) m2 (.cons (rp.ext x2) rps)
theorem q_tup {x1 : Nat} (mt : MonoA t) (h : PA' cl X es t) : PE' cl X (.Tuple es x1 pos) (fun r S Q => t r S fun ds S1 => finT ds S1 Q) := by
  refine ⟨fun pins s σ H Q I ⟨r, S, T, m, e, hq⟩ => ?_⟩
  refine wpAny_Tuple_spliced (thn (h.run pos pins s σ H (fun xs H1 => xs.length ≤ sizeLine ∧ ∀ p H2, H1 p = none → KT H1 p xs H2 → Q (.ref p) H2) I ?_) fun us s1 ⟨xs, H1, I1, r1, z, q⟩ => ⟨by rw [← r1.length]; exact z, kt_lay I1 z r1 q⟩)
  exact ⟨r, S, T, m, e, mt _ _ _ _ (fun ds S1 q vs H1 x m1 rps => finT_go m1 rps (finT_mono (fun _ _ => kQ.up x) q)) hq⟩
theorem q_lst (own : Bool) (mt : MonoA t) (h : PA' cl X es t) : PE' cl X (.List es pos) (fun r S Q => t r S fun ds S1 => finL own ds S1 Q) :=
  PE.imp (pe_lst h) fun s H Q ⟨r, S, T, m, e, hq⟩ =>
    ⟨r, S, T, m, e, mt _ _ _ _ (fun ds S1 q vs H1 x m1 rps => finL_go m1 rps (finL_mono (fun _ _ => kQ.up x) q)) hq⟩

/-! ### items, slices -/
theorem q_ix (hc : XC cl X) (mA : MonoE ta) (mB : MonoE tb) (ha : PE' cl X a ta) (hb : PE' cl X b tb) (hs : PlainIx b) :
    PE' cl X (.Subscript a b pos) (fun r S Q => ta r S fun x S1 => tb r S1 fun y S2 => wIx x y S2 Q) :=
  PE.imp (pe_ix (ix_ok hc) ha hb hs) fun _ _ _ h => seq2 (f := wIx) mA mB (fun _ _ _ _ _ h q => wIx_mono h q) h
abbrev TO' := Rho → Sto → (Option Int → Sto → Prop) → Prop
def MonoO (t : TO') : Prop := ∀ r S (Q Q' : Option Int → Sto → Prop), (∀ d S', Q d S' → Q' d S') → t r S Q → t r S Q'
def trO (cl : CL) (t : TO') : TO := fun s H Q => ∃ r S T, Sm cl S T H ∧ SmE cl r S T s H ∧ t r S fun o S2 => ∀ H2, Ex S S2 T H H2 → Sm cl S2 T H2 → Q o H2
theorem PO.imp {e : Option Expr} {t t2 : TO} (h : PO X e t) (i : ∀ s H Q, t2 s H Q → t s H Q) : PO X e t2 := ⟨fun pins s σ H Q I q => h.run pins s σ H Q I (i σ H Q q)⟩
theorem q_no : PO X none (trO cl fun _ S Q => Q none S) := PO.imp po_none fun s H Q ⟨r, S, T, m, e, q⟩ => q H (Ex.refl S T H) m
theorem q_yes (mA : MonoE ta) (ha : PE' cl X a ta) : PO X (some a) (trO cl fun r S Q => ta r S fun d S1 => ∃ i, d = .int i ∧ Q (some i) S1) :=
  PO.imp (po_some ha) fun s H Q ⟨r, S, T, m, e, h⟩ => tr_then mA m e h fun d S1 v H1 x m1 e1 rp ⟨i, ed, q⟩ => by
    subst ed
    obtain rfl := int_of rp
    exact ⟨i, rfl, q H1 x m1⟩
theorem trO_then {S : Sto} {T H : Hp} {t : TO'} (mo : MonoO t) {r : Rho} {s : L2.St} {Q : Option Int → Hp → Prop} {k : Option Int → Sto → Prop} (m : Sm cl S T H) (e : SmE cl r S T s H)
    (h : t r S k) (g : ∀ b S1 H1, Ex S S1 T H H1 → Sm cl S1 T H1 → SmE cl r S1 T s H1 → k b S1 → Q b H1) : trO cl t s H Q :=
  ⟨r, S, T, m, e, mo _ _ _ _ (fun d S1 q H1 x m1 => g d S1 H1 x m1 (e.ext x) q) h⟩
theorem q_sl (own : Bool) {lo hi : Option Expr} {tl th : TO'} {p2 : Pos} (mA : MonoE ta) (ml : MonoO tl) (mh : MonoO th) (ha : PE' cl X a ta) (hl : PO X lo (trO cl tl)) (hh : PO X hi (trO cl th)) :
    PE' cl X (.Subscript a (.Slice lo hi none p2) pos) (fun r S Q => ta r S fun x S1 => tl r S1 fun l S2 => th r S2 fun h S3 => wSl own x l h S3 Q) :=
  PE.imp (pe_slice (sl_ok own) ha hl hh) fun s H Q ⟨r, S, T, m, e, h⟩ => by
    refine tr_then mA m e h fun d S1 v H1 x m1 e1 rp k => ?_
    refine trO_then ml m1 e1 k fun l S2 H2 x2 m2 e2 k2 => ?_
    refine trO_then mh m2 e2 k2 fun u S3 H3 x3 m3 e3 k3 => ?_
    exact ⟨d, S3, T, m3, (rp.ext x2).ext x3, wSl_mono (fun _ _ => kQ.up ((x.trans x2).trans x3)) k3⟩
end Dz
/-! Dz13: defs and their calls. -/
namespace Dz
open PySem PySem.Spec PyProof.Rows L2

variable {cl : CL} {X : Cx} {a b c e o : Expr} {es : List Expr} {ta tb tc : TE'} {t : TA'} {pos p apos : Pos}
/-- what a def promises, by data; none of its exceptions leaves -/
structure FnD (P : Program) (w : World) (K : PySem.W.Frag) (mg : Str → Option Value) (base : Heap) (cl : CL) (k : Nat) (f : Addr) (fd : FuncData) (ps : List Str) (sp : DSp) : Prop where
  len : ∀ ds S Q, sp ds S Q → ds.length = ps.length
  mono : MonoSp sp
  run : ∀ (A : Around) (outer : List Env) (s : Shared) (H : Hp) (args : Args) (us : List Value) (vs : List V) (ds : List D) (S : Sto) (T : Hp) (Q : VK), Room k A → A.guards = some [] → Env0 P w K mg base A outer s H → BindsTo s fd args (ps.zip us) → Vals vs us →
    Sm cl S T H → RpL cl S T H ds vs → sp ds S (kQ cl S T H Q) → codeAny (model P w) A (.call (.ref f) args) (CR C8.CX0 outer P w H s Q C8.E0) s
theorem FnD.up {P : Program} {w : World} {K : PySem.W.Frag} {mg : Str → Option Value} {base : Heap} {j k : Nat} {f : Addr} {fd : FuncData} {ps : List Str} {sp : DSp} (F : FnD P w K mg base cl j f fd ps sp) (h : j ≤ k) : FnD P w K mg base cl k f fd ps sp :=
  ⟨F.len, F.mono, fun A outer s H args us vs ds S T Q hr => F.run A outer s H args us vs ds S T Q (hr.mono h)⟩
/-- how positional values and keywords (in the parameters' order, behind the positional ones) are bound -/
def BindD (K : PySem.W.Frag) (fd : FuncData) (ps : List Str) : Prop :=
  ∀ (s : Shared) (us ws : List Value) (ks : List Str), K.In s.heap → (us ++ ws).length = ps.length → ks = ps.drop us.length → BindsTo s fd ⟨us, ks.zip ws⟩ (ps.zip (us ++ ws))
section
variable {k : Nat} {f C : Addr} {fd : FuncData} {ps ks : List Str} {sp : DSp} {pins : List (Addr × Obj)} {σ : L2.St} {H T : Hp} {S : Sto} {s : Shared} {Q : VK}
theorem run_fnD {us ws : List Value} {vs : List V} {ds : List D} (F : FnD X.prog X.w X.K X.mg X.base cl k f fd ps sp) (hr : Room k X.A) (hg : X.A.guards = some []) (hb : BindD X.K fd ps) (hk : ks = ps.drop us.length)
    (I : Inv X pins σ H s) (r : Vals vs (us ++ ws)) (m : Sm cl S T H) (rd : RpL cl S T H ds vs) (h : sp ds S (kQ cl S T H Q)) : wpAny (model X.prog X.w) X.A (call (.ref f) us (ks.zip ws)) (EP X pins σ Q) X.xe s := by
  have hl : (us ++ ws).length = ps.length := by rw [← r.length, ← rd.length]; exact F.len _ _ _ h
  refine wpAny_call (codeAny_mono (F.run X.A X.stack s H ⟨us, ks.zip ws⟩ (us ++ ws) vs ds S T Q hr hg I.env0 (hb s us ws ks I.kIn hl hk) r m rd h) fun r s' hq => ?_)
  cases r with
  | error e => exact hq.elim
  | ok fl =>
    cases fl with
    | ret u => exact I.after hq
    | next => exact False.elim hq
    | brk => exact False.elim hq
    | cont => exact False.elim hq
theorem run_fnD0 {us : List Value} {vs : List V} {ds : List D} (F : FnD X.prog X.w X.K X.mg X.base cl k f fd ps sp) (hr : Room k X.A) (hg : X.A.guards = some []) (hb : BindD X.K fd ps)
    (I : Inv X pins σ H s) (r : Vals vs us) (m : Sm cl S T H) (rd : RpL cl S T H ds vs) (h : sp ds S (kQ cl S T H Q)) : wpAny (model X.prog X.w) X.A (call (.ref f) us) (EP X pins σ Q) X.xe s := by
  have hl : us.length = ps.length := by rw [← r.length, ← rd.length]; exact F.len _ _ _ h
  have := run_fnD (us := us) (ws := []) (ks := []) F hr hg hb (by rw [hl, List.drop_length]) I (by rw [List.append_nil]; exact r) m rd h
  exact this
/-- a def of the module, to be called by its name -/
structure CalD (X : Cx) (cl : CL) (x : Str) (sp : DSp) : Prop where
  ex : ∃ (k : Nat) (f : Addr) (fd : FuncData) (ps : List Str), FnD X.prog X.w X.K X.mg X.base cl k f fd ps sp ∧ Room k X.A ∧ X.mg x = some (.ref f) ∧ PySem.W.keepIn X.K (.ref f) = true ∧ BindD X.K fd ps
/-- a method of the class at C -/
structure MetD (X : Cx) (cl : CL) (C : Addr) (m : Str) (sp : DSp) : Prop where
  ex : ∃ (k : Nat) (f : Addr) (fd : FuncData) (ps : List Str), FnD X.prog X.w X.K X.mg X.base cl k f fd ps sp ∧ Room k X.A ∧ Cls X.K C ∧ Meth X.K C m f ∧ BindD X.K fd ps
/-- a property of the class at C -/
structure PrpD (X : Cx) (cl : CL) (C : Addr) (m : Str) (sp : DSp) : Prop where
  ex : ∃ (k : Nat) (q f : Addr) (fd : FuncData) (ps : List Str), FnD X.prog X.w X.K X.mg X.base cl k f fd ps sp ∧ Room (k + 1) X.A ∧ Cls X.K C ∧ PropOf X.K C m q f ∧ BindD X.K fd ps
/-- a class that may be made by its name; sp: its __init__ -/
structure MakD (X : Cx) (cl : CL) (x : Str) (C : Addr) (sp : DSp) : Prop where
  ex : ∃ (k : Nat) (f : Addr) (fd : FuncData) (ps : List Str), FnD X.prog X.w X.K X.mg X.base cl k f fd ps sp ∧ Room (k + 1) X.A ∧ X.mg x = some (.ref C) ∧ Mk X.K C f ∧ BindD X.K fd ps
end

/-! ### starred arguments: none -/
def isStar : Expr → Bool
  | .Starred .. => true
  | _ => false
theorem star_no {env : Env} (h : isStar e = false) : starEach (e :: es) env = (false, eval e env) :: starEach es env := by
  cases e <;> first | rfl | (exact absurd h (by simp [isStar]))
theorem noStar {env : Env} : ∀ {es : List Expr}, es.all (fun e => !isStar e) = true → (backTo pos (starEach es env)).any (·.1) = false
  | [], _ => rfl
  | e :: es, h => by
    rw [List.all_cons, Bool.and_eq_true, Bool.not_eq_true'] at h
    rw [star_no h.1]
    show (false || (backTo pos (starEach es env)).any (·.1)) = false
    rw [noStar h.2]
    rfl
theorem q_star (mA : MonoE ta) (mt : MonoA t) (ha : PE' cl X a ta) (hr : PA' cl X es t) :
    PA' cl X (.Starred a p :: es) (fun r S Q => ta r S fun d S1 => ∃ xs, itemsD S1 d = some xs ∧ t r S1 fun ds S2 => Q (xs ++ ds) S2) :=
  PA.imp (StX.pa_star ha hr) fun s H Q ⟨r, S, T, m, e, h⟩ => by
    refine tr_then mA m e h fun d S1 v H1 x m1 e1 rp ⟨xs, hi, k⟩ => ?_
    obtain ⟨a, vs, rfl, hq, rl⟩ := items_of (K := X.K) m1 rp hi
    refine ⟨a, vs, rfl, hq.symm, trA_then mt m1 e1 k fun ds S2 ws H2 x2 m2 e2 rps k2 => ?_⟩
    exact k2 (vs ++ ws) H2 (x.trans x2) m2 ((rl.ext x2).append rps)

/-! ### calls -/
theorem trA_kA {S : Sto} {T H : Hp} (mt : MonoA t) {r : Rho} {s : L2.St} {Q : VK} {f : List D → Sto → DK → Prop} (mf : ∀ ds S (Q Q' : DK), (∀ d S', Q d S' → Q' d S') → f ds S Q → f ds S Q') {R : List V → Hp → Prop} (m : Sm cl S T H) (e : SmE cl r S T s H)
    (h : t r S fun ds S1 => f ds S1 (kQ cl S T H Q)) (g : ∀ ds S1 vs H1, Sm cl S1 T H1 → RpL cl S1 T H1 ds vs → f ds S1 (kQ cl S1 T H1 Q) → R vs H1) : trA cl t s H R :=
  trA_then mt m e h fun ds S1 vs H1 x m1 e1 rl k => g ds S1 vs H1 m1 rl (mf _ _ _ _ (fun _ _ => kQ.up x) k)
/-- a call of a def with data -/
def rCal (cl : CL) (sp : DSp) : List V → Hp → VK → Prop := fun vs H Q => ∃ ds S T, Sm cl S T H ∧ RpL cl S T H ds vs ∧ sp ds S (kQ cl S T H Q)
theorem tCal_in {s : L2.St} {H : Hp} {Q : VK} {f : List D → Sto → DK → Prop} (mt : MonoA t) (mf : ∀ ds S (Q Q' : DK), (∀ d S', Q d S' → Q' d S') → f ds S Q → f ds S Q') (h : tr cl (fun r S Q => t r S fun ds S1 => f ds S1 Q) s H Q) :
    trA cl t s H fun vs H1 => rCal cl f vs H1 Q := by
  obtain ⟨r, S, T, m, e, h⟩ := h
  exact trA_kA mt mf m e h fun ds S1 vs H1 m1 rl k => ⟨ds, S1, T, m1, rl, k⟩
section
variable {x m : Str} {sp : DSp}
theorem q_call (hg : Gl X x) (hc : XC cl X) (c : CalD X cl x sp) (mt : MonoA t) (ha : PA' cl X (a :: es) t) (hdb : (x == ("__debug__" : Str)) = false) (hs : (a :: es).all (fun e => !isStar e) = true) :
    PE' cl X (.Call (.Name x p) (a :: es) [] pos) (fun r S Q => t r S fun ds S1 => sp ds S1 Q) := by
  obtain ⟨k, f, fd, ps, F, hr, hm, kp, b⟩ := c.ex
  refine ⟨fun pins s σ H Q I h => ?_⟩
  have h' := tCal_in mt F.mono h
  rw [List.all_cons, Bool.and_eq_true, Bool.not_eq_true'] at hs
  refine wpAny_Call_Name_kw (ld_glob I hg hm ?_ hdb)
  refine PySem.W.callWith_K (h₀ := X.base) I.ok.mod.kin kp (thn (ha.run pos pins s σ H _ I h') fun us s1 ⟨vs, H1, I1, r, ds, S1, T1, m1, rl, q⟩ => ⟨I1.kIn, ?_⟩) (star_no hs.1) (noStar hs.2)
  exact run_fnD0 F hr hc.guards b I1 r m1 rl q
theorem q_call0 (hg : Gl X x) (hc : XC cl X) (c : CalD X cl x sp) (hdb : (x == ("__debug__" : Str)) = false) :
    PE' cl X (.Call (.Name x p) [] [] pos) (fun r S Q => sp [] S Q) := by
  obtain ⟨k, f, fd, ps, F, hr, hm, kp, b⟩ := c.ex
  refine ⟨fun pins s σ H Q I ⟨r, S, T, m, e, h⟩ => ?_⟩
  refine wpAny_Call_Name_kw (ld_glob I hg hm ?_ hdb)
  exact PySem.W.callWith_K0 I.kIn kp (run_fnD0 (us := []) F hr hc.guards b I .nil m .nil h)
/-- making an instance -/
theorem run_mkD {k : Nat} {C : Addr} {cn : Str} {f : Addr} {fd : FuncData} {ps : List Str} {pins : List (Addr × Obj)} {σ : L2.St} {H T : Hp} {S : Sto} {s : Shared} {Q : VK} {us : List Value} {vs : List V} {ds : List D} (M : Mk X.K C f) (F : FnD X.prog X.w X.K X.mg X.base cl k f fd ps sp)
    (hcn : cl.c cn = some C) (hr : Room (k + 1) X.A) (hg : X.A.guards = some []) (hb : BindD X.K fd ps) (I : Inv X pins σ H s) (r : Vals vs us) (m : Sm cl S T H) (rd : RpL cl S T H ds vs)
    (h : ∀ p, S p = none → sp (.ref p :: ds) (sup S p (.ins cn [])) fun d S2 => d = .non ∧ kQ cl S T H Q (.ref p) S2) : wpAny (model X.prog X.w) X.A (call (.ref C) us) (EP X pins σ Q) X.xe s := by
  have hx : H (s.heap.objs.size + 1) = none := I.hok.fresh (Nat.le_succ _)
  have hd : H s.heap.objs.size = none := I.hok.fresh (Nat.le_refl _)
  have hne : s.heap.objs.size ≠ s.heap.objs.size + 1 := Nat.ne_of_lt (Nat.lt_succ_self _)
  have I2 := Inv.made (C := C) I
  have x1 : Ex S S T H (upd H s.heap.objs.size (.own (s.heap.objs.size + 1))) := Ex.newF hd
  have m1 : Sm cl S T (upd H s.heap.objs.size (.own (s.heap.objs.size + 1))) := m.newF hd
  have hx1 : upd H s.heap.objs.size (.own (s.heap.objs.size + 1)) (s.heap.objs.size + 1) = none := by rw [upd_ne (Ne.symm hne)]; exact hx
  have x2 : Ex S (sup S (s.heap.objs.size + 1) (.ins cn [])) T _ (upd (upd H s.heap.objs.size (.own (s.heap.objs.size + 1))) (s.heap.objs.size + 1) (.ins C s.heap.objs.size [])) := Ex.newO hx1
  have m2 : Sm cl (sup S (s.heap.objs.size + 1) (.ins cn [])) T (upd (upd H s.heap.objs.size (.own (s.heap.objs.size + 1))) (s.heap.objs.size + 1) (.ins C s.heap.objs.size [])) := m1.newO hx1 (.ins hcn .nil)
  have r2 : Vals (V.ref (s.heap.objs.size + 1) :: vs) (Value.ref (s.heap.objs.size + 1) :: us) := .cons rfl r
  have rd2 := RpL.cons (.ref (s.heap.objs.size + 1)) ((rd.ext x1).ext x2)
  have hq := h (s.heap.objs.size + 1) (m.free hx)
  have hl : (Value.ref (s.heap.objs.size + 1) :: us ++ []).length = ps.length := by
    rw [List.append_nil, ← r2.length, ← rd2.length]
    exact F.len _ _ _ hq
  have hq2 : sp (.ref (s.heap.objs.size + 1) :: ds) (sup S (s.heap.objs.size + 1) (.ins cn [])) (kQ cl (sup S (s.heap.objs.size + 1) (.ins cn [])) T (upd (upd H s.heap.objs.size (.own (s.heap.objs.size + 1))) (s.heap.objs.size + 1) (.ins C s.heap.objs.size []))
      fun v H2 => v = .non ∧ Q (.ref (s.heap.objs.size + 1)) H2) := F.mono _ _ _ _ (fun d S2 ⟨ed, k⟩ v H2 y mm rr => by
    subst ed
    exact ⟨non_of rr, k _ _ ((x1.trans x2).trans y) mm (.ref _)⟩) hq
  have hgu : (X.A.under (.builtin "type.__call__" ⟨.ref C :: us, []⟩)).guards = some [] := by
    have : Code.guards (.builtin "type.__call__" ⟨.ref C :: us, []⟩) = [] := rfl
    have e : (X.A.under (.builtin "type.__call__" ⟨.ref C :: us, []⟩)).guards = pushGuards (Code.guards (.builtin "type.__call__" ⟨.ref C :: us, []⟩)) X.A.guards := rfl
    rw [e, this, hg]
    rfl
  refine wpAny_call (make_map (f := f) I.kIn M.makes M.init (beq_iff_eq.mp M.fn) (codeAny_mono (F.run _ X.stack _ _ ⟨Value.ref (s.heap.objs.size + 1) :: us, []⟩ (Value.ref (s.heap.objs.size + 1) :: us) _ _ _ T _ (hr.make C us []) hgu
    (I2.env0.make C us []) (by
      have := hb _ (Value.ref (s.heap.objs.size + 1) :: us) [] [] I2.kIn hl (by rw [List.append_nil] at hl; rw [hl, List.drop_length])
      rw [List.append_nil] at this
      exact this) r2 m2 rd2 hq2) fun r s' hq' => ?_))
  cases r with
  | error e => exact hq'.elim
  | ok fl =>
    cases fl with
    | ret u =>
      obtain ⟨v, H', I3, rv, ev, q3⟩ := I2.after hq'
      subst ev
      exact ⟨rv, ⟨V.ref (s.heap.objs.size + 1), H', I3, rfl, q3⟩⟩
    | next => exact False.elim hq'
    | brk => exact False.elim hq'
    | cont => exact False.elim hq'
def mkW (sp : DSp) (cn : Str) : List D → Sto → DK → Prop := fun ds S1 Q => ∀ p, S1 p = none → sp (.ref p :: ds) (sup S1 p (.ins cn [])) fun d S2 => d = .non ∧ Q (.ref p) S2
theorem mkW_mono {cn : Str} (ms : MonoSp sp) : ∀ ds S (Q Q' : DK), (∀ d S', Q d S' → Q' d S') → mkW sp cn ds S Q → mkW sp cn ds S Q' := fun ds S Q Q' h q p n => ms _ _ _ _ (fun d S' ⟨e, k⟩ => ⟨e, h _ _ k⟩) (q p n)
theorem q_mk {C : Addr} (hg : Gl X x) (hc : XC cl X) (hcn : cl.c x = some C) (c : MakD X cl x C sp) (mt : MonoA t) (ha : PA' cl X (a :: es) t) (hdb : (x == ("__debug__" : Str)) = false) (hs : (a :: es).all (fun e => !isStar e) = true) :
    PE' cl X (.Call (.Name x p) (a :: es) [] pos) (fun r S Q => t r S fun ds S1 => mkW sp x ds S1 Q) := by
  obtain ⟨k, f, fd, ps, F, hr, hm, M, b⟩ := c.ex
  refine ⟨fun pins s σ H Q I h => ?_⟩
  have h' := tCal_in mt (mkW_mono F.mono) h
  rw [List.all_cons, Bool.and_eq_true, Bool.not_eq_true'] at hs
  refine wpAny_Call_Name_kw (ld_glob I hg hm ?_ hdb)
  refine PySem.W.callWith_K (h₀ := X.base) I.ok.mod.kin M.kp (thn (ha.run pos pins s σ H _ I h') fun us s1 ⟨vs, H1, I1, r, ds, S1, T1, m1, rl, q⟩ => ⟨I1.kIn, ?_⟩) (star_no hs.1) (noStar hs.2)
  exact run_mkD M F hcn hr hc.guards b I1 r m1 rl q
theorem q_mk0 {C : Addr} (hg : Gl X x) (hc : XC cl X) (hcn : cl.c x = some C) (c : MakD X cl x C sp) (hdb : (x == ("__debug__" : Str)) = false) :
    PE' cl X (.Call (.Name x p) [] [] pos) (fun r S Q => mkW sp x [] S Q) := by
  obtain ⟨k, f, fd, ps, F, hr, hm, M, b⟩ := c.ex
  refine ⟨fun pins s σ H Q I ⟨r, S, T, m, e, h⟩ => ?_⟩
  refine wpAny_Call_Name_kw (ld_glob I hg hm ?_ hdb)
  exact PySem.W.callWith_K0 I.kIn M.kp (run_mkD (us := []) M F hcn hr hc.guards b I .nil m .nil h)
/-- an instance seen -/
theorem vw_ins {S : Sto} {T H : Hp} {d : D} {v : V} {cn : Str} {fs : List (Str × D)} (m : Sm cl S T H) (r : Rp cl S T H d v) (h : vw S d = .ins cn fs) : ∃ q C dx gs, v = .ref q ∧ cl.c cn = some C ∧ H q = some (.ins C dx gs) ∧ RpF cl S T H fs gs := by
  cases r with
  | ref q =>
    rw [vw_ref] at h
    cases e : S q with
    | none => rw [e] at h; cases h
    | some ob =>
      rw [e] at h
      obtain ⟨u, hu, ro⟩ := m.ob q ob e
      cases ro with
      | ins c rl => cases h; exact ⟨q, _, _, _, rfl, c, hu, rl⟩
      | dk rl => cases h
      | lst rl => cases h
  | ins h1 c h2 rl => cases h; exact ⟨_, _, _, _, rfl, c, h1, rl⟩
  | _ => cases h
theorem rpF_lookup {S : Sto} {T H : Hp} {f : Str} : ∀ {fs : List (Str × D)} {gs : List (Str × V)}, RpF cl S T H fs gs → (fs.lookup f = none ∧ gs.lookup f = none) ∨ ∃ d v, fs.lookup f = some d ∧ gs.lookup f = some v ∧ Rp cl S T H d v
  | _, _, .nil => .inl ⟨rfl, rfl⟩
  | _, _, .cons (f := g) a b => by
    rw [List.lookup_cons, List.lookup_cons]
    by_cases h : f == g
    · rw [h]
      exact .inr ⟨_, _, rfl, rfl, a⟩
    · have h2 : (f == g) = false := by simpa using h
      rw [h2]
      exact rpF_lookup b
def methW (sp : DSp) (cn m : Str) (ta : TE') (t : TA') : TE' := fun r S Q => ta r S fun x S1 => (∃ fs, vw S1 x = .ins cn fs ∧ fs.lookup m = none) ∧ t r S1 fun ds S2 => sp (x :: ds) S2 Q
theorem allFalse {env : Env} : ∀ {es : List Expr}, es.all (fun e => !isStar e) = true → (backTo pos (starEach es env)).all (fun x => !x.1) = true
  | [], _ => rfl
  | e :: es, h => by
    rw [List.all_cons, Bool.and_eq_true, Bool.not_eq_true'] at h
    rw [star_no h.1]
    show (true && (backTo pos (starEach es env)).all (fun x => !x.1)) = true
    rw [allFalse h.2]
    rfl
theorem formOk {env : Env} (hs : es.all (fun e => !isStar e) = true) (hn : es.length < 29) : methodCallForm (es.length + ([] : List Keyword).length) (backTo pos (starEach es env)) (backToKw pos (keywordEach [] env)) = true := by
  unfold methodCallForm
  rw [allFalse hs]
  show (true && true && decide (es.length + 0 + 0 < 30)) = true
  rw [decide_eq_true (by omega)]
  rfl
/-- the call of a method: how it is evaluated -/
theorem meth_eval {env : Env} (hb : attributeBase o m env (eval o env) = eval o env) (hline : (apos.endLine == pos.line) = true) (hs : es.all (fun e => !isStar e) = true) (hn : es.length < 29) :
    eval (.Call (.Attribute o m apos) es [] pos) env = (do
      let ov ← eval o env
      standAt apos.atName
      let (f, first) ← holding [ov] (getMethod ov m (do return (← importBound o env).getD true))
      callWith pos f first (backTo pos (starEach es env)) (backToKw pos (keywordEach [] env))) := by
  rw [arm_eval_Call, hb]
  have hf := formOk (pos := pos) (env := env) hs hn
  have hp : methodCallPos true o env apos pos = pure pos := by
    unfold methodCallPos
    rw [hline]
    rfl
  unfold methodCall
  rw [hf, hp]
  rfl
theorem q_meth {C : Addr} {cn : Str} (hc : XC cl X) (hcn : cl.c cn = some C) (c : MetD X cl C m sp) (mA : MonoE ta) (mt : MonoA t) (ho : PE' cl X o ta) (ha : PA' cl X (a :: es) t)
    (hb : attributeBase o m X.env (eval o X.env) = eval o X.env) (hline : (apos.endLine == pos.line) = true) (hs : (a :: es).all (fun e => !isStar e) = true) (hn : (a :: es).length < 29) :
    PE' cl X (.Call (.Attribute o m apos) (a :: es) [] pos) (methW sp cn m ta t) := by
  obtain ⟨k, f, fd, ps, F, hr, hC, hm, b⟩ := c.ex
  refine ⟨fun pins s σ H Q I ⟨r, S, T, mm, e, h⟩ => ?_⟩
  have h2 := hs
  rw [List.all_cons, Bool.and_eq_true, Bool.not_eq_true'] at h2
  refine PySem.W.methodCall_KW (thn (ho.run pins s σ H (fun x H1 => ∃ a dx fs, x = .ref a ∧ H1 a = some (.ins C dx fs) ∧ fs.lookup m = none ∧ trA cl t σ H1 fun vs H2 => rCal cl sp (.ref a :: vs) H2 Q) I ?_) fun u s1 ⟨x, H1, I1, rx, a, dx, fs, ex, ea, l, q⟩ => ?_) (meth_eval hb hline hs hn)
  · refine tr_then mA mm e h fun d S1 v H1 x m1 e1 rp ⟨⟨fs, hv, hl⟩, k⟩ => ?_
    obtain ⟨q, C', dx, gs, rfl, hcc, ea, rf⟩ := vw_ins m1 rp hv
    rw [hcn] at hcc
    cases hcc
    rcases rpF_lookup (f := m) rf with ⟨_, l⟩ | ⟨d', v', l1, _⟩
    · refine ⟨q, dx, gs, rfl, ea, l, trA_then mt m1 e1 k fun ds S2 vs H2 x2 m2 e2 rl k2 => ?_⟩
      exact ⟨d :: ds, S2, T, m2, .cons (rp.ext x2) rl, F.mono _ _ _ _ (fun _ _ => kQ.up (x.trans x2)) k2⟩
    · rw [hl] at l1; cases l1
  · subst ex
    obtain rfl : u = Value.ref a := rx
    refine getmeth_ok I1 ea hC hm l ?_
    refine PySem.W.callWith_K (first := [.ref a]) (h₀ := X.base) I.ok.mod.kin hm.kp (thn (ha.run pos pins s1 σ H1 _ I1 q) fun us s2 ⟨vs, H2, I2, r2, ds, S2, T2, m2, rl, q2⟩ => ⟨I2.kIn, ?_⟩) (star_no h2.1) (noStar h2.2)
    exact run_fnD0 (us := .ref a :: us) (vs := .ref a :: vs) F hr hc.guards b I2 (.cons rfl r2) m2 rl q2
theorem q_meth0 {C : Addr} {cn : Str} (hc : XC cl X) (hcn : cl.c cn = some C) (c : MetD X cl C m sp) (mA : MonoE ta) (ho : PE' cl X o ta)
    (hb : attributeBase o m X.env (eval o X.env) = eval o X.env) (hline : (apos.endLine == pos.line) = true) :
    PE' cl X (.Call (.Attribute o m apos) [] [] pos) (methW sp cn m ta fun _ S Q => Q [] S) := by
  obtain ⟨k, f, fd, ps, F, hr, hC, hm, b⟩ := c.ex
  refine ⟨fun pins s σ H Q I ⟨r, S, T, mm, e, h⟩ => ?_⟩
  refine PySem.W.methodCall_KW (thn (ho.run pins s σ H (fun x H1 => ∃ a dx fs, x = .ref a ∧ H1 a = some (.ins C dx fs) ∧ fs.lookup m = none ∧ rCal cl sp [.ref a] H1 Q) I ?_) fun u s1 ⟨x, H1, I1, rx, a, dx, fs, ex, ea, l, q⟩ => ?_) (meth_eval hb hline rfl (by decide))
  · refine tr_then mA mm e h fun d S1 v H1 x m1 e1 rp ⟨⟨fs, hv, hl⟩, k⟩ => ?_
    obtain ⟨q, C', dx, gs, rfl, hcc, ea, rf⟩ := vw_ins m1 rp hv
    rw [hcn] at hcc
    cases hcc
    rcases rpF_lookup (f := m) rf with ⟨_, l⟩ | ⟨d', v', l1, _⟩
    · exact ⟨q, dx, gs, rfl, ea, l, [d], S1, T, m1, .cons rp .nil, F.mono _ _ _ _ (fun _ _ => kQ.up x) k⟩
    · rw [hl] at l1; cases l1
  · subst ex
    obtain rfl : u = Value.ref a := rx
    obtain ⟨ds, S2, T2, m2, rl, q2⟩ := q
    refine getmeth_ok I1 ea hC hm l ?_
    exact PySem.W.callWith_K0 (first := [.ref a]) I1.kIn hm.kp (run_fnD0 (us := [.ref a]) (vs := [.ref a]) F hr hc.guards b I1 (.cons rfl .nil) m2 rl q2)
end
end Dz
/-! Dz14: built-ins, fields, isinstance, properties, targets. -/
namespace Dz
open PySem PySem.Spec PyProof.Rows L2

variable {cl : CL} {X : Cx} {a b c e o : Expr} {es : List Expr} {ta tb tc : TE'} {t : TA'} {pos p apos cpos : Pos}
/-! ### built-in functions -/
def biName : Bi → Str
  | .len => "len"
  | .abs => "abs"
  | .int => "int"
  | .str => "str"
  | .repr => "repr"
  | .min2 => "min"
  | .max2 => "max"
  | .min1 => "min"
  | .max1 => "max"
  | .sum => "sum"
  | .any => "any"
  | .all => "all"
  | .tuple => "tuple"
  | .list => "list"
  | .sorted => "sorted"
theorem bi_boot : ∀ f : Bi, bootBuiltins (biName f) = some (biV f) := by
  intro f
  cases f <;> decide +kernel
theorem bi_plain : ∀ f : Bi, biName f ≠ "__name__" ∧ (biName f == ("__debug__" : Str)) = false := by
  intro f
  cases f <;> decide +kernel
theorem q_bi (hc : XC cl X) (f : Bi) (own : Bool) (hg : Gl X (biName f)) (hm : X.mg (biName f) = none) (mt : MonoA t) (ha : PA' cl X (a :: es) t) (hs : (a :: es).all (fun e => !isStar e) = true) :
    PE' cl X (.Call (.Name (biName f) p) (a :: es) [] pos) (fun r S Q => t r S fun ds S1 => wBi f own ds S1 Q) := by
  refine ⟨fun pins s σ H Q I h => ?_⟩
  have h' := tCal_in (f := fun ds S Q => wBi f own ds S Q) mt (fun _ _ _ _ h q => wBi_mono h q) h
  rw [List.all_cons, Bool.and_eq_true, Bool.not_eq_true'] at hs
  have fin : ∀ us s1, AP X pins σ (fun vs H1 => rCal cl (fun ds S Q => wBi f own ds S Q) vs H1 Q) us s1 → wpAny (model X.prog X.w) X.A (call (biV f) us) (EP X pins σ Q) X.xe s1 := fun us s1 ⟨vs, H1, I1, r1, ds, S1, T1, m1, rl, q⟩ =>
    bi_ok hc f own pins s1 σ H1 vs us Q I1 r1 ⟨ds, S1, T1, m1, rl, q⟩
  refine wpAny_Call_Name_kw (ld_blt I hg hm (bi_boot f) ?_ (bi_plain f).1 (bi_plain f).2)
  have go : ∀ u : Value, ((∃ id, u = .builtin id) ∨ ∃ T, u = .type T) → (∀ us s1, AP X pins σ (fun vs H1 => rCal cl (fun ds S Q => wBi f own ds S Q) vs H1 Q) us s1 → wpAny (model X.prog X.w) X.A (call u us) (EP X pins σ Q) X.xe s1) →
      wpAny (model X.prog X.w) X.A (callWith pos u [] (backTo pos (starEach (a :: es) X.env)) (backToKw pos (keywordEach [] X.env))) (EP X pins σ Q) X.xe s := fun u hu fin => by
    rcases hu with ⟨id, rfl⟩ | ⟨T, rfl⟩
    · exact PyProof.Rows.callWith_builtin1 (thn (ha.run pos pins s σ H _ I h') fin) (star_no hs.1) (noStar hs.2)
    · exact PyProof.Rows.callWith_type1 (thn (ha.run pos pins s σ H _ I h') fin) (star_no hs.1) (noStar hs.2)
  exact go (biV f) (by cases f <;> first | exact .inl ⟨_, rfl⟩ | exact .inr ⟨_, rfl⟩) fin

/-! ### methods of built-in types -/
def bmW (f : Bm) (own : Bool) (ta : TE') (t : TA') : TE' := fun r S Q => ta r S fun x S1 => (∃ ty, bmTy f (vw S1 x) = some ty) ∧ t r S1 fun ds S2 => wBm f own x ds S2 Q
theorem bm_tuple {S : Sto} {f : Bm} {d : D} {ty : String} (h : bmTy f (vw S d) = some ty) : ty = "tuple" ↔ ∃ ts, d = .tup ts := by
  constructor
  · intro e
    subst e
    unfold bmTy at h
    split at h <;> simp at h
    rename_i e
    exact ⟨_, vw_tup e⟩
  · rintro ⟨ts, rfl⟩
    have e : vw S (.tup ts) = .tup ts := rfl
    rw [e] at h
    cases f <;> simp [bmTy] at h
    exact h.symm
theorem bm_in (mA : MonoE ta) (mt : MonoA t) (f : Bm) (own : Bool) {s : L2.St} {H : Hp} {Q : VK} (h : tr cl (bmW f own ta t) s H Q) :
    tr cl ta s H fun x H1 => ∃ ty d S T, (ty = "tuple" ↔ ∃ ts, d = .tup ts) ∧ bmTy f (vw S d) = some ty ∧ Sm cl S T H1 ∧ Rp cl S T H1 d x ∧ trA cl t s H1 fun xs H2 => rBm cl f ty own x xs H2 Q := by
  obtain ⟨r, S, T, m, e, h⟩ := h
  refine tr_then mA m e h fun d S1 v H1 x m1 e1 rp ⟨⟨ty, hty⟩, k⟩ => ?_
  refine ⟨ty, d, S1, T, bm_tuple hty, hty, m1, rp, trA_then mt m1 e1 k fun ds S2 vs H2 x2 m2 e2 rl k2 => ?_⟩
  exact ⟨d, ds, S2, T, bm_tuple hty, m2, rp.ext x2, rl, wBm_mono (fun _ _ => kQ.up (x.trans x2)) k2⟩
theorem q_bm (hc : XC cl X) (f : Bm) (own : Bool) (mA : MonoE ta) (mt : MonoA t) (ho : PE' cl X o ta) (ha : PA' cl X (a :: es) t)
    (hb : attributeBase o (bmName f) X.env (eval o X.env) = eval o X.env) (hline : (apos.endLine == cpos.line) = true) (hs : (a :: es).all (fun e => !isStar e) = true) (hn : (a :: es).length < 29) :
    PE' cl X (.Call (.Attribute o (bmName f) apos) (a :: es) [] cpos) (bmW f own ta t) := by
  refine ⟨fun pins s σ H Q I h => ?_⟩
  have h2 := hs
  rw [List.all_cons, Bool.and_eq_true, Bool.not_eq_true'] at h2
  refine wpAny_Call_method_late hb (formOk hs hn) hline rfl (thn (ho.run pins s σ H _ I (bm_in mA mt f own h)) fun v s1 ⟨x, H1, I1, r1, ty, d, S, T, htu, hty, m, rd, q1⟩ => ?_)
  obtain ⟨h3, h4⟩ := bm_type I1 m rd r1 hty
  have F := bm_fact hty
  refine ⟨ty, bmId ty f, F.pa, F.slot, F.ty, h3, h4, ?_⟩
  have hA := ha.run cpos pins s1 σ H1 _ I1 q1
  rw [star_no h2.1] at hA ⊢
  refine Calls.callWith_builtin (by show (false || (backTo cpos (starEach es X.env)).any (·.1)) = false; rw [noStar h2.2] <;> rfl) (Calls.evalArgs_plain ?_)
  exact thn hA fun us s2 ⟨vs, H2, I2, r2, q2⟩ => bm_ok hc f own ty pins s2 σ H2 x vs v us Q I2 r1 r2 q2
theorem q_bm0 (hc : XC cl X) (f : Bm) (own : Bool) (mA : MonoE ta) (ho : PE' cl X o ta)
    (hb : attributeBase o (bmName f) X.env (eval o X.env) = eval o X.env) (hline : (apos.endLine == cpos.line) = true) :
    PE' cl X (.Call (.Attribute o (bmName f) apos) [] [] cpos) (bmW f own ta fun _ S Q => Q [] S) := by
  refine ⟨fun pins s σ H Q I h => ?_⟩
  refine wpAny_Call_method0_late hb hline (thn (ho.run pins s σ H _ I (bm_in (t := fun _ S Q => Q [] S) mA (fun _ _ _ _ h q => h _ _ q) f own h)) fun v s1 ⟨x, H1, I1, r1, ty, d, S, T, htu, hty, m, rd, q1⟩ => ?_)
  obtain ⟨h3, h4⟩ := bm_type I1 m rd r1 hty
  have F := bm_fact hty
  refine ⟨ty, bmId ty f, F.pa, F.slot, F.ty, h3, h4, Calls.callWith_builtin rfl (PySem.evalArgs_none ?_)⟩
  obtain ⟨r, S2, T2, m2, e2, q2⟩ := q1
  exact bm_ok hc f own ty pins s1 σ H1 x [] v [] Q I1 r1 .nil (q2 [] H1 (Ex.refl _ _ _) m2 .nil)

/-! ### isinstance -/
def btS : BT → String
  | .str => "str"
  | .int => "int"
  | .bool => "bool"
  | .tuple => "tuple"
  | .list => "list"
  | .dict => "dict"
def btN : BT → Str
  | .str => "str"
  | .int => "int"
  | .bool => "bool"
  | .tuple => "tuple"
  | .list => "list"
  | .dict => "dict"
theorem bt_boot : ∀ t : BT, bootBuiltins (btN t) = some (.type (btS t)) := by
  intro t
  cases t <;> decide +kernel
theorem bt_plain : ∀ t : BT, btN t ≠ "__name__" ∧ (btN t == ("__debug__" : Str)) = false := by
  intro t
  cases t <;> decide +kernel
theorem isb_ok {K : PySem.W.Frag} {S : Sto} {T H : Hp} {d : D} {v : V} {ty : BT} {k : Bool} (m : Sm cl S T H) (r : Rp cl S T H d v) (h : isbD (vw S d) ty = some k) : ∃ u, TyX K H v u ∧ PySem.W.kitOne K u (.type (btS ty)) = some k := by
  cases e : vw S d with
  | non =>
    have hd : d = .non := by
      cases d with
      | ref q => rw [vw_ref] at e; cases q2 : S q with
        | none => rw [q2] at e; cases e
        | some ob => rw [q2] at e; cases ob <;> cases e
      | _ => exact e
    subst hd
    obtain rfl := non_of r
    rw [e] at h
    cases h
    refine ⟨_, .base .non, kit_ty ?_⟩
    cases ty <;> decide +kernel
  | bl i =>
    obtain rfl := vw_bl e
    obtain rfl := bl_of r
    rw [e] at h
    cases h
    refine ⟨_, .base (.bl i), kit_ty ?_⟩
    cases ty <;> decide +kernel
  | int i =>
    obtain rfl := vw_int e
    obtain rfl := int_of r
    rw [e] at h
    cases h
    refine ⟨_, .base (.int i), kit_ty ?_⟩
    cases ty <;> decide +kernel
  | str i =>
    obtain rfl := vw_str e
    obtain ⟨rfl, _⟩ := str_of r
    rw [e] at h
    cases h
    refine ⟨_, .base (.str i), kit_ty ?_⟩
    cases ty <;> decide +kernel
  | tup ds =>
    obtain rfl := vw_tup e
    rw [e] at h
    cases h
    cases r with
    | tup h1 _ _ _ =>
      refine ⟨_, .fTuple h1, kit_ty ?_⟩
      cases ty <;> decide +kernel
  | lst ds =>
    obtain ⟨q, vs, rfl, hq, _⟩ := vw_lst m r e
    rw [e] at h
    cases h
    refine ⟨_, .base (.lst hq), kit_ty ?_⟩
    cases ty <;> decide +kernel
  | _ => rw [e] at h; cases h
theorem boot_isi : bootBuiltins "isinstance" = some (.builtin "isinstance") := by decide +kernel
theorem q_isb (hg : Gl X "isinstance") (hm : X.mg "isinstance" = none) (ty : BT) (hg2 : Gl X (btN ty)) (hm2 : X.mg (btN ty) = none) (mA : MonoE ta) (ha : PE' cl X a ta) (hs : isStar a = false) {p2 : Pos} :
    PE' cl X (.Call (.Name "isinstance" p) [a, .Name (btN ty) p2] [] pos) (fun r S Q => ta r S fun x S1 => ∃ k, isbD (vw S1 x) ty = some k ∧ Q (.bl k) S1) := by
  refine PE.imp (pe_callB call_isi hg hm boot_isi (pa_cons ha (pa_cons (pe_bltn (v := .ty (btS ty)) hg2 hm2 (bt_boot ty) rfl (bt_plain ty).1 (bt_plain ty).2) pa_nil) (star_no hs)) (by decide +kernel) (by decide +kernel) (star_no hs) rfl) fun s H Q ⟨r, S, T, m, e, h⟩ => ?_
  refine tr_then mA m e h fun d S1 v H1 x m1 e1 rp ⟨k, hk, q⟩ => ?_
  obtain ⟨u, h1, h2⟩ := isb_ok (K := X.K) m1 rp hk
  exact ⟨v, .ty (btS ty), u, _, k, rfl, .ty _, h1, h2, q _ _ x m1 (.bl _)⟩
theorem q_isc (hg : Gl X "isinstance") (hm : X.mg "isinstance" = none) {cn : Str} {C : Addr} (hg2 : Gl X cn) (hm2 : X.mg cn = some (.ref C)) (hcn : cl.c cn = some C) (ic : C8.InsC X.K C) (hd : (cn == ("__debug__" : Str)) = false) (mA : MonoE ta) (ha : PE' cl X a ta) (hs : isStar a = false) {p2 : Pos} :
    PE' cl X (.Call (.Name "isinstance" p) [a, .Name cn p2] [] pos) (fun r S Q => ta r S fun x S1 => (∃ fs, vw S1 x = .ins cn fs) ∧ Q (.bl true) S1) := by
  refine PE.imp (pe_callB (C8.call_isC ic) hg hm boot_isi (pa_cons ha (pa_cons (pe_glob (v := .ref C) hg2 hm2 rfl hd) pa_nil) (star_no hs)) (by decide +kernel) (by decide +kernel) (star_no hs) rfl) fun s H Q ⟨r, S, T, m, e, h⟩ => ?_
  refine tr_then mA m e h fun d S1 v H1 x m1 e1 rp ⟨⟨fs, hv⟩, q⟩ => ?_
  obtain ⟨q1, C', dx, gs, rfl, hcc, ea, rf⟩ := vw_ins m1 rp hv
  rw [hcn] at hcc
  cases hcc
  exact ⟨q1, dx, gs, rfl, ea, q _ _ x m1 (.bl _)⟩

/-! ### fields, properties -/
structure FldOk (X : Cx) (cl : CL) (cn f : Str) : Prop where
  ex : ∃ C, cl.c cn = some C ∧ Cls X.K C ∧ NoAttr X.K C f
theorem q_fld {cn f : Str} (fo : FldOk X cl cn f) (mA : MonoE ta) (ha : PE' cl X a ta) (hb : attributeBase a f X.env (eval a X.env) = eval a X.env) : PE' cl X (.Attribute a f pos) (fun r S Q => ta r S fun x S1 => wFld cn f x S1 Q) := by
  obtain ⟨C, hcn, hC, hn⟩ := fo.ex
  refine PE.imp (pe_fld ha hb) fun s H Q ⟨r, S, T, m, e, h⟩ => ?_
  refine tr_then mA m e h fun d S1 v H1 x m1 e1 rp ⟨fs, w, hv, hl, q⟩ => ?_
  obtain ⟨q1, C', dx, gs, rfl, hcc, ea, rf⟩ := vw_ins m1 rp hv
  rw [hcn] at hcc
  cases hcc
  rcases rpF_lookup (f := f) rf with ⟨l, _⟩ | ⟨d', v', l1, l2, r2⟩
  · rw [hl] at l; cases l
  · rw [hl] at l1
    cases l1
    exact ⟨q1, C, dx, gs, v', rfl, ea, hC, hn, l2, q _ _ x m1 r2⟩
theorem q_prop {cn f : Str} {C : Addr} {sp : DSp} (hc : XC cl X) (hcn : cl.c cn = some C) (c : PrpD X cl C f sp) (mA : MonoE ta) (ha : PE' cl X a ta) (hb : attributeBase a f X.env (eval a X.env) = eval a X.env) :
    PE' cl X (.Attribute a f pos) (fun r S Q => ta r S fun x S1 => (∃ fs, vw S1 x = .ins cn fs) ∧ sp [x] S1 Q) := by
  obtain ⟨k, pq, g, fd, ps, F, hr, hC, hp, b⟩ := c.ex
  refine ⟨fun pins s σ H Q I ⟨r, S, T, m, e, h⟩ => ?_⟩
  refine attr_of hb (thn (ha.run pins s σ H (fun x H1 => ∃ q dx gs, x = .ref q ∧ H1 q = some (.ins C dx gs) ∧ rCal cl sp [.ref q] H1 Q) I ?_) fun u s1 ⟨x, H1, I1, rx, q, dx, gs, ex, ea, ds, S1, T1, m1, rl, q1⟩ => ?_)
  · refine tr_then mA m e h fun d S1 v H1 x m1 e1 rp ⟨⟨fs, hv⟩, k⟩ => ?_
    obtain ⟨q1, C', dx, gs, rfl, hcc, ea, rf⟩ := vw_ins m1 rp hv
    rw [hcn] at hcc
    cases hcc
    exact ⟨q1, dx, gs, rfl, ea, [d], S1, T, m1, .cons rp .nil, F.mono _ _ _ _ (fun _ _ => kQ.up x) k⟩
  · subst ex
    obtain rfl : u = Value.ref q := rx
    obtain ⟨mA', O, _, _, _, _⟩ := ins_get I1.hok ea
    obtain ⟨od, J, _⟩ := O.look
    obtain ⟨rest, hrec⟩ := hp.rec_
    have I2 := I1.tok (s1.toks + 1)
    have hl : ([Value.ref q] ++ []).length = ps.length := by
      rw [← F.len _ _ _ q1, rl.length]
      rfl
    have hcl : (PySem.W.clsIn X.K C).isSome = true := by
      obtain ⟨cd, hc, _⟩ := PySem.W.any_some hC.hd
      rw [hc]
      rfl
    refine PySem.W.get_bind I1.kIn J (PySem.W.plainGet_of (hC.get f)).1 (PySem.W.findObj_data hcl hp.at_ hp.get hp.tak) (PySem.W.plainGet_of (hC.get f)).2 (wpAny_call (PySem.W.prop_get (s := { s1 with toks := s1.toks + 1 }) I1.kIn hrec ?_))
    refine codeAny_mono (F.run X.A.in1 X.stack { s1 with toks := s1.toks + 1 } H1 ⟨[.ref q], []⟩ [.ref q] [.ref q] ds S1 T1 Q hr.in1 hc.guards I2.env0.in1 (by
      have := b { s1 with toks := s1.toks + 1 } [.ref q] [] [] I2.kIn hl (by
        have h1 : [Value.ref q].length = ps.length := by simpa using hl
        rw [h1, List.drop_length])
      rw [List.append_nil] at this
      exact this) (.cons rfl .nil) m1 rl q1) fun r s' hq => ?_
    cases r with
    | error er => exact hq.elim
    | ok fl =>
      cases fl with
      | ret u =>
        obtain ⟨v, H', I3, rv, q3⟩ := I2.after hq
        show wpAny _ _ (handedOut u) _ _ _
        rw [PySem.W.handedOut_of (handed_of rv)]
        exact wpAny_pure ⟨v, H', I3, rv, q3⟩
      | next => exact False.elim hq
      | brk => exact False.elim hq
      | cont => exact False.elim hq

/-! ### targets -/
abbrev PG' (cl : CL) (X : Cx) (e : Expr) (t : TG') : Prop := PG X e (trG cl t)
theorem g_name {i : Nat} {x : Str} (hc : XC cl X) (hi : X.N[i]? = some x) (hx : Loc X.env.scope x) (hf : X.fn x = true ∨ X.env.scope.names.lookup x = some .local) : PG' cl X (.Name x pos) (fun d r S Q => Q (r.set i (some d)) S) :=
  PG.imp (pg_name hc.nd hi hx hf) fun v s H Q ⟨d, r, S, T, m, e, rd, q⟩ => q _ _ (Ex.refl S T H) m (e.set rd i)
theorem RpF.put {S : Sto} {T H : Hp} {f : Str} {d : D} {v : V} (r : Rp cl S T H d v) : ∀ {fs : List (Str × D)} {gs : List (Str × V)}, RpF cl S T H fs gs → RpF cl S T H (putFD f d fs) (putF f v gs)
  | _, _, .nil => .cons r .nil
  | _, _, .cons (f := g) a b => by
    unfold putFD putF
    by_cases h : g = f
    · rw [if_pos h, if_pos h]
      exact .cons r b
    · rw [if_neg h, if_neg h]
      exact .cons a (RpF.put r b)
theorem g_fld {cn f : Str} (fo : FldOk X cl cn f) (mA : MonoE ta) (ho : PE' cl X o ta) : PG' cl X (.Attribute o f pos) (fun d r S Q => ta r S fun x S1 => wFldSet cn f x d S1 fun S2 => Q r S2) := by
  obtain ⟨C, hcn, hC, hn⟩ := fo.ex
  refine ⟨fun pins s σ H v u Q I rv ⟨d, r, S, T, m, e, rd, h⟩ => ?_⟩
  rw [arm_assign_Attribute]
  refine wpAny_bind (wpAny_holding (thn (ho.run pins s σ H (fun x H1 => ∃ a dx fs, x = .ref a ∧ H1 a = some (.ins C dx fs) ∧ fs.length < 1000 ∧ Q σ (upd H1 a (.ins C dx (putF f v fs)))) I ?_) fun ov s1 ⟨x, H1, I1, rx, a, dx, fs, ex, ea, hl, q⟩ => ?_))
  · refine tr_then mA m e h fun d2 S1 v2 H1 x m1 e1 rp ⟨q, fs, ed, hS, hl, k⟩ => ?_
    subst ed
    cases rp
    obtain ⟨u2, hu, ro⟩ := m1.ob _ _ hS
    cases ro with
    | ins c rf =>
      rw [hcn] at c
      cases c
      refine ⟨q, _, _, rfl, hu, by rw [← rf.length]; exact hl, k _ _ (x.trans (Ex.wr hS)) (m1.wr hS (.ins hcn (RpF.put (rd.ext x) rf))) (e1.ext (Ex.wr hS))⟩
  · subst ex
    obtain rfl : ov = Value.ref a := rx
    refine wpAny_bind (wpAny_standAt ?_)
    refine wpAny_bind (wpAny_holding (setattr_ok I1 ea hC hn hl rv fun s3 I3 => ?_))
    exact wpAny_release ⟨σ, _, I3, q⟩
def isSlice : Expr → Bool
  | .Slice .. => true
  | _ => false
theorem sub_assign {env : Env} (h : isSlice b = false) (v : Value) : assign (.Subscript o b pos) env v = (do
      let ov ← holding [v] (eval o env)
      let iv ← holding [v, ov] (eval b env)
      standAt pos
      holding [v, ov, iv] (setItem ov iv v)
      release [v, ov, iv] []) := by
  rw [arm_assign_Subscript]
  cases b <;> first | rfl | (exact absurd h (by simp [isSlice]))
theorem plain_ix (h : isSlice b = false) : PlainIx b := by
  intro o i
  cases b <;> first | rfl | (exact absurd h (by simp [isSlice]))
theorem g_sub (hc : XC cl X) (hsl : isSlice b = false) (mA : MonoE ta) (mB : MonoE tb) (ho : PE' cl X o ta) (hi : PE' cl X b tb) : PG' cl X (.Subscript o b pos) (fun d r S Q => ta r S fun x S1 => tb r S1 fun y S2 => wSet x y d S2 fun S3 => Q r S3) :=
  PG.imp (pg_sub ho hi (set_ok hc) (sub_assign hsl)) fun v s H Q ⟨d, r, S, T, m, e, rd, h⟩ => by
    refine tr_then mA m e h fun d1 S1 v1 H1 x m1 e1 rp k => ?_
    refine tr_then mB m1 e1 k fun d2 S2 v2 H2 x2 m2 e2 rp2 k2 => ?_
    refine ⟨d1, d2, d, S2, T, m2, rp.ext x2, rp2, (rd.ext x).ext x2, wSet_mono (fun S3 q H3 x3 m3 => ?_) k2⟩
    exact q s H3 ((x.trans x2).trans x3) m3 (e2.ext x3)
/-- several targets -/
abbrev TGs' := List D → Rho → Sto → (Rho → Sto → Prop) → Prop
def MonoGs (t : TGs') : Prop := ∀ ds r S (Q Q' : Rho → Sto → Prop), (∀ r' S', Q r' S' → Q' r' S') → t ds r S Q → t ds r S Q'
def trGs (cl : CL) (t : TGs') : TGs := fun vs s H Q => ∃ ds r S T, Sm cl S T H ∧ SmE cl r S T s H ∧ RpL cl S T H ds vs ∧ t ds r S (kN cl S T H Q)
theorem PGs.imp {X : Cx} {e : List Expr} {t t2 : TGs} (h : PGs X e t) (i : ∀ v s H Q, t2 v s H Q → t v s H Q) : PGs X e t2 := ⟨fun pins s σ H v u Q I r q => h.run pins s σ H v u Q I r (i v σ H Q q)⟩
theorem g_nil : PGs X [] (trGs cl fun ds r S Q => ds = [] ∧ Q r S) := PGs.imp pgs_nil fun vs s H Q ⟨ds, r, S, T, m, e, rl, ed, q⟩ => by
  subst ed
  cases rl
  exact ⟨rfl, q s H (Ex.refl S T H) m e⟩
theorem eachStar {env : Env} (h : isStar e = false) : (assignEach (e :: es) env).map (·.2) = assign e env :: (assignEach es env).map (·.2) := by
  cases e <;> first | rfl | (exact absurd h (by simp [isStar]))
theorem eachNone {env : Env} : ∀ {es : List Expr}, es.all (fun e => !isStar e) = true → (assignEach es env).findIdx? (·.1) = none ∧ (assignEach es env).length = es.length
  | [], _ => ⟨rfl, rfl⟩
  | e :: es, h => by
    rw [List.all_cons, Bool.and_eq_true, Bool.not_eq_true'] at h
    obtain ⟨h1, h2⟩ := eachNone (env := env) h.2
    have e1 : assignEach (e :: es) env = (false, assign e env) :: assignEach es env := by
      have hh := h.1
      cases e <;> first | rfl | (exact absurd hh (by simp [isStar]))
    rw [e1]
    refine ⟨?_, by rw [List.length_cons, h2]; rfl⟩
    rw [List.findIdx?_cons]
    simp only [Bool.false_eq_true, if_false]
    rw [h1]
    rfl
theorem g_cons {tg : TG'} {tgs : TGs'} (mg : MonoG tg) (mgs : MonoGs tgs) (h1 : PG' cl X e tg) (h2 : PGs X es (trGs cl tgs)) (hs : isStar e = false) :
    PGs X (e :: es) (trGs cl fun ds r S Q => ∃ d ds', ds = d :: ds' ∧ tg d r S fun r1 S1 => tgs ds' r1 S1 Q) :=
  PGs.imp (pgs_cons h1 h2 (eachStar hs)) fun vs s H Q ⟨ds, r, S, T, m, e, rl, d, ds', ed, q⟩ => by
    subst ed
    cases rl with
    | cons a b =>
      refine ⟨_, _, rfl, trG_then mg m e a q fun r1 S1 s1 H1 x m1 e1 k => ?_⟩
      exact ⟨ds', r1, S1, T, m1, e1, b.ext x, mgs _ _ _ _ _ (fun _ _ q => kN.up x q) k⟩
theorem g_tup {tgs : TGs'} {k : Nat} (hc : XC cl X) (mgs : MonoGs tgs) (h : PGs X es (trGs cl tgs)) {n : Nat} (hlen : n = es.length) (hs : es.all (fun e => !isStar e) = true) :
    PG' cl X (.Tuple es k pos) (fun d r S Q => ∃ ds, (d = .tup ds ∨ d = .utup ds) ∧ ds.length = n ∧ tgs ds r S Q) :=
  PG.imp (pg_tup (n := es.length) hc.calm h (eachNone hs).2 (eachNone hs).1) fun v s H Q ⟨d, r, S, T, m, e, rd, ds, ed, hl, q⟩ => by
    rw [hlen] at hl
    rcases ed with ed | ed
    · subst ed
      obtain ⟨a, vs, rfl, ea, rl⟩ := tup_of rd
      exact ⟨a, vs, rfl, .inl ea, by rw [← rl.length]; exact hl, ds, r, S, T, m, e, rl, q⟩
    · subst ed
      obtain ⟨a, vs, rfl, ea, rl⟩ := utup_of rd
      exact ⟨a, vs, rfl, .inl ea, by rw [← rl.length]; exact hl, ds, r, S, T, m, e, rl, q⟩
end Dz
/-! Dz15: what is walked; for, while. -/
namespace Dz
open PySem PySem.Spec PyProof.Rows L2

variable {cl : CL} {X : Cx} {a b c e o tg : Expr} {es : List Expr} {ta tb tc : TE'} {t : TA'} {pos p apos cpos : Pos}
/-- a walk over data: from the state (S1, T1, H1) on, while g stands -/
structure WkD (cl : CL) (J : It) (S1 : Sto) (T1 H1 : Hp) (g : Sto → Prop) (ds : List D) : Prop where
  go : ∀ (i : Nat) S T H, i < ds.length → Lt S1 S T1 T H1 H → Sm cl S T H → g S → J.go i H
  stop : ∀ S T H, Lt S1 S T1 T H1 H → Sm cl S T H → g S → J.stop ds.length H
  yld : ∀ (i : Nat) S T H x H', i < ds.length → Lt S1 S T1 T H1 H → Sm cl S T H → g S → J.yld i H x H' → Ex S S T H H' ∧ Sm cl S T H' ∧ ∃ d, ds[i]? = some d ∧ Rp cl S T H' d x
abbrev TSr := Rho → Sto → ((Sto → Prop) → List D → Sto → Prop) → Prop
def MonoSr (t : TSr) : Prop := ∀ r S (K K' : (Sto → Prop) → List D → Sto → Prop), (∀ g ds S', K g ds S' → K' g ds S') → t r S K → t r S K'
def kI (cl : CL) (S : Sto) (T H : Hp) (R : It → Hp → Prop) : (Sto → Prop) → List D → Sto → Prop := fun g ds S1 => ∀ J H1, Ex S S1 T H H1 → Sm cl S1 T H1 → WkD cl J S1 T H1 g ds → R J H1
def trI (cl : CL) (t : TSr) : TI := fun s H R => ∃ r S T, Sm cl S T H ∧ SmE cl r S T s H ∧ t r S (kI cl S T H R)
abbrev PI' (cl : CL) (X : Cx) (tg e : Expr) (t : TSr) : Prop := PI X tg e (trI cl t)
theorem PI.imp {X : Cx} {tg e : Expr} {t t2 : TI} (h : PI X tg e t) (i : ∀ s H R, t2 s H R → t s H R) : PI X tg e t2 := ⟨fun pins s σ H R I q => h.run pins s σ H R I (i σ H R q)⟩
theorem Ex.same {S : Sto} {T H : Hp} : Ex S S T H H := Ex.refl S T H
/-! ### sequences -/
theorem wk_own {K : PySem.W.Frag} {S1 : Sto} {T1 H1 : Hp} {q : Addr} {ds : List D} : WkD cl (Itl K q) S1 T1 H1 (fun S' => S' q = some (.lst ds)) ds where
  go := fun i S T H hi _ m g => by
    obtain ⟨u, hu, ro⟩ := m.ob _ _ g
    cases ro with
    | lst rl =>
      exact ⟨_, _, SqL.of hu, List.getElem?_eq_getElem (by rw [← rl.length]; exact hi)⟩
  stop := fun S T H _ m g => by
    obtain ⟨u, hu, ro⟩ := m.ob _ _ g
    cases ro with
    | lst rl => exact ⟨_, SqL.of hu, Nat.le_of_eq rl.length.symm⟩
  yld := fun i S T H x H' hi _ m g y => by
    obtain ⟨u, hu, ro⟩ := m.ob _ _ g
    obtain ⟨e, y⟩ := y
    subst e
    cases ro with
    | lst rl =>
      obtain ⟨d, h1, h2⟩ := rl.getV (y _ (SqL.of hu))
      exact ⟨Ex.same, m, d, h1, h2⟩
theorem wk_lst {K : PySem.W.Frag} {S1 : Sto} {T1 H1 : Hp} {q : Addr} {ds : List D} (h : ∀ S T H, Lt S1 S T1 T H1 H → ∃ xs, SqL K H q xs ∧ RpL cl S T H ds xs) : WkD cl (Itl K q) S1 T1 H1 (fun _ => True) ds where
  go := fun i S T H hi lt m _ => by
    obtain ⟨xs, h1, h2⟩ := h S T H lt
    exact ⟨xs, _, h1, List.getElem?_eq_getElem (by rw [← h2.length]; exact hi)⟩
  stop := fun S T H lt m _ => by
    obtain ⟨xs, h1, h2⟩ := h S T H lt
    exact ⟨xs, h1, Nat.le_of_eq h2.length.symm⟩
  yld := fun i S T H x H' hi lt m _ y => by
    obtain ⟨xs, h1, h2⟩ := h S T H lt
    obtain ⟨e, y⟩ := y
    subst e
    obtain ⟨d, h3, h4⟩ := h2.getV (y _ h1)
    exact ⟨Ex.same, m, d, h3, h4⟩
theorem wk_tup {K : PySem.W.Frag} {S1 : Sto} {T1 H1 : Hp} {q : Addr} {ds : List D} (h : ∀ S T H, Lt S1 S T1 T H1 H → ∃ xs, SqT K H q xs ∧ RpL cl S T H ds xs) : WkD cl (Itt K q) S1 T1 H1 (fun _ => True) ds where
  go := fun i S T H hi lt m _ => by
    obtain ⟨xs, h1, h2⟩ := h S T H lt
    exact ⟨xs, _, h1, List.getElem?_eq_getElem (by rw [← h2.length]; exact hi)⟩
  stop := fun S T H lt m _ => by
    obtain ⟨xs, h1, h2⟩ := h S T H lt
    exact ⟨xs, h1, Nat.le_of_eq h2.length.symm⟩
  yld := fun i S T H x H' hi lt m _ y => by
    obtain ⟨xs, h1, h2⟩ := h S T H lt
    obtain ⟨e, y⟩ := y
    subst e
    obtain ⟨d, h3, h4⟩ := h2.getV (y _ h1)
    exact ⟨Ex.same, m, d, h3, h4⟩
theorem wk_str {S1 : Sto} {T1 H1 : Hp} {x : Str} (ok : okS x = true) : WkD cl (Its x) S1 T1 H1 (fun _ => True) (x.cps.toList.map fun c => D.str ⟨#[c]⟩) where
  go := fun i S T H hi _ _ _ => by
    show i < x.cps.size
    simpa using hi
  stop := fun S T H _ _ _ => by
    show x.cps.size ≤ _
    simp
  yld := fun i S T H v H' hi _ m _ y => by
    obtain ⟨e, ch, hc, ev⟩ := y
    subst e ev
    have hc' : x.cps.toList[i]? = some ch := by rw [Array.getElem?_toList]; exact hc
    refine ⟨Ex.same, m, .str ⟨#[ch]⟩, by rw [List.getElem?_map, hc']; rfl, .str _ ?_⟩
    unfold okS at ok ⊢
    have := List.all_eq_true.mp ok ch (List.mem_of_getElem? hc')
    simpa using this
/-- a list's or tuple's, a text's iterator, by value -/
theorem pie_list {pins : List (Addr × Obj)} {σ : L2.St} {H : Hp} {s : Shared} {R : It → Hp → Prop} {q : Addr} {xs : List V} {E : Value → Shared → Prop} (I : Inv X pins σ H s) (hq : SqL X.K H q xs) (h : R (Itl X.K q) H) :
    wpAny (model X.prog X.w) X.A (pyIter (.ref q)) (PIE X pins σ tg R) E s := by
  obtain ⟨its, rv, p, hz⟩ := I.list hq
  refine wpAny_pyIter_list p.isList ?_
  refine ⟨s.heap.objs.size, [s.heap.objs.size], _, _, H, rfl, I.kept (t' := s.toks) fun b o e => Heap.get?_push_of_some _ e, turn_list q _, ⟨_, Heap.get?_push_size _ rfl, rfl, rfl⟩, fun b hb => ?_, h⟩
  have e : b = s.heap.objs.size := by simpa using hb
  subst e
  exact I.fpOk (Nat.le_refl _) (I.hok.fresh (Nat.le_refl _))
theorem pie_tup {pins : List (Addr × Obj)} {σ : L2.St} {H : Hp} {s : Shared} {R : It → Hp → Prop} {q : Addr} {xs : List V} {E : Value → Shared → Prop} (I : Inv X pins σ H s) (hq : SqT X.K H q xs) (h : R (Itt X.K q) H) :
    wpAny (model X.prog X.w) X.A (pyIter (.ref q)) (PIE X pins σ tg R) E s := by
  obtain ⟨its, rv, p, hz⟩ := I.tuple hq
  refine wpAny_pyIter_tuple (show s.heap.IsTuple q its.toArray from p) ?_
  refine ⟨s.heap.objs.size, [s.heap.objs.size], _, _, H, rfl, I.kept (t' := s.toks) fun b o e => Heap.get?_push_of_some _ e, turn_tuple q _, ⟨_, Heap.get?_push_size _ rfl, rfl, rfl⟩, fun b hb => ?_, h⟩
  have e : b = s.heap.objs.size := by simpa using hb
  subst e
  exact I.fpOk (Nat.le_refl _) (I.hok.fresh (Nat.le_refl _))
theorem pie_str {pins : List (Addr × Obj)} {σ : L2.St} {H : Hp} {s : Shared} {R : It → Hp → Prop} {x : Str} {t : Tok} {E : Value → Shared → Prop} (I : Inv X pins σ H s) (h : R (Its x) H) :
    wpAny (model X.prog X.w) X.A (pyIter (.str x t)) (PIE X pins σ tg R) E s := by
  cases ha : x.cps.all (· < 128)
  · exact wpAny_pyIter_wide ha (pi_one (tk := s.toks) I _ (turn_str _ x t "str_iterator" (.inr rfl)) ⟨_, Heap.get?_push_size _ rfl, rfl, rfl⟩ h)
  · exact wpAny_pyIter_ascii ha (pi_one (tk := s.toks) I _ (turn_str _ x t "str_ascii_iterator" (.inl rfl)) ⟨_, Heap.get?_push_size _ rfl, rfl, rfl⟩ h)
/-- what a frozen thing is, later too -/
theorem lt_tup {K : PySem.W.Frag} {S1 : Sto} {T1 H1 : Hp} {q : Addr} {ds : List D} (h : Rp cl S1 T1 H1 (.tup ds) (.ref q)) : ∀ S T H, Lt S1 S T1 T H1 H → ∃ xs, SqT K H q xs ∧ RpL cl S T H ds xs := fun S T H lt => by
  obtain ⟨a, xs, e, h1, h2⟩ := tup_of (h.lt lt)
  cases e
  exact ⟨xs, .inl h1, h2⟩
theorem lt_utup {K : PySem.W.Frag} {S1 : Sto} {T1 H1 : Hp} {q : Addr} {ds : List D} (h : Rp cl S1 T1 H1 (.utup ds) (.ref q)) : ∀ S T H, Lt S1 S T1 T H1 H → ∃ xs, SqT K H q xs ∧ RpL cl S T H ds xs := fun S T H lt => by
  obtain ⟨a, xs, e, h1, h2⟩ := utup_of (h.lt lt)
  cases e
  exact ⟨xs, .inl h1, h2⟩
theorem lt_lst {K : PySem.W.Frag} {S1 : Sto} {T1 H1 : Hp} {q : Addr} {ds : List D} (h : Rp cl S1 T1 H1 (.lst ds) (.ref q)) : ∀ S T H, Lt S1 S T1 T H1 H → ∃ xs, SqL K H q xs ∧ RpL cl S T H ds xs := fun S T H lt => by
  have h2 := h.lt lt
  cases h2 with
  | lst h1 _ rl => exact ⟨_, SqL.of h1, rl⟩
theorem lt_fls {K : PySem.W.Frag} {S1 : Sto} {T1 H1 : Hp} {q : Addr} {ds : List D} (h : Rp cl S1 T1 H1 (.fls ds) (.ref q)) : ∀ S T H, Lt S1 S T1 T H1 H → ∃ xs, SqL K H q xs ∧ RpL cl S T H ds xs := fun S T H lt => by
  have h2 := h.lt lt
  cases h2 with
  | fls h1 _ rl => exact ⟨_, .inl h1, rl⟩
theorem Lt.refl {S : Sto} {T H : Hp} : Lt S S T T H H := (Ex.refl S T H).lt
/-- how a sequence is walked, by its view -/
theorem pi_seq (mA : MonoE ta) (ha : PE' cl X a ta) : PI' cl X tg a (fun r S K => ta r S fun d S1 => wSeq d S1 fun g ds => K g ds S1) := by
  refine ⟨fun pins s σ H R I ⟨r, S, T, m, e, h⟩ => ?_⟩
  refine thn (ha.run pins s σ H (fun v H1 => ∃ d S1, Ex S S1 T H H1 ∧ Sm cl S1 T H1 ∧ Rp cl S1 T H1 d v ∧ wSeq d S1 fun g ds => kI cl S T H R g ds S1) I (tr_then mA m e h fun d S1 v H1 x m1 e1 rp k => ⟨d, S1, x, m1, rp, k⟩)) fun v s1 ⟨y, H1, I1, r1, d, S1, x, m1, rp, q⟩ => ?_
  cases d with
  | ref q1 =>
    cases rp
    cases r1
    obtain ⟨ds, hS, q⟩ := q
    obtain ⟨u, hu, ro⟩ := m1.ob _ _ hS
    cases ro with
    | lst rl => exact pie_list I1 (SqL.of hu) (q _ _ x m1 wk_own)
  | lst ds =>
    cases rp with
    | lst h1 h2 rl =>
      cases r1
      exact pie_list I1 (SqL.of h1) (q _ _ x m1 (wk_lst (lt_lst (.lst h1 h2 rl))))
  | fls ds =>
    cases rp with
    | fls h1 h2 rl =>
      cases r1
      exact pie_list I1 (.inl h1) (q _ _ x m1 (wk_lst (lt_fls (.fls h1 h2 rl))))
  | tup ds =>
    obtain ⟨q1, xs, rfl, h1, rl⟩ := tup_of rp
    cases r1
    exact pie_tup I1 (.inl h1) (q _ _ x m1 (wk_tup (lt_tup rp)))
  | utup ds =>
    obtain ⟨q1, xs, rfl, h1, rl⟩ := utup_of rp
    cases r1
    exact pie_tup I1 (.inl h1) (q _ _ x m1 (wk_tup (lt_utup rp)))
  | str z =>
    obtain ⟨rfl, ok⟩ := str_of rp
    obtain ⟨t, rfl⟩ := r1
    exact pie_str I1 (q _ _ x m1 (wk_str ok))
  | _ => exact q.elim

/-! ### ranges -/
theorem rangeD_get {lo c : Int} {n i : Nat} (h : i < n) : (rangeD lo c n)[i]? = some (.int (lo + (i : Int) * c)) := by
  unfold rangeD
  rw [List.getElem?_map, List.getElem?_range h]
  rfl
theorem rangeD_len {lo c : Int} {n : Nat} : (rangeD lo c n).length = n := by
  unfold rangeD
  rw [List.length_map, List.length_range]
theorem wk_rng {S1 : Sto} {T1 H1 : Hp} {lo : Int} {n : Nat} : WkD cl (Itr lo n) S1 T1 H1 (fun _ => True) (rangeD lo 1 n) where
  go := fun i S T H hi _ _ _ => by rw [rangeD_len] at hi; exact hi
  stop := fun S T H _ _ _ => by rw [rangeD_len]; exact Nat.le_refl _
  yld := fun i S T H v H' hi _ m _ y => by
    rw [rangeD_len] at hi
    obtain ⟨e, ev⟩ := y
    subst e ev
    exact ⟨Ex.same, m, _, rangeD_get hi, by rw [Int.mul_one]; exact .int _⟩
theorem wk_rngC {S1 : Sto} {T1 H1 : Hp} {lo c : Int} {n : Nat} : WkD cl (Itc lo c n) S1 T1 H1 (fun _ => True) (rangeD lo c n) where
  go := fun i S T H hi _ _ _ => by rw [rangeD_len] at hi; exact hi
  stop := fun S T H _ _ _ => by rw [rangeD_len]; exact Nat.le_refl _
  yld := fun i S T H v H' hi _ m _ y => by
    rw [rangeD_len] at hi
    obtain ⟨e, ev⟩ := y
    subst e ev
    exact ⟨Ex.same, m, _, rangeD_get hi, .int _⟩
theorem pi_rg1 (hg : Gl X "range") (hm : X.mg "range" = none) (mt : MonoA t) (ha : PA' cl X [a] t) (hs : isStar a = false) (hl : ∀ r S Q, t r S Q → t r S fun ds S1 => ds.length = 1 ∧ Q ds S1) :
    PI' cl X tg (.Call (.Name "range" p) [a] [] pos) (fun r S K => t r S fun ds S1 => wRange ds fun xs => K (fun _ => True) xs S1) := by
  refine PI.imp (pi_range1 hg hm ha (by rw [star_no hs]; rfl)) fun s H R ⟨r, S, T, m, e, h⟩ => ?_
  refine trA_then mt m e (hl _ _ _ h) fun ds S1 vs H1 x m1 e1 rl ⟨hn, k⟩ => ?_
  unfold wRange at k
  split at k
  · obtain ⟨y, rfl, ry⟩ := rp1 rl
    obtain rfl := int_of ry
    exact ⟨_, rfl, k.1.1, k.1.2, k.2 _ _ x m1 wk_rng⟩
  · simp at hn
  · simp at hn
  · exact k.elim
theorem pi_rg2 (hg : Gl X "range") (hm : X.mg "range" = none) (mt : MonoA t) (ha : PA' cl X [a, b] t) (hs : isStar a = false) (hs2 : isStar b = false) (hl : ∀ r S Q, t r S Q → t r S fun ds S1 => ds.length = 2 ∧ Q ds S1) :
    PI' cl X tg (.Call (.Name "range" p) [a, b] [] pos) (fun r S K => t r S fun ds S1 => wRange ds fun xs => K (fun _ => True) xs S1) := by
  refine PI.imp (pi_range2 hg hm ha (by rw [star_no hs, star_no hs2]; rfl) (by rw [star_no hs2]; rfl)) fun s H R ⟨r, S, T, m, e, h⟩ => ?_
  refine trA_then mt m e (hl _ _ _ h) fun ds S1 vs H1 x m1 e1 rl ⟨hn, k⟩ => ?_
  unfold wRange at k
  split at k
  · simp at hn
  · obtain ⟨y, z, rfl, ry, rz⟩ := rp2 rl
    obtain rfl := int_of ry
    obtain rfl := int_of rz
    exact ⟨_, _, rfl, ⟨k.1.1, k.1.2, k.2.1.1, k.2.1.2⟩, k.2.2 _ _ x m1 wk_rng⟩
  · simp at hn
  · exact k.elim
theorem rgc {i j c : Int} (hi : okI i) (hj : okI j) (h0 : 0 < c) (h1 : c < 1000) : RgC i j c ((j - i + c - 1) / c).toNat := by
  unfold okI at hi hj
  have hsz : Builtin.Range.rangeSize i j c = if i < j then (j - i - 1) / c + 1 else 0 := by
    unfold Builtin.Range.rangeSize
    rw [if_pos h0]
  have hn : Builtin.Range.rangeSize i j c = (((j - i + c - 1) / c).toNat : Nat) := by
    rw [hsz]
    by_cases h : i < j
    · rw [if_pos h]
      have e : j - i + c - 1 = j - i - 1 + c := by omega
      rw [e, Int.add_ediv_of_dvd_right (Int.dvd_refl c), Int.ediv_self (by omega)]
      have : 0 ≤ (j - i - 1) / c := Int.ediv_nonneg (by omega) (by omega)
      omega
    · rw [if_neg h]
      have h2 : (j - i + c - 1) / c ≤ 0 := by
        have h3 : (j - i + c - 1) / c ≤ (c - 1) / c := Int.ediv_le_ediv h0 (by omega)
        have h4 : (c - 1) / c = 0 := Int.ediv_eq_zero_of_lt (by omega) (by omega)
        omega
      omega
  have hle : (if i < j then (j - i - 1) / c + 1 else 0) ≤ 2 ^ 63 - 1 := by
    by_cases h : i < j
    · rw [if_pos h]
      have : (j - i - 1) / c ≤ j - i - 1 := Int.ediv_le_self _ (by omega)
      omega
    · rw [if_neg h]; decide
  have hge : 0 ≤ (if i < j then (j - i - 1) / c + 1 else 0) := by rw [← hsz, hn]; omega
  refine ⟨by omega, by omega, ?_, hn⟩
  unfold Builtin.Range.small
  rw [hsz]
  generalize (if i < j then (j - i - 1) / c + 1 else 0) = z at hle hge ⊢
  simp only [Builtin.Range.rangeFitsLong, Bool.and_eq_true, Bool.or_eq_true, decide_eq_true_eq, beq_iff_eq, h0, if_true]
  omega
theorem pi_rg3 (hg : Gl X "range") (hm : X.mg "range" = none) (mt : MonoA t) (ha : PA' cl X [a, b, c] t) (hs : isStar a = false) (hs2 : [b, c].all (fun e => !isStar e) = true) (hl : ∀ r S Q, t r S Q → t r S fun ds S1 => ds.length = 3 ∧ Q ds S1) :
    PI' cl X tg (.Call (.Name "range" p) [a, b, c] [] pos) (fun r S K => t r S fun ds S1 => wRange ds fun xs => K (fun _ => True) xs S1) := by
  refine PI.imp (pi_range3 hg hm ha (star_no hs) (noStar hs2)) fun s H R ⟨r, S, T, m, e, h⟩ => ?_
  refine trA_then mt m e (hl _ _ _ h) fun ds S1 vs H1 x m1 e1 rl ⟨hn, k⟩ => ?_
  unfold wRange at k
  split at k
  · simp at hn
  · simp at hn
  · cases rl with
    | cons r1 rl =>
      obtain ⟨y, z, rfl, ry, rz⟩ := rp2 rl
      obtain rfl := int_of r1
      obtain rfl := int_of ry
      obtain rfl := int_of rz
      exact ⟨_, _, _, _, rfl, rgc k.1 k.2.1 k.2.2.1.1 k.2.2.1.2, k.2.2.2 _ _ x m1 wk_rngC⟩
  · exact k.elim

/-! ### enumerate, zip -/
theorem newU {S : Sto} {T H : Hp} {q : Addr} {ds : List D} {vs : List V} (m : Sm cl S T H) (hq : H q = none) (rl : RpL cl S T H ds vs) : Ex S S T H (upd H q (.tup vs)) ∧ Sm cl S T (upd H q (.tup vs)) ∧ Rp cl S T (upd H q (.tup vs)) (.utup ds) (.ref q) :=
  ⟨Ex.newF hq, m.newF hq, .utup upd_same (m.fr hq) (rl.ext (Ex.newF hq))⟩
/-- a list that is read, later too -/
def LsAt (cl : CL) (K : PySem.W.Frag) (S1 : Sto) (T1 H1 : Hp) (q : Addr) (g : Sto → Prop) (ds : List D) : Prop :=
  ∀ S T H, Lt S1 S T1 T H1 H → Sm cl S T H → g S → ∃ xs, SqL K H q xs ∧ RpL cl S T H ds xs
def TpAt (cl : CL) (K : PySem.W.Frag) (S1 : Sto) (T1 H1 : Hp) (q : Addr) (g : Sto → Prop) (ds : List D) : Prop :=
  ∀ S T H, Lt S1 S T1 T H1 H → Sm cl S T H → g S → ∃ xs, SqT K H q xs ∧ RpL cl S T H ds xs
theorem ls_at {K : PySem.W.Frag} {S1 : Sto} {T1 H1 : Hp} {d : D} {v : V} {C : (Sto → Prop) → List D → Prop} (m : Sm cl S1 T1 H1) (r : Rp cl S1 T1 H1 d v) (hl : isLs S1 d) (h : wSeq d S1 C) : ∃ q g ds, v = .ref q ∧ g S1 ∧ LsAt cl K S1 T1 H1 q g ds ∧ C g ds := by
  obtain ⟨ds, hv⟩ := hl
  cases r with
  | ref q =>
    obtain ⟨es, hS, h⟩ := h
    refine ⟨q, _, es, rfl, hS, fun S T H lt m g => ?_, h⟩
    obtain ⟨u, hu, ro⟩ := m.ob _ _ g
    cases ro with
    | lst rl => exact ⟨_, SqL.of hu, rl⟩
  | lst h1 h2 rl => exact ⟨_, _, _, rfl, True.intro, fun S T H lt _ _ => lt_lst (.lst h1 h2 rl) S T H lt, h⟩
  | fls h1 h2 rl => exact ⟨_, _, _, rfl, True.intro, fun S T H lt _ _ => lt_fls (.fls h1 h2 rl) S T H lt, h⟩
  | _ => rcases hv with hv | hv <;> cases hv
theorem tp_at {K : PySem.W.Frag} {S1 : Sto} {T1 H1 : Hp} {d : D} {v : V} {C : (Sto → Prop) → List D → Prop} (r : Rp cl S1 T1 H1 d v) (hl : isTp d) (h : wSeq d S1 C) : ∃ q g ds, v = .ref q ∧ g S1 ∧ TpAt cl K S1 T1 H1 q g ds ∧ C g ds := by
  obtain ⟨ds, hv | hv⟩ := hl
  · subst hv
    obtain ⟨q, xs, rfl, _⟩ := tup_of r
    exact ⟨q, _, ds, rfl, True.intro, fun S T H lt _ _ => lt_tup r S T H lt, h⟩
  · subst hv
    obtain ⟨q, xs, rfl, _⟩ := utup_of r
    exact ⟨q, _, ds, rfl, True.intro, fun S T H lt _ _ => lt_utup r S T H lt, h⟩
theorem enumD_len {ds : List D} : (enumD ds).length = ds.length := by
  unfold enumD
  rw [List.length_map, List.length_zipIdx]
theorem wk_enum {K : PySem.W.Frag} {S1 : Sto} {T1 H1 : Hp} {q : Addr} {g : Sto → Prop} {ds : List D} (h : LsAt cl K S1 T1 H1 q g ds) : WkD cl (Ite K q) S1 T1 H1 g (enumD ds) where
  go := fun i S T H hi lt m hg => by
    rw [enumD_len] at hi
    obtain ⟨xs, h1, h2⟩ := h S T H lt m hg
    exact ⟨xs, _, h1, List.getElem?_eq_getElem (by rw [← h2.length]; exact hi)⟩
  stop := fun S T H lt m hg => by
    rw [enumD_len]
    obtain ⟨xs, h1, h2⟩ := h S T H lt m hg
    exact ⟨xs, h1, Nat.le_of_eq h2.length.symm⟩
  yld := fun i S T H x H' hi lt m hg y => by
    rw [enumD_len] at hi
    obtain ⟨xs, h1, h2⟩ := h S T H lt m hg
    obtain ⟨q2, z, rfl, hq, rfl, y⟩ := y
    obtain ⟨d, h3, h4⟩ := h2.getV (y _ h1)
    obtain ⟨n1, n2, n3⟩ := newU m hq (.cons (.int (i : Nat)) (.cons h4 .nil))
    refine ⟨n1, n2, _, ?_, n3⟩
    unfold enumD
    rw [List.getElem?_map, List.getElem?_zipIdx, h3]
    simp
theorem pi_enumD {elts : List Expr} {kk : Nat} {tpos : Pos} (hg : Gl X "enumerate") (hm : X.mg "enumerate" = none) (mA : MonoE ta) (ha : PE' cl X a ta) (hs : isStar a = false) :
    PI' cl X (.Tuple elts kk tpos) (.Call (.Name "enumerate" p) [a] [] pos) (fun r S K => ta r S fun d S1 => isLs S1 d ∧ wSeq d S1 fun g ds => K g (enumD ds) S1) := by
  refine PI.imp (pi_enum hg hm (pa_cons ha pa_nil (star_no hs)) (by rw [star_no hs]; rfl)) fun s H R ⟨r, S, T, m, e, h⟩ => ?_
  refine tr_then mA m e h fun d S1 v H1 x m1 e1 rp ⟨hl, k⟩ => ?_
  obtain ⟨q, g, ds, rfl, hg, la, k⟩ := ls_at (K := X.K) m1 rp hl k
  obtain ⟨xs, h1, _⟩ := la S1 T H1 Lt.refl m1 hg
  exact ⟨q, xs, rfl, h1, k _ _ x m1 (wk_enum la)⟩
theorem zipD_len {ds es : List D} : (zipD ds es).length = min ds.length es.length := by
  unfold zipD
  rw [List.length_map, List.length_zip]
theorem zipD_get {ds es : List D} {i : Nat} {d e : D} (h1 : ds[i]? = some d) (h2 : es[i]? = some e) : (zipD ds es)[i]? = some (.utup [d, e]) := by
  unfold zipD
  have : (ds.zip es)[i]? = some (d, e) := List.getElem?_zip_eq_some.mpr ⟨h1, h2⟩
  rw [List.getElem?_map, this]
  rfl
theorem wk_zip {K : PySem.W.Frag} {S1 : Sto} {T1 H1 : Hp} {q q' : Addr} {g g' : Sto → Prop} {ds es : List D} (h : LsAt cl K S1 T1 H1 q g ds) (h' : LsAt cl K S1 T1 H1 q' g' es) : WkD cl (Itz K q q') S1 T1 H1 (fun S => g S ∧ g' S) (zipD ds es) where
  go := fun i S T H hi lt m hg => by
    rw [zipD_len] at hi
    obtain ⟨xs, h1, h2⟩ := h S T H lt m hg.1
    obtain ⟨ys, h3, h4⟩ := h' S T H lt m hg.2
    exact ⟨xs, ys, _, _, h1, h3, List.getElem?_eq_getElem (by rw [← h2.length]; omega), List.getElem?_eq_getElem (by rw [← h4.length]; omega)⟩
  stop := fun S T H lt m hg => by
    rw [zipD_len]
    obtain ⟨xs, h1, h2⟩ := h S T H lt m hg.1
    obtain ⟨ys, h3, h4⟩ := h' S T H lt m hg.2
    have e1 := h2.length
    have e2 := h4.length
    exact ⟨xs, ys, h1, h3, by omega⟩
  yld := fun i S T H x H' hi lt m hg y => by
    obtain ⟨xs, h1, h2⟩ := h S T H lt m hg.1
    obtain ⟨ys, h3, h4⟩ := h' S T H lt m hg.2
    obtain ⟨q2, z, z', rfl, hq, rfl, y1, y2⟩ := y
    obtain ⟨d, k1, k2⟩ := h2.getV (y1 _ h1)
    obtain ⟨d', k3, k4⟩ := h4.getV (y2 _ h3)
    obtain ⟨n1, n2, n3⟩ := newU m hq (.cons k2 (.cons k4 .nil))
    exact ⟨n1, n2, _, zipD_get k1 k3, n3⟩
theorem wk_zipT {K : PySem.W.Frag} {S1 : Sto} {T1 H1 : Hp} {q q' : Addr} {g g' : Sto → Prop} {ds es : List D} (h : TpAt cl K S1 T1 H1 q g ds) (h' : TpAt cl K S1 T1 H1 q' g' es) : WkD cl (RZ.ItzT K q q') S1 T1 H1 (fun S => g S ∧ g' S) (zipD ds es) where
  go := fun i S T H hi lt m hg => by
    rw [zipD_len] at hi
    obtain ⟨xs, h1, h2⟩ := h S T H lt m hg.1
    obtain ⟨ys, h3, h4⟩ := h' S T H lt m hg.2
    exact ⟨xs, ys, _, _, h1, h3, List.getElem?_eq_getElem (by rw [← h2.length]; omega), List.getElem?_eq_getElem (by rw [← h4.length]; omega)⟩
  stop := fun S T H lt m hg => by
    rw [zipD_len]
    obtain ⟨xs, h1, h2⟩ := h S T H lt m hg.1
    obtain ⟨ys, h3, h4⟩ := h' S T H lt m hg.2
    have e1 := h2.length
    have e2 := h4.length
    exact ⟨xs, ys, h1, h3, by omega⟩
  yld := fun i S T H x H' hi lt m hg y => by
    obtain ⟨xs, h1, h2⟩ := h S T H lt m hg.1
    obtain ⟨ys, h3, h4⟩ := h' S T H lt m hg.2
    obtain ⟨q2, z, z', rfl, hq, rfl, y1, y2⟩ := y
    obtain ⟨d, k1, k2⟩ := h2.getV (y1 _ h1)
    obtain ⟨d', k3, k4⟩ := h4.getV (y2 _ h3)
    obtain ⟨n1, n2, n3⟩ := newU m hq (.cons k2 (.cons k4 .nil))
    exact ⟨n1, n2, _, zipD_get k1 k3, n3⟩
theorem isLs_wSeq {S : Sto} {d : D} {C C' : (Sto → Prop) → List D → Prop} (h : ∀ g ds, C g ds → C' g ds) (q : wSeq d S C) : wSeq d S C' := wSeq_mono h q
theorem pi_zipD {elts : List Expr} {kk : Nat} {tpos : Pos} (hg : Gl X "zip") (hm : X.mg "zip" = none) (mA : MonoE ta) (mB : MonoE tb) (ha : PE' cl X a ta) (hb : PE' cl X b tb) (hs : isStar a = false) (hs2 : isStar b = false) :
    PI' cl X (.Tuple elts kk tpos) (.Call (.Name "zip" p) [a, b] [] pos) (fun r S K => ta r S fun x S1 => tb r S1 fun y S2 => ((isLs S2 x ∧ isLs S2 y) ∨ (isTp x ∧ isTp y)) ∧ wSeq x S2 fun g ds => wSeq y S2 fun g' es => K (fun S' => g S' ∧ g' S') (zipD ds es) S2) := by
  refine PI.imp (RZ.pi_zipA hg hm (pa_cons ha (pa_cons hb pa_nil (star_no hs2)) (star_no hs)) (star_no hs) (noStar (by simp [hs2]))) fun s H R ⟨r, S, T, m, e, h⟩ => ?_
  refine tr_then mA m e h fun d S1 v H1 x m1 e1 rp k => ?_
  refine tr_then mB m1 e1 k fun d2 S2 v2 H2 x2 m2 e2 rp2 ⟨hl, k2⟩ => ?_
  rcases hl with ⟨l1, l2⟩ | ⟨l1, l2⟩
  · obtain ⟨q, g, ds, rfl, hg, la, k3⟩ := ls_at (K := X.K) m2 (rp.ext x2) l1 k2
    obtain ⟨q', g', es, rfl, hg', la', k4⟩ := ls_at (K := X.K) m2 rp2 l2 k3
    obtain ⟨xs, h1, _⟩ := la S2 T H2 Lt.refl m2 hg
    obtain ⟨ys, h2, _⟩ := la' S2 T H2 Lt.refl m2 hg'
    exact ⟨q, q', xs, ys, rfl, .inl ⟨h1, h2, k4 _ _ (x.trans x2) m2 (wk_zip la la')⟩⟩
  · obtain ⟨q, g, ds, rfl, hg, la, k3⟩ := tp_at (K := X.K) (rp.ext x2) l1 k2
    obtain ⟨q', g', es, rfl, hg', la', k4⟩ := tp_at (K := X.K) rp2 l2 k3
    obtain ⟨xs, h1, _⟩ := la S2 T H2 Lt.refl m2 hg
    obtain ⟨ys, h2, _⟩ := la' S2 T H2 Lt.refl m2 hg'
    exact ⟨q, q', xs, ys, rfl, .inr ⟨h1, h2, k4 _ _ (x.trans x2) m2 (wk_zipT la la')⟩⟩
end Dz
/-! Dz16: loops, comprehensions, statements. -/
namespace Dz
open PySem PySem.Spec PyProof.Rows L2

variable {cl : CL} {X : Cx} {a b c e o tg : Expr} {es : List Expr} {ta tb tc : TE'} {t : TA'} {pos p apos cpos : Pos}
abbrev PS' (cl : CL) (X : Cx) (e : Stmt) (t : TS') : Prop := PS X e (trS cl t)
abbrev PSs' (cl : CL) (X : Cx) (e : List Stmt) (t : TS') : Prop := PSs X e (trS cl t)
/-! ### for -/
def forW (tsr : TSr) (tg : TG') (tb : TS') : TS' := fun Z r S => tsr r S fun g ds S1 => wFor g Z (fun d Z' r S => tg d r S fun r1 S2 => tb Z' r1 S2) ds r S1
theorem for_go {tsr : TSr} {tgt : TG'} {tb : TS'} (msr : MonoSr tsr) (mg : MonoG tgt) (mb : MonoS tb) {Z : Ends} {s : L2.St} {H : Hp} (h : trS cl (forW tsr tgt tb) Z s H) : tFor (trI cl tsr) (trG cl tgt) (trS cl tb) Z s H := by
  obtain ⟨r0, S0, T, m0, e0, h⟩ := h
  refine ⟨r0, S0, T, m0, e0, msr _ _ _ _ (fun g ds S1 q J H1 x1 m1 wk => ?_) h⟩
  generalize hstep : (fun d Z' r S => tgt d r S fun r1 S2 => tb Z' r1 S2) = step at q
  have hst : ∀ d Z' r S, step d Z' r S = tgt d r S fun r1 S2 => tb Z' r1 S2 := fun d Z' r S => by rw [← hstep]
  refine ⟨fun i k σ' H' => k = ds.length - i ∧ i ≤ ds.length ∧ ∃ r' S', Ex S0 S' T H H' ∧ Lt S1 S' T T H1 H' ∧ Sm cl S' T H' ∧ SmE cl r' S' T σ' H' ∧ wFor g (kE cl S0 T H Z) step (ds.drop i) r' S', ⟨ds.length, by simp, Nat.zero_le _, r0, S1, x1, Lt.refl, m1, e0.ext x1, by simpa using q⟩, ?_⟩
  rintro i k σ' H' ⟨rfl, hi, r', S', xx, lt, m, e, q⟩
  by_cases hlt : i < ds.length
  · rw [List.drop_eq_getElem_cons hlt] at q
    obtain ⟨hg, q⟩ := q
    rw [hst] at q
    refine .inr ⟨wk.go i S' T H' hlt lt m hg, fun σ2 H2 => i + 1 ≤ ds.length ∧ ∃ r2 S2, Ex S0 S2 T H H2 ∧ Lt S1 S2 T T H1 H2 ∧ Sm cl S2 T H2 ∧ SmE cl r2 S2 T σ2 H2 ∧ wFor g (kE cl S0 T H Z) step (ds.drop (i + 1)) r2 S2, fun σ2 H2 n2 => ⟨ds.length - (i + 1), by omega, rfl, n2⟩, fun v H2 y => ?_⟩
    obtain ⟨x2, m2, d, hd, rp⟩ := wk.yld i S' T H' v H2 hlt lt m hg y
    have ed : d = ds[i] := by
      rw [List.getElem?_eq_getElem hlt] at hd
      exact (Option.some.inj hd).symm
    subst ed
    refine trG_then mg m2 (e.ext x2) rp q fun r3 S3 s3 H3 x3 m3 e3 k3 => ⟨r3, S3, T, m3, e3, mb _ _ _ _ ?_ k3⟩
    have xa : Ex S0 S3 T H H3 := (xx.trans x2).trans x3
    have la : Lt S1 S3 T T H1 H3 := (lt.trans x2.lt).trans x3.lt
    have nx : ∀ r4 S4, wFor g (kE cl S0 T H Z) step (ds.drop (i + 1)) r4 S4 → kN cl S3 T H3 (fun σ2 H2 => i + 1 ≤ ds.length ∧ ∃ r2 S2, Ex S0 S2 T H H2 ∧ Lt S1 S2 T T H1 H2 ∧ Sm cl S2 T H2 ∧ SmE cl r2 S2 T σ2 H2 ∧ wFor g (kE cl S0 T H Z) step (ds.drop (i + 1)) r2 S2) r4 S4 :=
      fun r4 S4 q4 s4 H4 x4 m4 e4 => ⟨hlt, r4, S4, xa.trans x4, la.trans x4.lt, m4, e4, q4⟩
    exact ⟨nx, fun d S4 q4 => kQ.up xa q4, fun r4 S4 q4 => kN.up xa q4, nx⟩
  · have ei : i = ds.length := by omega
    subst ei
    rw [List.drop_length] at q
    exact .inl ⟨wk.stop S' T H' lt m q.1, q.2 σ' H' xx m e⟩
theorem s_for {tsr : TSr} {tgt : TG'} {tb : TS'} {iter : Expr} {body : List Stmt} (hc : XC cl X) (msr : MonoSr tsr) (mg : MonoG tgt) (mb : MonoS tb) (hi : PI' cl X tg iter tsr) (hg : PG' cl X tg tgt) (hb : PSs' cl X body tb)
    (hs : ∀ x, foldedSetIterable iter X.env x = pure x) : PS' cl X (.For tg iter body [] pos) (forW tsr tgt tb) :=
  PS.imp (ps_for hc.own hc.calm hi hg hb hs) fun Z s H h => for_go msr mg mb h
/-! ### while -/
theorem s_while {tb : TS'} {body : List Stmt} (hc : XC cl X) (mc : MonoE tc) (mb : MonoS tb) (hcc : PT' cl X c (tst tc)) (hb : PSs' cl X body tb) :
    PS' cl X (.While c body [] pos) (fun Z r S => ∃ n, wWhile Z (fun r S Q => tc r S fun x S1 => ∃ k, x = .bl k ∧ Q k S1) (fun Z' r S => tb Z' r S) n r S) :=
  PS.imp (ps_while hc.own hcc hb) fun Z s H ⟨r0, S0, T, m0, e0, n, h⟩ => by
    refine ⟨fun k σ' H' => ∃ r' S', Ex S0 S' T H H' ∧ Sm cl S' T H' ∧ SmE cl r' S' T σ' H' ∧ wWhile (kE cl S0 T H Z) (fun r S Q => tc r S fun x S1 => ∃ k, x = .bl k ∧ Q k S1) (fun Z' r S => tb Z' r S) k r' S', ⟨n, r0, S0, Ex.refl _ _ _, m0, e0, h⟩, ?_⟩
    rintro k σ' H' ⟨r', S', xx, m, e, q⟩
    cases k with
    | zero => exact q.elim
    | succ k =>
      refine trB_then mc.tst m e (show tst tc r' S' _ from q) fun b S1 H1 x1 m1 e1 q1 => ?_
      cases b with
      | true =>
        rw [if_pos rfl] at q1 ⊢
        refine ⟨fun σ2 H2 => ∃ r2 S2, Ex S0 S2 T H H2 ∧ Sm cl S2 T H2 ∧ SmE cl r2 S2 T σ2 H2 ∧ wWhile (kE cl S0 T H Z) (fun r S Q => tc r S fun x S1 => ∃ k, x = .bl k ∧ Q k S1) (fun Z' r S => tb Z' r S) k r2 S2, fun σ2 H2 n2 => ⟨k, Nat.lt_succ_self _, n2⟩, r', S1, T, m1, e1, mb _ _ _ _ ?_ q1⟩
        have xa := xx.trans x1
        have nx : ∀ r4 S4, wWhile (kE cl S0 T H Z) (fun r S Q => tc r S fun x S1 => ∃ k, x = .bl k ∧ Q k S1) (fun Z' r S => tb Z' r S) k r4 S4 → kN cl S1 T H1 (fun σ2 H2 => ∃ r2 S2, Ex S0 S2 T H H2 ∧ Sm cl S2 T H2 ∧ SmE cl r2 S2 T σ2 H2 ∧ wWhile (kE cl S0 T H Z) (fun r S Q => tc r S fun x S1 => ∃ k, x = .bl k ∧ Q k S1) (fun Z' r S => tb Z' r S) k r2 S2) r4 S4 :=
          fun r4 S4 q4 s4 H4 x4 m4 e4 => ⟨r4, S4, xa.trans x4, m4, e4, q4⟩
        exact ⟨nx, fun d S4 q4 => kQ.up xa q4, fun r4 S4 q4 => kN.up xa q4, nx⟩
      | false =>
        rw [if_neg Bool.false_ne_true] at q1 ⊢
        exact q1 σ' H1 (xx.trans x1) m1 e1

/-! ### small statements -/
theorem s_expr (mA : MonoE ta) (ha : PE' cl X a ta) (hs : swapsWith a none pos.line X.env = pure false) : PS' cl X (.Expr a pos) (fun Z r S => ta r S fun _ S1 => Z.nx r S1) :=
  PS.imp (ps_expr ha hs) fun Z s H ⟨r, S, T, m, e, h⟩ => tr_then mA m e h fun d S1 v H1 x m1 e1 rp q => q s H1 x m1 e1
theorem s_doc {x : Str} {j : Nat} {pos' : Pos} : PS' cl X (.Expr (.Constant (.str x) j pos) pos') (fun Z r S => Z.nx r S) := PS.imp ps_doc fun Z s H ⟨r, S, T, m, e, h⟩ => h s H (Ex.refl _ _ _) m e
theorem s_ret (mA : MonoE ta) (ha : PE' cl X a ta) : PS' cl X (.Return (some a) pos) (fun Z r S => ta r S Z.rt) :=
  PS.imp (ps_ret ha) fun Z s H ⟨r, S, T, m, e, h⟩ => ⟨r, S, T, m, e, mA _ _ _ _ (fun _ _ q => q) h⟩
theorem s_retN : PS' cl X (.Return none pos) (fun Z r S => Z.rt .non S) := PS.imp ps_retN fun Z s H ⟨r, S, T, m, e, h⟩ => h _ _ (Ex.refl _ _ _) m .non
theorem s_pass : PS' cl X (.Pass pos) (fun Z r S => Z.nx r S) := PS.imp ps_pass fun Z s H ⟨r, S, T, m, e, h⟩ => h s H (Ex.refl _ _ _) m e
theorem s_brk : PS' cl X (.Break pos) (fun Z r S => Z.bk r S) := PS.imp ps_break fun Z s H ⟨r, S, T, m, e, h⟩ => h s H (Ex.refl _ _ _) m e
theorem s_cont : PS' cl X (.Continue pos) (fun Z r S => Z.ct r S) := PS.imp ps_continue fun Z s H ⟨r, S, T, m, e, h⟩ => h s H (Ex.refl _ _ _) m e
theorem s_never {st : Stmt} : PS' cl X st (fun _ _ _ => False) := PS.imp ps_never fun Z s H ⟨r, S, T, m, e, h⟩ => h.elim
theorem s_if {x y : List Stmt} {tx ty : TS'} (mC : MonoE tc) (mx : MonoS tx) (my : MonoS ty) (hc : PT' cl X c (tst tc)) (hx : PSs' cl X x tx) (hy : PSs' cl X y ty) :
    PS' cl X (.If c x y pos) (fun Z r S => tc r S fun d S1 => ∃ k, d = .bl k ∧ if k = true then tx Z r S1 else ty Z r S1) :=
  PS.imp (ps_if hc hx hy) fun Z s H ⟨r, S, T, m, e, h⟩ => by
    refine trB_then (k := fun k S1 => if k = true then tx (kE cl S T H Z) r S1 else ty (kE cl S T H Z) r S1) mC.tst m e h fun k S1 H1 x1 m1 e1 q => ?_
    split at q <;> rename_i hk
    · rw [if_pos hk]
      exact ⟨r, S1, T, m1, e1, mx _ _ _ _ (kE.up x1) q⟩
    · rw [if_neg hk]
      exact ⟨r, S1, T, m1, e1, my _ _ _ _ (kE.up x1) q⟩
theorem s_asg {tgt : TG'} (mA : MonoE ta) (mg : MonoG tgt) (ha : PE' cl X a ta) (hg : PG' cl X tg tgt) (hs : swapsWithSole [tg] a pos.line X.env = pure false) (hw : swappedStores [tg] a X.env = pure none) (h1 : (assignEach [tg] X.env).map (·.2) = [assign tg X.env]) :
    PS' cl X (.Assign [tg] a pos) (fun Z r S => ta r S fun d S1 => tgt d r S1 Z.nx) :=
  PS.imp (ps_asg ha hg hs hw h1) fun Z s H ⟨r, S, T, m, e, h⟩ => tr_then mA m e h fun d S1 v H1 x m1 e1 rp q =>
    trG_then mg m1 e1 rp q fun r2 S2 s2 H2 x2 m2 e2 k => k s2 H2 (x.trans x2) m2 e2
theorem ss_nil : PSs' cl X [] (fun Z r S => Z.nx r S) := PSs.imp pss_nil fun Z s H ⟨r, S, T, m, e, h⟩ => h s H (Ex.refl _ _ _) m e
theorem ss_cons {st : Stmt} {rest : List Stmt} {tx ty : TS'} (mx : MonoS tx) (my : MonoS ty) (h1 : PS' cl X st tx) (h2 : PSs' cl X rest ty) : PSs' cl X (st :: rest) (fun Z r S => tx { nx := ty Z, rt := Z.rt, bk := Z.bk, ct := Z.ct } r S) :=
  PSs.imp (pss_cons h1 h2) fun Z s H ⟨r, S, T, m, e, h⟩ => ⟨r, S, T, m, e, mx { nx := ty (kE cl S T H Z), rt := (kE cl S T H Z).rt, bk := (kE cl S T H Z).bk, ct := (kE cl S T H Z).ct } _ r S ⟨fun r2 S2 q s2 H2 x2 m2 e2 => ⟨r2, S2, T, m2, e2, my _ _ _ _ (kE.up x2) q⟩, fun _ _ q => q, fun _ _ q => q, fun _ _ q => q⟩ h⟩
/-- nothing is done, but things are frozen or forgotten -/
theorem SmE.fzr {S S' : Sto} {T H : Hp} {r r' : Rho} {s : L2.St} (x : Sub S' S) (m : Sm cl S T H) (f : FzR S S' r r') (e : SmE cl r S T s H) : SmE cl r' S' T s H :=
  ⟨f.1.trans e.len, fun i d h => by
    obtain ⟨d0, h1, h2⟩ := f.2 i d h
    obtain ⟨v, h3, h4⟩ := e.get i d0 h1
    exact ⟨v, h3, h4.fz x m h2⟩⟩
theorem ss_ghost {rest : List Stmt} {ty : TS'} (my : MonoS ty) (h2 : PSs' cl X rest ty) : PSs' cl X rest (fun Z r S => ∃ r' S', Sub S' S ∧ FzR S S' r r' ∧ ty Z r' S') :=
  PSs.imp h2 fun Z s H ⟨r, S, T, m, e, r', S', x, f, q⟩ => ⟨r', S', T, m.sub x, e.fzr x m f, my _ _ _ _ (kE.up (Ex.sub x T H)) q⟩
theorem q_frz (mA : MonoE ta) (ha : PE' cl X a ta) : PE' cl X a (fun r S Q => ta r S fun d S1 => ∃ d' S2, Sub S2 S1 ∧ Fz S1 S2 d d' ∧ Q d' S2) :=
  PE.imp ha fun s H Q ⟨r, S, T, m, e, h⟩ => ⟨r, S, T, m, e, mA _ _ _ _ (fun d S1 ⟨d', S2, x, f, q⟩ v H1 x1 m1 rp => q v H1 (x1.trans (Ex.sub x T H1)) (m1.sub x) (rp.fz x m1 f)) h⟩
theorem s_par2 {i j : Nat} {x y : Str} {px py pt : Pos} {kt k2 : Nat} {pt2 : Pos} (hc : XC cl X) (mA : MonoE ta) (mB : MonoE tb) (hi : X.N[i]? = some x) (hj : X.N[j]? = some y) (hij : i ≠ j)
    (hx : X.env.scope.names.lookup x = some .local) (hy : X.env.scope.names.lookup y = some .local) (ha : PE' cl X a ta) (hb : PE' cl X b tb) (hs : isStar a = false) (hs2 : isStar b = false)
    (hsw : swapsWithSole [.Tuple [.Name x px, .Name y py] kt pt] (.Tuple [a, b] k2 pt2) pos.line X.env = pure false) (hw : swappedStores [.Tuple [.Name x px, .Name y py] kt pt] (.Tuple [a, b] k2 pt2) X.env = pure (some [x, y])) :
    PS' cl X (.Assign [.Tuple [.Name x px, .Name y py] kt pt] (.Tuple [a, b] k2 pt2) pos) (fun Z r S => ta r S fun x S1 => tb r S1 fun y S2 => Z.nx ((r.set i (some x)).set j (some y)) S2) :=
  PS.imp (ps_par hc.calm hc.nd hi hj hij hx hy (pa_cons ha (pa_cons hb pa_nil (star_no hs2)) (star_no hs)) hw hsw) fun Z s H ⟨r, S, T, m, e, h⟩ => by
    refine tr_then mA m e h fun d S1 v H1 x1 m1 e1 rp k => ?_
    refine tr_then mB m1 e1 k fun d2 S2 v2 H2 x2 m2 e2 rp2 k2 => ?_
    exact ⟨v, v2, rfl, k2 _ _ (x1.trans x2) m2 ((e2.set (rp.ext x2) i).set rp2 j)⟩
theorem s_par3 {i j l : Nat} {x y z : Str} {px py pz pt : Pos} {kt k2 : Nat} {pt2 : Pos} (hc : XC cl X) (mA : MonoE ta) (mB : MonoE tb) (mC : MonoE tc) (hi : X.N[i]? = some x) (hj : X.N[j]? = some y) (hl : X.N[l]? = some z) (hij : i ≠ j) (hil : i ≠ l) (hjl : j ≠ l)
    (hx : X.env.scope.names.lookup x = some .local) (hy : X.env.scope.names.lookup y = some .local) (hz : X.env.scope.names.lookup z = some .local) (ha : PE' cl X a ta) (hb : PE' cl X b tb) (hcc : PE' cl X c tc) (hs : isStar a = false) (hs2 : isStar b = false) (hs3 : isStar c = false)
    (hsw : swapsWithSole [.Tuple [.Name x px, .Name y py, .Name z pz] kt pt] (.Tuple [a, b, c] k2 pt2) pos.line X.env = pure false) (hw : swappedStores [.Tuple [.Name x px, .Name y py, .Name z pz] kt pt] (.Tuple [a, b, c] k2 pt2) X.env = pure (some [x, y, z])) :
    PS' cl X (.Assign [.Tuple [.Name x px, .Name y py, .Name z pz] kt pt] (.Tuple [a, b, c] k2 pt2) pos) (fun Z r S => ta r S fun x S1 => tb r S1 fun y S2 => tc r S2 fun z S3 => Z.nx (((r.set i (some x)).set j (some y)).set l (some z)) S3) :=
  PS.imp (ps_par3 hc.calm hc.nd hi hj hl hij hil hjl hx hy hz (pa_cons ha (pa_cons hb (pa_cons hcc pa_nil (star_no hs3)) (star_no hs2)) (star_no hs)) hw hsw) fun Z s H ⟨r, S, T, m, e, h⟩ => by
    refine tr_then mA m e h fun d S1 v H1 x1 m1 e1 rp k => ?_
    refine tr_then mB m1 e1 k fun d2 S2 v2 H2 x2 m2 e2 rp2 k2 => ?_
    refine tr_then mC m2 e2 k2 fun d3 S3 v3 H3 x3 m3 e3 rp3 k3 => ?_
    exact ⟨v, v2, v3, rfl, k3 _ _ ((x1.trans x2).trans x3) m3 (((e3.set ((rp.ext x2).ext x3) i).set (rp2.ext x3) j).set rp3 l)⟩
/-! ### comprehensions -/
theorem RpO.lt {S S2 : Sto} {T T2 H H2 : Hp} (x : Lt S S2 T T2 H H2) {o : Ob} {u : HO} (r : RpO cl S T H o u) : RpO cl S2 T2 H2 o u := by
  cases r with
  | lst r => exact .lst (r.lt x)
  | dk r => exact .dk (r.lt x)
  | ins c r => exact .ins c (r.lt x)
theorem SmE.lt {S S2 : Sto} {T T2 H H2 : Hp} (x : Lt S S2 T T2 H H2) {r : Rho} {s : L2.St} (e : SmE cl r S T s H) : SmE cl r S2 T2 s H2 := ⟨e.len, fun i d h => let ⟨v, a, b⟩ := e.get i d h; ⟨v, a, b.lt x⟩⟩
/-- the thing that is being made is hidden -/
def hidD (T : Hp) (q : Addr) (u : HO) : Hp := fun b => if b = q then some u else T b
theorem hidD_same {T : Hp} {q : Addr} {u : HO} : hidD T q u q = some u := by unfold hidD; rw [if_pos rfl]
theorem hidD_ne {T : Hp} {q b : Addr} {u : HO} (h : b ≠ q) : hidD T q u b = T b := by unfold hidD; rw [if_neg h]
theorem fr_hid {S : Sto} {T : Hp} {q a : Addr} {u : HO} (h : Fr S (hidD T q u) a) : a ≠ q ∧ Fr S T a := by
  have h1 : a ≠ q := fun e => by
    have h2 := h.2
    rw [e, hidD_same] at h2
    cases h2
  exact ⟨h1, h.1, by have := h.2; rwa [hidD_ne h1] at this⟩
/-- the turns of a comprehension: from the entry (S1, T, H1) on, D the new list -/
structure CmpAt (cl : CL) (S1 : Sto) (T H1 : Hp) (q : Addr) (acc : List D) (S : Sto) (H : Hp) : Prop where
  ex : Ex S1 S T H1 H
  ls : ∃ xs, Sm cl S (hidD T q (.lst xs)) H ∧ RpL cl S (hidD T q (.lst xs)) H acc xs ∧ Lt S1 S T (hidD T q (.lst xs)) H1 H
theorem ex_hid {S1 S S2 : Sto} {T H1 H H2 : Hp} {q : Addr} {u0 : HO} (hq : H1 q = none) (x : Ex S1 S T H1 H) (y : Ex S S2 (hidD T q u0) H H2) : Ex S1 S2 T H1 H2 := by
  have nq : ∀ a o, H1 a = some o → a ≠ q := fun a o e z => by rw [z, hq] at e; cases e
  have fr : ∀ a o, Fr S1 T a → H1 a = some o → Fr S (hidD T q u0) a := fun a o n e => ⟨(x.st a o n e).1, by rw [hidD_ne (nq a o e)]; exact n.2⟩
  refine ⟨fun a u i h1 h2 => ?_, fun a u h1 h2 hs => ?_, fun a o h1 h2 => ?_, fun a u h1 h2 h3 => ?_⟩
  · obtain ⟨o, e⟩ := Rd.some h2
    exact y.rd a u i (fr a o h1 e) (x.rd a u i h1 h2)
  · exact y.sq a u (fr a _ h1 h2) (x.sq a u h1 h2 hs) hs
  · obtain ⟨o', e'⟩ := (x.st a o h1 h2).2
    exact y.st a o' (fr a o h1 h2) e'
  · obtain ⟨p1, p2⟩ := x.hid a u h1 h2 h3
    exact y.hid a u (by rw [hidD_ne (nq a u h2)]; exact h1) p1 p2
/-- out of hiding -/
theorem lt_out {S S' : Sto} {T H : Hp} {q : Addr} {u0 : HO} (hS : ∀ a, a ≠ q → S a = none → S' a = none) : Lt S S' (hidD T q u0) T H H :=
  ⟨fun _ _ _ _ h => h, fun _ _ _ h _ => h, fun a o n e => ⟨⟨hS a (fr_hid n).1 n.1, (fr_hid n).2.2⟩, o, e⟩⟩
/-- one more item -/
theorem lt_put {S : Sto} {T H : Hp} {q : Addr} {u0 u1 : HO} : Lt S S (hidD T q u0) (hidD T q u1) H (upd H q u1) := by
  refine ⟨fun a u _ n h => ?_, fun a u n h _ => ?_, fun a o n h => ⟨⟨n.1, by rw [hidD_ne (fr_hid n).1]; exact (fr_hid n).2.2⟩, o, by rw [upd_ne (fr_hid n).1]; exact h⟩⟩
  · rcases h with h | ⟨ob, h⟩
    · exact .inl (by rw [upd_ne (fr_hid n).1]; exact h)
    · exact .inr ⟨ob, by rw [upd_ne (fr_hid n).1]; exact h⟩
  · rw [upd_ne (fr_hid n).1]; exact h
theorem sm_put {S : Sto} {T H : Hp} {q : Addr} {u0 u1 : HO} (m : Sm cl S (hidD T q u0) H) : Sm cl S (hidD T q u1) (upd H q u1) := by
  obtain ⟨hq, sq⟩ := m.hid q _ hidD_same
  refine ⟨m.tab.lt lt_put fun a ps n e => by rw [upd_ne (fr_hid n).1]; exact e, fun a o h => ?_, fun a u h => ?_⟩
  · have ne : a ≠ q := fun e => by rw [e, sq] at h; cases h
    obtain ⟨u, h1, h2⟩ := m.ob a o h
    exact ⟨u, by rw [upd_ne ne]; exact h1, h2.lt lt_put⟩
  · by_cases e : a = q
    · subst e
      rw [hidD_same] at h
      cases h
      exact ⟨upd_same, sq⟩
    · rw [hidD_ne e] at h
      obtain ⟨h1, h2⟩ := m.hid a u (by rw [hidD_ne e]; exact h)
      exact ⟨by rw [upd_ne e]; exact h1, h2⟩
theorem ex_put {S1 S : Sto} {T H1 H : Hp} {q : Addr} {u1 : HO} (hq : H1 q = none) (x : Ex S1 S T H1 H) : Ex S1 S T H1 (upd H q u1) := by
  have nq : ∀ a o, H1 a = some o → a ≠ q := fun a o e z => by rw [z, hq] at e; cases e
  refine ⟨fun a u i h1 h2 => ?_, fun a u h1 h2 hs => ?_, fun a o h1 h2 => ⟨(x.st a o h1 h2).1, by rw [upd_ne (nq a o h2)]; exact (x.st a o h1 h2).2⟩, fun a u h1 h2 h3 => ?_⟩
  · obtain ⟨o, e⟩ := Rd.some h2
    have ne := nq a o e
    rcases x.rd a u i h1 h2 with h | ⟨ob, h⟩
    · exact .inl (by rw [upd_ne ne]; exact h)
    · exact .inr ⟨ob, by rw [upd_ne ne]; exact h⟩
  · rw [upd_ne (nq a u h2)]; exact x.sq a u h1 h2 hs
  · rw [upd_ne (nq a u h2)]; exact x.hid a u h1 h2 h3
/-- a target within a comprehension: the slots elsewhere are as they were -/
def trGc (cl : CL) (vs : List Nat) (t : TG') : TG := fun v s H Q => ∃ d r S T, Sm cl S T H ∧ SmE cl r S T s H ∧ Rp cl S T H d v ∧ t d r S fun r' S' => ∀ s' H2, Ex S S' T H H2 → Sm cl S' T H2 → SmE cl r' S' T s' H2 → wipe s' vs = wipe s vs → Q s' H2
def compW (own : Bool) (vs : List Nat) (tsr : TSr) (tgt : TG') (tt : TT') (te : TE') : TE' := fun r S Q => tsr r S fun g ds S1 => wComp g (fun d S' k => tgt d (wipeR r vs) S' fun r1 S2 =>
      tt r1 S2 fun b S3 => if b = true then te r1 S3 fun y S4 => k (some y) S4 else k none S3) ds [] S1 fun ys S5 => finL own ys S5 Q
theorem SmE.wipe {S : Sto} {T H : Hp} {r : Rho} {s : L2.St} (e : SmE cl r S T s H) : ∀ vs : List Nat, SmE cl (wipeR r vs) S T (wipe s vs) H
  | [] => e
  | v :: vs => (SmE.wipe e vs).setN v
theorem wipe_idem {s : L2.St} : ∀ {vs : List Nat}, (∀ i ∈ vs, (L2.wipe s vs)[i]? = some none ∨ (L2.wipe s vs)[i]? = none) → ∀ ws, (∀ i ∈ ws, i ∈ vs) → L2.wipe (L2.wipe s vs) ws = L2.wipe s vs
  | vs, h, [], _ => rfl
  | vs, h, w :: ws, hw => by
    show (L2.wipe (L2.wipe s vs) ws).set w none = L2.wipe s vs
    rw [wipe_idem h ws fun i hi => hw i (List.mem_cons_of_mem _ hi)]
    refine List.ext_getElem? fun j => ?_
    by_cases e : w = j
    · subst e
      rcases h w (hw w (List.mem_cons_self ..)) with z | z
      · have hl : w < (L2.wipe s vs).length := (List.getElem?_eq_some_iff.mp z).1
        rw [List.getElem?_set_self hl, z]
      · rw [z]
        have hl : (L2.wipe s vs).length ≤ w := List.getElem?_eq_none_iff.mp z
        exact List.getElem?_eq_none_iff.mpr (by rw [List.length_set]; exact hl)
    · rw [List.getElem?_set_ne e]
theorem wipe_none {s : L2.St} : ∀ {vs : List Nat} {i : Nat}, i ∈ vs → (L2.wipe s vs)[i]? = some none ∨ (L2.wipe s vs)[i]? = none
  | v :: vs, i, h => by
    show ((L2.wipe s vs).set v none)[i]? = some none ∨ ((L2.wipe s vs).set v none)[i]? = none
    by_cases e : v = i
    · subst e
      by_cases hl : v < (L2.wipe s vs).length
      · exact .inl (List.getElem?_set_self hl)
      · exact .inr (List.getElem?_eq_none_iff.mpr (by rw [List.length_set]; omega))
    · rw [List.getElem?_set_ne e]
      rcases List.mem_cons.mp h with z | z
      · exact absurd z.symm e
      · exact wipe_none z
theorem wipe2 {s : L2.St} {vs : List Nat} : L2.wipe (L2.wipe s vs) vs = L2.wipe s vs := wipe_idem (fun _ h => wipe_none h) vs fun _ h => h
theorem lt_new {S : Sto} {T H : Hp} {q : Addr} {u1 : HO} (hq : H q = none) : Lt S S T (hidD T q u1) H (upd H q u1) := by
  have nq : ∀ a o, H a = some o → a ≠ q := fun a o e z => by rw [z, hq] at e; cases e
  refine ⟨fun a u _ n h => ?_, fun a u n h _ => ?_, fun a o n h => ⟨⟨n.1, by rw [hidD_ne (nq a o h)]; exact n.2⟩, o, by rw [upd_ne (nq a o h)]; exact h⟩⟩
  · rcases h with h | ⟨ob, h⟩
    · exact .inl (by rw [upd_ne (nq _ _ h)]; exact h)
    · exact .inr ⟨ob, by rw [upd_ne (nq _ _ h)]; exact h⟩
  · rw [upd_ne (nq _ _ h)]; exact h
theorem sm_new {S : Sto} {T H : Hp} {q : Addr} {u1 : HO} (hq : H q = none) (m : Sm cl S T H) : Sm cl S (hidD T q u1) (upd H q u1) := by
  refine ⟨m.tab.lt (lt_new hq) fun a ps n e => by rw [upd_ne (fun z => by rw [z, hq] at e; cases e)]; exact e, fun a o h => ?_, fun a u h => ?_⟩
  · obtain ⟨u, h1, h2⟩ := m.ob a o h
    have ne : a ≠ q := fun e => by rw [e, hq] at h1; cases h1
    exact ⟨u, by rw [upd_ne ne]; exact h1, h2.lt (lt_new hq)⟩
  · by_cases e : a = q
    · subst e
      rw [hidD_same] at h
      cases h
      exact ⟨upd_same, m.free hq⟩
    · rw [hidD_ne e] at h
      obtain ⟨h1, h2⟩ := m.hid a u h
      exact ⟨by rw [upd_ne e]; exact h1, h2⟩
theorem comp_go {own : Bool} {vs : List Nat} {tsr : TSr} {tgt : TG'} {tt : TT'} {te : TE'} (msr : MonoSr tsr) (mg : MonoG tgt) (mt : MonoT tt) (me : MonoE te) {s : L2.St} {H : Hp} {Q : VK} (h : tr cl (compW own vs tsr tgt tt te) s H Q) :
    tLc (trI cl tsr) (trGc cl vs tgt) (trB cl tt) (tr cl te) vs s H Q := by
  obtain ⟨r0, S0, T, m0, e0, h⟩ := h
  refine ⟨r0, S0, T, m0, e0, msr _ _ _ _ (fun g ds S1 q J H1 x1 m1 wk nD hD => ?_) h⟩
  generalize hstep : (fun (d : Dz.D) (S' : Sto) (k : Option Dz.D → Sto → Prop) => tgt d (wipeR r0 vs) S' fun r1 S2 => tt r1 S2 fun b S3 => if b = true then te r1 S3 fun y S4 => k (some y) S4 else k none S3) = step at q
  have hst : ∀ d S' k, step d S' k = tgt d (wipeR r0 vs) S' fun r1 S2 => tt r1 S2 fun b S3 => if b = true then te r1 S3 fun y S4 => k (some y) S4 else k none S3 := fun d S' k => by rw [← hstep]
  have q : wComp g step ds [] S1 fun ys S5 => finL own ys S5 (kQ cl S0 T H Q) := q
  refine ⟨fun i k H' => k = ds.length - i ∧ i ≤ ds.length ∧ ∃ acc S', CmpAt cl S1 T H1 nD acc S' H' ∧ wComp g step (ds.drop i) acc S' (fun ys S5 => finL own ys S5 (kQ cl S0 T H Q)),
    ⟨ds.length, by simp, Nat.zero_le _, [], S1, ⟨Ex.newF hD, [], sm_new hD m1, .nil, lt_new hD⟩, by simpa using q⟩, ?_⟩
  rintro i k H' ⟨rfl, hi, acc, S', ⟨ex, xs, m, rl, lt⟩, q⟩
  obtain ⟨hHq, hSq⟩ := m.hid nD _ hidD_same
  by_cases hlt : i < ds.length
  · rw [List.drop_eq_getElem_cons hlt] at q
    obtain ⟨hg, q⟩ := q
    rw [hst] at q
    refine .inr ⟨wk.go i S' _ H' hlt lt m hg, fun H2 => i + 1 ≤ ds.length ∧ ∃ acc S', CmpAt cl S1 T H1 nD acc S' H2 ∧ wComp g step (ds.drop (i + 1)) acc S' (fun ys S5 => finL own ys S5 (kQ cl S0 T H Q)), fun H2 n2 => ⟨ds.length - (i + 1), by omega, rfl, n2⟩, fun v H2 y => ?_⟩
    obtain ⟨x2, m2, d, hd, rp⟩ := wk.yld i S' _ H' v H2 hlt lt m hg y
    have ed : d = ds[i] := by
      rw [List.getElem?_eq_getElem hlt] at hd
      exact (Option.some.inj hd).symm
    subst ed
    refine ⟨ds[i], wipeR r0 vs, S', hidD T nD (.lst xs), m2, SmE.wipe (((e0.ext x1).lt lt).ext x2) vs, rp, mg _ _ _ _ _ (fun r1 S2 q s2 H3 x3 m3 e3 hw => ⟨hw.trans wipe2, ?_⟩) q⟩
    refine trB_then mt m3 e3 q fun b S3 H4 x4 m4 e4 q => ?_
    cases b with
    | true =>
      rw [if_pos rfl] at q ⊢
      refine tr_then me m4 e4 q fun y S4 v5 H5 x5 m5 e5 rp5 kk => ?_
      have kk : acc.length < sizeLine ∧ wComp g step (ds.drop (i + 1)) (acc ++ [y]) S4 (fun ys S5 => finL own ys S5 (kQ cl S0 T H Q)) := kk
      have ch : Ex S' S4 (hidD T nD (.lst xs)) H' H5 := ((x2.trans x3).trans x4).trans x5
      obtain ⟨hHq5, _⟩ := m5.hid nD _ hidD_same
      refine ⟨xs, hHq5, by rw [← rl.length]; exact kk.1, hlt, acc ++ [y], S4, ⟨ex_put hD (ex_hid hD ex ch), xs ++ [v5], sm_put m5, ?_, (lt.trans ch.lt).trans lt_put⟩, kk.2⟩
      exact ((rl.ext ch).append (.cons rp5 .nil)).lt lt_put
    | false =>
      rw [if_neg Bool.false_ne_true] at q ⊢
      have ch : Ex S' S3 (hidD T nD (.lst xs)) H' H4 := (x2.trans x3).trans x4
      exact ⟨hlt, acc, S3, ⟨ex_hid hD ex ch, xs, m4, rl.ext ch, lt.trans ch.lt⟩, q⟩
  · have ei : i = ds.length := by omega
    subst ei
    rw [List.drop_length] at q
    refine .inl ⟨wk.stop S' _ H' lt m q.1, ?_⟩
    have xa : Ex S0 S' T H H' := x1.trans ex
    obtain ⟨z, fq⟩ := q.2
    have hT : T nD = none := by
      cases e : T nD with
      | none => rfl
      | some u =>
        have := (m1.hid nD u e).1
        rw [hD] at this
        cases this
    have nq : ∀ a o, Fr S0 T a → H a = some o → a ≠ nD := fun a o n e z => by
      obtain ⟨o', e'⟩ := (x1.st a o n e).2
      rw [z, hD] at e'
      cases e'
    split at fq
    · have xs' : Ex S0 (sup S' nD (.lst acc)) T H H' := ⟨xa.rd, xa.sq, fun a o n e => by rw [sup_ne (nq a o n e)]; exact xa.st a o n e, fun a u h1 h2 h3 => by
        obtain ⟨p1, p2⟩ := xa.hid a u h1 h2 h3
        have ne : a ≠ nD := fun z => by rw [z, hT] at h1; cases h1
        exact ⟨p1, by rw [sup_ne ne]; exact p2⟩⟩
      have lo : Lt S' (sup S' nD (.lst acc)) (hidD T nD (.lst xs)) T H' H' := lt_out fun a ne e => by rw [sup_ne ne]; exact e
      refine fq nD hSq (.ref nD) H' xs' ⟨m.tab.lt lo fun _ _ _ e => e, fun a o h => ?_, fun a u h => ?_⟩ (.ref nD)
      · by_cases e : a = nD
        · subst e
          rw [sup_same] at h
          cases h
          exact ⟨_, hHq, .lst (rl.lt lo)⟩
        · rw [sup_ne e] at h
          obtain ⟨u, h1, h2⟩ := m.ob a o h
          exact ⟨u, h1, h2.lt lo⟩
      · have ne : a ≠ nD := fun z => by rw [z, hT] at h; cases h
        obtain ⟨h1, h2⟩ := m.hid a u (by rw [hidD_ne ne]; exact h)
        exact ⟨h1, by rw [sup_ne ne]; exact h2⟩
    · have lo : Lt S' S' (hidD T nD (.lst xs)) T H' H' := lt_out fun a ne e => e
      refine fq (.ref nD) H' xa ⟨m.tab.lt lo fun _ _ _ e => e, fun a o h => ?_, fun a u h => ?_⟩ (.lst hHq ⟨hSq, hT⟩ (rl.lt lo))
      · obtain ⟨u, h1, h2⟩ := m.ob a o h
        exact ⟨u, h1, h2.lt lo⟩
      · have ne : a ≠ nD := fun z => by rw [z, hT] at h; cases h
        obtain ⟨h1, h2⟩ := m.hid a u (by rw [hidD_ne ne]; exact h)
        exact ⟨h1, h2⟩
end Dz
/-! Dz17: displays of dicts, keyword calls, comprehensions as values. -/
namespace Dz
open PySem PySem.Spec PyProof.Rows L2

variable {cl : CL} {X : Cx} {a b c e o tg : Expr} {es : List Expr} {ta tb tc : TE'} {t : TA'} {pos p apos cpos : Pos}
/-! ### {..} -/
theorem finD_new {own : Bool} {S : Sto} {T H : Hp} {Q : VK} {q : Addr} {ds : List (D × D)} {kvs : List (Key × V)} {Hq : Hp} (m : Sm cl S T H) (hq : H q = none) (e : Hq = upd H q (.dK kvs)) (r : RpK cl S T H ds kvs) (f : finD own false ds S (kQ cl S T H Q)) : Q (.ref q) Hq := by
  subst e
  obtain ⟨z, f⟩ := f
  split at f
  · exact f.2 q (m.free hq) (.ref q) _ (Ex.newO hq) (m.newO hq (.dk r)) (.ref q)
  · exact f (.ref q) _ (Ex.newF hq) (m.newF hq) (.dk (.inl upd_same) (m.fr hq) (r.ext (Ex.newF hq)))
theorem q_dnew (own : Bool) : PE' cl X (.Dict [] [] pos) (fun r S Q => finD own false [] S Q) :=
  PE.imp pe_dnewK fun s H Q ⟨r, S, T, m, e, h⟩ q hq => finD_new m hq rfl .nil h
def wPr : List (TE' × TE') → Rho → Sto → (List (D × D) → Sto → Prop) → Prop
  | [], _, S, Q => Q [] S
  | (k, v) :: kvs, r, S, Q => k r S fun x S1 => v r S1 fun y S2 => wPr kvs r S2 fun ps S3 => Q ((x, y) :: ps) S3
inductive RpVV (cl : CL) (S : Sto) (T H : Hp) : List (D × D) → List (V × V) → Prop
  | nil : RpVV cl S T H [] []
  | cons {d e : D} {v w : V} {ds : List (D × D)} {vs : List (V × V)} : Rp cl S T H d v → Rp cl S T H e w → RpVV cl S T H ds vs → RpVV cl S T H ((d, e) :: ds) ((v, w) :: vs)
theorem RpVV.ext {S S2 : Sto} {T H H2 : Hp} (x : Ex S S2 T H H2) : ∀ {ds : List (D × D)} {vs : List (V × V)}, RpVV cl S T H ds vs → RpVV cl S2 T H2 ds vs
  | _, _, .nil => .nil
  | _, _, .cons a b c => .cons (a.ext x) (b.ext x) (c.ext x)
theorem wPr_mono : ∀ {trs : List (TE' × TE')}, (∀ p ∈ trs, MonoE p.1 ∧ MonoE p.2) → ∀ r S (Q Q' : List (D × D) → Sto → Prop), (∀ d S', Q d S' → Q' d S') → wPr trs r S Q → wPr trs r S Q'
  | [], _, _, _, _, _, h, q => h _ _ q
  | (k, v) :: trs, hm, r, S, Q, Q', h, q => by
    obtain ⟨h1, h2⟩ := hm _ (List.mem_cons_self ..)
    exact h1 _ _ _ _ (fun _ _ q => h2 _ _ _ _ (fun _ _ q => wPr_mono (fun p hp => hm p (List.mem_cons_of_mem _ hp)) _ _ _ _ (fun _ _ q => h _ _ q) q) q) q
theorem pairs_go : ∀ {trs : List (TE' × TE')} (hm : ∀ p ∈ trs, MonoE p.1 ∧ MonoE p.2) {r : Rho} {s : L2.St} {S : Sto} {T H : Hp} {k : List (D × D) → Sto → Prop} {Q : List (V × V) → Hp → Prop} (m : Sm cl S T H) (e : SmE cl r S T s H) (h : wPr trs r S k)
    (g : ∀ ps S1 vs H1, Ex S S1 T H H1 → Sm cl S1 T H1 → RpVV cl S1 T H1 ps vs → k ps S1 → Q vs H1), tPairs (trs.map fun p => (tr cl p.1, tr cl p.2)) s H Q
  | [], _, r, s, S, T, H, k, Q, m, e, h, g => g [] S [] H (Ex.refl _ _ _) m .nil h
  | (tk, tv) :: trs, hm, r, s, S, T, H, k, Q, m, e, h, g => by
    obtain ⟨h1, h2⟩ := hm _ (List.mem_cons_self ..)
    refine tr_then h1 m e h fun d S1 v H1 x m1 e1 rp q => ?_
    refine tr_then h2 m1 e1 q fun d2 S2 v2 H2 x2 m2 e2 rp2 q2 => ?_
    refine pairs_go (fun p hp => hm p (List.mem_cons_of_mem _ hp)) m2 e2 q2 fun ps S3 vs H3 x3 m3 r3 q3 => ?_
    exact g _ S3 _ H3 ((x.trans x2).trans x3) m3 (.cons ((rp.ext x2).ext x3) (rp2.ext x3) r3) q3
theorem rpVV_keys {S : Sto} {T H : Hp} : ∀ {ps : List (D × D)} {vs : List (V × V)}, RpVV cl S T H ps vs → (∀ p ∈ ps, isKey false p.1 = true) → ∃ kvs : List (Key × V), vs = kvs.map (fun kv => (kV kv.1, kv.2)) ∧ RpK cl S T H ps kvs
  | _, _, .nil, _ => ⟨[], rfl, .nil⟩
  | _, _, .cons a b c, h => by
    obtain ⟨k, e1, e2, e3⟩ := keyF_of (h _ (List.mem_cons_self ..)) a
    obtain ⟨kvs, e4, r⟩ := rpVV_keys c fun p hp => h p (List.mem_cons_of_mem _ hp)
    subst e1 e2 e4
    exact ⟨(k, _) :: kvs, rfl, .cons e3 b r⟩
theorem RpK.merge {S : Sto} {T H : Hp} : ∀ {ms : List (D × D)} {more : List (Key × V)} {ds : List (D × D)} {kvs : List (Key × V)}, RpK cl S T H ms more → RpK cl S T H ds kvs → RpK cl S T H (mergeD ds ms) (mergeK kvs more)
  | _, _, _, _, .nil, r => r
  | _, _, _, _, .cons o a b, r => by
    have h := RpK.merge b (r.put o a)
    exact h
theorem RpK.lt' {S S2 : Sto} {T T2 H H2 : Hp} (x : Lt S S2 T T2 H H2) {ds : List (D × D)} {kvs : List (Key × V)} (r : RpK cl S T H ds kvs) : RpK cl S2 T2 H2 ds kvs := RpK.lt x r
theorem q_dict {own : Bool} {keys : List (Option Expr)} {values : List Expr} {trs : List (TE' × TE')} (hm : ∀ p ∈ trs, MonoE p.1 ∧ MonoE p.2) (h : PPs X pos keys values (trs.map fun p => (tr cl p.1, tr cl p.2))) (hall : keys.all (·.isSome) = true) (hl : keys.length = values.length) (h0 : keys ≠ []) (h15 : keys.length ≤ 15) :
    PE' cl X (.Dict keys values pos) (fun r S Q => wPr trs r S fun ps S1 => (∀ p ∈ ps, isKey false p.1 = true) ∧ ps.length ≤ 15 ∧ finD own false (mergeD [] ps) S1 Q) :=
  PE.imp (pe_disp h hall hl h0 h15) fun s H Q ⟨r, S, T, m, e, h⟩ q hq => by
    refine pairs_go hm (sm_new hq m) (e.lt (lt_new hq)) h fun ps S1 vs H1 x1 m1 r1 ⟨hk, hlen, f⟩ => ?_
    obtain ⟨hH, hS⟩ := m1.hid q _ hidD_same
    obtain ⟨kvs, e1, rk⟩ := rpVV_keys r1 hk
    subst e1
    have lk : kvs.length ≤ 15 := by rw [← rk.length]; exact hlen
    refine ⟨hH, kvs, rfl, lk, ?_⟩
    have hT : T q = none := m.freeT hq
    have nq : ∀ a o, Fr S T a → H a = some o → a ≠ q := fun a o n e z => by rw [z, hq] at e; cases e
    have xa : Ex S S1 T H H1 := ex_hid hq (Ex.refl S T H) (by
      have x1' : Ex S S1 (hidD T q (.dK [])) (upd H q (.dK [])) H1 := x1
      refine ⟨fun a u i h1 h2 => x1'.rd a u i h1 ?_, fun a u h1 h2 hs => x1'.sq a u h1 ?_ hs, fun a o h1 h2 => x1'.st a o h1 ?_, fun a u h1 h2 h3 => x1'.hid a u h1 ?_ h3⟩
      · rcases h2 with h2 | ⟨ob, h2⟩
        · exact .inl (by rw [upd_ne (fun z => by rw [z, hq] at h2; cases h2)]; exact h2)
        · exact .inr ⟨ob, by rw [upd_ne (fun z => by rw [z, hq] at h2; cases h2)]; exact h2⟩
      · rw [upd_ne (fun z => by rw [z, hq] at h2; cases h2)]; exact h2
      · rw [upd_ne (fun z => by rw [z, hq] at h2; cases h2)]; exact h2
      · rw [upd_ne (fun z => by rw [z, hq] at h2; cases h2)]; exact h2)
    have mg := RpK.merge rk .nil
    obtain ⟨z, f⟩ := f
    split at f
    · have lo : Lt S1 (sup S1 q (.dic (mergeD [] ps))) (hidD T q (.dK [])) T H1 (upd H1 q (.dK (mergeK [] kvs))) := by
        refine ⟨fun a u i n h => ?_, fun a u n h _ => ?_, fun a o n h => ⟨⟨by rw [sup_ne (fr_hid n).1]; exact n.1, (fr_hid n).2.2⟩, o, by rw [upd_ne (fr_hid n).1]; exact h⟩⟩
        · rcases h with h | ⟨ob, h⟩
          · exact .inl (by rw [upd_ne (fr_hid n).1]; exact h)
          · exact .inr ⟨ob, by rw [upd_ne (fr_hid n).1]; exact h⟩
        · rw [upd_ne (fr_hid n).1]; exact h
      refine f.2 q hS (.ref q) _ ?_ ⟨m1.tab.lt lo fun a ps n e => by rw [upd_ne (fr_hid n).1]; exact e, fun a o h => ?_, fun a u h => ?_⟩ (.ref q)
      · have y := ex_put (u1 := .dK (mergeK [] kvs)) hq xa
        exact ⟨y.rd, y.sq, fun a o n e => ⟨by rw [sup_ne (nq a o n e)]; exact (y.st a o n e).1, (y.st a o n e).2⟩, fun a u h1 h2 h3 => by
          obtain ⟨p1, p2⟩ := y.hid a u h1 h2 h3
          exact ⟨p1, by rw [sup_ne (fun z => by rw [z, hT] at h1; cases h1)]; exact p2⟩⟩
      · by_cases e : a = q
        · subst e
          rw [sup_same] at h
          cases h
          exact ⟨_, upd_same, .dk (mg.lt' lo)⟩
        · rw [sup_ne e] at h
          obtain ⟨u, h1, h2⟩ := m1.ob a o h
          exact ⟨u, by rw [upd_ne e]; exact h1, h2.lt lo⟩
      · have ne : a ≠ q := fun z => by rw [z, hT] at h; cases h
        obtain ⟨h1, h2⟩ := m1.hid a u (by rw [hidD_ne ne]; exact h)
        exact ⟨by rw [upd_ne ne]; exact h1, by rw [sup_ne ne]; exact h2⟩
    · have lo : Lt S1 S1 (hidD T q (.dK [])) T H1 (upd H1 q (.dK (mergeK [] kvs))) := by
        refine ⟨fun a u i n h => ?_, fun a u n h _ => ?_, fun a o n h => ⟨⟨n.1, (fr_hid n).2.2⟩, o, by rw [upd_ne (fr_hid n).1]; exact h⟩⟩
        · rcases h with h | ⟨ob, h⟩
          · exact .inl (by rw [upd_ne (fr_hid n).1]; exact h)
          · exact .inr ⟨ob, by rw [upd_ne (fr_hid n).1]; exact h⟩
        · rw [upd_ne (fr_hid n).1]; exact h
      refine f (.ref q) _ (ex_put hq xa) ⟨m1.tab.lt lo fun a ps n e => by rw [upd_ne (fr_hid n).1]; exact e, fun a o h => ?_, fun a u h => ?_⟩ (.dk (.inl upd_same) ⟨hS, hT⟩ (mg.lt' lo))
      · have e : a ≠ q := fun z => by rw [z, hS] at h; cases h
        obtain ⟨u, h1, h2⟩ := m1.ob a o h
        exact ⟨u, by rw [upd_ne e]; exact h1, h2.lt lo⟩
      · have ne : a ≠ q := fun z => by rw [z, hT] at h; cases h
        obtain ⟨h1, h2⟩ := m1.hid a u (by rw [hidD_ne ne]; exact h)
        exact ⟨by rw [upd_ne ne]; exact h1, h2⟩

/-! ### f(k = v, ..): every parameter by its name, in order -/
theorem kwAll {env : Env} : ∀ {kws : List Keyword}, kws.all (fun k => k.arg.isSome) = true → (backToKw pos (keywordEach kws env)).all (·.1.isSome) = true ∧ (backToKw pos (keywordEach kws env)).any (·.1.isNone) = false ∧ (backToKw pos (keywordEach kws env)).filterMap (·.1) = kws.filterMap (·.arg)
  | [], _ => ⟨rfl, rfl, rfl⟩
  | ⟨n, v, kp⟩ :: kws, h => by
    rw [List.all_cons, Bool.and_eq_true] at h
    obtain ⟨h1, h2, h3⟩ := kwAll (env := env) h.2
    cases n with
    | none => cases h.1
    | some n =>
      refine ⟨?_, ?_, ?_⟩
      · show (true && (backToKw pos (keywordEach kws env)).all (·.1.isSome)) = true
        rw [h1]; rfl
      · show (false || (backToKw pos (keywordEach kws env)).any (·.1.isNone)) = false
        rw [h2]; rfl
      · show n :: (backToKw pos (keywordEach kws env)).filterMap (·.1) = n :: kws.filterMap (·.arg)
        rw [h3]
abbrev PK' (cl : CL) (X : Cx) (kws : List Keyword) (t : TA') : Prop := PK X kws (trA cl t)
theorem PK.imp {X : Cx} {e : List Keyword} {t t2 : TA} (h : PK X e t) (i : ∀ s H Q, t2 s H Q → t s H Q) : PK X e t2 := ⟨fun pos pins s σ H Q I q => h.run pos pins s σ H Q I (i σ H Q q)⟩
theorem k_nil : PK' cl X [] (fun _ S Q => Q [] S) := PK.imp pk_nil fun s H Q ⟨r, S, T, m, e, q⟩ => q [] H (Ex.refl S T H) m .nil
theorem k_cons {kws : List Keyword} {nm : Option Str} {kpos : Pos} (mA : MonoE ta) (mt : MonoA t) (ha : PE' cl X a ta) (hr : PK' cl X kws t) : PK' cl X (⟨nm, a, kpos⟩ :: kws) (fun r S Q => ta r S fun d S1 => t r S1 fun ds S2 => Q (d :: ds) S2) :=
  PK.imp (pk_cons ha hr) fun s H Q ⟨r, S, T, m, e, h⟩ => by
    refine tr_then mA m e h fun d S1 v H1 x m1 e1 rp k => ?_
    refine trA_then mt m1 e1 k fun ds S2 vs H2 x2 m2 e2 rps k2 => ?_
    exact k2 (v :: vs) H2 (x.trans x2) m2 (.cons (rp.ext x2) rps)
/-- .. where the callee's parameters are told -/
structure CalK (X : Cx) (cl : CL) (x : Str) (sp : DSp) (ps : List Str) : Prop where
  ex : ∃ (k : Nat) (f : Addr) (fd : FuncData), FnD X.prog X.w X.K X.mg X.base cl k f fd ps sp ∧ Room k X.A ∧ X.mg x = some (.ref f) ∧ PySem.W.keepIn X.K (.ref f) = true ∧ BindD X.K fd ps
theorem q_callk {x : Str} {sp : DSp} {ks : List Str} {kws : List Keyword} (hg : Gl X x) (hc : XC cl X) (c : CalK X cl x sp ks) (mt : MonoA t) (hk : PK' cl X kws t) (hall : kws.all (fun k => k.arg.isSome) = true) (hks : kws.filterMap (·.arg) = ks) (hdb : (x == ("__debug__" : Str)) = false) :
    PE' cl X (.Call (.Name x p) [] kws pos) (fun r S Q => t r S fun ds S1 => sp ds S1 Q) := by
  obtain ⟨k, f, fd, F, hr, hm, kp, b⟩ := c.ex
  refine ⟨fun pins s σ H Q I h => ?_⟩
  have h' := tCal_in mt F.mono h
  obtain ⟨k1, k2, k3⟩ := kwAll (pos := pos) (env := X.env) hall
  refine wpAny_Call_Name_kw (ld_glob I hg hm ?_ hdb)
  refine PySem.W.callWith_KW0 (h₀ := X.base) I.ok.mod.kin kp k1 (thn (hk.run pos pins s σ H _ I h') fun us s1 ⟨vs, H1, I1, r, ds, S1, T1, m1, rl, q⟩ => ⟨I1.kIn, ?_⟩) (by
    show (false || (backToKw pos (keywordEach kws X.env)).any (·.1.isNone)) = false
    rw [k2]; rfl)
  rw [k3, hks]
  exact run_fnD (us := []) (ws := us) F hr hc.guards b rfl I1 r m1 rl q

/-! ### comprehensions -/
abbrev PGc (cl : CL) (vs : List Nat) (X : Cx) (e : Expr) (t : TG') : Prop := PG X e (trGc cl vs t)
theorem wipe_set {s : L2.St} {i : Nat} {v : Option V} : ∀ {vs : List Nat}, i ∈ vs → L2.wipe (s.set i v) vs = L2.wipe s vs
  | w :: vs, h => by
    show (L2.wipe (s.set i v) vs).set w none = (L2.wipe s vs).set w none
    by_cases e : i ∈ vs
    · rw [wipe_set e]
    · have ew : i = w := by
        rcases List.mem_cons.mp h with z | z
        · exact z
        · exact absurd z e
      subst ew
      have go : ∀ {us : List Nat}, i ∉ us → L2.wipe (s.set i v) us = (L2.wipe s us).set i v := by
        intro us
        induction us with
        | nil => intro _; rfl
        | cons u us ih =>
          intro hu
          show (L2.wipe (s.set i v) us).set u none = ((L2.wipe s us).set u none).set i v
          rw [ih fun z => hu (List.mem_cons_of_mem _ z), List.set_comm _ _ (fun z => hu (by rw [z]; exact List.mem_cons_self ..))]
      rw [go e, List.set_set]
theorem gc_name {vs : List Nat} {i : Nat} {x : Str} (hc : XC cl X) (hi : X.N[i]? = some x) (hx : Loc X.env.scope x) (hf : X.fn x = true ∨ X.env.scope.names.lookup x = some .local) (hv : i ∈ vs) : PGc cl vs X (.Name x pos) (fun d r S Q => Q (r.set i (some d)) S) :=
  PG.imp (pg_name hc.nd hi hx hf) fun v s H Q ⟨d, r, S, T, m, e, rd, q⟩ => q _ _ (Ex.refl S T H) m (e.set rd i) (wipe_set hv)
def trGsc (cl : CL) (vs : List Nat) (t : TGs') : TGs := fun ws s H Q => ∃ ds r S T, Sm cl S T H ∧ SmE cl r S T s H ∧ RpL cl S T H ds ws ∧ t ds r S fun r' S' => ∀ s' H2, Ex S S' T H H2 → Sm cl S' T H2 → SmE cl r' S' T s' H2 → wipe s' vs = wipe s vs → Q s' H2
theorem gc_nil {vs : List Nat} : PGs X [] (trGsc cl vs fun ds r S Q => ds = [] ∧ Q r S) := PGs.imp pgs_nil fun ws s H Q ⟨ds, r, S, T, m, e, rl, ed, q⟩ => by
  subst ed
  cases rl
  exact ⟨rfl, q s H (Ex.refl S T H) m e rfl⟩
theorem gc_cons {vs : List Nat} {t1 : TG'} {t2 : TGs'} (mg : MonoG t1) (mgs : MonoGs t2) (h1 : PGc cl vs X e t1) (h2 : PGs X es (trGsc cl vs t2)) (hs : isStar e = false) :
    PGs X (e :: es) (trGsc cl vs fun ds r S Q => ∃ d ds', ds = d :: ds' ∧ t1 d r S fun r1 S1 => t2 ds' r1 S1 Q) :=
  PGs.imp (pgs_cons h1 h2 (eachStar hs)) fun ws s H Q ⟨ds, r, S, T, m, e, rl, d, ds', ed, q⟩ => by
    subst ed
    cases rl with
    | cons a b =>
      refine ⟨_, _, rfl, d, r, S, T, m, e, a, mg _ _ _ _ _ (fun r1 S1 q s1 H1 x1 m1 e1 w1 => ?_) q⟩
      exact ⟨ds', r1, S1, T, m1, e1, b.ext x1, mgs _ _ _ _ _ (fun r2 S2 q s2 H2 x2 m2 e2 w2 => q s2 H2 (x1.trans x2) m2 e2 (w2.trans w1)) q⟩
theorem gc_tup {vs : List Nat} {t2 : TGs'} {k : Nat} (hc : XC cl X) (h : PGs X es (trGsc cl vs t2)) {n : Nat} (hlen : n = es.length) (hs : es.all (fun e => !isStar e) = true) :
    PGc cl vs X (.Tuple es k pos) (fun d r S Q => ∃ ds, (d = .tup ds ∨ d = .utup ds) ∧ ds.length = n ∧ t2 ds r S Q) :=
  PG.imp (pg_tup (n := es.length) hc.calm h (eachNone hs).2 (eachNone hs).1) fun v s H Q ⟨d, r, S, T, m, e, rd, ds, ed, hl, q⟩ => by
    rw [hlen] at hl
    rcases ed with ed | ed
    · subst ed
      obtain ⟨a, xs, rfl, ea, rl⟩ := tup_of rd
      exact ⟨a, xs, rfl, .inl ea, by rw [← rl.length]; exact hl, ds, r, S, T, m, e, rl, q⟩
    · subst ed
      obtain ⟨a, xs, rfl, ea, rl⟩ := utup_of rd
      exact ⟨a, xs, rfl, .inl ea, by rw [← rl.length]; exact hl, ds, r, S, T, m, e, rl, q⟩
theorem PTs.imp {X : Cx} {e : List Expr} {t t2 : TT} (h : PTs X e t) (i : ∀ s H Q, t2 s H Q → t s H Q) : PTs X e t2 := ⟨fun pins s σ H Q I q => h.run pins s σ H Q I (i σ H Q q)⟩
theorem ts_nil : PTs X [] (trB cl fun _ S Q => Q true S) := PTs.imp pts_nil fun s H Q ⟨r, S, T, m, e, q⟩ => q H (Ex.refl S T H) m
theorem ts_one (h : PT' cl X a (tst ta)) : PTs X [a] (trB cl (tst ta)) := pts_one h
theorem compW_mono {own : Bool} {vs : List Nat} {tsr : TSr} {tgt : TG'} {tt : TT'} {te : TE'} (msr : MonoSr tsr) (mg : MonoG tgt) (mt : MonoT tt) (me : MonoE te) : MonoE (compW own vs tsr tgt tt te) := by
  intro r S Q Q' hq q
  have q : tsr r S fun g ds S1 => wComp g (fun d S' k => tgt d (wipeR r vs) S' fun r1 S2 => tt r1 S2 fun b S3 => if b = true then te r1 S3 fun y S4 => k (some y) S4 else k none S3) ds [] S1 fun ys S5 => finL own ys S5 Q := q
  refine msr r S _ _ (fun g ds S' q => ?_) q
  refine wComp_mono (fun d S' K K' hK k => ?_) (fun _ _ q => finL_mono hq q) _ _ _ q
  refine mg _ _ _ _ _ (fun r1 S2 k => ?_) k
  refine mt _ _ _ _ (fun b S3 k => ?_) k
  cases b with
  | true => rw [if_pos rfl] at k ⊢; exact me _ _ _ _ (fun _ _ k => hK _ _ k) k
  | false => rw [if_neg Bool.false_ne_true] at k ⊢; exact hK _ _ k
/-- the block's context is as plain -/
theorem XC.blk (hc : XC cl X) {s : Shared} {H : Hp} {scope : Scope} {cenv : Env} {fp : List Addr} : XC cl (X.blk s H scope cenv fp) := ⟨hc.hs, hc.calm, hc.room, hc.guards, hc.nd, PassesOwn.never⟩
section
variable {elt iter : Expr} {ifs : List Expr} {scope : Scope} {own' : List (Str × Nat)} {tsr : TSr} {tgt : TG'} {tt : TT'} {te : TE'}
theorem q_comp (own : Bool) (hc : XC cl X) (msr : MonoSr tsr) (mg : MonoG tgt) (mt : MonoT tt) (me : MonoE te) (hi : PI' cl X tg iter tsr) (ok : BlkOk X.N X.env.scope scope own')
    (hg : ∀ (s : Shared) (H : Hp) (C : Addr) (cc : List (Str × Addr)) (fp : List Addr), PGc cl (own'.map (·.2)) (X.blk s H scope (compEnvC scope cc C X.env) fp) tg tgt)
    (ht : ∀ (s : Shared) (H : Hp) (C : Addr) (cc : List (Str × Addr)) (fp : List Addr), PTs (X.blk s H scope (compEnvC scope cc C X.env) fp) ifs (trB cl tt))
    (he : ∀ (s : Shared) (H : Hp) (C : Addr) (cc : List (Str × Addr)) (fp : List Addr), PE' cl (X.blk s H scope (compEnvC scope cc C X.env) fp) elt te) (hs : ∀ x, foldedSetIterable iter X.env x = pure x) :
    PE' cl X (.ListComp elt [⟨tg, iter, ifs, 0⟩] scope pos) (compW own (own'.map (·.2)) tsr tgt tt te) :=
  PE.imp (pe_lc hc.calm hc.nd hi ok hg ht he hs) fun s H Q h => comp_go msr mg mt me h
theorem s_setLc {i : Nat} {y : Str} {py spos : Pos} (own : Bool) (hc : XC cl X) (hy : X.N[i]? = some y) (hyl : X.env.scope.names.lookup y = some .local) (hsw : swapsWith (.ListComp elt [⟨tg, iter, ifs, 0⟩] scope pos) (some (.Name y py)) spos.line X.env = pure true)
    (msr : MonoSr tsr) (mg : MonoG tgt) (mt : MonoT tt) (me : MonoE te) (hi : PI' cl X tg iter tsr) (ok : BlkOk X.N X.env.scope scope own')
    (hg : ∀ (s : Shared) (H : Hp) (C : Addr) (cc : List (Str × Addr)) (fp : List Addr), PGc cl (own'.map (·.2)) (X.blk s H scope (compEnvC scope cc C X.env) fp) tg tgt)
    (ht : ∀ (s : Shared) (H : Hp) (C : Addr) (cc : List (Str × Addr)) (fp : List Addr), PTs (X.blk s H scope (compEnvC scope cc C X.env) fp) ifs (trB cl tt))
    (he : ∀ (s : Shared) (H : Hp) (C : Addr) (cc : List (Str × Addr)) (fp : List Addr), PE' cl (X.blk s H scope (compEnvC scope cc C X.env) fp) elt te) (hs : ∀ x, foldedSetIterable iter X.env x = pure x) :
    PS' cl X (.Assign [.Name y py] (.ListComp elt [⟨tg, iter, ifs, 0⟩] scope pos) spos) (fun Z r S => compW own (own'.map (·.2)) tsr tgt tt te r S fun d S1 => Z.nx (r.set i (some d)) S1) :=
  PS.imp (ps_setLc hc.calm hc.nd hy hyl hsw hi ok hg ht he hs) fun Z s H ⟨r, S, T, m, e, h⟩ => by
    refine comp_go (own := own) msr mg mt me ⟨r, S, T, m, e, ?_⟩
    have mm : MonoE (compW own (own'.map (·.2)) tsr tgt tt te) := compW_mono msr mg mt me
    exact mm _ _ _ _ (fun d S1 q v H1 x1 m1 rp => q _ H1 x1 m1 ((e.ext x1).set rp i)) h
end
end Dz
/-! Dz18: x[::-1], list(range(..)). -/
namespace Dz
open PySem PySem.Spec PyProof.Rows L2

variable {cl : CL} {X : Cx} {a b c e o tg : Expr} {es : List Expr} {ta tb tc : TE'} {t : TA'} {pos p apos cpos : Pos}
section
variable {prog : Program} {w : World} {A : Around} {E : Value → Shared → Prop} {s : Shared}
theorem sliceApplied_rev {sl : Addr} {vl vu vs : Value} {n : Nat} {Q : Int × Int × Nat → Shared → Prop} (hs : s.heap.IsSliceOf sl vl vu vs) (pl : IsPart vl none) (pu : IsPart vu none) (ps : IsPart vs (some (-1)))
    (h : Q ((n : Int) - 1, -1, n) s) : wpAny (model prog w) A (Builtin.Slice.sliceApplied (.ref sl) (pure (n : Int))) Q E s := by
  obtain ⟨os, hos, hcs, hds⟩ := id hs
  unfold Builtin.Slice.sliceApplied Builtin.Slice.sliceFields
  refine wpAny_bind (wpAny_bind (wpAny_field hos hds (x := vl) rfl (wpAny_bind (wpAny_field hos hds (x := vu) rfl (wpAny_bind (wpAny_field hos hds (x := vs) rfl (wpAny_pure ?_)))))))
  refine wpAny_bind (HT.slicePart_ ps ?_)
  show wpAny _ _ (if ((-1 : Int) == 0) = true then _ else _) _ _ s
  rw [if_neg (by decide)]
  refine wpAny_bind (HT.slicePart_ pl (wpAny_bind (HT.slicePart_ pu (wpAny_bind (wpAny_pure ?_)))))
  show wpAny _ _ (match Builtin.Slice.sliceAdjust none none (-1) (n : Int) with | (lo, hi) => pure (lo, (-1 : Int), Builtin.Slice.slicePlaces lo hi (-1))) _ _ s
  have e : Builtin.Slice.sliceAdjust none none (-1) (n : Int) = ((n : Int) - 1, -1) := by
    unfold Builtin.Slice.sliceAdjust
    have h1 : (-1 : Int) < 0 := by decide
    simp only [h1, if_true]
  rw [e]
  have e2 : Builtin.Slice.slicePlaces ((n : Int) - 1) (-1) (-1) = n := by
    unfold Builtin.Slice.slicePlaces
    have h1 : ¬ ((-1 : Int) > 0) := by decide
    simp only [h1, if_false]
    split
    · have : (-(-1 : Int)) = 1 := by decide
      rw [this, Int.ediv_one]
      omega
    · omega
  show wpAny _ _ (pure ((n : Int) - 1, (-1 : Int), Builtin.Slice.slicePlaces ((n : Int) - 1) (-1) (-1))) _ _ s
  rw [e2]
  exact wpAny_pure h
theorem pick_rev (xs : Array Value) : ((List.range xs.size).filterMap fun (m : Nat) => xs[(((xs.size : Nat) : Int) - 1 + (m : Int) * -1).toNat]?).toArray = xs.toList.reverse.toArray := by
  have h := PySem.W.krv_pick xs
  unfold slicePick at h
  rw [PySem.W.krv_bounds] at h
  have h : ((sliceRange ((xs.size : Int) - 1) (-1) (-1)).filterMap (xs[·]?)).toArray = xs.toList.reverse.toArray := h
  rw [PySem.W.krv_sliceRange, List.filterMap_map] at h
  rw [← h]
  have go : ∀ l : List Nat, (∀ m ∈ l, m < xs.size) → (l.filterMap fun (m : Nat) => xs[(((xs.size : Nat) : Int) - 1 + (m : Int) * -1).toNat]?) = l.filterMap ((fun x => xs[x]?) ∘ fun k => xs.size - 1 - k) := by
    intro l
    induction l with
    | nil => intro _; rfl
    | cons m l ih =>
      intro hm
      have e : (((xs.size : Nat) : Int) - 1 + (m : Int) * -1).toNat = xs.size - 1 - m := by omega
      have e2 : xs[(((xs.size : Nat) : Int) - 1 + (m : Int) * -1).toNat]? = ((fun x => xs[x]?) ∘ fun k => xs.size - 1 - k) m := by rw [e]; rfl
      rw [List.filterMap_cons, List.filterMap_cons, e2, ih fun k hk => hm k (List.mem_cons_of_mem _ hk)]
  rw [go _ fun m hm => List.mem_range.mp hm]
theorem getItem_tuple_rev {t sl : Addr} {items : Array Value} {vl vu vs : Value} {Q : Value → Shared → Prop} (ht : IsTup s.heap t items) (hs : s.heap.IsSliceOf sl vl vu vs) (pl : IsPart vl none) (pu : IsPart vu none) (ps : IsPart vs (some (-1)))
    (h : Q (.ref s.heap.objs.size) { s with heap := s.heap.push { cls := .type "tuple", data := .seq items.toList.reverse.toArray } })
    (hsz : items.size ≤ sizeLine) : wpAny (model prog w) A (getItem (.ref t) (.ref sl)) Q E s := by
  have htake : sizeOk (.seq items.toList.reverse.toArray) := by
    show items.toList.reverse.toArray.size ≤ sizeLine
    rw [List.size_toArray, List.length_reverse, Array.length_toList]
    exact hsz
  obtain ⟨os, hos, hcs, hds⟩ := id hs
  have hTs : s.TypeIs (.ref sl) "slice" := ⟨os, hos, hcs⟩
  unfold getItem
  try with_reducible refine wpAny_holding ?_
  first | refine wpAny_bind (wpAny_pure ?_) | skip
  refine wpAny_bind (wpAny_sequenceKey ht.typeIs (by decide) ?_)
  refine wpAny_bind (wpAny_callSpecial?_slot (name := Str.ofString "__getitem__") ht.typeIs PyProof.Rows.slot_tuple_getitem
    (wpAny_call_entry PyProof.Rows.slot_tuple_getitem ht.typeIs entry_tuple_getitem ?_ (args_tuple_getitem _ _)))
  show wpAny _ _ (Builtin.Tuple.tupleItemsOf (.ref t) >>= _) _ _ s
  refine wpAny_bind (tupleItemsOf_ ht ?_)
  refine wpAny_bind (wpAny_typeOf hTs ?_)
  rw [if_pos (by decide)]
  refine wpAny_bind (sliceApplied_rev hs pl pu ps ?_)
  show wpAny _ _ (if (((items.size : Int) - 1) == 0 && (-1 : Int) == 1 && items.size == items.size) = true then _ else _) _ _ s
  have hno : ¬ ((((items.size : Int) - 1) == 0 && (-1 : Int) == 1 && items.size == items.size) = true) := by
    have : ((-1 : Int) == 1) = false := by decide
    rw [this, Bool.and_false, Bool.false_and]
    exact Bool.false_ne_true
  rw [if_neg hno, pick_rev]
  first
    | exact wpAny_bind (m := Builtin.Tuple.tupleExact _) (wpAny_newObj_type (wpAny_pure ⟨_, rfl, wpAny_pure h⟩) htake)
    | exact wpAny_bind (m := Builtin.Tuple.tupleExact _) (wpAny_newObj_type (wpAny_bind (wpAny_pure (wpAny_pure ⟨_, rfl, wpAny_pure h⟩))) htake)
    | exact wpAny_bind (wpAny_bind (m := Builtin.Tuple.tupleExact _) (wpAny_newObj_type (wpAny_pure (wpAny_pure ⟨_, rfl, wpAny_pure h⟩)) htake))
    | exact wpAny_bind (wpAny_bind (m := Builtin.Tuple.tupleExact _) (wpAny_newObj_type (wpAny_pure ⟨_, rfl, wpAny_pure h⟩) htake))
end
theorem q_rev (own : Bool) {k : Nat} {p1 p2 p3 : Pos} (mA : MonoE ta) (ha : PE' cl X a ta) : PE' cl X (.Subscript a (.Slice none none (some (.UnaryOp .USub (.Constant (.int 1) k p1) p2)) p3) pos) (fun r S Q => ta r S fun x S1 => wRev own x S1 Q) := by
  refine ⟨fun pins s σ H Q I h => ?_⟩
  obtain ⟨r, S, T, m, e, h⟩ := h
  refine Subscript_ (thn (ha.run pins s σ H (fun v H1 => ∃ d S1 T, Sm cl S1 T H1 ∧ Rp cl S1 T H1 d v ∧ wRev own d S1 (kQ cl S1 T H1 Q)) I (tr_then mA m e h fun d S1 v H1 x m1 e1 rp q => ⟨d, S1, T, m1, rp, wRev_mono (fun _ _ => kQ.up x) q⟩)) fun v s1 ⟨x, H1, I1, r1, d, S1, T1, m1, rp, q⟩ => ?_)
  have hst : PO X (some (.UnaryOp .USub (.Constant (.int 1) k p1) p2)) (tPart (tUn (rU fun i => .int (-i)) (tC (.int 1)))) := po_some (pe_un un_neg pe_int)
  refine wpAny_Slice (thn (po_none.run pins s1 σ H1 (fun o H2 => o = none ∧ H2 = H1) I1 ⟨rfl, rfl⟩) fun vl s2 ⟨l, H2, I2, pl, el, e2⟩ => ?_)
  subst el e2
  refine thn (po_none.run pins s2 σ H2 (fun o H3 => o = none ∧ H3 = H2) I2 ⟨rfl, rfl⟩) fun vu s3 ⟨u, H3, I3, pu, eu, e3⟩ => ?_
  subst eu e3
  refine thn (hst.run pins s3 σ H3 (fun o H4 => o = some (-1) ∧ H4 = H3) I3 ⟨1, rfl, -1, rfl, rfl, rfl⟩) fun vs s4 ⟨o, H4, I4, ps, eo, e4⟩ => ?_
  subst eo e4
  have I5 : Inv X pins σ H4 { s4 with heap := s4.heap.push { cls := .type "slice", data := .fields #[vl, vu, vs] } } := I4.kept (t' := s4.toks) fun b ob q => Heap.get?_push_of_some _ q
  unfold wRev at q
  split at q
  · rename_i xs hv
    obtain ⟨a1, vs1, rfl, hq, rl⟩ := vw_lst m1 rp hv
    cases r1
    have g := finL_go m1 rl.reverse q
    obtain ⟨its, r, ht, hz⟩ := I5.list (SqL.of hq)
    show wpAny (model X.prog X.w) X.A (subscriptTail a (.Slice none none (some (.UnaryOp .USub (.Constant (.int 1) k p1) p2)) p3) (.ref a1) (.ref s4.heap.objs.size)) (EP X pins σ Q) X.xe { s4 with heap := s4.heap.push { cls := .type "slice", data := .fields #[vl, vu, vs] } }
    refine tail_any (ops := [.ref a1, .ref s4.heap.objs.size]) ht.isList.typeIs (PySem.slot_list_getitem.lookup) ?_ (by with_unfolding_all rfl)
    refine wpAny_getItem_list_slice ht.isList (Heap.IsSliceOf.new _ vl vu vs) pl pu ps (by decide) ?_ (by have := r.length; rw [List.size_toArray]; omega)
    rw [PySem.W.krv_pick]
    refine ⟨.ref _, _, I5.laid (t' := s4.toks) (o := .lst vs1.reverse) (fun b ob q => Heap.get?_push_of_some _ q) (Nat.le_refl _) ?_, rfl, g.2 _ (I5.hok.fresh (Nat.le_refl _))⟩
    exact ⟨g.1, _, 0, r.reverse, Heap.get?_push_size _ rfl⟩
  · rename_i xs hv
    obtain rfl := vw_tup hv
    obtain ⟨a1, vs1, rfl, hq, rl⟩ := tup_of rp
    cases r1
    have g := finT_go m1 rl.reverse q
    obtain ⟨its, r, ht, hz⟩ := I5.tuple (show SqT X.K H4 a1 vs1 from .inl hq)
    show wpAny (model X.prog X.w) X.A (subscriptTail a (.Slice none none (some (.UnaryOp .USub (.Constant (.int 1) k p1) p2)) p3) (.ref a1) (.ref s4.heap.objs.size)) (EP X pins σ Q) X.xe { s4 with heap := s4.heap.push { cls := .type "slice", data := .fields #[vl, vu, vs] } }
    refine tail_any (ops := [.ref a1, .ref s4.heap.objs.size]) ht.typeIs PyProof.Rows.slot_tuple_getitem.lookup ?_ (by with_unfolding_all rfl)
    refine getItem_tuple_rev ht (Heap.IsSliceOf.new _ vl vu vs) pl pu ps ?_ (by have := r.length; rw [List.size_toArray]; omega)
    have e : its.toArray.toList.reverse.toArray = its.reverse.toArray := by simp
    rw [e]
    exact kt_lay I5 g.1 r.reverse g.2
  · exact q.elim
/-! ### list(range(..)) -/
theorem rg_lst {S : Sto} {T H : Hp} {i j : Int} : RpL cl S T H (rangeD i 1 (j - i).toNat) (rgV i j) := by
  unfold rangeD rgV
  generalize (j - i).toNat = n
  have go : ∀ l : List Nat, RpL cl S T H (l.map fun (k : Nat) => D.int (i + (k : Int) * 1)) (l.map fun k => V.int (i + (k : Nat))) := by
    intro l
    induction l with
    | nil => exact .nil
    | cons k l ih =>
      rw [List.map_cons, List.map_cons, Int.mul_one]
      exact .cons (.int _) ih
  exact go _
theorem wLr_mono {own : Bool} {i j : Int} {S : Sto} {Q Q' : DK} (h : ∀ d S', Q d S' → Q' d S') (q : wLr own i j S Q) : wLr own i j S Q' := ⟨q.1, q.2.1, q.2.2.1, finL_mono h q.2.2.2⟩
theorem q_lr1 (own : Bool) (hc : XC cl X) (hg : Gl X "list") (hm : X.mg "list" = none) (hg2 : Gl X "range") (hm2 : X.mg "range" = none) (mA : MonoE ta) (ha : PE' cl X a ta) (hs : isStar a = false) :
    PE' cl X (.Call (.Name "list" p) [.Call (.Name "range" apos) [a] [] cpos] [] pos) (fun r S Q => ta r S fun d S1 => ∃ n, d = .int n ∧ wLr own 0 n S1 Q) :=
  PE.imp (pe_listRg hc.calm hg hm (prg_1 hg2 hm2 ha (star_no hs))) fun s H Q ⟨r, S, T, m, e, h⟩ => tr_then mA m e h fun d S1 v H1 x m1 e1 rp ⟨n, ed, q⟩ => by
    subst ed
    obtain rfl := int_of rp
    have g := finL_go (own := own) (ds := rangeD 0 1 (n - 0).toNat) (Q := Q) m1 (rg_lst (i := 0) (j := n)) (finL_mono (fun _ _ => kQ.up x) q.2.2.2)
    exact ⟨n, rfl, ⟨q.1.1, q.1.2, q.2.1.1, q.2.1.2, q.2.2.1⟩, g.2⟩
theorem q_lr2 (own : Bool) (hc : XC cl X) (hg : Gl X "list") (hm : X.mg "list" = none) (hg2 : Gl X "range") (hm2 : X.mg "range" = none) (mA : MonoE ta) (mB : MonoE tb) (ha : PE' cl X a ta) (hb : PE' cl X b tb) (hs : isStar a = false) (hs2 : isStar b = false) :
    PE' cl X (.Call (.Name "list" p) [.Call (.Name "range" apos) [a, b] [] cpos] [] pos) (fun r S Q => ta r S fun d S1 => tb r S1 fun d2 S2 => ∃ i j, d = .int i ∧ d2 = .int j ∧ wLr own i j S2 Q) :=
  PE.imp (pe_listRg hc.calm hg hm (prg_2 hg2 hm2 ha hb (star_no hs) (star_no hs2) (noStar (by simp [hs2])))) fun s H Q ⟨r, S, T, m, e, h⟩ => tr_then mA m e h fun d S1 v H1 x m1 e1 rp h2 =>
    tr_then mB m1 e1 h2 fun d2 S2 v2 H2 x2 m2 e2 rp2 ⟨i, j, ed, ed2, q⟩ => by
      subst ed ed2
      obtain rfl := int_of rp
      obtain rfl := int_of rp2
      have g := finL_go (own := own) (Q := Q) m2 (rg_lst (i := i) (j := j)) (finL_mono (fun _ _ => kQ.up (x.trans x2)) q.2.2.2)
      exact ⟨i, j, rfl, rfl, ⟨q.1.1, q.1.2, q.2.1.1, q.2.1.2, q.2.2.1⟩, g.2⟩
end Dz
/-! Dx0: an iterator of a list or of a tuple. -/
namespace Dz
open PySem PySem.Spec PyProof.Rows L2

section
variable {prog : Program} {w : World} {A : Around} {E : Value → Shared → Prop} {s : Shared}
/-- an iterator of a list (false) or a tuple (true), k items gone -/
def SrcAt (b : Bool) (h : Heap) (it l : Addr) (xs : Array Value) (k : Nat) : Prop := match b with
  | true => h.IsTupleIter it l k ∧ h.IsTuple l xs
  | false => h.IsListIter it l k ∧ h.IsList l xs
variable {b c : Bool} {it l z TI TO i1 i2 l1 l2 : Addr} {xs ys : Array Value} {k k1 k2 : Nat} {x y : Value}
theorem SrcAt.keep {h h' : Heap} (q : SrcAt b h it l xs k) (e1 : ∀ o, h.get? it = some o → h'.get? it = some o) (e2 : ∀ o, h.get? l = some o → h'.get? l = some o) : SrcAt b h' it l xs k := by
  cases b with
  | true => exact ⟨q.1.at e1, q.2.at e2⟩
  | false => exact ⟨q.1.at e1, q.2.at e2⟩
theorem src_item {Q : Value → Shared → Prop} (q : SrcAt b s.heap it l xs k) (hx : xs[k]? = some x) (n : l ≠ it) (hQ : ∀ h', SrcAt b h' it l xs (k + 1) → Heap.SameBut it s.heap h' → Q x { s with heap := h' }) :
    wpAny (model prog w) A (Builtin.SmallTypes.nextOf (.ref it)) Q E s := by
  cases b with
  | true => exact RZ.nextOf_tuple_item q.1 q.2 hx fun h' a hs => hQ h' ⟨a, q.2.at fun o e => hs.extBut _ _ n e⟩ hs
  | false => exact wpAny_nextOf_list_item q.1 q.2 hx fun h' a hs => hQ h' ⟨a, q.2.at fun o e => hs.extBut _ _ n e⟩ hs
theorem src_end {Q : Value → Shared → Prop} (hh : A.handled = none) (q : SrcAt b s.heap it l xs k) (hx : xs[k]? = none)
    (hE : ∀ h' e, Heap.ExtBut it s.heap h' → (∃ o, h'.get? e = some o ∧ o.cls = .type "StopIteration") → E (.ref e) { s with heap := h' }) : wpAny (model prog w) A (Builtin.SmallTypes.nextOf (.ref it)) Q E s := by
  cases b with
  | true => exact RZ.nextOf_tuple_end hh q.1 q.2 hx hE
  | false => exact wpAny_nextOf_list_end hh q.1 q.2 hx hE
theorem SrcAt.there {h : Heap} (q : SrcAt b h it l xs k) : (∃ o, h.get? it = some o) ∧ ∃ o, h.get? l = some o := by
  cases b with
  | true =>
    obtain ⟨⟨o, e, _⟩, ⟨o2, e2, _⟩⟩ := q
    exact ⟨⟨o, e⟩, ⟨o2, e2⟩⟩
  | false =>
    obtain ⟨⟨o, e, _⟩, ⟨o2, e2, _⟩⟩ := q
    exact ⟨⟨o, e⟩, ⟨o2, e2⟩⟩
theorem src_iter {Q : Value → Shared → Prop} (q : match b with | true => s.heap.IsTuple l xs | false => s.heap.IsList l xs)
    (hQ : ∀ h' : Heap, SrcAt b h' s.heap.objs.size l xs 0 → h'.objs.size = s.heap.objs.size + 1 → (∀ c o, s.heap.get? c = some o → h'.get? c = some o) → Q (.ref s.heap.objs.size) { s with heap := h' }) :
    wpAny (model prog w) A (pyIter (.ref l)) Q E s := by
  cases b with
  | true => exact wpAny_pyIter_tuple q (hQ _ ⟨⟨_, Heap.get?_push_size _ rfl, rfl, rfl⟩, q.at fun o e => Heap.get?_push_of_some _ e⟩ (Heap.size_push ..) fun c o e => Heap.get?_push_of_some _ e)
  | false => exact wpAny_pyIter_list q (hQ _ ⟨⟨_, Heap.get?_push_size _ rfl, rfl, rfl⟩, q.at fun o e => Heap.get?_push_of_some _ e⟩ (Heap.size_push ..) fun c o e => Heap.get?_push_of_some _ e)
end
end Dz
/-! Dz29: zip over a list or a tuple each, as what a dict is made of. -/
namespace Dz
open PySem PySem.Spec PyProof.Rows L2

section
variable {prog : Program} {w : World} {A : Around} {E : Value → Shared → Prop} {s : Shared}
variable {b c : Bool} {it l z TI TO i1 i2 l1 l2 : Addr} {xs ys : Array Value} {k k1 k2 : Nat} {x y : Value}
/-! ### next -/
theorem zx_item {p q : Value} {Q : Value → Shared → Prop} (D : ZipApart z TI TO i1 i2 l1 l2) (hz : IsZip s.heap z TI TO .none) (hTI : IsPair s.heap TI (.ref i1) (.ref i2)) (hTO : IsPair s.heap TO p q)
    (h1 : SrcAt b s.heap i1 l1 xs k1) (h2 : SrcAt c s.heap i2 l2 ys k2) (hx : xs[k1]? = some x) (hy : ys[k2]? = some y)
    (hQ : ∀ h', IsZip h' z TI TO (rawInt s.heap.objs.size) → SrcAt b h' i1 l1 xs (k1 + 1) → SrcAt c h' i2 l2 ys (k2 + 1) → IsPair h' s.heap.objs.size x y →
      (∀ e o, e ≠ z → e ≠ TO → e ≠ i1 → e ≠ i2 → s.heap.get? e = some o → h'.get? e = some o) → Q (.ref s.heap.objs.size) { s with heap := h' }) :
    wpAny (model prog w) A (Builtin.«zip.__next__» ⟨[.ref z], []⟩) (fun fin s' => ∃ v, fin = .done (.ret v) ∧ Q v s') E s := by
  show wpAny _ _ (field (.ref z) 2 >>= _) _ _ _
  refine wpAny_bind (wpAny_field hz rfl (x := .bool false) rfl ?_)
  show wpAny _ _ (field (.ref z) 3 >>= _) _ _ _
  refine wpAny_bind (wpAny_field hz rfl (x := .ref TI) rfl (wpAny_bind (wpAny_seqItems hTI rfl ?_)))
  show wpAny _ _ (Builtin.SmallTypes.ownedTupleIsFree (.ref z) >>= _) _ _ _
  refine wpAny_bind ?_
  unfold Builtin.SmallTypes.ownedTupleIsFree
  refine wpAny_bind (wpAny_field hz rfl (x := .none) rfl (wpAny_pure ?_))
  simp only [if_true]
  refine wpAny_bind (wpAny_rule (wpAny_bind (wpAny_field hz rfl (x := .ref TO) rfl (wpAny_bind (wpAny_setField_rec hz (by simp) fun g1 z1 s1 => ?_)))))
  replace z1 : IsZip g1 z TI TO .ellipsis := z1
  refine wpAny_bind ?_
  simp only [List.zipIdx_cons, List.zipIdx_nil, List.forIn_cons, List.forIn_nil]
  refine wpAny_bind (wpAny_bind (wpAny_onRaise ?_))
  show wpAny _ _ (Builtin.SmallTypes.nextOf (.ref i1) >>= _) _ _ _
  refine wpAny_bind (src_item (h1.keep (fun o e => s1.extBut _ _ D.i1z e) fun o e => s1.extBut _ _ D.l1z e) hx D.l1i1 fun g2 n1 s2 => wpAny_pure ?_)
  have t2 : IsPair g2 TO p q := s2.extBut _ _ D.TOi1 (s1.extBut _ _ D.TOz hTO)
  refine wpAny_bind (wpAny_seqItems t2 rfl (wpAny_bind (wpAny_updateSeq_pair t2 fun g3 t3 s3 => ?_)))
  replace t3 : IsPair g3 TO x q := t3
  refine wpAny_bind (wpAny_letGo (wpAny_pure (wpAny_bind (wpAny_bind (wpAny_onRaise ?_)))))
  show wpAny _ _ (Builtin.SmallTypes.nextOf (.ref i2) >>= _) _ _ _
  have n2 : SrcAt c g3 i2 l2 ys k2 := h2.keep (fun o e => s3.extBut _ _ D.TOi2.symm (s2.extBut _ _ D.i12.symm (s1.extBut _ _ D.i2z e))) fun o e => s3.extBut _ _ D.l2TO (s2.extBut _ _ D.l2i1 (s1.extBut _ _ D.l2z e))
  refine wpAny_bind (src_item n2 hy D.l2i2 fun g4 n2 s4 => wpAny_pure ?_)
  have t4 : IsPair g4 TO x q := s4.extBut _ _ D.TOi2 t3
  refine wpAny_bind (wpAny_seqItems t4 rfl (wpAny_bind (wpAny_updateSeq_pair t4 fun g5 t5 s5 => ?_)))
  replace t5 : IsPair g5 TO x y := t5
  refine wpAny_bind (wpAny_letGo (wpAny_pure (wpAny_pure (wpAny_bind (wpAny_seqItems t5 rfl (wpAny_bind (wpAny_newTuple ?_)))))))
  have hsz : g5.objs.size = s.heap.objs.size := by rw [s5.1, s4.1, s3.1, s2.1, s1.1]
  have z5 : IsZip g5 z TI TO .ellipsis := s5.extBut _ _ D.TOz.symm (s4.extBut _ _ D.i2z.symm (s3.extBut _ _ D.TOz.symm (s2.extBut _ _ D.i1z.symm z1)))
  have hlt : z < g5.objs.size := Heap.lt_size z5
  show wpAny _ _ (Builtin.SmallTypes.ownedTupleHandOut (.ref z) (.ref g5.objs.size) >>= _) _ _ _
  refine wpAny_bind ?_
  unfold Builtin.SmallTypes.ownedTupleHandOut
  have z6 : IsZip (g5.push { cls := .type "tuple", data := .seq #[x, y] }) z TI TO .ellipsis := Heap.get?_push_of_some _ z5
  refine wpAny_bind (wpAny_setField_rec z6 (by simp) fun g7 z7 s7 => ?_)
  replace z7 : IsZip g7 z TI TO (rawInt g5.objs.size) := z7
  refine wpAny_setField_rec z7 (by simp) fun g8 z8 s8 => ?_
  replace z8 : IsZip g8 z TI TO (rawInt g5.objs.size) := z8
  have up : ∀ e o, e ≠ z → g5.get? e = some o → g8.get? e = some o := fun e o c1 q => s8.extBut _ _ c1 (s7.extBut _ _ c1 (Heap.get?_push_of_some _ q))
  have t8 : IsPair g8 g5.objs.size x y := s8.extBut _ _ (Nat.ne_of_gt hlt) (s7.extBut _ _ (Nat.ne_of_gt hlt) (Heap.get?_push_size _ rfl))
  refine wpAny_pure ⟨_, rfl, ?_⟩
  show Q (.ref g5.objs.size) _
  rw [hsz] at z8 t8 ⊢
  refine hQ g8 z8 (n1.keep (fun o e => up _ o D.i1z (s5.extBut _ _ D.TOi1.symm (s4.extBut _ _ D.i12 (s3.extBut _ _ D.TOi1.symm e)))) fun o e => up _ o D.l1z (s5.extBut _ _ D.l1TO (s4.extBut _ _ D.l1i2 (s3.extBut _ _ D.l1TO e))))
    (n2.keep (fun o e => up _ o D.i2z (s5.extBut _ _ D.TOi2.symm e)) fun o e => up _ o D.l2z (s5.extBut _ _ D.l2TO e)) t8 fun e o c1 c2 c3 c4 q => ?_
  exact up e o c1 (s5.extBut _ _ c2 (s4.extBut _ _ c4 (s3.extBut _ _ c2 (s2.extBut _ _ c3 (s1.extBut _ _ c1 q)))))
theorem zx_end {p q : Value} {Q : PySem.Fin → Shared → Prop} (hh : A.handled = none) (D : ZipApart z TI TO i1 i2 l1 l2) (hz : IsZip s.heap z TI TO .none) (hTI : IsPair s.heap TI (.ref i1) (.ref i2)) (hTO : IsPair s.heap TO p q)
    (h1 : SrcAt b s.heap i1 l1 xs k1) (h2 : SrcAt c s.heap i2 l2 ys k2) (hend : xs[k1]? = none ∨ ys[k2]? = none)
    (hE : ∀ h' e, (∀ c o, c ≠ z → c ≠ TO → c ≠ i1 → c ≠ i2 → s.heap.get? c = some o → h'.get? c = some o) → (∃ o, h'.get? e = some o ∧ o.cls = .type "StopIteration") → E (.ref e) { s with heap := h' }) :
    wpAny (model prog w) A (Builtin.«zip.__next__» ⟨[.ref z], []⟩) Q E s := by
  show wpAny _ _ (field (.ref z) 2 >>= _) _ _ _
  refine wpAny_bind (wpAny_field hz rfl (x := .bool false) rfl ?_)
  show wpAny _ _ (field (.ref z) 3 >>= _) _ _ _
  refine wpAny_bind (wpAny_field hz rfl (x := .ref TI) rfl (wpAny_bind (wpAny_seqItems hTI rfl ?_)))
  show wpAny _ _ (Builtin.SmallTypes.ownedTupleIsFree (.ref z) >>= _) _ _ _
  refine wpAny_bind ?_
  unfold Builtin.SmallTypes.ownedTupleIsFree
  refine wpAny_bind (wpAny_field hz rfl (x := .none) rfl (wpAny_pure ?_))
  simp only [if_true]
  refine wpAny_bind (wpAny_rule (wpAny_bind (wpAny_field hz rfl (x := .ref TO) rfl (wpAny_bind (wpAny_setField_rec hz (by simp) fun g1 z1 s1 => ?_)))))
  replace z1 : IsZip g1 z TI TO .ellipsis := z1
  refine wpAny_bind ?_
  simp only [List.zipIdx_cons, List.zipIdx_nil, List.forIn_cons, List.forIn_nil]
  refine wpAny_bind (wpAny_bind (wpAny_onRaise ?_))
  show wpAny _ _ (Builtin.SmallTypes.nextOf (.ref i1) >>= _) _ _ _
  have n1 : SrcAt b g1 i1 l1 xs k1 := h1.keep (fun o e => s1.extBut _ _ D.i1z e) fun o e => s1.extBut _ _ D.l1z e
  have off : ∀ {g : Heap} {e : Addr}, IsZip g z TI TO .ellipsis → (∃ o, g.get? e = some o ∧ o.cls = .type "StopIteration") → e ≠ z := fun {g e} hz ⟨o, ho, hc⟩ x => by
    subst x
    rw [hz] at ho
    cases ho
    simp at hc
  cases hx : xs[k1]? with
  | none =>
    refine wpAny_bind (src_end hh n1 hx fun g2 e s2 he => ?_)
    have z2 : IsZip g2 z TI TO .ellipsis := s2 _ _ D.i1z.symm z1
    obtain ⟨oe, e1, e2⟩ := id he
    exact wpAny_setField_rec z2 (by simp) fun g3 _ s3 => hE g3 e (fun c o c1 _ c3 _ x => s3.extBut _ _ c1 (s2 _ _ c3 (s1.extBut _ _ c1 x))) ⟨oe, s3.extBut _ _ (off z2 he) e1, e2⟩
  | some x =>
    have hy : ys[k2]? = none := hend.resolve_left fun h => by rw [hx] at h; cases h
    refine wpAny_bind (src_item n1 hx D.l1i1 fun g2 n1 s2 => wpAny_pure ?_)
    have t2 : IsPair g2 TO p q := s2.extBut _ _ D.TOi1 (s1.extBut _ _ D.TOz hTO)
    refine wpAny_bind (wpAny_seqItems t2 rfl (wpAny_bind (wpAny_updateSeq_pair t2 fun g3 t3 s3 => ?_)))
    refine wpAny_bind (wpAny_letGo (wpAny_pure (wpAny_bind (wpAny_bind (wpAny_onRaise ?_)))))
    show wpAny _ _ (Builtin.SmallTypes.nextOf (.ref i2) >>= _) _ _ _
    have n2 : SrcAt c g3 i2 l2 ys k2 := h2.keep (fun o e => s3.extBut _ _ D.TOi2.symm (s2.extBut _ _ D.i12.symm (s1.extBut _ _ D.i2z e))) fun o e => s3.extBut _ _ D.l2TO (s2.extBut _ _ D.l2i1 (s1.extBut _ _ D.l2z e))
    refine wpAny_bind (src_end hh n2 hy fun g4 e s4 he => ?_)
    have z4 : IsZip g4 z TI TO .ellipsis := s4 _ _ D.i2z.symm (s3.extBut _ _ D.TOz.symm (s2.extBut _ _ D.i1z.symm z1))
    obtain ⟨oe, e1, e2⟩ := id he
    exact wpAny_setField_rec z4 (by simp) fun g5 _ s5 => hE g5 e (fun c o c1 c2 c3 c4 x => s5.extBut _ _ c1 (s4 _ _ c4 (s3.extBut _ _ c2 (s2.extBut _ _ c3 (s1.extBut _ _ c1 x))))) ⟨oe, s5.extBut _ _ (off z4 he) e1, e2⟩
theorem zx_item_held {T : Addr} {f : Bool} {oT : Obj} {Q : Value → Shared → Prop} (D : ZipApart z TI TO i1 i2 l1 l2) (hz : IsZipHeld s.heap z TI TO T f) (hT : s.heap.get? T = some oT) (hTI : IsPair s.heap TI (.ref i1) (.ref i2))
    (h1 : SrcAt b s.heap i1 l1 xs k1) (h2 : SrcAt c s.heap i2 l2 ys k2) (hx : xs[k1]? = some x) (hy : ys[k2]? = some y)
    (hQ : ∀ h', IsZipHeld h' z TI TO T true → SrcAt b h' i1 l1 xs (k1 + 1) → SrcAt c h' i2 l2 ys (k2 + 1) → IsPair h' s.heap.objs.size x y →
      (∀ e o, e ≠ z → e ≠ i1 → e ≠ i2 → s.heap.get? e = some o → h'.get? e = some o) → Q (.ref s.heap.objs.size) { s with heap := h' }) :
    wpAny (model prog w) A (Builtin.«zip.__next__» ⟨[.ref z], []⟩) (fun fin s' => ∃ v, fin = .done (.ret v) ∧ Q v s') E s := by
  show wpAny _ _ (field (.ref z) 2 >>= _) _ _ _
  refine wpAny_bind (wpAny_field hz rfl (x := .bool false) rfl ?_)
  show wpAny _ _ (field (.ref z) 3 >>= _) _ _ _
  refine wpAny_bind (wpAny_field hz rfl (x := .ref TI) rfl (wpAny_bind (wpAny_seqItems hTI rfl ?_)))
  show wpAny _ _ (Builtin.SmallTypes.ownedTupleIsFree (.ref z) >>= _) _ _ _
  refine wpAny_bind (wpAny_tupleHeld_zip hz hT fun g1 z1 s1 => ?_)
  simp only [Bool.false_eq_true, if_false]
  refine wpAny_bind ?_
  rw [← Array.forIn_toList]
  simp only [List.forIn_cons, List.forIn_nil]
  refine wpAny_bind (wpAny_bind (wpAny_holding ?_))
  show wpAny _ _ (Builtin.SmallTypes.nextOf (.ref i1) >>= _) _ _ _
  refine wpAny_bind (src_item (s := { s with heap := g1 }) (h1.keep (fun o e => s1.extBut _ _ D.i1z e) fun o e => s1.extBut _ _ D.l1z e) hx D.l1i1 fun g2 n1 s2 => wpAny_pure (wpAny_pure ?_))
  refine wpAny_bind (wpAny_bind (wpAny_holding ?_))
  show wpAny _ _ (Builtin.SmallTypes.nextOf (.ref i2) >>= _) _ _ _
  refine wpAny_bind (src_item (s := { s with heap := g2 }) (h2.keep (fun o e => s2.extBut _ _ D.i12.symm (s1.extBut _ _ D.i2z e)) fun o e => s2.extBut _ _ D.l2i1 (s1.extBut _ _ D.l2z e)) hy D.l2i2 fun g3 n2 s3 => wpAny_pure (wpAny_pure (wpAny_pure ?_)))
  show wpAny _ _ (newTuple [x, y] >>= _) _ _ _
  refine wpAny_bind (wpAny_newTuple (wpAny_pure ⟨_, rfl, ?_⟩))
  have hsz : g3.objs.size = s.heap.objs.size := by rw [s3.1, s2.1, s1.1]
  show Q (.ref g3.objs.size) _
  have t4 : IsPair (g3.push { cls := .type "tuple", data := .seq #[x, y] }) g3.objs.size x y := Heap.get?_push_size _ rfl
  rw [hsz] at t4 ⊢
  exact hQ _ (Heap.get?_push_of_some _ (s3.extBut _ _ D.i2z.symm (s2.extBut _ _ D.i1z.symm z1))) (n1.keep (fun o e => Heap.get?_push_of_some _ (s3.extBut _ _ D.i12 e)) fun o e => Heap.get?_push_of_some _ (s3.extBut _ _ D.l1i2 e))
    (n2.keep (fun o e => Heap.get?_push_of_some _ e) fun o e => Heap.get?_push_of_some _ e) t4 fun e o c1 c2 c3 q => Heap.get?_push_of_some _ (s3.extBut _ _ c3 (s2.extBut _ _ c2 (s1.extBut _ _ c1 q)))
theorem zx_end_held {T : Addr} {f : Bool} {oT : Obj} {Q : PySem.Fin → Shared → Prop} (hh : A.handled = none) (D : ZipApart z TI TO i1 i2 l1 l2) (hz : IsZipHeld s.heap z TI TO T f) (hT : s.heap.get? T = some oT) (hTI : IsPair s.heap TI (.ref i1) (.ref i2))
    (h1 : SrcAt b s.heap i1 l1 xs k1) (h2 : SrcAt c s.heap i2 l2 ys k2) (hend : xs[k1]? = none ∨ ys[k2]? = none)
    (hE : ∀ h' e, (∀ c o, c ≠ z → c ≠ i1 → c ≠ i2 → s.heap.get? c = some o → h'.get? c = some o) → (∃ o, h'.get? e = some o ∧ o.cls = .type "StopIteration") → E (.ref e) { s with heap := h' }) :
    wpAny (model prog w) A (Builtin.«zip.__next__» ⟨[.ref z], []⟩) Q E s := by
  show wpAny _ _ (field (.ref z) 2 >>= _) _ _ _
  refine wpAny_bind (wpAny_field hz rfl (x := .bool false) rfl ?_)
  show wpAny _ _ (field (.ref z) 3 >>= _) _ _ _
  refine wpAny_bind (wpAny_field hz rfl (x := .ref TI) rfl (wpAny_bind (wpAny_seqItems hTI rfl ?_)))
  show wpAny _ _ (Builtin.SmallTypes.ownedTupleIsFree (.ref z) >>= _) _ _ _
  refine wpAny_bind (wpAny_tupleHeld_zip hz hT fun g1 z1 s1 => ?_)
  simp only [Bool.false_eq_true, if_false]
  refine wpAny_bind ?_
  rw [← Array.forIn_toList]
  simp only [List.forIn_cons, List.forIn_nil]
  refine wpAny_bind (wpAny_bind (wpAny_holding ?_))
  show wpAny _ _ (Builtin.SmallTypes.nextOf (.ref i1) >>= _) _ _ _
  have n1 : SrcAt b g1 i1 l1 xs k1 := h1.keep (fun o e => s1.extBut _ _ D.i1z e) fun o e => s1.extBut _ _ D.l1z e
  cases hx : xs[k1]? with
  | none => exact wpAny_bind (src_end (s := { s with heap := g1 }) hh n1 hx fun g2 e s2 he => hE g2 e (fun c o c1 c2 _ q => s2 _ _ c2 (s1.extBut _ _ c1 q)) he)
  | some x =>
    have hy : ys[k2]? = none := hend.resolve_left fun h => by rw [hx] at h; cases h
    refine wpAny_bind (src_item (s := { s with heap := g1 }) n1 hx D.l1i1 fun g2 n1 s2 => wpAny_pure (wpAny_pure ?_))
    refine wpAny_bind (wpAny_bind (wpAny_holding ?_))
    show wpAny _ _ (Builtin.SmallTypes.nextOf (.ref i2) >>= _) _ _ _
    exact wpAny_bind (src_end (s := { s with heap := g2 }) hh (h2.keep (fun o e => s2.extBut _ _ D.i12.symm (s1.extBut _ _ D.i2z e)) fun o e => s2.extBut _ _ D.l2i1 (s1.extBut _ _ D.l2z e)) hy fun g3 e s3 he =>
      hE g3 e (fun c o c1 c2 c3 q => s3 _ _ c3 (s2.extBut _ _ c2 (s1.extBut _ _ c1 q))) he)
end
end Dz
/-! Dz30: dict(zip(a, b)). -/
namespace Dz
open PySem PySem.Spec PyProof.Rows L2

section
variable {prog : Program} {w : World} {A : Around} {E : Value → Shared → Prop} {s : Shared}
variable {b c : Bool} {it l z TI TO i1 i2 l1 l2 : Addr} {xs ys : Array Value} {k k1 k2 : Nat} {x y : Value}
def SqAt (b : Bool) (h : Heap) (l : Addr) (xs : Array Value) : Prop := match b with | true => h.IsTuple l xs | false => h.IsList l xs
theorem SqAt.keep {h h' : Heap} (q : SqAt b h l xs) (e2 : ∀ o, h.get? l = some o → h'.get? l = some o) : SqAt b h' l xs := by
  cases b with
  | true => exact q.at e2
  | false => exact q.at e2
/-- at its turn: not yet begun, or a tuple of its is out -/
def ZipSt (b c : Bool) (z TI TO i1 i2 l1 l2 : Addr) (xs ys : Array Value) (d : Addr) (i : Nat) (h : Heap) : Prop := IsPair h TI (.ref i1) (.ref i2) ∧ SrcAt b h i1 l1 xs i ∧ SrcAt c h i2 l2 ys i ∧
  ((IsZip h z TI TO .none ∧ ∃ p q, IsPair h TO p q) ∨ ∃ T f oT, IsZipHeld h z TI TO T f ∧ h.get? T = some oT ∧ T ≠ z ∧ T ≠ i1 ∧ T ≠ i2 ∧ T ≠ d)
theorem zip_arg (D : ZipApart z TI TO i1 i2 l1 l2) : PairArg prog w "zip" z [z, TI, TO, i1, i2, l1, l2] [z, TO, i1, i2] (min xs.size ys.size) (fun i k v => xs[i]? = some k ∧ ys[i]? = some v)
    (fun h => IsZip h z TI TO .none ∧ IsPair h TI (.ref i1) (.ref i2) ∧ (∃ p q, IsPair h TO p q) ∧ SrcAt b h i1 l1 xs 0 ∧ SrcAt c h i2 l2 ys 0) where
  type := fun s ok => ⟨_, ok.1, rfl⟩
  notDict := by decide
  keep := fun h h' ⟨hz, hTI, ⟨p, q, hTO⟩, h1, h2⟩ hk => ⟨hk _ _ hz, hk _ _ hTI, ⟨p, q, hk _ _ hTO⟩, h1.keep (fun o e => hk _ o e) fun o e => hk _ o e, h2.keep (fun o e => hk _ o e) fun o e => hk _ o e⟩
  there := fun h ⟨hz, hTI, ⟨p, q, hTO⟩, h1, h2⟩ e he => by
    simp only [List.mem_cons, List.not_mem_nil, or_false] at he
    rcases he with rfl | rfl | rfl | rfl | rfl | rfl | rfl
    · exact ⟨_, hz⟩
    · exact ⟨_, hTI⟩
    · exact ⟨_, hTO⟩
    · exact h1.there.1
    · exact h2.there.1
    · exact h1.there.2
    · exact h2.there.2
  sub := fun e he => by
    simp only [List.mem_cons, List.not_mem_nil, or_false] at he ⊢
    rcases he with rfl | rfl | rfl | rfl <;> simp
  noKeys := fun A s Q E hA ok h => getAttrOr_miss_zip ok.1 rfl rfl rfl zip_no_keys (by decide +kernel) hA h
  iter := fun A s d Q E hA ⟨hz, hTI, ⟨p, q, hTO⟩, h1, h2⟩ hd hdf h => by
    simp only [List.mem_cons, List.not_mem_nil, or_false, not_or] at hdf
    obtain ⟨dz, dTI, dTO, di1, di2, dl1, dl2⟩ := hdf
    refine wpAny_pyIter_zip hz (h z [z, TO, i1, i2] (ZipSt b c z TI TO i1 i2 l1 l2 xs ys d) s.heap s.toks ?_ ⟨hTI, h1, h2, .inl ⟨hz, p, q, hTO⟩⟩ (fun _ _ e => e) fun e he => .inl he)
    refine ⟨by simp [dz, dTO, di1, di2], ?_, ?_, ?_⟩
    · rintro i g g' ⟨hTI, h1, h2, hz⟩ hk
      refine ⟨hk _ _ (Ne.symm dTI) hTI, h1.keep (fun o e => hk _ o (Ne.symm di1) e) fun o e => hk _ o (Ne.symm dl1) e, h2.keep (fun o e => hk _ o (Ne.symm di2) e) fun o e => hk _ o (Ne.symm dl2) e, ?_⟩
      rcases hz with ⟨hz, p, q, hTO⟩ | ⟨T, f, oT, hz, hT, r1, r2, r3, r4⟩
      · exact .inl ⟨hk _ _ (Ne.symm dz) hz, p, q, hk _ _ (Ne.symm dTO) hTO⟩
      · exact .inr ⟨T, f, oT, hk _ _ (Ne.symm dz) hz, hk _ _ r4 hT, r1, r2, r3, r4⟩
    · rintro i s1 Q1 E1 hi ⟨hTI, h1, h2, hz⟩ hds hQ
      have ex := Array.getElem?_eq_getElem (Nat.lt_of_lt_of_le hi (Nat.min_le_left xs.size ys.size))
      have ey := Array.getElem?_eq_getElem (Nat.lt_of_lt_of_le hi (Nat.min_le_right xs.size ys.size))
      have new : ∀ {e : Addr}, (∃ o, s1.heap.get? e = some o) → s1.heap.objs.size ≠ e := fun ⟨_, q⟩ => Nat.ne_of_gt (Heap.lt_size q)
      have n1 := new h1.there.1
      have n2 := new h2.there.1
      unfold pyNext
      rcases hz with ⟨hz, p, q, hTO⟩ | ⟨T, f, oT, hz, hT, r1, r2, r3, r4⟩
      · have hTy : s1.TypeIs (.ref z) "zip" := ⟨_, hz, rfl⟩
        refine wpAny_bind (wpAny_attempt (wpAny_callSpecial?_slot (name := Str.ofString "__next__") hTy F.slot_zip_next (wpAny_call_entry F.slot_zip_next hTy F.entry_zip_next
          (zx_item D hz hTI hTO h1 h2 ex ey fun g a1 a3 a4 a5 hk => wpAny_pure (hQ s1.heap.objs.size _ _ g s1.toks ⟨ex, ey⟩ (.inl ⟨_, a5, rfl, _, rfl⟩) ⟨hk _ _ D.TIz D.TITO D.TIi1 D.TIi2 hTI, a3, a4,
            .inr ⟨s1.heap.objs.size, false, _, a1, a5, new ⟨_, hz⟩, n1, n2, Nat.ne_of_gt hds⟩⟩ fun e o he q => hk e o (fun x => he (by simp [x])) (fun x => he (by simp [x])) (fun x => he (by simp [x])) (fun x => he (by simp [x])) q)) (F.args_zip_next_1 _))))
      · have hTy : s1.TypeIs (.ref z) "zip" := ⟨_, hz, rfl⟩
        refine wpAny_bind (wpAny_attempt (wpAny_callSpecial?_slot (name := Str.ofString "__next__") hTy F.slot_zip_next (wpAny_call_entry F.slot_zip_next hTy F.entry_zip_next
          (zx_item_held D hz hT hTI h1 h2 ex ey fun g a1 a3 a4 a5 hk => wpAny_pure (hQ s1.heap.objs.size _ _ g s1.toks ⟨ex, ey⟩ (.inl ⟨_, a5, rfl, _, rfl⟩) ⟨hk _ _ D.TIz D.TIi1 D.TIi2 hTI, a3, a4,
            .inr ⟨T, true, oT, a1, hk _ _ r1 r2 r3 hT, r1, r2, r3, r4⟩⟩ fun e o he q => hk e o (fun x => he (by simp [x])) (fun x => he (by simp [x])) (fun x => he (by simp [x])) q)) (F.args_zip_next_1 _))))
    · rintro s1 Q1 E1 ⟨hTI, h1, h2, hz⟩ hQ
      have hend : xs[min xs.size ys.size]? = none ∨ ys[min xs.size ys.size]? = none := by
        rcases Nat.le_total xs.size ys.size with h | h
        · exact .inl (Array.getElem?_eq_none (by omega))
        · exact .inr (Array.getElem?_eq_none (by omega))
      unfold pyNext
      rcases hz with ⟨hz, p, q, hTO⟩ | ⟨T, f, oT, hz, hT, r1, r2, r3, r4⟩
      · have hTy : s1.TypeIs (.ref z) "zip" := ⟨_, hz, rfl⟩
        refine wpAny_bind (wpAny_attempt (wpAny_callSpecial?_slot (name := Str.ofString "__next__") hTy F.slot_zip_next (wpAny_call_entry F.slot_zip_next hTy F.entry_zip_next
          (zx_end hA D hz hTI hTO h1 h2 hend fun g e hk ⟨o, ho, hc⟩ => ?_) (F.args_zip_next_1 _))))
        exact wpAny_bind (wpAny_isInstance (T := "StopIteration") (b := true) ⟨o, ho, hc⟩ isSubtype_stop (wpAny_pure (hQ g s1.toks fun e o he q => hk e o (fun x => he (by simp [x])) (fun x => he (by simp [x])) (fun x => he (by simp [x])) (fun x => he (by simp [x])) q)))
      · have hTy : s1.TypeIs (.ref z) "zip" := ⟨_, hz, rfl⟩
        refine wpAny_bind (wpAny_attempt (wpAny_callSpecial?_slot (name := Str.ofString "__next__") hTy F.slot_zip_next (wpAny_call_entry F.slot_zip_next hTy F.entry_zip_next
          (zx_end_held hA D hz hT hTI h1 h2 hend fun g e hk ⟨o, ho, hc⟩ => ?_) (F.args_zip_next_1 _))))
        exact wpAny_bind (wpAny_isInstance (T := "StopIteration") (b := true) ⟨o, ho, hc⟩ isSubtype_stop (wpAny_pure (hQ g s1.toks fun e o he q => hk e o (fun x => he (by simp [x])) (fun x => he (by simp [x])) (fun x => he (by simp [x])) q)))
end
end Dz
/-! Dz31: dict(zip(a, b)), keys that are tuples. -/
namespace Dz
open PySem PySem.Spec PyProof.Rows L2

theorem stored_all {K : Type} [DecidableEq K] : ∀ (ps acc : List (K × Addr × Value)), ((acc ++ ps).map (·.1)).Nodup → storedAllH acc ps = acc ++ ps
  | [], acc, _ => by rw [List.append_nil]; rfl
  | p :: ps, acc, h => by
    have e : atKey acc p.1 = none := by
      unfold atKey
      rw [Option.map_eq_none_iff, List.find?_eq_none]
      intro x hx
      rw [decide_eq_true_eq]
      intro z
      rw [List.map_append, List.nodup_append] at h
      exact h.2.2 _ (List.mem_map_of_mem hx) _ (List.mem_map_of_mem (List.mem_cons_self ..)) z
    show storedAllH (storedH acc p.1 p.2.1 p.2.2) ps = _
    rw [storedH_new e, stored_all ps (acc ++ [(p.1, p.2.1, p.2.2)]) (by rw [List.append_assoc]; exact h), List.append_assoc]
    rfl
section
variable {prog : Program} {w : World} {A : Around} {E : Value → Shared → Prop} {s : Shared}
theorem meets_zipM (l1 l2 : Addr) (xs ys : Array Value) :
    Meets (Builtin.«zip.__new__» ⟨[.type "zip", .ref l1, .ref l2], []⟩) (fun _ R s => s.heap.IsList l1 xs ∧ s.heap.IsTuple l2 ys ∧ ∀ h' : Heap, IsZip h' (s.heap.objs.size + 4) (s.heap.objs.size + 2) (s.heap.objs.size + 3) .none → IsPair h' (s.heap.objs.size + 2) (.ref s.heap.objs.size) (.ref (s.heap.objs.size + 1)) →
      IsPair h' (s.heap.objs.size + 3) .none .none → h'.IsListIter s.heap.objs.size l1 0 → h'.IsTupleIter (s.heap.objs.size + 1) l2 0 → h'.objs.size = s.heap.objs.size + 5 →
      (∀ c o, s.heap.get? c = some o → h'.get? c = some o) → R (.ok (.ret (.ref (s.heap.objs.size + 4)))) { s with heap := h' }) :=
  .of_wp fun prog w A R s h => by
    obtain ⟨hp, g, d, tk, os⟩ := s; obtain ⟨hl1, hl2, h⟩ := h
    have hsub := sub_zip
    have hL1 : Heap.IsList (Shared.heap ⟨hp, g, d, tk, os⟩) l1 xs := hl1
    have hL2 : Heap.IsTuple (Shared.heap ⟨hp.push { cls := .type "list_iterator", data := .fields #[.ref l1, .int 0 0] }, g, d, tk, os⟩) l2 ys := Heap.IsTuple.push hl2 _
    wp_walk using wpAny_pyIter_list hL1, wpAny_pyIter_tuple hL2
    refine ⟨_, rfl, ?_⟩
    have n1 : (hp.push { cls := .type "list_iterator", data := .fields #[.ref l1, .int 0 0] }).objs.size = hp.objs.size + 1 := Heap.size_push ..
    generalize e1 : hp.push { cls := .type "list_iterator", data := .fields #[.ref l1, .int 0 0] } = g1 at n1 ⊢
    have i1 : g1.IsListIter hp.objs.size l1 0 := by rw [← e1]; exact ⟨_, Heap.get?_push_size _ rfl, rfl, rfl⟩
    have k1 : ∀ c o, hp.get? c = some o → g1.get? c = some o := fun c o q => by rw [← e1]; exact Heap.get?_push_of_some _ q
    have n2 : (g1.push { cls := .type "tuple_iterator", data := .fields #[.ref l2, .int 0 0] }).objs.size = hp.objs.size + 2 := by rw [Heap.size_push, n1]
    have i2 : (g1.push { cls := .type "tuple_iterator", data := .fields #[.ref l2, .int 0 0] }).IsTupleIter (hp.objs.size + 1) l2 0 := by rw [← n1]; exact ⟨_, Heap.get?_push_size _ rfl, rfl, rfl⟩
    have k2 : ∀ c o, g1.get? c = some o → (g1.push { cls := .type "tuple_iterator", data := .fields #[.ref l2, .int 0 0] }).get? c = some o := fun c o q => Heap.get?_push_of_some _ q
    rw [n1]
    generalize g1.push { cls := .type "tuple_iterator", data := .fields #[.ref l2, .int 0 0] } = g2 at n2 i2 k2 ⊢
    have n3 : (g2.push { cls := .type "tuple", data := .seq #[.ref hp.objs.size, .ref (hp.objs.size + 1)] }).objs.size = hp.objs.size + 3 := by rw [Heap.size_push, n2]
    have i3 : IsPair (g2.push { cls := .type "tuple", data := .seq #[.ref hp.objs.size, .ref (hp.objs.size + 1)] }) (hp.objs.size + 2) (.ref hp.objs.size) (.ref (hp.objs.size + 1)) := by rw [← n2]; exact Heap.get?_push_size _ rfl
    have k3 : ∀ c o, g2.get? c = some o → (g2.push { cls := .type "tuple", data := .seq #[.ref hp.objs.size, .ref (hp.objs.size + 1)] }).get? c = some o := fun c o q => Heap.get?_push_of_some _ q
    show R (.ok (.ret (.ref ((g2.push { cls := .type "tuple", data := .seq #[.ref hp.objs.size, .ref (hp.objs.size + 1)] }).push { cls := .type "tuple", data := .seq #[.none, .none] }).objs.size)))
      ⟨((g2.push { cls := .type "tuple", data := .seq #[.ref hp.objs.size, .ref (hp.objs.size + 1)] }).push { cls := .type "tuple", data := .seq #[.none, .none] }).push
        { cls := .type "zip", data := .fields #[.none, .bool false, .bool false, .ref g2.objs.size, .ref (g2.push { cls := .type "tuple", data := .seq #[.ref hp.objs.size, .ref (hp.objs.size + 1)] }).objs.size] }, g, d, tk, os⟩
    generalize g2.push { cls := .type "tuple", data := .seq #[.ref hp.objs.size, .ref (hp.objs.size + 1)] } = g3 at n3 i3 k3 ⊢
    have n4 : (g3.push { cls := .type "tuple", data := .seq #[.none, .none] }).objs.size = hp.objs.size + 4 := by rw [Heap.size_push, n3]
    have i4 : IsPair (g3.push { cls := .type "tuple", data := .seq #[.none, .none] }) (hp.objs.size + 3) .none .none := by rw [← n3]; exact Heap.get?_push_size _ rfl
    have k4 : ∀ c o, g3.get? c = some o → (g3.push { cls := .type "tuple", data := .seq #[.none, .none] }).get? c = some o := fun c o q => Heap.get?_push_of_some _ q
    rw [n2, n3, n4]
    generalize g3.push { cls := .type "tuple", data := .seq #[.none, .none] } = g4 at n4 i4 k4 ⊢
    have k5 : ∀ c o, g4.get? c = some o → (g4.push { cls := .type "zip", data := .fields #[.none, .bool false, .bool false, .ref (hp.objs.size + 2), .ref (hp.objs.size + 3)] }).get? c = some o := fun c o q => Heap.get?_push_of_some _ q
    have i5 : IsZip (g4.push { cls := .type "zip", data := .fields #[.none, .bool false, .bool false, .ref (hp.objs.size + 2), .ref (hp.objs.size + 3)] }) (hp.objs.size + 4) (hp.objs.size + 2) (hp.objs.size + 3) .none := by
      have := Heap.get?_push_size g4 (o := { cls := .type "zip", data := .fields #[.none, .bool false, .bool false, .ref (hp.objs.size + 2), .ref (hp.objs.size + 3)] }) rfl
      rw [n4] at this
      exact this
    exact h _ i5 (k5 _ _ (k4 _ _ i3)) (k5 _ _ i4) (i1.at fun o e => k5 _ _ (k4 _ _ (k3 _ _ (k2 _ _ e)))) (i2.at fun o e => k5 _ _ (k4 _ _ (k3 _ _ e))) (by rw [Heap.size_push, n4]) fun c o q => k5 _ _ (k4 _ _ (k3 _ _ (k2 _ _ (k1 _ _ q))))
/-- zip(a, b), b a tuple -/
theorem call_zipX {b : Bool} {l1 l2 : Addr} {xs ys : Array Value} {Q : Value → Shared → Prop} (hl1 : SqAt b s.heap l1 xs) (hl2 : s.heap.IsTuple l2 ys)
    (h : ∀ h' : Heap, IsZip h' (s.heap.objs.size + 4) (s.heap.objs.size + 2) (s.heap.objs.size + 3) .none → IsPair h' (s.heap.objs.size + 2) (.ref s.heap.objs.size) (.ref (s.heap.objs.size + 1)) →
      IsPair h' (s.heap.objs.size + 3) .none .none → SrcAt b h' s.heap.objs.size l1 xs 0 → SrcAt true h' (s.heap.objs.size + 1) l2 ys 0 → h'.objs.size = s.heap.objs.size + 5 →
      (∀ c o, s.heap.get? c = some o → h'.get? c = some o) → Q (.ref (s.heap.objs.size + 4)) { s with heap := h' }) :
    wpAny (model prog w) A (call (.type "zip") [.ref l1, .ref l2]) Q E s := by
  cases b with
  | true => exact RZ.call_zipT hl1 hl2 fun h' a1 a2 a3 a4 a5 a6 hk => h h' a1 a2 a3 ⟨a4, Heap.IsTuple.at hl1 fun o e => hk _ o e⟩ ⟨a5, hl2.at fun o e => hk _ o e⟩ a6 hk
  | false =>
    refine callType_new F.called_zip (by decide) (F.typeCall_zip_2 _ _) (F.newCall_zip_2 _ _) (fun obj => F.args_object_init_3 obj _ _) F.entry_zip_new
      (meets_zipM l1 l2 xs ys) ⟨hl1, hl2, fun h' a1 a2 a3 a4 a5 a6 hk => ?_⟩
    exact ⟨⟨_, a1, rfl⟩, h h' a1 a2 a3 ⟨a4, Heap.IsList.at hl1 fun o e => hk _ o e⟩ ⟨a5, hl2.at fun o e => hk _ o e⟩ a6 hk⟩
end
section
variable {cl : CL} {X : Cx} {S : Sto} {T H : Hp}
theorem keyed_of : ∀ {ds es : List D} {vs ws : List V} {us ks : List Value}, RpL cl S T H ds vs → Vals vs us → (∀ z ∈ ds, isKey true z = true) → RpL cl S T H es ws → Vals ws ks → ds.length = es.length →
    ∃ ps : List (List Key × Addr × Value), us = ps.map (fun p => .ref p.2.1) ∧ ks = ps.map (·.2.2) ∧ ds = ps.map (fun p => .tup (p.1.map kD)) ∧ (∀ p ∈ ps, ∃ ob, H p.2.1 = some (.frz ob (.tup (p.1.map kV)))) ∧ RpT cl S T H (ds.zip es) (ps.map fun p => ⟨cl.hs p.1, .ref p.2.1, p.2.2⟩)
  | [], [], _, _, _, _, .nil, .nil, _, .nil, .nil, _ => ⟨[], rfl, rfl, rfl, (fun _ h => nomatch h), .nil⟩
  | d :: ds, e :: es, _, _, _, _, .cons a b, .cons r t, hk, .cons a2 b2, .cons (b := u) r2 t2, hl => by
    obtain ⟨ps, e1, e2, e3, e4, e5⟩ := keyed_of b t (fun z hz => hk z (List.mem_cons_of_mem _ hz)) b2 t2 (by simpa using hl)
    obtain ⟨ks, p, ob, rfl, rfl, hb, _, fr, _⟩ := keyT_of (hk _ (List.mem_cons_self ..)) a
    cases r
    refine ⟨(ks, p, u) :: ps, by rw [e1]; rfl, by rw [e2]; rfl, by rw [List.map_cons, ← e3], fun q hq => ?_, ?_⟩
    · rcases List.mem_cons.mp hq with z | hq
      · rw [z]; exact ⟨ob, hb⟩
      · exact e4 q hq
    · rw [List.zip_cons_cons, List.map_cons]
      exact .cons hb fr r2 a2 e5
theorem q_dzip {a b : Expr} {ta tb : TE'} {p p2 pos pos2 : Pos} (hc : XC cl X) (hg1 : Gl X "dict") (hm1 : X.mg "dict" = none) (hg2 : Gl X "zip") (hm2 : X.mg "zip" = none) (mA : MonoE ta) (mB : MonoE tb) (ha : PE' cl X a ta) (hb : PE' cl X b tb) (hs : isStar a = false) (hs2 : isStar b = false) :
    PE' cl X (.Call (.Name "dict" p) [.Call (.Name "zip" p2) [a, b] [] pos2] [] pos) (fun r S Q => ta r S fun x S1 => tb r S1 fun y S2 => ∃ xs ys, itemsD S2 x = some xs ∧ y = .tup ys ∧ xs.length = ys.length ∧ (∀ z ∈ xs, isKey true z = true) ∧ xs.Nodup ∧ Q (.dic true (xs.zip ys)) S2) := by
  refine ⟨fun pins s σ H Q I ⟨r, S, T, m, e, h⟩ => ?_⟩
  refine wpAny_Call_Name_kw (ld_blt I hg1 hm1 (show bootBuiltins "dict" = some (.type "dict") from by decide +kernel) ?_)
  refine PyProof.Rows.callWith_type1 (Calls.spliced_cons ?_) rfl rfl
  refine wpAny_Call_Name_kw (ld_blt I hg2 hm2 PyProof.Rows.boot_zip ?_)
  have hA := (pa_cons ha (pa_cons hb pa_nil (star_no hs2)) (star_no hs)).run pos2 pins s σ H (fun vs H1 => ∃ vx vy x y S2, vs = [vx, vy] ∧ Ex S S2 T H H1 ∧ Sm cl S2 T H1 ∧ Rp cl S2 T H1 x vx ∧ Rp cl S2 T H1 y vy ∧ ∃ xs ys, itemsD S2 x = some xs ∧ y = .tup ys ∧ xs.length = ys.length ∧ (∀ z ∈ xs, isKey true z = true) ∧ xs.Nodup ∧ kQ cl S T H Q (.dic true (xs.zip ys)) S2) I
    (tr_then mA m e h fun d S1 v H1 x m1 e1 rp k => tr_then mB m1 e1 k fun d2 S2 v2 H2 x2 m2 e2 rp2 q => ⟨v, v2, d, d2, S2, rfl, x.trans x2, m2, rp.ext x2, rp2, q⟩)
  refine PyProof.Rows.callWith_type1 (thn hA fun us s1 ⟨vs, H1, I1, r1, vx, vy, x, y, S2, hv, x1, m1, rx, ry, xs, ys, hi, ey, hl, hk, nd, q⟩ => ?_) (star_no hs) (noStar (by simp [hs2]))
  subst hv ey
  obtain ⟨ux, uy, rfl, rux, ruy⟩ := vals2 r1
  obtain ⟨l1, vs, rfl, hq, rl⟩ := items_of (K := X.K) m1 rx hi
  obtain ⟨l2, ws, rfl, eb, rl2⟩ := tup_of ry
  cases rux
  cases ruy
  obtain ⟨its2, rv2, p2', hz2⟩ := I1.tuple (show SqT X.K H1 l2 ws from .inl eb)
  have go : ∀ (c : Bool) (its : List Value), SqAt c s1.heap l1 its.toArray → Vals vs its → vs.length ≤ sizeLine → wpAny (model X.prog X.w) X.A (call (.type "zip") [.ref l1, .ref l2]) (fun v s' => wpAny (model X.prog X.w) X.A (spliced []) (fun vs s2 => wpAny (model X.prog X.w) X.A (call (.type "dict") (v :: vs)) (EP X pins σ Q) X.xe s2) X.xe s') X.xe s1 := by
    intro c its sq rv hz
    refine call_zipX sq (show s1.heap.IsTuple l2 its2.toArray from p2') fun h' a1 a2 a3 a4 a5 a6 hk' => Calls.spliced_nil ?_
    obtain ⟨ps, e1, e2, e3, e4, e5⟩ := keyed_of rl rv hk rl2 rv2 hl
    have ndk : (ps.map (·.1)).Nodup := by
      rw [e3] at nd
      have z : ps.map (fun x => D.tup (x.1.map kD)) = (ps.map (·.1)).map fun k => D.tup (k.map kD) := by rw [List.map_map]; rfl
      rw [z] at nd
      exact List.Pairwise.imp (fun hne e => hne (by rw [e])) (List.pairwise_map.mp nd)
    have lt1 : l1 < s1.heap.objs.size := by
      cases c with
      | true => obtain ⟨o, ho, _⟩ := sq; exact Heap.lt_size ho
      | false => obtain ⟨o, ho, _⟩ := sq; exact Heap.lt_size ho
    have lt2 : l2 < s1.heap.objs.size := by obtain ⟨o, ho, _⟩ := p2'; exact Heap.lt_size ho
    have n1 : its.length = ps.length := by rw [e1, List.length_map]
    have n2 : its2.length = ps.length := by rw [e2, List.length_map]
    have old : ∀ {b : Addr}, b < s1.heap.objs.size → b ∉ [s1.heap.objs.size + 4, s1.heap.objs.size + 3, s1.heap.objs.size, s1.heap.objs.size + 1] := fun {b} hb hm => by
      simp only [List.mem_cons, List.not_mem_nil, or_false] at hm
      rcases hm with z | z | z | z <;> rw [z] at hb <;> first | exact Nat.lt_irrefl _ hb | exact Nat.lt_irrefl _ (Nat.lt_of_le_of_lt (Nat.le_add_right _ _) hb)
    refine call_dict_pairsH (knd := tupleKind (mixKind X.prog X.w)) (ps := ps) (zip_arg (b := c) (c := true) (xs := its.toArray) (ys := its2.toArray) (PySem.W.ktu_apart s1.heap.objs.size l1 l2 lt1 lt2)) hc.room.hd (show X.A.units + 1 + 1 < cLine by have := hc.room.un; omega)
      ⟨a1, a2, ⟨_, _, a3⟩, a4, a5⟩ ⟨by simp [n1, n2], fun i key v ⟨k1, k2⟩ => ?_⟩ (fun g hg x hx => ?_) (by simp only [List.size_toArray]; rw [n1, n2, Nat.min_self, ← n1, ← rv.length]; exact hz) fun g tk hd hkg => ?_
    · have k1 : its[i]? = some key := by simpa using k1
      have k2 : its2[i]? = some v := by simpa using k2
      rw [e1, List.getElem?_map] at k1
      rw [e2, List.getElem?_map] at k2
      cases z : ps[i]? with
      | none => rw [z] at k1; cases k1
      | some p =>
        rw [z] at k1 k2
        cases k1
        cases k2
        exact ⟨p.1, p.2.1, rfl, rfl⟩
    · obtain ⟨ob, hb⟩ := e4 x hx
      obtain ⟨o, items, n, ho, hcl, hd, hi⟩ := key_ofF I1.hok hb
      have hlt := Heap.lt_size ho
      exact ⟨o, items, n, hg _ _ (Nat.ne_of_lt (by rw [show ({ s1 with heap := h' } : Shared).heap.objs.size = s1.heap.objs.size + 5 from a6]; exact Nat.lt_of_lt_of_le hlt (Nat.le_add_right _ _))) (old hlt) (hk' _ _ ho), hcl, hd, hi⟩
    · rw [stored_all ps [] (by simpa using ndk), List.nil_append] at hd
      obtain ⟨o, es, ep, ho, hx, hdat, he, _, _⟩ := hd
      have hes : es = (ps.map fun p => (⟨cl.hs p.1, .ref p.2.1, p.2.2⟩ : DictEntry)).toArray := by
        rw [hc.hs, ← Array.toArray_toList (xs := es), he]
        rfl
      have k9 : ∀ b u, s1.heap.get? b = some u → g.get? b = some u := fun b u q => hkg _ _ (old (Heap.lt_size q)) (hk' _ _ q)
      have hle : s1.heap.objs.size ≤ h'.objs.size := by omega
      have I2 := I1.laid (t' := tk) (o := .ext (DTφ (ps.map fun p => (⟨cl.hs p.1, .ref p.2.1, p.2.2⟩ : DictEntry)) h'.objs.size)) k9 hle ⟨⟨o, ep, ho, hx, by rw [hdat, hes]⟩, ⟨o, ho⟩, fun h1 h2 ⟨o, ep, a, b, c⟩ st => ⟨o, ep, st _ a, b, c⟩⟩
      have hf := I1.hok.fresh hle
      refine ⟨.ref h'.objs.size, _, I2, rfl, q _ _ (x1.trans (Ex.newF hf)) (m1.newF hf) (.dt upd_same ?_ (m1.fr hf) ?_)⟩
      · rw [List.map_fst_zip (Nat.le_of_eq hl)]
        exact nd
      · exact e5.ext (Ex.newF hf)
  rcases hq with hq | hq
  · obtain ⟨its, rv, pl, hz⟩ := I1.list hq
    exact go false its pl.isList rv hz
  · obtain ⟨its, rv, pl, hz⟩ := I1.tuple hq
    exact go true its pl rv hz
end
end Dz
/-! Dz19: the small syntax beside the text: a look that is computed. -/
namespace Dz
open PySem PySem.Spec PyProof.Rows L2

/-! ### views of expressions -/
def asName : Expr → Option Str
  | .Name x _ => some x
  | _ => none
def asCon : Expr → Option Const
  | .Constant c _ _ => some c
  | _ => none
def asBin : Expr → Option (Expr × Operator × Expr)
  | .BinOp a o b _ => some (a, o, b)
  | _ => none
def asNeg : Expr → Option Expr
  | .UnaryOp .USub a _ => some a
  | _ => none
def asNot : Expr → Option Expr
  | .UnaryOp .Not a _ => some a
  | _ => none
def asCmp : Expr → Option (Expr × CmpOp × Expr)
  | .Compare a [o] [b] _ => some (a, o, b)
  | _ => none
def asCmp2 : Expr → Option (Expr × CmpOp × CmpOp × Expr × Expr)
  | .Compare a [o, q] [b, c] _ => some (a, o, q, b, c)
  | _ => none
/-- a and (b ..), what is behind the first as one -/
def asBool : Expr → Option (BoolOp × Expr × Expr × List Expr × Pos)
  | .BoolOp op (a :: b :: r) p => some (op, a, b, r, p)
  | _ => none
def asIf : Expr → Option (Expr × Expr × Expr)
  | .IfExp c a b _ => some (c, a, b)
  | _ => none
def asTup : Expr → Option (List Expr)
  | .Tuple es _ _ => some es
  | _ => none
def asLst : Expr → Option (List Expr)
  | .List es _ => some es
  | _ => none
def asDict : Expr → Option (List (Option Expr) × List Expr)
  | .Dict ks vs _ => some (ks, vs)
  | _ => none
def asSub : Expr → Option (Expr × Expr)
  | .Subscript a b _ => some (a, b)
  | _ => none
def asSl : Expr → Option (Expr × Option Expr × Option Expr)
  | .Subscript a (.Slice lo hi none _) _ => some (a, lo, hi)
  | _ => none
def asRev : Expr → Option Expr
  | .Subscript a (.Slice none none (some (.UnaryOp .USub (.Constant (.int 1) _ _) _)) _) _ => some a
  | _ => none
def asAttr : Expr → Option (Expr × Str)
  | .Attribute a f _ => some (a, f)
  | _ => none
/-- f(..) -/
def asCall : Expr → Option (Str × List Expr)
  | .Call (.Name f _) es [] _ => some (f, es)
  | _ => none
def asCallK : Expr → Option (Str × List Keyword)
  | .Call (.Name f _) [] kws _ => some (f, kws)
  | _ => none
/-- o.m(..), written on one line -/
def asMeth : Expr → Option (Expr × Str × List Expr)
  | .Call (.Attribute o m apos) es [] pos => if (apos.endLine == pos.line) = true then some (o, m, es) else none
  | _ => none
def asComp : Expr → Option (Expr × Expr × Expr × List Expr × Scope)
  | .ListComp elt [⟨tg, iter, ifs, 0⟩] scope _ => some (elt, tg, iter, ifs, scope)
  | _ => none
def asStar : Expr → Option Expr
  | .Starred e _ => some e
  | _ => none
section
variable {x a b c : Expr} {es : List Expr}
theorem asName_eq {y : Str} (h : asName x = some y) : ∃ p, x = .Name y p := by
  cases x <;> simp [asName] at h
  subst h; exact ⟨_, rfl⟩
theorem asCon_eq {y : Const} (h : asCon x = some y) : ∃ k p, x = .Constant y k p := by
  cases x <;> simp [asCon] at h
  subst h; exact ⟨_, _, rfl⟩
theorem asBin_eq {o : Operator} (h : asBin x = some (a, o, b)) : ∃ p, x = .BinOp a o b p := by
  cases x <;> simp [asBin] at h
  obtain ⟨rfl, rfl, rfl⟩ := h; exact ⟨_, rfl⟩
theorem asNeg_eq (h : asNeg x = some a) : ∃ p, x = .UnaryOp .USub a p := by
  unfold asNeg at h
  split at h <;> cases h
  exact ⟨_, rfl⟩
theorem asNot_eq (h : asNot x = some a) : ∃ p, x = .UnaryOp .Not a p := by
  unfold asNot at h
  split at h <;> cases h
  exact ⟨_, rfl⟩
theorem asCmp_eq {o : CmpOp} (h : asCmp x = some (a, o, b)) : ∃ p, x = .Compare a [o] [b] p := by
  unfold asCmp at h
  split at h <;> cases h
  exact ⟨_, rfl⟩
theorem asCmp2_eq {o q : CmpOp} (h : asCmp2 x = some (a, o, q, b, c)) : ∃ p, x = .Compare a [o, q] [b, c] p := by
  unfold asCmp2 at h
  split at h <;> cases h
  exact ⟨_, rfl⟩
theorem asBool_eq {o : BoolOp} {p : Pos} (h : asBool x = some (o, a, b, es, p)) : x = .BoolOp o (a :: b :: es) p := by
  unfold asBool at h
  split at h <;> cases h
  rfl
theorem asIf_eq (h : asIf x = some (c, a, b)) : ∃ p, x = .IfExp c a b p := by
  unfold asIf at h
  split at h <;> cases h
  exact ⟨_, rfl⟩
theorem asTup_eq (h : asTup x = some es) : ∃ k p, x = .Tuple es k p := by
  unfold asTup at h
  split at h <;> cases h
  exact ⟨_, _, rfl⟩
theorem asLst_eq (h : asLst x = some es) : ∃ p, x = .List es p := by
  unfold asLst at h
  split at h <;> cases h
  exact ⟨_, rfl⟩
theorem asDict_eq {ks : List (Option Expr)} (h : asDict x = some (ks, es)) : ∃ p, x = .Dict ks es p := by
  unfold asDict at h
  split at h <;> cases h
  exact ⟨_, rfl⟩
theorem asSub_eq (h : asSub x = some (a, b)) : ∃ p, x = .Subscript a b p := by
  unfold asSub at h
  split at h <;> cases h
  exact ⟨_, rfl⟩
theorem asSl_eq {lo hi : Option Expr} (h : asSl x = some (a, lo, hi)) : ∃ p p2, x = .Subscript a (.Slice lo hi none p2) p := by
  unfold asSl at h
  split at h <;> cases h
  exact ⟨_, _, rfl⟩
theorem asRev_eq (h : asRev x = some a) : ∃ k p1 p2 p3 p, x = .Subscript a (.Slice none none (some (.UnaryOp .USub (.Constant (.int 1) k p1) p2)) p3) p := by
  unfold asRev at h
  split at h <;> cases h
  exact ⟨_, _, _, _, _, rfl⟩
theorem asAttr_eq {f : Str} (h : asAttr x = some (a, f)) : ∃ p, x = .Attribute a f p := by
  unfold asAttr at h
  split at h <;> cases h
  exact ⟨_, rfl⟩
theorem asCall_eq {f : Str} (h : asCall x = some (f, es)) : ∃ p p2, x = .Call (.Name f p) es [] p2 := by
  unfold asCall at h
  split at h <;> cases h
  exact ⟨_, _, rfl⟩
theorem asCallK_eq {f : Str} {kws : List Keyword} (h : asCallK x = some (f, kws)) : ∃ p p2, x = .Call (.Name f p) [] kws p2 := by
  unfold asCallK at h
  split at h <;> cases h
  exact ⟨_, _, rfl⟩
theorem asMeth_eq {m : Str} (h : asMeth x = some (a, m, es)) : ∃ p p2, x = .Call (.Attribute a m p) es [] p2 ∧ (p.endLine == p2.line) = true := by
  unfold asMeth at h
  split at h
  · split at h
    · cases h
      exact ⟨_, _, rfl, by assumption⟩
    · cases h
  · cases h
theorem asComp_eq {sc : Scope} {tg iter elt : Expr} {ifs : List Expr} (h : asComp x = some (elt, tg, iter, ifs, sc)) : ∃ p, x = .ListComp elt [⟨tg, iter, ifs, 0⟩] sc p := by
  unfold asComp at h
  split at h <;> cases h
  exact ⟨_, rfl⟩
theorem asStar_eq (h : asStar x = some a) : ∃ p, x = .Starred a p := by
  unfold asStar at h
  split at h <;> cases h
  exact ⟨_, rfl⟩
end
/-! ### names -/
def visB (sc : Scope) (x : Str) : Bool := match sc.names.lookup x with
  | some .local => true
  | some .cell => true
  | some .free => true
  | _ => false
theorem visB_ok {sc : Scope} {x : Str} (h : visB sc x = true) : Vis sc x := by
  unfold visB at h
  unfold Vis
  split at h
  · exact .inl (by assumption)
  · exact .inr (.inl (by assumption))
  · exact .inr (.inr (by assumption))
  · cases h
def glB (sc : Scope) (x : Str) : Bool := match sc.names.lookup x with
  | some .globalImplicit => true
  | _ => false
theorem glB_ok {X : Cx} {x : Str} (h : glB X.env.scope x = true) : Gl X x := by
  unfold glB at h
  split at h
  · assumption
  · cases h
/-- the name is no built-in word of the machine's own -/
def plN (x : Str) : Bool := !(x == ("__debug__" : Str)) && !(x == ("__classdict__" : Str))
theorem plN_ok {x : Str} (h : plN x = true) : (x == ("__debug__" : Str)) = false ∧ (x == ("__classdict__" : Str)) = false := by
  unfold plN at h
  rw [Bool.and_eq_true, Bool.not_eq_true', Bool.not_eq_true'] at h
  exact h
/-- no super() ahead of a dot -/
def nsB : Expr → Bool
  | .Call (.Name _ _) [] [] _ => false
  | _ => true
theorem nsB_ok {e : Expr} {f : Str} {env : Env} {t : Sem Value} (h : nsB e = true) : attributeBase e f env t = t := by
  unfold attributeBase
  cases e <;> try rfl
  rename_i fn args kws p
  cases fn <;> try rfl
  cases args with
  | cons x y => rfl
  | nil =>
    cases kws with
    | cons x y => rfl
    | nil => cases h
def notSet : Expr → Bool
  | .Set .. => false
  | _ => true
theorem notSet_ok {e : Expr} {env : Env} (h : notSet e = true) : ∀ x, foldedSetIterable e env x = pure x := by
  intro x
  cases e <;> first | rfl | cases h
theorem mark_ok {e : Expr} {op : CmpOp} (h : notSet e = true) : behindInMarks op e = false := by
  cases e <;> first | rfl | cases h
theorem marks_ok {a b : Expr} {o p : CmpOp} (h : notSet b = true) : lastMarks [o, p] [a, b] = false := by
  show behindInMarks p b = false
  exact mark_ok h
/-- what is looked at as a test -/
def plainT : Expr → Bool
  | .UnaryOp .Not _ _ => false
  | .BoolOp .. => false
  | .IfExp .. => false
  | .Compare .. => false
  | _ => true
theorem plainT_ok {e : Expr} {env : Env} (h : plainT e = true) : ∀ whole, isTrue e env whole = (do let v ← whole; standAt e.pos; holding [v] (truthy v)) := by
  intro whole
  cases e <;> first | rfl | cases h | skip
  rename_i op a p
  cases op <;> first | rfl | cases h
/-- a value that is no comprehension -/
def noComp : Expr → Bool
  | .ListComp .. => false
  | .SetComp .. => false
  | .DictComp .. => false
  | _ => true
theorem noComp_ok {e : Expr} {t : Option Expr} {l : Nat} {env : Env} (h : noComp e = true) : swapsWith e t l env = pure false := by
  cases e <;> first | rfl | cases h
end Dz
/-! Dz20: the look, computed; expressions are as they are read. -/
namespace Dz
open PySem PySem.Spec PyProof.Rows L2

structure Ck where
  N : List Str
  flds : List (Str × Str)
  cs : List Str
  fk : List (Str × List Str)
  kn : List (Str × Str)
/-- the built-in names that may be met -/
def biAll : List Str := ["len", "abs", "int", "str", "repr", "min", "max", "sum", "any", "all", "tuple", "list", "sorted", "isinstance", "range", "enumerate", "zip", "bool", "dict"]
def nost (es : List Expr) : Bool := es.all fun e => !isStar e
def ckT : E → Expr → Bool
  | .cmp .., _ => true
  | .cmp2 .., _ => true
  | .not a, x => match asNot x with
    | some y => ckT a y
    | none => false
  | .and a b, x => match asBool x with
    | some (_, y, z, r, p) => ckT a y && ckT b (if r.isEmpty then z else .BoolOp .And (z :: r) p)
    | none => false
  | .or a b, x => match asBool x with
    | some (_, y, z, r, p) => ckT a y && ckT b (if r.isEmpty then z else .BoolOp .Or (z :: r) p)
    | none => false
  | _, x => plainT x
def ckTgC (K : Ck) (vs : List Nat) (sc : Scope) : Tg → Expr → Bool
  | .name i, x => match asName x with
    | some y => decide (K.N[i]? = some y) && decide (sc.names.lookup y = some .local) && vs.contains i
    | none => false
  | .tup ts, x => match asTup x with
    | some es => nost es && go ts es
    | none => false
  | _, _ => false
where go : Tgs → List Expr → Bool
  | .nil, [] => true
  | .cons t ts, e :: es => (match t with
    | .name i => (match asName e with
      | some y => decide (K.N[i]? = some y) && decide (sc.names.lookup y = some .local) && vs.contains i
      | none => false)
    | _ => false) && go ts es
  | _, _ => false
/-- a comprehension's own names -/
def ownOf (N : List Str) (vs : List Nat) : List (Str × Nat) := vs.filterMap fun i => (N[i]?).map fun x => (x, i)
mutual
def ckE (K : Ck) : E → Scope → Expr → Bool
  | .var i, sc, x => match asName x with
    | some y => decide (K.N[i]? = some y) && visB sc y && plN y
    | none => false
  | .cst c, sc, x => match c, asCon x with
    | .non, some .none => true
    | .bl b, some (.bool d) => decide (b = d)
    | .int i, some (.int j) => decide (i = j)
    | .str y, some (.str z) => decide (y = z) && okS y
    | _, _ => false
  | .glob y, sc, x => match asName x with
    | some z => decide (y = z) && glB sc y && plN y
    | none => false
  | .bin op own a b, sc, x => match asBin x with
    | some (y, o, z) => decide (op = o) && ckE K a sc y && ckE K b sc z
    | none => false
  | .neg a, sc, x => match asNeg x with
    | some y => ckE K a sc y
    | none => false
  | .cmp op a b, sc, x => match asCmp x with
    | some (y, o, z) => decide (op = o) && ckE K a sc y && ckE K b sc z && notSet z
    | none => false
  | .cmp2 o q a b c, sc, x => match asCmp2 x with
    | some (y, o', q', z, w) => decide (o = o') && decide (q = q') && ckE K a sc y && ckE K b sc z && ckE K c sc w && notSet w
    | none => false
  | .not a, sc, x => match asNot x with
    | some y => ckE K a sc y
    | none => false
  | .and a b, sc, x => match asBool x with
    | some (o, y, z, r, p) => decide (o = .And) && ckE K a sc y && ckE K b sc (if r.isEmpty then z else .BoolOp .And (z :: r) p)
    | none => false
  | .or a b, sc, x => match asBool x with
    | some (o, y, z, r, p) => decide (o = .Or) && ckE K a sc y && ckE K b sc (if r.isEmpty then z else .BoolOp .Or (z :: r) p)
    | none => false
  | .ite c a b, sc, x => match asIf x with
    | some (w, y, z) => ckE K c sc w && ckT c w && ckE K a sc y && ckE K b sc z
    | none => false
  | .tup es, sc, x => match asTup x with
    | some xs => ckEs K es sc xs
    | none => false
  | .lst own es, sc, x => match asLst x with
    | some xs => ckEs K es sc xs
    | none => false
  | .dict own kvs, sc, x => match asDict x with
    | some (ks, vs) => ckKvs K kvs sc ks vs && decide (ks.length ≤ 15)
    | none => false
  | .ix a i, sc, x => match asSub x with
    | some (y, z) => ckE K a sc y && ckE K i sc z && !isSlice z
    | none => false
  | .sl own a lo hi, sc, x => match asSl x with
    | some (y, l, h) => ckE K a sc y && ckOe K lo sc l && ckOe K hi sc h
    | none => false
  | .rev own a, sc, x => match asRev x with
    | some y => ckE K a sc y
    | none => false
  | .fld c a f, sc, x => match asAttr x with
    | some (y, g) => decide (f = g) && K.flds.contains (c, f) && ckE K a sc y && nsB y
    | none => false
  | .prop c a f, sc, x => match asAttr x with
    | some (y, g) => decide (f = g) && ckE K a sc y && nsB y && K.kn.contains (c, f)
    | none => false
  | .call f es, sc, x => match asCall x with
    | some (g, xs) => decide (f = g) && glB sc f && plN f && nost xs && ckEs K es sc xs && K.kn.contains (("" : Str), f)
    | none => false
  | .callk f es ks kes, sc, x => match asCallK x with
    | some (g, kws) => decide (f = g) && glB sc f && plN f && (match es with | .nil => true | _ => false) && kws.all (fun k => k.arg.isSome) && decide (K.fk.lookup f = some (kws.filterMap (·.arg))) && ckKw K kes sc kws && K.kn.contains (("" : Str), f)
    | none => false
  | .mk c es, sc, x => match asCall x with
    | some (g, xs) => decide (c = g) && glB sc c && plN c && nost xs && ckEs K es sc xs && K.kn.contains (("new" : Str), c)
    | none => false
  | .meth c o m es, sc, x => match asMeth x with
    | some (y, g, xs) => decide (m = g) && nsB y && nost xs && decide (xs.length < 29) && ckE K o sc y && ckEs K es sc xs && K.kn.contains (c, m)
    | none => false
  | .bi f own es, sc, x => match asCall x with
    | some (g, xs) => decide (biName f = g) && glB sc g && nost xs && !xs.isEmpty && ckEs K es sc xs
    | none => false
  | .isb a t, sc, x => match asCall x with
    | some (g, [y, z]) => decide (g = ("isinstance" : Str)) && glB sc g && decide (asName z = some (btN t)) && glB sc (btN t) && !isStar y && ckE K a sc y
    | _ => false
  | .isc a c, sc, x => match asCall x with
    | some (g, [y, z]) => decide (g = ("isinstance" : Str)) && glB sc g && decide (asName z = some c) && glB sc c && plN c && K.cs.contains c && !isStar y && ckE K a sc y
    | _ => false
  | .bm f own o es, sc, x => match asMeth x with
    | some (y, g, xs) => decide (bmName f = g) && nsB y && nost xs && decide (xs.length < 29) && ckE K o sc y && ckEs K es sc xs
    | none => false
  | .lr1 own a, sc, x => match asCall x with
    | some (g, [y]) => (match asCall y with
      | some (g2, [z]) => decide (g = ("list" : Str)) && glB sc g && decide (g2 = ("range" : Str)) && glB sc g2 && !isStar z && ckE K a sc z
      | _ => false)
    | _ => false
  | .lr2 own a b, sc, x => match asCall x with
    | some (g, [y]) => (match asCall y with
      | some (g2, [z, w]) => decide (g = ("list" : Str)) && glB sc g && decide (g2 = ("range" : Str)) && glB sc g2 && !isStar z && !isStar w && ckE K a sc z && ckE K b sc w
      | _ => false)
    | _ => false
  | .comp own vs t e c s, sc, x => match asComp x with
    | some (elt, tg, iter, ifs, sc2) => blkC K.N sc sc2 (ownOf K.N vs) && decide ((ownOf K.N vs).map (·.2) = vs) && notSet iter && ckSrc K s sc tg iter && ckTgC K vs (relS sc2 sc) t tg && ckC K c (relS sc2 sc) ifs && ckE K e (relS sc2 sc) elt
    | none => false
  | .dzip a b, sc, x => match asCall x with
    | some (g, [y]) => (match asCall y with
      | some (g2, [z, w]) => decide (g = ("dict" : Str)) && glB sc g && decide (g2 = ("zip" : Str)) && glB sc g2 && !isStar z && !isStar w && ckE K a sc z && ckE K b sc w
      | _ => false)
    | _ => false
  | .srtk .., _, _ => false
  | .frz e, sc, x => ckE K e sc x
def ckEs (K : Ck) : Es → Scope → List Expr → Bool
  | .nil, _, xs => xs.isEmpty
  | .cons star e r, sc, xs => match xs with
    | x :: xs => (if star then (match asStar x with
      | some y => ckE K e sc y
      | none => false) else !isStar x && ckE K e sc x) && ckEs K r sc xs
    | [] => false
def ckKw (K : Ck) : Es → Scope → List Keyword → Bool
  | .nil, _, xs => xs.isEmpty
  | .cons star e r, sc, xs => match xs with
    | x :: xs => !star && ckE K e sc x.value && ckKw K r sc xs
    | [] => false
def ckOe (K : Ck) : Oe → Scope → Option Expr → Bool
  | .no, _, x => x.isNone
  | .yes e, sc, x => match x with
    | some y => ckE K e sc y
    | none => false
def ckC (K : Ck) : Oe → Scope → List Expr → Bool
  | .no, _, x => x.isEmpty
  | .yes e, sc, x => match x with
    | [y] => ckE K e sc y && ckT e y
    | _ => false
def ckKvs (K : Ck) : Kvs → Scope → List (Option Expr) → List Expr → Bool
  | .nil, _, ks, vs => ks.isEmpty && vs.isEmpty
  | .cons k v r, sc, ks, vs => match ks, vs with
    | some y :: ks, z :: vs => ckE K k sc y && ckE K v sc z && ckKvs K r sc ks vs
    | _, _ => false
def ckSrc (K : Ck) : Src → Scope → Expr → Expr → Bool
  | .of e, sc, _, x => ckE K e sc x
  | .range es, sc, _, x => match asCall x with
    | some (g, xs) => decide (g = ("range" : Str)) && glB sc g && nost xs && decide (0 < xs.length) && decide (xs.length ≤ 3) && ckEs K es sc xs
    | none => false
  | .enum e, sc, tg, x => match asCall x with
    | some (g, [y]) => decide (g = ("enumerate" : Str)) && glB sc g && !isStar y && (asTup tg).isSome && ckE K e sc y
    | _ => false
  | .zip a b, sc, tg, x => match asCall x with
    | some (g, [y, z]) => decide (g = ("zip" : Str)) && glB sc g && !isStar y && !isStar z && (asTup tg).isSome && ckE K a sc y && ckE K b sc z
    | _ => false
  | .items _, _, _, _ => false
end
mutual
def ckTg (K : Ck) : Tg → Scope → Expr → Bool
  | .name i, sc, x => match asName x with
    | some y => decide (K.N[i]? = some y) && (decide (sc.names.lookup y = some .local) || decide (sc.names.lookup y = some .cell))
    | none => false
  | .tup ts, sc, x => match asTup x with
    | some es => nost es && ckTgs K ts sc es
    | none => false
  | .fld c o f, sc, x => match asAttr x with
    | some (y, g) => decide (f = g) && K.flds.contains (c, f) && ckE K o sc y
    | none => false
  | .sub o i, sc, x => match asSub x with
    | some (y, z) => ckE K o sc y && ckE K i sc z && !isSlice z
    | none => false
def ckTgs (K : Ck) : Tgs → Scope → List Expr → Bool
  | .nil, _, xs => xs.isEmpty
  | .cons t ts, sc, xs => match xs with
    | x :: xs => !isStar x && ckTg K t sc x && ckTgs K ts sc xs
    | [] => false
end
/-- what stands around: globals, defs, classes -/
structure GX (cl : CL) (X : Cx) (G : Sg) (K : Ck) : Prop where
  N : X.N = K.N
  mono : MonoG' G
  gl : ∀ x d, G.gl x = some d → ∃ v u, X.mg x = some u ∧ RelV v u ∧ ∀ S T H, Rp cl S T H d v
  fn : ∀ x sp, K.kn.contains (("" : Str), x) = true → G.fn x = some sp → CalD X cl x sp
  fk : ∀ x sp ps, K.kn.contains (("" : Str), x) = true → G.fn x = some sp → K.fk.lookup x = some ps → CalK X cl x sp ps
  mk0 : ∀ x sp, K.kn.contains (("new" : Str), x) = true → G.mk0 x = some sp → ∃ C, cl.c x = some C ∧ MakD X cl x C sp
  mt : ∀ c m sp, K.kn.contains (c, m) = true → G.mt c m = some sp → ∃ C, cl.c c = some C ∧ MetD X cl C m sp
  pr : ∀ c f sp, K.kn.contains (c, f) = true → G.pr c f = some sp → ∃ C, cl.c c = some C ∧ PrpD X cl C f sp
  flds : ∀ c f, K.flds.contains (c, f) = true → FldOk X cl c f
  cs : ∀ c, K.cs.contains c = true → ∃ C, X.mg c = some (.ref C) ∧ cl.c c = some C ∧ C8.InsC X.K C
  bi : ∀ x ∈ biAll, X.mg x = none
theorem GX.blk {cl : CL} {X : Cx} {G : Sg} {K : Ck} (g : GX cl X G K) {s : Shared} {H : Hp} {scope : Scope} {cenv : Env} {fp : List Addr} : GX cl (X.blk s H scope cenv fp) G K where
  N := g.N
  mono := g.mono
  gl := g.gl
  fn := fun x sp k h => ⟨(g.fn x sp k h).ex⟩
  fk := fun x sp ps k h h2 => ⟨(g.fk x sp ps k h h2).ex⟩
  mk0 := fun x sp k h => let ⟨C, h1, h2⟩ := g.mk0 x sp k h; ⟨C, h1, ⟨h2.ex⟩⟩
  mt := fun c m sp k h => let ⟨C, h1, h2⟩ := g.mt c m sp k h; ⟨C, h1, ⟨h2.ex⟩⟩
  pr := fun c f sp k h => let ⟨C, h1, h2⟩ := g.pr c f sp k h; ⟨C, h1, ⟨h2.ex⟩⟩
  flds := fun c f h => ⟨(g.flds c f h).ex⟩
  cs := g.cs
  bi := g.bi
section
variable {cl : CL} {X : Cx} {G : Sg} {K : Ck}
theorem pe_of {e : Expr} {t t' : TE'} (h : PE' cl X e t) (i : ∀ r S Q, t' r S Q → t r S Q) : PE' cl X e t' := PE.imp h fun s H Q ⟨r, S, T, m, e, q⟩ => ⟨r, S, T, m, e, i _ _ _ q⟩
theorem pt_of {e : Expr} {t t' : TT'} (h : PT' cl X e t) (i : ∀ r S Q, t' r S Q → t r S Q) : PT' cl X e t' := PT.imp h fun s H Q ⟨r, S, T, m, e, q⟩ => ⟨r, S, T, m, e, i _ _ _ q⟩
theorem pw_of {e : Expr} {t t' : TT'} (h : PW' cl X e t) (i : ∀ r S Q, t' r S Q → t r S Q) : PW' cl X e t' := PW.imp h fun s H Q ⟨r, S, T, m, e, q⟩ => ⟨r, S, T, m, e, i _ _ _ q⟩
theorem pa_of {e : List Expr} {t t' : TA'} (h : PA' cl X e t) (i : ∀ r S Q, t' r S Q → t r S Q) : PA' cl X e t' := PA.imp h fun s H Q ⟨r, S, T, m, e, q⟩ => ⟨r, S, T, m, e, i _ _ _ q⟩
theorem pi_of {tg e : Expr} {t t' : TSr} (h : PI' cl X tg e t) (i : ∀ r S Q, t' r S Q → t r S Q) : PI' cl X tg e t' := PI.imp h fun s H Q ⟨r, S, T, m, e, q⟩ => ⟨r, S, T, m, e, i _ _ _ q⟩
theorem pg_of {e : Expr} {t t' : TG'} (h : PG' cl X e t) (i : ∀ d r S Q, t' d r S Q → t d r S Q) : PG' cl X e t' := PG.imp h fun v s H Q ⟨d, r, S, T, m, e, rp, q⟩ => ⟨d, r, S, T, m, e, rp, i _ _ _ _ q⟩
theorem pe_never {e : Expr} {t : TE'} (h : ∀ r S Q, ¬ t r S Q) : PE' cl X e t := ⟨fun pins s σ H Q I ⟨r, S, T, m, e, q⟩ => absurd q (h _ _ _)⟩
/-- a comprehension's target -/
theorem tgC_name {vs : List Nat} {i : Nat} {x : Expr} (hc : XC cl X) (hN : X.N = K.N) (h : (match asName x with
    | some y => decide (K.N[i]? = some y) && decide (X.env.scope.names.lookup y = some .local) && vs.contains i
    | none => false) = true) : PGc cl vs X x (wTg G (.name i)) := by
  split at h
  · rename_i y hy
    rw [Bool.and_eq_true, Bool.and_eq_true, decide_eq_true_eq, decide_eq_true_eq] at h
    obtain ⟨p, rfl⟩ := asName_eq hy
    have := gc_name (pos := p) (vs := vs) hc (by rw [hN]; exact h.1.1) (.inl h.1.2) (.inr h.1.2) (by simpa using h.2)
    exact PG.imp this fun v s H Q ⟨d, r, S, T, m, e, rp, q⟩ => ⟨d, r, S, T, m, e, rp, by simpa only [wTg] using q⟩
  · cases h
theorem tgC_go {vs : List Nat} (hc : XC cl X) (hN : X.N = K.N) (hG : MonoG' G) : ∀ (ts : Tgs) (es : List Expr), ckTgC.go K vs X.env.scope ts es = true → nost es = true → PGs X es (trGsc cl vs (wTgs G ts)) ∧ tgsLen ts = es.length
  | .nil, [], _, _ => ⟨PGs.imp gc_nil fun ws s H Q ⟨ds, r, S, T, m, e, rl, q⟩ => ⟨ds, r, S, T, m, e, rl, by simpa only [wTgs] using q⟩, rfl⟩
  | .nil, _ :: _, h, _ => by simp [ckTgC.go] at h
  | .cons t ts, [], h, _ => by simp [ckTgC.go] at h
  | .cons t ts, e :: es, h, hs => by
    simp only [ckTgC.go, Bool.and_eq_true] at h
    have hs' : isStar e = false ∧ nost es = true := by
      unfold nost at hs ⊢
      rw [List.all_cons, Bool.and_eq_true, Bool.not_eq_true'] at hs
      exact hs
    obtain ⟨h1, h2⟩ := tgC_go hc hN hG ts es h.2 hs'.2
    cases t with
    | name i =>
      have g1 : PGc cl vs X e (wTg G (.name i)) := tgC_name hc hN h.1
      exact ⟨PGs.imp (gc_cons (wTg_mono hG _) (wTgs_mono hG ts) g1 h1 hs'.1) fun ws s H Q ⟨ds, r, S, T, m, e, rl, q⟩ => ⟨ds, r, S, T, m, e, rl, by simpa only [wTgs] using q⟩, by
        rw [List.length_cons, ← h2]
        rfl⟩
    | _ => cases h.1
theorem tgC_ok {vs : List Nat} (hc : XC cl X) (hN : X.N = K.N) (hG : MonoG' G) : ∀ (t : Tg) (x : Expr), ckTgC K vs X.env.scope t x = true → PGc cl vs X x (wTg G t)
  | .name i, x, h => tgC_name hc hN (by simpa only [ckTgC] using h)
  | .tup ts, x, h => by
    simp only [ckTgC] at h
    split at h
    · rename_i es hx
      obtain ⟨k, p, rfl⟩ := asTup_eq hx
      rw [Bool.and_eq_true] at h
      obtain ⟨h1, h2⟩ := tgC_go hc hN hG ts es h.2 h.1
      exact PG.imp (gc_tup hc h1 h2 h.1) fun v s H Q ⟨d, r, S, T, m, e, rp, q⟩ => ⟨d, r, S, T, m, e, rp, by simpa only [wTg] using q⟩
    · cases h
  | .fld .., x, h => by simp [ckTgC] at h
  | .sub .., x, h => by simp [ckTgC] at h
end
end Dz
/-! Dz21: what passes the look is as it is read. -/
namespace Dz
open PySem PySem.Spec PyProof.Rows L2

variable {cl : CL} {G : Sg} {K : Ck}
theorem bi_mem (f : Bi) : biName f ∈ biAll := by cases f <;> decide +kernel
theorem bt_mem (t : BT) : btN t ∈ biAll := by cases t <;> decide +kernel
def trsOf (G : Sg) : Kvs → List (TE' × TE')
  | .nil => []
  | .cons k v r => (wE G k, wE G v) :: trsOf G r
theorem wKvs_eq : ∀ (k : Kvs) (r : Rho) (S : Sto) (Q : List (D × D) → Sto → Prop), wKvs G k r S Q = wPr (trsOf G k) r S Q
  | .nil, r, S, Q => by simp only [wKvs]; rfl
  | .cons k v ks, r, S, Q => by
    simp only [wKvs, wKvs_eq ks]
    rfl
theorem trs_mono (hG : MonoG' G) : ∀ (k : Kvs), ∀ p ∈ trsOf G k, MonoE p.1 ∧ MonoE p.2
  | .nil, p, h => nomatch h
  | .cons k v r, p, h => by
    rcases List.mem_cons.mp h with e | h
    · subst e
      exact ⟨wE_mono hG k, wE_mono hG v⟩
    · exact trs_mono hG r p h
theorem nost_cons {e : Expr} {es : List Expr} (h : nost (e :: es) = true) : isStar e = false ∧ nost es = true := by
  unfold nost at h ⊢
  rw [List.all_cons, Bool.and_eq_true, Bool.not_eq_true'] at h
  exact h
theorem ckEs_len : ∀ (es : Es) (sc : Scope) (xs : List Expr) (r : Rho) (S : Sto) (Q : List D → Sto → Prop), ckEs K es sc xs = true → nost xs = true → MonoG' G → wEs G es r S Q → wEs G es r S fun ds S1 => ds.length = xs.length ∧ Q ds S1
  | .nil, sc, xs, r, S, Q, h, hs, hG, q => by
    simp only [ckEs, List.isEmpty_iff] at h
    subst h
    simp only [wEs] at q ⊢
    exact ⟨rfl, q⟩
  | .cons star e es, sc, [], r, S, Q, h, hs, hG, q => by simp [ckEs] at h
  | .cons star e es, sc, x :: xs, r, S, Q, h, hs, hG, q => by
    simp only [ckEs, Bool.and_eq_true] at h
    obtain ⟨h1, h2⟩ := nost_cons hs
    cases star with
    | true =>
      exfalso
      have h3 := h.1
      rw [if_pos rfl] at h3
      split at h3
      · rename_i y hy
        obtain ⟨p, rfl⟩ := asStar_eq hy
        cases h1
      · cases h3
    | false =>
      simp only [wEs, Bool.false_eq_true, if_false] at q ⊢
      exact wE_mono hG e _ _ _ _ (fun d S1 q => wEs_mono hG es _ _ _ _ (fun ds S2 ⟨hl, q⟩ => ⟨by rw [List.length_cons, List.length_cons, hl], q⟩) (ckEs_len es sc xs r S1 _ h.2 h2 hG q)) q
theorem withT {X : Cx} {x : Expr} {e : E} (mA : MonoE (wE G e)) (pe : PE' cl X x (wE G e)) (hp : ckT e x = true → plainT x = true) :
    PE' cl X x (wE G e) ∧ (ckT e x = true → PT' cl X x (tst (wE G e)) ∧ ∀ op vs p, x = .BoolOp op vs p → PW' cl X x (tst (wE G e))) :=
  ⟨pe, fun ht => ⟨t_val mA pe (plainT_ok (hp ht)), fun op vs p ex => by
    have h := hp ht
    rw [ex] at h
    cases h⟩⟩
mutual
theorem okE : ∀ (e : E) (X : Cx) (x : Expr), XC cl X → GX cl X G K → ckE K e X.env.scope x = true → PE' cl X x (wE G e) ∧ (ckT e x = true → PT' cl X x (tst (wE G e)) ∧ ∀ op vs p, x = .BoolOp op vs p → PW' cl X x (tst (wE G e)))
  | .var i, X, x, hc, g, h => withT (wE_mono g.mono _) (by
    simp only [ckE] at h
    split at h
    · rename_i y hy
      obtain ⟨p, rfl⟩ := asName_eq hy
      simp only [Bool.and_eq_true, decide_eq_true_eq] at h
      exact pe_of (q_var (by rw [g.N]; exact h.1.1) (visB_ok h.1.2) (plN_ok h.2).1 (plN_ok h.2).2) fun r S Q q => by (simp only [wE] at q; exact q)
    · cases h) (fun ht => by simpa only [ckT] using ht)
  | .cst c, X, x, hc, g, h => withT (wE_mono g.mono _) (by
    simp only [ckE] at h
    split at h
    · rename_i hx
      obtain ⟨k, p, rfl⟩ := asCon_eq hx
      exact pe_of (q_con pe_non fun _ _ _ => .non) fun r S Q q => by simpa only [wE, Cst.d] using q
    · rename_i hx
      obtain ⟨k, p, rfl⟩ := asCon_eq hx
      rw [decide_eq_true_eq] at h
      subst h
      exact pe_of (q_con pe_bl fun _ _ _ => .bl _) fun r S Q q => by simpa only [wE, Cst.d] using q
    · rename_i hx
      obtain ⟨k, p, rfl⟩ := asCon_eq hx
      rw [decide_eq_true_eq] at h
      subst h
      exact pe_of (q_con pe_int fun _ _ _ => .int _) fun r S Q q => by simpa only [wE, Cst.d] using q
    · rename_i hx
      obtain ⟨k, p, rfl⟩ := asCon_eq hx
      rw [Bool.and_eq_true, decide_eq_true_eq] at h
      obtain ⟨h1, h2⟩ := h
      subst h1
      exact pe_of (q_con pe_str fun _ _ _ => .str _ h2) fun r S Q q => by simpa only [wE, Cst.d] using q
    · cases h) (fun ht => by simpa only [ckT] using ht)
  | .glob y, X, x, hc, g, h => withT (wE_mono g.mono _) (by
    simp only [ckE] at h
    split at h
    · rename_i z hz
      obtain ⟨p, rfl⟩ := asName_eq hz
      simp only [Bool.and_eq_true, decide_eq_true_eq] at h
      obtain ⟨⟨h1, h2⟩, h3⟩ := h
      subst h1
      cases hd : G.gl y with
      | none => exact pe_never fun r S Q q => by simp [wE, hd] at q
      | some d =>
        obtain ⟨v, u, hm, rv, rp⟩ := g.gl y d hd
        exact pe_of (q_glob (glB_ok h2) hm rv rp (plN_ok h3).1) fun r S Q q => by
          simp only [wE, hd] at q
          obtain ⟨d', e, q⟩ := q
          cases e
          exact q
    · cases h) (fun ht => by simpa only [ckT] using ht)
  | .bin op own a b, X, x, hc, g, h => withT (wE_mono g.mono _) (by
    simp only [ckE] at h
    split at h
    · rename_i y o z hx
      obtain ⟨p, rfl⟩ := asBin_eq hx
      simp only [Bool.and_eq_true, decide_eq_true_eq] at h
      obtain ⟨⟨h1, h2⟩, h3⟩ := h
      subst h1
      exact pe_of (q_bin op own (wE_mono g.mono a) (wE_mono g.mono b) (okE a X y hc g h2).1 (okE b X z hc g h3).1) fun r S Q q => by (simp only [wE] at q; exact q)
    · cases h) (fun ht => by simpa only [ckT] using ht)
  | .neg a, X, x, hc, g, h => withT (wE_mono g.mono _) (by
    simp only [ckE] at h
    split at h
    · rename_i y hx
      obtain ⟨p, rfl⟩ := asNeg_eq hx
      exact pe_of (q_neg (wE_mono g.mono a) (okE a X y hc g h).1) fun r S Q q => by (simp only [wE] at q; exact q)
    · cases h) (fun ht => by simpa only [ckT] using ht)
  | .cmp op a b, X, x, hc, g, h => by
    refine ⟨?_, fun ht => ?_⟩
    · skip
      simp only [ckE] at h
      split at h
      · rename_i y o z hx
        obtain ⟨p, rfl⟩ := asCmp_eq hx
        simp only [Bool.and_eq_true, decide_eq_true_eq] at h
        obtain ⟨⟨⟨h1, h2⟩, h3⟩, h4⟩ := h
        subst h1
        exact pe_of (q_cmp hc op (wE_mono g.mono a) (wE_mono g.mono b) (okE a X y hc g h2).1 (okE b X z hc g h3).1 (mark_ok h4)) fun r S Q q => by
          simp only [wE] at q
          exact q
      · cases h
    · skip
      simp only [ckE] at h
      split at h
      · rename_i y o z hx
        obtain ⟨p, rfl⟩ := asCmp_eq hx
        simp only [Bool.and_eq_true, decide_eq_true_eq] at h
        obtain ⟨⟨⟨h1, h2⟩, h3⟩, h4⟩ := h
        subst h1
        exact ⟨pt_of (t_cmp hc op (wE_mono g.mono a) (wE_mono g.mono b) (okE a X y hc g h2).1 (okE b X z hc g h3).1 (mark_ok h4)) fun r S Q q => by simpa only [wE, tst] using q, fun _ _ _ e => by cases e⟩
      · cases h
  | .cmp2 o q a b c, X, x, hc, g, h => by
    refine ⟨?_, fun ht => ?_⟩
    · skip
      simp only [ckE] at h
      split at h
      · rename_i y o' q' z w hx
        obtain ⟨p, rfl⟩ := asCmp2_eq hx
        simp only [Bool.and_eq_true, decide_eq_true_eq] at h
        obtain ⟨⟨⟨⟨⟨h1, h2⟩, h3⟩, h4⟩, h5⟩, h6⟩ := h
        subst h1 h2
        exact pe_of (q_chain hc o q (wE_mono g.mono a) (wE_mono g.mono b) (wE_mono g.mono c) (okE a X y hc g h3).1 (okE b X z hc g h4).1 (okE c X w hc g h5).1 (marks_ok h6)) fun r S Q q => by
          simp only [wE] at q
          exact q
      · cases h
    · skip
      simp only [ckE] at h
      split at h
      · rename_i y o' q' z w hx
        obtain ⟨p, rfl⟩ := asCmp2_eq hx
        simp only [Bool.and_eq_true, decide_eq_true_eq] at h
        obtain ⟨⟨⟨⟨⟨h1, h2⟩, h3⟩, h4⟩, h5⟩, h6⟩ := h
        subst h1 h2
        exact ⟨pt_of (t_chain hc o q (wE_mono g.mono a) (wE_mono g.mono b) (wE_mono g.mono c) (okE a X y hc g h3).1 (okE b X z hc g h4).1 (okE c X w hc g h5).1 (marks_ok h6)) fun r S Q q => by simpa only [wE, tst] using q, fun _ _ _ e => by cases e⟩
      · cases h
  | .not a, X, x, hc, g, h => by
    refine ⟨?_, fun ht => ?_⟩
    · skip
      simp only [ckE] at h
      split at h
      · rename_i y hx
        obtain ⟨p, rfl⟩ := asNot_eq hx
        exact pe_of (q_not (wE_mono g.mono a) (okE a X y hc g h).1) fun r S Q q => by
          simp only [wE] at q
          exact q
      · cases h
    · skip
      simp only [ckE] at h
      simp only [ckT] at ht
      split at h
      · rename_i y hx
        rw [hx] at ht
        obtain ⟨p, rfl⟩ := asNot_eq hx
        exact ⟨pt_of (t_not (wE_mono g.mono a) ((okE a X y hc g h).2 ht).1) fun r S Q q => by simpa only [wE, tst] using q, fun _ _ _ e => by cases e⟩
      · cases h
  | .and a b, X, x, hc, g, h => by
    refine ⟨?_, fun ht => ?_⟩
    · skip
      simp only [ckE] at h
      split at h
      · rename_i o y z r p hx
        have hx := asBool_eq hx
        subst hx
        simp only [Bool.and_eq_true, decide_eq_true_eq] at h
        obtain ⟨⟨h1, h2⟩, h3⟩ := h
        subst h1
        have hb : PE' cl X (.BoolOp .And (z :: r) p) (wE G b) := by
          have := (okE b X _ hc g h3).1
          cases r with
          | nil => exact pe_one this
          | cons w r => exact this
        exact pe_of (q_and (wE_mono g.mono a) (wE_mono g.mono b) (okE a X y hc g h2).1 hb) fun r S Q q => by
          simp only [wE] at q
          exact q
      · cases h
    · skip
      simp only [ckE] at h
      simp only [ckT] at ht
      split at h
      · rename_i o y z r p hx
        rw [hx] at ht
        have hx := asBool_eq hx
        subst hx
        simp only [Bool.and_eq_true, decide_eq_true_eq] at h ht
        obtain ⟨⟨h1, h2⟩, h3⟩ := h
        subst h1
        have hb : PW' cl X (.BoolOp .And (z :: r) p) (tst (wE G b)) := by
          have := (okE b X _ hc g h3).2 ht.2
          cases r with
          | nil => exact pw_and1 this.1
          | cons w r => exact this.2 _ _ _ rfl
        have hw : PW' cl X (.BoolOp .And (y :: z :: r) p) (tst (wE G (.and a b))) := pw_of (t_and (wE_mono g.mono a) (wE_mono g.mono b) ((okE a X y hc g h2).2 ht.1).1 hb) fun r S Q q => by
          simp only [wE, tst] at q ⊢
          exact q
        exact ⟨hw.pt, fun _ _ _ _ => hw⟩
      · cases h
  | .or a b, X, x, hc, g, h => by
    refine ⟨?_, fun ht => ?_⟩
    · skip
      simp only [ckE] at h
      split at h
      · rename_i o y z r p hx
        have hx := asBool_eq hx
        subst hx
        simp only [Bool.and_eq_true, decide_eq_true_eq] at h
        obtain ⟨⟨h1, h2⟩, h3⟩ := h
        subst h1
        have hb : PE' cl X (.BoolOp .Or (z :: r) p) (wE G b) := by
          have := (okE b X _ hc g h3).1
          cases r with
          | nil => exact pe_one this
          | cons w r => exact this
        exact pe_of (q_or (wE_mono g.mono a) (wE_mono g.mono b) (okE a X y hc g h2).1 hb) fun r S Q q => by
          simp only [wE] at q
          exact q
      · cases h
    · skip
      simp only [ckE] at h
      simp only [ckT] at ht
      split at h
      · rename_i o y z r p hx
        rw [hx] at ht
        have hx := asBool_eq hx
        subst hx
        simp only [Bool.and_eq_true, decide_eq_true_eq] at h ht
        obtain ⟨⟨h1, h2⟩, h3⟩ := h
        subst h1
        have hb : PW' cl X (.BoolOp .Or (z :: r) p) (tst (wE G b)) := by
          have := (okE b X _ hc g h3).2 ht.2
          cases r with
          | nil => exact pw_or1 this.1
          | cons w r => exact this.2 _ _ _ rfl
        have hw : PW' cl X (.BoolOp .Or (y :: z :: r) p) (tst (wE G (.or a b))) := pw_of (t_or (wE_mono g.mono a) (wE_mono g.mono b) ((okE a X y hc g h2).2 ht.1).1 hb) fun r S Q q => by
          simp only [wE, tst] at q ⊢
          exact q
        exact ⟨hw.pt, fun _ _ _ _ => hw⟩
      · cases h
  | .ite c a b, X, x, hc, g, h => withT (wE_mono g.mono _) (by
    simp only [ckE] at h
    split at h
    · rename_i w y z hx
      obtain ⟨p, rfl⟩ := asIf_eq hx
      simp only [Bool.and_eq_true] at h
      obtain ⟨⟨⟨h1, h2⟩, h3⟩, h4⟩ := h
      exact pe_of (q_ite (wE_mono g.mono a) (wE_mono g.mono b) (wE_mono g.mono c) ((okE c X w hc g h1).2 h2).1 (okE a X y hc g h3).1 (okE b X z hc g h4).1) fun r S Q q => by (simp only [wE] at q; exact q)
    · cases h) (fun ht => by simpa only [ckT] using ht)
  | .tup es, X, x, hc, g, h => withT (wE_mono g.mono _) (by
    simp only [ckE] at h
    split at h
    · rename_i xs hx
      obtain ⟨k, p, rfl⟩ := asTup_eq hx
      exact pe_of (q_tup (wEs_mono g.mono es) (okEs es X xs hc g h)) fun r S Q q => by (simp only [wE] at q; exact q)
    · cases h) (fun ht => by simpa only [ckT] using ht)
  | .lst own es, X, x, hc, g, h => withT (wE_mono g.mono _) (by
    simp only [ckE] at h
    split at h
    · rename_i xs hx
      obtain ⟨p, rfl⟩ := asLst_eq hx
      exact pe_of (q_lst own (wEs_mono g.mono es) (okEs es X xs hc g h)) fun r S Q q => by (simp only [wE] at q; exact q)
    · cases h) (fun ht => by simpa only [ckT] using ht)
  | .dict own kvs, X, x, hc, g, h => withT (wE_mono g.mono _) (by
    simp only [ckE] at h
    split at h
    · rename_i ks vs hx
      obtain ⟨p, rfl⟩ := asDict_eq hx
      simp only [Bool.and_eq_true, decide_eq_true_eq] at h
      cases kvs with
      | nil =>
        have h1 := h.1
        simp only [ckKvs, Bool.and_eq_true, List.isEmpty_iff] at h1
        obtain ⟨rfl, rfl⟩ := h1
        exact pe_of (q_dnew own) fun r S Q q => by
          simp only [wE, wKvs] at q
          exact q.2.2
      | cons k v r =>
        obtain ⟨h1, h2, h3⟩ := okKvs (.cons k v r) X ks vs p hc g h.1
        have h0 : ks ≠ [] := fun e => by
          have h4 := h.1
          rw [e] at h4
          simp [ckKvs] at h4
        exact pe_of (q_dict (own := own) (trs_mono g.mono _) h1 h2 h3 h0 h.2) fun r S Q q => by
          simp only [wE, wKvs_eq] at q
          exact q
    · cases h) (fun ht => by simpa only [ckT] using ht)
  | .ix a i, X, x, hc, g, h => withT (wE_mono g.mono _) (by
    simp only [ckE] at h
    split at h
    · rename_i y z hx
      obtain ⟨p, rfl⟩ := asSub_eq hx
      simp only [Bool.and_eq_true, Bool.not_eq_true'] at h
      obtain ⟨⟨h1, h2⟩, h3⟩ := h
      exact pe_of (q_ix hc (wE_mono g.mono a) (wE_mono g.mono i) (okE a X y hc g h1).1 (okE i X z hc g h2).1 (plain_ix h3)) fun r S Q q => by (simp only [wE] at q; exact q)
    · cases h) (fun ht => by simpa only [ckT] using ht)
  | .sl own a lo hi, X, x, hc, g, h => withT (wE_mono g.mono _) (by
    simp only [ckE] at h
    split at h
    · rename_i y l u hx
      obtain ⟨p, p2, rfl⟩ := asSl_eq hx
      simp only [Bool.and_eq_true] at h
      obtain ⟨⟨h1, h2⟩, h3⟩ := h
      exact pe_of (q_sl own (tl := wOe G lo) (th := wOe G hi) (wE_mono g.mono a) (wOe_mono g.mono lo) (wOe_mono g.mono hi) (okE a X y hc g h1).1 (okOe lo X l hc g h2) (okOe hi X u hc g h3)) fun r S Q q => by (simp only [wE] at q; exact q)
    · cases h) (fun ht => by simpa only [ckT] using ht)
  | .rev own a, X, x, hc, g, h => withT (wE_mono g.mono _) (by
    simp only [ckE] at h
    split at h
    · rename_i y hx
      obtain ⟨k, p1, p2, p3, p, rfl⟩ := asRev_eq hx
      exact pe_of (q_rev own (wE_mono g.mono a) (okE a X y hc g h).1) fun r S Q q => by (simp only [wE] at q; exact q)
    · cases h) (fun ht => by simpa only [ckT] using ht)
  | .fld c a f, X, x, hc, g, h => withT (wE_mono g.mono _) (by
    simp only [ckE] at h
    split at h
    · rename_i y f' hx
      obtain ⟨p, rfl⟩ := asAttr_eq hx
      simp only [Bool.and_eq_true, decide_eq_true_eq] at h
      obtain ⟨⟨⟨h1, h2⟩, h3⟩, h4⟩ := h
      subst h1
      exact pe_of (q_fld (g.flds c f h2) (wE_mono g.mono a) (okE a X y hc g h3).1 (nsB_ok h4)) fun r S Q q => by (simp only [wE] at q; exact q)
    · cases h) (fun ht => by simpa only [ckT] using ht)
  | .prop c a f, X, x, hc, g, h => withT (wE_mono g.mono _) (by
    simp only [ckE] at h
    split at h
    · rename_i y f' hx
      obtain ⟨p, rfl⟩ := asAttr_eq hx
      simp only [Bool.and_eq_true, decide_eq_true_eq] at h
      obtain ⟨⟨⟨h1, h3⟩, h4⟩, kn⟩ := h
      subst h1
      cases hs : G.pr c f with
      | none => exact pe_never fun r S Q q => by simp [wE, hs] at q
      | some sp =>
        obtain ⟨C, hcn, hp⟩ := g.pr c f sp kn hs
        exact pe_of (q_prop hc hcn hp (wE_mono g.mono a) (okE a X y hc g h3).1 (nsB_ok h4)) fun r S Q q => by
          simp only [wE, hs] at q
          obtain ⟨sp', e, q⟩ := q
          cases e
          exact q
    · cases h) (fun ht => by simpa only [ckT] using ht)
  | .call f es, X, x, hc, g, h => withT (wE_mono g.mono _) (by
    simp only [ckE] at h
    split at h
    · rename_i f' xs hx
      obtain ⟨p, p2, rfl⟩ := asCall_eq hx
      simp only [Bool.and_eq_true, decide_eq_true_eq] at h
      obtain ⟨⟨⟨⟨⟨h1, h2⟩, h3⟩, h4⟩, h5⟩, kn⟩ := h
      subst h1
      cases hs : G.fn f with
      | none => exact pe_never fun r S Q q => by simp [wE, hs] at q
      | some sp =>
        have hcal := g.fn f sp kn hs
        have hes := okEs es X xs hc g h5
        cases xs with
        | nil =>
          exact pe_of (q_call0 (glB_ok h2) hc hcal (plN_ok h3).1) fun r S Q q => by
            simp only [wE, hs] at q
            obtain ⟨sp', e, q⟩ := q
            cases e
            cases es with
            | nil => simpa only [wEs] using q
            | cons s e r => simp [ckEs] at h5
        | cons y xs =>
          exact pe_of (q_call (glB_ok h2) hc hcal (wEs_mono g.mono es) hes (plN_ok h3).1 h4) fun r S Q q => by
            simp only [wE, hs] at q
            obtain ⟨sp', e, q⟩ := q
            cases e
            exact q
    · cases h) (fun ht => by simpa only [ckT] using ht)
  | .callk f es ks kes, X, x, hc, g, h => withT (wE_mono g.mono _) (by
    simp only [ckE] at h
    split at h
    · rename_i f' kws hx
      obtain ⟨p, p2, rfl⟩ := asCallK_eq hx
      simp only [Bool.and_eq_true, decide_eq_true_eq] at h
      obtain ⟨⟨⟨⟨⟨⟨⟨h1, h2⟩, h3⟩, h4⟩, h5⟩, h6⟩, h7⟩, kn⟩ := h
      subst h1
      cases es with
      | cons s e r => cases h4
      | nil =>
        cases hs : G.fn f with
        | none => exact pe_never fun r S Q q => by simp [wE, hs] at q
        | some sp =>
          exact pe_of (q_callk (glB_ok h2) hc (g.fk f sp _ kn hs h6) (wEs_mono g.mono kes) (okKw kes X kws hc g h7) h5 rfl (plN_ok h3).1) fun r S Q q => by
            simp only [wE, hs, wEs] at q
            obtain ⟨sp', e, q⟩ := q
            cases e
            simpa using q
    · cases h) (fun ht => by simpa only [ckT] using ht)
  | .mk c es, X, x, hc, g, h => withT (wE_mono g.mono _) (by
    simp only [ckE] at h
    split at h
    · rename_i f' xs hx
      obtain ⟨p, p2, rfl⟩ := asCall_eq hx
      simp only [Bool.and_eq_true, decide_eq_true_eq] at h
      obtain ⟨⟨⟨⟨⟨h1, h2⟩, h3⟩, h4⟩, h5⟩, kn⟩ := h
      subst h1
      cases hs : G.mk0 c with
      | none => exact pe_never fun r S Q q => by simp [wE, hs] at q
      | some sp =>
        obtain ⟨C, hcn, hmk⟩ := g.mk0 c sp kn hs
        have hes := okEs es X xs hc g h5
        cases xs with
        | nil =>
          exact pe_of (q_mk0 (glB_ok h2) hc hcn hmk (plN_ok h3).1) fun r S Q q => by
            simp only [wE, hs] at q
            obtain ⟨sp', e, q⟩ := q
            cases e
            cases es with
            | nil => simp only [wEs] at q; exact q
            | cons s e r => simp [ckEs] at h5
        | cons y xs =>
          exact pe_of (q_mk (glB_ok h2) hc hcn hmk (wEs_mono g.mono es) hes (plN_ok h3).1 h4) fun r S Q q => by
            simp only [wE, hs] at q
            obtain ⟨sp', e, q⟩ := q
            cases e
            exact q
    · cases h) (fun ht => by simpa only [ckT] using ht)
  | .meth c o m es, X, x, hc, g, h => withT (wE_mono g.mono _) (by
    simp only [ckE] at h
    split at h
    · rename_i y m' xs hx
      obtain ⟨p, p2, rfl, hline⟩ := asMeth_eq hx
      simp only [Bool.and_eq_true, decide_eq_true_eq] at h
      obtain ⟨⟨⟨⟨⟨⟨h1, h2⟩, h3⟩, h4⟩, h5⟩, h6⟩, kn⟩ := h
      subst h1
      cases hs : G.mt c m with
      | none => exact pe_never fun r S Q q => by simp [wE, hs] at q
      | some sp =>
        obtain ⟨C, hcn, hmt⟩ := g.mt c m sp kn hs
        have hes := okEs es X xs hc g h6
        have ho := (okE o X y hc g h5).1
        cases xs with
        | nil =>
          exact pe_of (q_meth0 hc hcn hmt (wE_mono g.mono o) ho (nsB_ok h2) hline) fun r S Q q => by
            simp only [wE, hs] at q
            obtain ⟨sp', e, q⟩ := q
            cases e
            cases es with
            | nil => simp only [wEs] at q; exact q
            | cons s e r => simp [ckEs] at h6
        | cons z xs =>
          exact pe_of (q_meth hc hcn hmt (wE_mono g.mono o) (wEs_mono g.mono es) ho hes (nsB_ok h2) hline h3 h4) fun r S Q q => by
            simp only [wE, hs] at q
            obtain ⟨sp', e, q⟩ := q
            cases e
            exact q
    · cases h) (fun ht => by simpa only [ckT] using ht)
  | .bi f own es, X, x, hc, g, h => withT (wE_mono g.mono _) (by
    simp only [ckE] at h
    split at h
    · rename_i f' xs hx
      obtain ⟨p, p2, rfl⟩ := asCall_eq hx
      simp only [Bool.and_eq_true, decide_eq_true_eq, Bool.not_eq_true'] at h
      obtain ⟨⟨⟨⟨h1, h2⟩, h3⟩, h4⟩, h5⟩ := h
      subst h1
      cases xs with
      | nil => cases h4
      | cons y xs =>
        exact pe_of (q_bi hc f own (glB_ok h2) (g.bi _ (bi_mem f)) (wEs_mono g.mono es) (okEs es X _ hc g h5) h3) fun r S Q q => by (simp only [wE] at q; exact q)
    · cases h) (fun ht => by simpa only [ckT] using ht)
  | .isb a ty, X, x, hc, g, h => withT (wE_mono g.mono _) (by
    simp only [ckE] at h
    split at h
    · rename_i f' y z hx
      obtain ⟨p, p2, rfl⟩ := asCall_eq hx
      simp only [Bool.and_eq_true, decide_eq_true_eq, Bool.not_eq_true'] at h
      obtain ⟨⟨⟨⟨⟨h1, h2⟩, h3⟩, h4⟩, h5⟩, h6⟩ := h
      subst h1
      obtain ⟨p3, rfl⟩ := asName_eq h3
      exact pe_of (q_isb (glB_ok h2) (g.bi _ (by decide +kernel)) ty (glB_ok h4) (g.bi _ (bt_mem ty)) (wE_mono g.mono a) (okE a X y hc g h6).1 h5) fun r S Q q => by (simp only [wE] at q; exact q)
    · cases h) (fun ht => by simpa only [ckT] using ht)
  | .isc a c, X, x, hc, g, h => withT (wE_mono g.mono _) (by
    simp only [ckE] at h
    split at h
    · rename_i f' y z hx
      obtain ⟨p, p2, rfl⟩ := asCall_eq hx
      simp only [Bool.and_eq_true, decide_eq_true_eq, Bool.not_eq_true'] at h
      obtain ⟨⟨⟨⟨⟨⟨⟨h1, h2⟩, h3⟩, h4⟩, h5⟩, h6⟩, h7⟩, h8⟩ := h
      subst h1
      obtain ⟨p3, rfl⟩ := asName_eq h3
      obtain ⟨C, hm, hcn, hi⟩ := g.cs c h6
      exact pe_of (q_isc (glB_ok h2) (g.bi _ (by decide +kernel)) (glB_ok h4) hm hcn hi (plN_ok h5).1 (wE_mono g.mono a) (okE a X y hc g h8).1 h7) fun r S Q q => by (simp only [wE] at q; exact q)
    · cases h) (fun ht => by simpa only [ckT] using ht)
  | .bm f own o es, X, x, hc, g, h => withT (wE_mono g.mono _) (by
    simp only [ckE] at h
    split at h
    · rename_i y m' xs hx
      obtain ⟨p, p2, rfl, hline⟩ := asMeth_eq hx
      simp only [Bool.and_eq_true, decide_eq_true_eq] at h
      obtain ⟨⟨⟨⟨⟨h1, h2⟩, h3⟩, h4⟩, h5⟩, h6⟩ := h
      subst h1
      have hes := okEs es X xs hc g h6
      have ho := (okE o X y hc g h5).1
      cases xs with
      | nil =>
        exact pe_of (q_bm0 hc f own (wE_mono g.mono o) ho (nsB_ok h2) hline) fun r S Q q => by
          simp only [wE] at q
          cases es with
          | nil => simp only [wEs] at q; exact q
          | cons s e r => simp [ckEs] at h6
      | cons z xs =>
        exact pe_of (q_bm hc f own (wE_mono g.mono o) (wEs_mono g.mono es) ho hes (nsB_ok h2) hline h3 h4) fun r S Q q => by
          simp only [wE] at q
          exact q
    · cases h) (fun ht => by simpa only [ckT] using ht)
  | .lr1 own a, X, x, hc, g, h => withT (wE_mono g.mono _) (by
    simp only [ckE] at h
    split at h
    · rename_i f' y hx
      split at h
      · rename_i f2 z hy
        obtain ⟨p, p2, rfl⟩ := asCall_eq hx
        obtain ⟨p3, p4, rfl⟩ := asCall_eq hy
        simp only [Bool.and_eq_true, decide_eq_true_eq, Bool.not_eq_true'] at h
        obtain ⟨⟨⟨⟨⟨h1, h2⟩, h3⟩, h4⟩, h5⟩, h6⟩ := h
        subst h1 h3
        exact pe_of (q_lr1 own hc (glB_ok h2) (g.bi _ (by decide +kernel)) (glB_ok h4) (g.bi _ (by decide +kernel)) (wE_mono g.mono a) (okE a X z hc g h6).1 h5) fun r S Q q => by (simp only [wE] at q; exact q)
      · cases h
    · cases h) (fun ht => by simpa only [ckT] using ht)
  | .lr2 own a b, X, x, hc, g, h => withT (wE_mono g.mono _) (by
    simp only [ckE] at h
    split at h
    · rename_i f' y hx
      split at h
      · rename_i f2 z w hy
        obtain ⟨p, p2, rfl⟩ := asCall_eq hx
        obtain ⟨p3, p4, rfl⟩ := asCall_eq hy
        simp only [Bool.and_eq_true, decide_eq_true_eq, Bool.not_eq_true'] at h
        obtain ⟨⟨⟨⟨⟨⟨⟨h1, h2⟩, h3⟩, h4⟩, h5⟩, h5'⟩, h6⟩, h7⟩ := h
        subst h1 h3
        exact pe_of (q_lr2 own hc (glB_ok h2) (g.bi _ (by decide +kernel)) (glB_ok h4) (g.bi _ (by decide +kernel)) (wE_mono g.mono a) (wE_mono g.mono b) (okE a X z hc g h6).1 (okE b X w hc g h7).1 h5 h5') fun r S Q q => by (simp only [wE] at q; exact q)
      · cases h
    · cases h) (fun ht => by simpa only [ckT] using ht)
  | .comp own vs t e c s, X, x, hc, g, h => withT (wE_mono g.mono _) (by
    simp only [ckE] at h
    split at h
    · rename_i elt tg iter ifs sc2 hx
      obtain ⟨p, rfl⟩ := asComp_eq hx
      simp only [Bool.and_eq_true, decide_eq_true_eq] at h
      obtain ⟨⟨⟨⟨⟨⟨h1, h2⟩, h3⟩, h4⟩, h5⟩, h6⟩, h7⟩ := h
      have ok : BlkOk X.N X.env.scope sc2 (ownOf K.N vs) := by rw [g.N]; exact blkOk_by h1
      have := q_comp (pos := p) own hc (wSrc_mono g.mono s) (wTg_mono g.mono t) (wC_mono g.mono c) (wE_mono g.mono e) (okSrc s X tg iter hc g h4) ok
        (fun s1 H C cc fp => by rw [h2]; exact tgC_ok (X := X.blk s1 H sc2 (compEnvC sc2 cc C X.env) fp) hc.blk g.N g.mono t tg h5)
        (fun s1 H C cc fp => okC c (X.blk s1 H sc2 (compEnvC sc2 cc C X.env) fp) ifs hc.blk g.blk h6)
        (fun s1 H C cc fp => (okE e (X.blk s1 H sc2 (compEnvC sc2 cc C X.env) fp) elt hc.blk g.blk h7).1) (notSet_ok h3)
      rw [h2] at this
      exact pe_of this fun r S Q q => by (simp only [wE] at q; exact q)
    · cases h) (fun ht => by simpa only [ckT] using ht)
  | .dzip a b, X, x, hc, g, h => withT (wE_mono g.mono _) (by
    simp only [ckE] at h
    split at h
    · rename_i f' y hx
      split at h
      · rename_i f2 z w hy
        obtain ⟨p, p2, rfl⟩ := asCall_eq hx
        obtain ⟨p3, p4, rfl⟩ := asCall_eq hy
        simp only [Bool.and_eq_true, decide_eq_true_eq, Bool.not_eq_true'] at h
        obtain ⟨⟨⟨⟨⟨⟨⟨h1, h2⟩, h3⟩, h4⟩, h5⟩, h5'⟩, h6⟩, h7⟩ := h
        subst h1 h3
        exact pe_of (q_dzip hc (glB_ok h2) (g.bi _ (by decide +kernel)) (glB_ok h4) (g.bi _ (by decide +kernel)) (wE_mono g.mono a) (wE_mono g.mono b) (okE a X z hc g h6).1 (okE b X w hc g h7).1 h5 h5') fun r S Q q => by (simp only [wE] at q; exact q)
      · cases h
    · cases h) (fun ht => by simpa only [ckT] using ht)
  | .srtk .., X, x, hc, g, h => withT (wE_mono g.mono _) (by
    simp [ckE] at h) (fun ht => by simpa only [ckT] using ht)
  | .frz e, X, x, hc, g, h => withT (wE_mono g.mono _) (by
    simp only [ckE] at h
    exact pe_of (q_frz (wE_mono g.mono e) (okE e X x hc g h).1) fun r S Q q => by (simp only [wE] at q; exact q)) (fun ht => by simpa only [ckT] using ht)
theorem okEs : ∀ (es : Es) (X : Cx) (xs : List Expr), XC cl X → GX cl X G K → ckEs K es X.env.scope xs = true → PA' cl X xs (wEs G es)
  | .nil, X, xs, hc, g, h => by
    simp only [ckEs, List.isEmpty_iff] at h
    subst h
    exact pa_of q_nil fun r S Q q => by simpa only [wEs] using q
  | .cons star e es, X, [], hc, g, h => by simp [ckEs] at h
  | .cons star e es, X, x :: xs, hc, g, h => by
    simp only [ckEs, Bool.and_eq_true] at h
    have h2 := okEs es X xs hc g h.2
    cases star with
    | true =>
      have h3 := h.1
      rw [if_pos rfl] at h3
      split at h3
      · rename_i y hy
        obtain ⟨p, rfl⟩ := asStar_eq hy
        exact pa_of (q_star (wE_mono g.mono e) (wEs_mono g.mono es) (okE e X y hc g h3).1 h2) fun r S Q q => by
          simp only [wEs, if_true] at q
          exact q
      · cases h3
    | false =>
      have h3 := h.1
      rw [if_neg Bool.false_ne_true, Bool.and_eq_true, Bool.not_eq_true'] at h3
      exact pa_of (q_cons (wE_mono g.mono e) (wEs_mono g.mono es) (okE e X x hc g h3.2).1 h2 (star_no h3.1)) fun r S Q q => by
        simp only [wEs, Bool.false_eq_true, if_false] at q
        exact q
theorem okKw : ∀ (es : Es) (X : Cx) (xs : List Keyword), XC cl X → GX cl X G K → ckKw K es X.env.scope xs = true → PK' cl X xs (wEs G es)
  | .nil, X, xs, hc, g, h => by
    simp only [ckKw, List.isEmpty_iff] at h
    subst h
    exact PK.imp k_nil fun s H Q ⟨r, S, T, m, e, q⟩ => ⟨r, S, T, m, e, by simpa only [wEs] using q⟩
  | .cons star e es, X, [], hc, g, h => by simp [ckKw] at h
  | .cons star e es, X, ⟨nm, v, kp⟩ :: xs, hc, g, h => by
    simp only [ckKw, Bool.and_eq_true, Bool.not_eq_true'] at h
    obtain ⟨⟨h1, h2⟩, h3⟩ := h
    subst h1
    exact PK.imp (k_cons (wE_mono g.mono e) (wEs_mono g.mono es) (okE e X v hc g h2).1 (okKw es X xs hc g h3)) fun s H Q ⟨r, S, T, m, e, q⟩ => ⟨r, S, T, m, e, by
      simp only [wEs, Bool.false_eq_true, if_false] at q
      exact q⟩
theorem okOe : ∀ (o : Oe) (X : Cx) (x : Option Expr), XC cl X → GX cl X G K → ckOe K o X.env.scope x = true → PO X x (trO cl (wOe G o))
  | .no, X, x, hc, g, h => by
    simp only [ckOe, Option.isNone_iff_eq_none] at h
    subst h
    exact PO.imp q_no fun s H Q ⟨r, S, T, m, e, q⟩ => ⟨r, S, T, m, e, by simpa only [wOe] using q⟩
  | .yes e, X, x, hc, g, h => by
    simp only [ckOe] at h
    split at h
    · rename_i y
      exact PO.imp (q_yes (wE_mono g.mono e) (okE e X y hc g h).1) fun s H Q ⟨r, S, T, m, e, q⟩ => ⟨r, S, T, m, e, by simpa only [wOe] using q⟩
    · cases h
theorem okC : ∀ (o : Oe) (X : Cx) (xs : List Expr), XC cl X → GX cl X G K → ckC K o X.env.scope xs = true → PTs X xs (trB cl (wC G o))
  | .no, X, xs, hc, g, h => by
    simp only [ckC, List.isEmpty_iff] at h
    subst h
    exact PTs.imp ts_nil fun s H Q ⟨r, S, T, m, e, q⟩ => ⟨r, S, T, m, e, by simpa only [wC] using q⟩
  | .yes e, X, xs, hc, g, h => by
    simp only [ckC] at h
    split at h
    · rename_i y
      rw [Bool.and_eq_true] at h
      exact PTs.imp (ts_one ((okE e X y hc g h.1).2 h.2).1) fun s H Q ⟨r, S, T, m, e, q⟩ => ⟨r, S, T, m, e, by simpa only [wC, tst] using q⟩
    · cases h
theorem okKvs : ∀ (k : Kvs) (X : Cx) (ks : List (Option Expr)) (vs : List Expr) (pos : Pos), XC cl X → GX cl X G K → ckKvs K k X.env.scope ks vs = true → PPs X pos ks vs ((trsOf G k).map fun p => (tr cl p.1, tr cl p.2)) ∧ ks.all (·.isSome) = true ∧ ks.length = vs.length
  | .nil, X, ks, vs, pos, hc, g, h => by
    simp only [ckKvs, Bool.and_eq_true, List.isEmpty_iff] at h
    obtain ⟨rfl, rfl⟩ := h
    exact ⟨pps_nil, rfl, rfl⟩
  | .cons k v r, X, ks, vs, pos, hc, g, h => by
    simp only [ckKvs] at h
    split at h
    · rename_i y ks z vs
      simp only [Bool.and_eq_true] at h
      obtain ⟨⟨h1, h2⟩, h3⟩ := h
      obtain ⟨h4, h5, h6⟩ := okKvs r X ks vs pos hc g h3
      exact ⟨pps_cons (okE k X y hc g h1).1 (okE v X z hc g h2).1 h4, by rw [List.all_cons, h5]; rfl, by rw [List.length_cons, List.length_cons, h6]⟩
    · cases h
theorem okSrc : ∀ (s : Src) (X : Cx) (tg x : Expr), XC cl X → GX cl X G K → ckSrc K s X.env.scope tg x = true → PI' cl X tg x (wSrc G s)
  | .of e, X, tg, x, hc, g, h => by
    simp only [ckSrc] at h
    exact pi_of (pi_seq (wE_mono g.mono e) (okE e X x hc g h).1) fun r S Q q => by simpa only [wSrc] using q
  | .range es, X, tg, x, hc, g, h => by
    simp only [ckSrc] at h
    split at h
    · rename_i f' xs hx
      obtain ⟨p, p2, rfl⟩ := asCall_eq hx
      simp only [Bool.and_eq_true, decide_eq_true_eq] at h
      obtain ⟨⟨⟨⟨⟨h1, h2⟩, h3⟩, h4⟩, h5⟩, h6⟩ := h
      subst h1
      have hes := okEs es X xs hc g h6
      have hb := g.bi "range" (by decide +kernel)
      have hlen : ∀ r S Q, wEs G es r S Q → wEs G es r S fun ds S1 => ds.length = xs.length ∧ Q ds S1 := fun r S Q q => ckEs_len es X.env.scope xs r S Q h6 h3 g.mono q
      have fin : ∀ r S K', wSrc G (.range es) r S K' → wEs G es r S fun ds S1 => wRange ds fun xs => K' (fun _ => True) xs S1 := fun r S K' q => by simpa only [wSrc] using q
      match xs, h3, h4, h5, hes, hlen with
      | [a], h3, _, _, hes, hlen => exact pi_of (pi_rg1 (glB_ok h2) hb (wEs_mono g.mono es) hes (nost_cons h3).1 hlen) fin
      | [a, b], h3, _, _, hes, hlen => exact pi_of (pi_rg2 (glB_ok h2) hb (wEs_mono g.mono es) hes (nost_cons h3).1 (nost_cons (nost_cons h3).2).1 hlen) fin
      | [a, b, c], h3, _, _, hes, hlen => exact pi_of (pi_rg3 (glB_ok h2) hb (wEs_mono g.mono es) hes (nost_cons h3).1 (nost_cons h3).2 hlen) fin
      | [], _, h4, _, _, _ => cases h4
      | _ :: _ :: _ :: _ :: _, _, _, h5, _, _ => simp at h5
    · cases h
  | .enum e, X, tg, x, hc, g, h => by
    simp only [ckSrc] at h
    split at h
    · rename_i f' y hx
      obtain ⟨p, p2, rfl⟩ := asCall_eq hx
      simp only [Bool.and_eq_true, decide_eq_true_eq, Bool.not_eq_true'] at h
      obtain ⟨⟨⟨⟨h1, h2⟩, h3⟩, h4⟩, h5⟩ := h
      subst h1
      obtain ⟨ts, hts⟩ := Option.isSome_iff_exists.mp h4
      obtain ⟨k, p3, rfl⟩ := asTup_eq hts
      exact pi_of (pi_enumD (glB_ok h2) (g.bi _ (by decide +kernel)) (wE_mono g.mono e) (okE e X y hc g h5).1 h3) fun r S Q q => by simpa only [wSrc] using q
    · cases h
  | .zip a b, X, tg, x, hc, g, h => by
    simp only [ckSrc] at h
    split at h
    · rename_i f' y z hx
      obtain ⟨p, p2, rfl⟩ := asCall_eq hx
      simp only [Bool.and_eq_true, decide_eq_true_eq, Bool.not_eq_true'] at h
      obtain ⟨⟨⟨⟨⟨⟨h1, h2⟩, h3⟩, h3'⟩, h4⟩, h5⟩, h6⟩ := h
      subst h1
      obtain ⟨ts, hts⟩ := Option.isSome_iff_exists.mp h4
      obtain ⟨k, p3, rfl⟩ := asTup_eq hts
      exact pi_of (pi_zipD (glB_ok h2) (g.bi _ (by decide +kernel)) (wE_mono g.mono a) (wE_mono g.mono b) (okE a X y hc g h5).1 (okE b X z hc g h6).1 h3 h3') fun r S Q q => by simpa only [wSrc] using q
    · cases h
  | .items e, X, tg, x, hc, g, h => by simp [ckSrc] at h
end
end Dz
/-! Dz22: targets, statements, defs. -/
namespace Dz
open PySem PySem.Spec PyProof.Rows L2

variable {cl : CL} {G : Sg} {K : Ck}
mutual
theorem okTg : ∀ (t : Tg) (X : Cx) (x : Expr), XC cl X → GX cl X G K → (∀ x, X.fn x = true) → ckTg K t X.env.scope x = true → PG' cl X x (wTg G t)
  | .name i, X, x, hc, g, fn, h => by
    simp only [ckTg] at h
    split at h
    · rename_i y hy
      obtain ⟨p, rfl⟩ := asName_eq hy
      simp only [Bool.and_eq_true, Bool.or_eq_true, decide_eq_true_eq] at h
      exact pg_of (g_name hc (by rw [g.N]; exact h.1) h.2 (.inl (fn y))) fun d r S Q q => by (simp only [wTg] at q; exact q)
    · cases h
  | .tup ts, X, x, hc, g, fn, h => by
    simp only [ckTg] at h
    split at h
    · rename_i es hx
      obtain ⟨k, p, rfl⟩ := asTup_eq hx
      rw [Bool.and_eq_true] at h
      obtain ⟨h1, h2⟩ := okTgs ts X es hc g fn h.2
      exact pg_of (g_tup hc (wTgs_mono g.mono ts) h1 h2 h.1) fun d r S Q q => by (simp only [wTg] at q; exact q)
    · cases h
  | .fld c o f, X, x, hc, g, fn, h => by
    simp only [ckTg] at h
    split at h
    · rename_i y f' hx
      obtain ⟨p, rfl⟩ := asAttr_eq hx
      simp only [Bool.and_eq_true, decide_eq_true_eq] at h
      obtain ⟨⟨h1, h2⟩, h3⟩ := h
      subst h1
      exact pg_of (g_fld (g.flds c f h2) (wE_mono g.mono o) (okE o X y hc g h3).1) fun d r S Q q => by (simp only [wTg] at q; exact q)
    · cases h
  | .sub o i, X, x, hc, g, fn, h => by
    simp only [ckTg] at h
    split at h
    · rename_i y z hx
      obtain ⟨p, rfl⟩ := asSub_eq hx
      simp only [Bool.and_eq_true, Bool.not_eq_true'] at h
      obtain ⟨⟨h1, h2⟩, h3⟩ := h
      exact pg_of (g_sub hc h3 (wE_mono g.mono o) (wE_mono g.mono i) (okE o X y hc g h1).1 (okE i X z hc g h2).1) fun d r S Q q => by (simp only [wTg] at q; exact q)
    · cases h
theorem okTgs : ∀ (ts : Tgs) (X : Cx) (xs : List Expr), XC cl X → GX cl X G K → (∀ x, X.fn x = true) → ckTgs K ts X.env.scope xs = true → PGs X xs (trGs cl (wTgs G ts)) ∧ tgsLen ts = xs.length
  | .nil, X, xs, hc, g, fn, h => by
    simp only [ckTgs, List.isEmpty_iff] at h
    subst h
    exact ⟨PGs.imp g_nil fun ws s H Q ⟨ds, r, S, T, m, e, rl, q⟩ => ⟨ds, r, S, T, m, e, rl, by (simp only [wTgs] at q; exact q)⟩, rfl⟩
  | .cons t ts, X, [], hc, g, fn, h => by simp [ckTgs] at h
  | .cons t ts, X, x :: xs, hc, g, fn, h => by
    simp only [ckTgs, Bool.and_eq_true, Bool.not_eq_true'] at h
    obtain ⟨⟨h1, h2⟩, h3⟩ := h
    obtain ⟨h4, h5⟩ := okTgs ts X xs hc g fn h3
    exact ⟨PGs.imp (g_cons (wTg_mono g.mono t) (wTgs_mono g.mono ts) (okTg t X x hc g fn h2) h4 h1) fun ws s H Q ⟨ds, r, S, T, m, e, rl, q⟩ => ⟨ds, r, S, T, m, e, rl, by (simp only [wTgs] at q; exact q)⟩, by
      rw [List.length_cons, ← h5]
      rfl⟩
end
end Dz
/-! Dz23: statements and defs. -/
namespace Dz
open PySem PySem.Spec PyProof.Rows L2

variable {cl : CL} {G : Sg} {K : Ck}
/-- a name that gets a comprehension on its own line -/
def swC (sc : Scope) : Expr → Expr → Bool
  | .ListComp _ _ s2 p, .Name t pos => decide (sc.names.lookup t = some .local) && pos.line == p.line && !(s2.names.any fun (n, k) => n == t && (k == .local || k == .cell))
  | _, _ => false
def noSC : Expr → Bool
  | .SetComp .. => false
  | .DictComp .. => false
  | _ => true
theorem sw_eq {env : Env} {v t : Expr} {l : Nat} (hk : env.scope.kind = .function) (h : noSC v = true) : swapsWith v (some t) l env = pure (swC env.scope v t) := by
  have hb : env.blockKind = .function := by unfold Env.blockKind; rw [hk]; rfl
  cases v <;> first | rfl | (cases h; done) | skip
  rename_i elt gs s2 p
  cases t <;> try rfl
  rename_i y py
  unfold swapsWith swC
  simp only [hb, Expr.pos]
  have e : (env.kindOf y == some NameKind.local) = decide (env.scope.names.lookup y = some .local) := by
    unfold Env.kindOf
    by_cases h : env.scope.names.lookup y = some .local
    · rw [h]; simp
    · have : (env.scope.names.lookup y == some NameKind.local) = false := by
        cases e : (env.scope.names.lookup y == some NameKind.local) with
        | false => rfl
        | true => exact absurd (eq_of_beq e) h
      rw [this, decide_eq_false h]
  rw [e]
  simp
/-- stores of a pair or three that are no swap -/
def ssNone (sc : Scope) : Expr → Expr → Bool
  | .Tuple ts _ _, .Tuple vs _ _ => !(ts.length == 2 || ts.length == 3) || vs.length != ts.length || (!(vs.any isStar) && vs.all (foldedForSure 8))
      || (!(vs.any isStar) && ts.any fun t => match asName t with | none => true | some y => !decide (sc.names.lookup y = some .local))
  | .List .., .Tuple .. => false
  | _, _ => true
theorem fm_le {α β : Type} (f : α → Option β) : ∀ l : List α, (l.filterMap f).length ≤ l.length
  | [] => Nat.le_refl _
  | a :: l => by
    rw [List.filterMap_cons]
    have := fm_le f l
    split
    · rw [List.length_cons]; omega
    · rw [List.length_cons, List.length_cons]; omega
theorem fm_lt {α β : Type} (f : α → Option β) : ∀ l : List α, (l.any fun a => (f a).isNone) = true → (l.filterMap f).length < l.length
  | [], h => by cases h
  | a :: l, h => by
    rw [List.filterMap_cons]
    rw [List.any_cons, Bool.or_eq_true] at h
    have h2 := fm_le f l
    cases e : f a with
    | none => simp only []; rw [List.length_cons]; omega
    | some b =>
      simp only []
      rw [List.length_cons, List.length_cons]
      rcases h with h | h
      · rw [e] at h; cases h
      · have := fm_lt f l h; omega
theorem fm_key {ts : List Expr} (sc : Scope) (F : Expr → Option Str) (hF : ∀ t, (∀ y, asName t = some y → sc.names.lookup y ≠ some .local) → F t = none) (h : (ts.any fun t => match asName t with | none => true | some y => !decide (sc.names.lookup y = some .local)) = true) : ((ts.filterMap F).length != ts.length) = true := by
  have h2 : (ts.any fun t => (F t).isNone) = true := by
    rw [List.any_eq_true] at h ⊢
    obtain ⟨t, h1, h3⟩ := h
    refine ⟨t, h1, ?_⟩
    rw [hF t (fun y hy => by
      rw [hy] at h3
      simpa using h3)]
    rfl
  have := fm_lt F ts h2
  rw [bne_iff_ne]
  omega
theorem ss_none {env : Env} {tg v : Expr} (h : ssNone env.scope tg v = true) : swappedStores [tg] v env = pure none := by
  unfold swappedStores
  cases tg <;> try rfl
  · cases v <;> first | rfl | cases h
  · rename_i ts k p
    cases v <;> try rfl
    rename_i vs k2 p2
    unfold ssNone at h
    simp only []
    split
    · rfl
    · rename_i h1
      split
      · rfl
      · rename_i h2
        split
        · rfl
        · rename_i h3
          split
          · rfl
          · rename_i h4
            exfalso
            simp only [Bool.or_eq_true, Bool.and_eq_true] at h
            rcases h with ((h | h) | h) | h
            · exact h1 (by rw [Bool.or_eq_true, Bool.or_eq_true]; exact .inl (.inl h))
            · exact h1 (by rw [Bool.or_eq_true, Bool.or_eq_true]; exact .inl (.inr h))
            · exact h4 h.2
            · exact h3 (by
                rw [Bool.or_eq_true]
                exact .inl (fm_key env.scope _ (fun t ht => by
                  cases t <;> first | rfl | skip
                  rename_i y py
                  have hn : (env.kindOf y == some NameKind.local) = false := by
                    cases e : (env.kindOf y == some NameKind.local) with
                    | false => rfl
                    | true => exact absurd (eq_of_beq e) (ht y rfl)
                  simp only [hn, Bool.false_and, Bool.false_eq_true, if_false]) h.2))
/-- a pair, a three of names that are stored from the right -/
theorem sw_two {env : Env} {x y : Str} {px py pt pt2 : Pos} {kt k2 : Nat} {a b : Expr} (hk : env.scope.kind = .function) (hx : env.scope.names.lookup x = some .local) (hy : env.scope.names.lookup y = some .local) (hl : (py.line == px.line) = true) (hne : x ≠ y)
    (hs : isStar a = false) (hs2 : isStar b = false) (hf : [a, b].all (foldedForSure 8) = false) (hcn : [a, b].all (constantsAlone 8) = false) :
    swappedStores [.Tuple [.Name x px, .Name y py] kt pt] (.Tuple [a, b] k2 pt2) env = pure (some [x, y]) := by
  have hb : env.blockKind = .function := by unfold Env.blockKind; rw [hk]; rfl
  have kx : env.kindOf x = some .local := hx
  have ky : env.kindOf y = some .local := hy
  have hl' : py.line = px.line := eq_of_beq hl
  have ed : [x, y].eraseDups.length = 2 := by
    have e1 : (y == x) = false := beq_false_of_ne (Ne.symm hne)
    simp [List.eraseDups_cons, List.filter, e1]
  unfold swappedStores
  simp only [hb, hf, hcn]
  split
  · rename_i h; exact absurd h (by simp)
  · split
    · rename_i h
      exfalso
      rw [List.any_cons, List.any_cons, Bool.or_eq_true, Bool.or_eq_true] at h
      rcases h with h | h | h
      · cases a <;> first | (exact Bool.noConfusion h) | (cases h; done) | (exact absurd hs (by simp [isStar]))
      · cases b <;> first | (exact Bool.noConfusion h) | (cases h; done) | (exact absurd hs2 (by simp [isStar]))
      · cases h
    · simp [kx, ky, hl', Expr.pos, ed]
theorem sw_three {env : Env} {x y z : Str} {px py pz pt pt2 : Pos} {kt k2 : Nat} {a b c : Expr} (hk : env.scope.kind = .function) (hx : env.scope.names.lookup x = some .local) (hy : env.scope.names.lookup y = some .local) (hz : env.scope.names.lookup z = some .local) (hl : (py.line == px.line) = true) (hl2 : (pz.line == px.line) = true)
    (hne : x ≠ y) (hne2 : x ≠ z) (hne3 : y ≠ z) (hs : isStar a = false) (hs2 : isStar b = false) (hs3 : isStar c = false) (hf : [a, b, c].all (foldedForSure 8) = false) (hcn : [a, b, c].all (constantsAlone 8) = false) :
    swappedStores [.Tuple [.Name x px, .Name y py, .Name z pz] kt pt] (.Tuple [a, b, c] k2 pt2) env = pure (some [x, y, z]) := by
  have hb : env.blockKind = .function := by unfold Env.blockKind; rw [hk]; rfl
  have kx : env.kindOf x = some .local := hx
  have ky : env.kindOf y = some .local := hy
  have kz : env.kindOf z = some .local := hz
  have hl' : py.line = px.line := eq_of_beq hl
  have hl2' : pz.line = px.line := eq_of_beq hl2
  have ed : [x, y, z].eraseDups.length = 3 := by
    have e1 : (y == x) = false := beq_false_of_ne (Ne.symm hne)
    have e2 : (z == x) = false := beq_false_of_ne (Ne.symm hne2)
    have e3 : (z == y) = false := beq_false_of_ne (Ne.symm hne3)
    simp [List.eraseDups_cons, List.filter, e1, e2, e3]
  unfold swappedStores
  simp only [hb, hf, hcn]
  split
  · rename_i h; exact absurd h (by simp)
  · split
    · rename_i h
      exfalso
      rw [List.any_cons, List.any_cons, List.any_cons, Bool.or_eq_true, Bool.or_eq_true, Bool.or_eq_true] at h
      rcases h with h | h | h | h
      · cases a <;> first | (exact Bool.noConfusion h) | (cases h; done) | (exact absurd hs (by simp [isStar]))
      · cases b <;> first | (exact Bool.noConfusion h) | (cases h; done) | (exact absurd hs2 (by simp [isStar]))
      · cases c <;> first | (exact Bool.noConfusion h) | (cases h; done) | (exact absurd hs3 (by simp [isStar]))
      · cases h
    · simp [kx, ky, kz, hl', hl2', Expr.pos, ed]
end Dz
/-! Dz24: statements are as they are read. -/
namespace Dz
open PySem PySem.Spec PyProof.Rows L2

variable {cl : CL} {G : Sg} {K : Ck}
def asAsg : Stmt → Option (Expr × Expr)
  | .Assign [t] v _ => some (t, v)
  | _ => none
def asPar2 : Stmt → Option (Str × Str × Pos × Pos × Expr × Expr)
  | .Assign [.Tuple [.Name x px, .Name y py] _ _] (.Tuple [a, b] _ _) _ => some (x, y, px, py, a, b)
  | _ => none
def asPar3 : Stmt → Option (Str × Str × Str × Pos × Pos × Pos × Expr × Expr × Expr)
  | .Assign [.Tuple [.Name x px, .Name y py, .Name z pz] _ _] (.Tuple [a, b, c] _ _) _ => some (x, y, z, px, py, pz, a, b, c)
  | _ => none
def asExp : Stmt → Option Expr
  | .Expr a _ => some a
  | _ => none
def asRet : Stmt → Option Expr
  | .Return (some a) _ => some a
  | _ => none
def asIfS : Stmt → Option (Expr × List Stmt × List Stmt)
  | .If c x y _ => some (c, x, y)
  | _ => none
def asWhl : Stmt → Option (Expr × List Stmt)
  | .While c x [] _ => some (c, x)
  | _ => none
def asFor : Stmt → Option (Expr × Expr × List Stmt)
  | .For t i b [] _ => some (t, i, b)
  | _ => none
def isPass : Stmt → Bool
  | .Pass _ => true
  | _ => false
def isBrk : Stmt → Bool
  | .Break _ => true
  | _ => false
def isCnt : Stmt → Bool
  | .Continue _ => true
  | _ => false
def isRet0 : Stmt → Bool
  | .Return none _ => true
  | _ => false
section
variable {s : Stmt} {a b c : Expr} {x y : List Stmt}
theorem asAsg_eq (h : asAsg s = some (a, b)) : ∃ p, s = .Assign [a] b p := by
  unfold asAsg at h
  split at h <;> cases h
  exact ⟨_, rfl⟩
theorem asPar2_eq {x y : Str} {px py : Pos} (h : asPar2 s = some (x, y, px, py, a, b)) : ∃ k p k2 p2 p3, s = .Assign [.Tuple [.Name x px, .Name y py] k p] (.Tuple [a, b] k2 p2) p3 := by
  unfold asPar2 at h
  split at h <;> cases h
  exact ⟨_, _, _, _, _, rfl⟩
theorem asPar3_eq {x y z : Str} {px py pz : Pos} (h : asPar3 s = some (x, y, z, px, py, pz, a, b, c)) : ∃ k p k2 p2 p3, s = .Assign [.Tuple [.Name x px, .Name y py, .Name z pz] k p] (.Tuple [a, b, c] k2 p2) p3 := by
  unfold asPar3 at h
  split at h <;> cases h
  exact ⟨_, _, _, _, _, rfl⟩
theorem asExp_eq (h : asExp s = some a) : ∃ p, s = .Expr a p := by
  unfold asExp at h
  split at h <;> cases h
  exact ⟨_, rfl⟩
theorem asRet_eq (h : asRet s = some a) : ∃ p, s = .Return (some a) p := by
  unfold asRet at h
  split at h <;> cases h
  exact ⟨_, rfl⟩
theorem asIfS_eq (h : asIfS s = some (a, x, y)) : ∃ p, s = .If a x y p := by
  unfold asIfS at h
  split at h <;> cases h
  exact ⟨_, rfl⟩
theorem asWhl_eq (h : asWhl s = some (a, x)) : ∃ p, s = .While a x [] p := by
  unfold asWhl at h
  split at h <;> cases h
  exact ⟨_, rfl⟩
theorem asFor_eq (h : asFor s = some (a, b, x)) : ∃ p, s = .For a b x [] p := by
  unfold asFor at h
  split at h <;> cases h
  exact ⟨_, rfl⟩
theorem isPass_eq (h : isPass s = true) : ∃ p, s = .Pass p := by
  unfold isPass at h
  split at h <;> cases h
  exact ⟨_, rfl⟩
theorem isBrk_eq (h : isBrk s = true) : ∃ p, s = .Break p := by
  unfold isBrk at h
  split at h <;> cases h
  exact ⟨_, rfl⟩
theorem isCnt_eq (h : isCnt s = true) : ∃ p, s = .Continue p := by
  unfold isCnt at h
  split at h <;> cases h
  exact ⟨_, rfl⟩
theorem isRet0_eq (h : isRet0 s = true) : ∃ p, s = .Return none p := by
  unfold isRet0 at h
  split at h <;> cases h
  exact ⟨_, rfl⟩
end
theorem asg_one {env : Env} {tg : Expr} (h : isStar tg = false) : (assignEach [tg] env).map (·.2) = [assign tg env] := by
  cases tg <;> first | rfl | cases h
/-- a name of the frame -/
def nmB (K : Ck) (i : Nat) (sc : Scope) (y : Str) : Bool := decide (K.N[i]? = some y) && decide (sc.names.lookup y = some .local)
mutual
def ckS (K : Ck) : Sn → Scope → Stmt → Bool
  | .set t e, sc, x => match asAsg x with
    | some (tg, v) => ckTg K t sc tg && ckE K e sc v && noSC v && !isStar tg && ((!swC sc v tg && ssNone sc tg v) || (swC sc v tg && (match t, e with | .name _, .comp .. => true | _, _ => false)))
    | none => false
  | .par2 i j a b, sc, x => match asPar2 x with
    | some (y, z, py, pz, v, w) => nmB K i sc y && nmB K j sc z && decide (i ≠ j) && decide (y ≠ z) && (pz.line == py.line) && ckE K a sc v && ckE K b sc w && !isStar v && !isStar w && !([v, w].all (foldedForSure 8)) && !([v, w].all (constantsAlone 8))
    | none => false
  | .par3 i j k a b c, sc, x => match asPar3 x with
    | some (y, z, u, py, pz, pu, v, w, q) => nmB K i sc y && nmB K j sc z && nmB K k sc u && decide (i ≠ j) && decide (i ≠ k) && decide (j ≠ k) && decide (y ≠ z) && decide (y ≠ u) && decide (z ≠ u) && (pz.line == py.line) && (pu.line == py.line) && ckE K a sc v && ckE K b sc w && ckE K c sc q && !isStar v && !isStar w && !isStar q && !([v, w, q].all (foldedForSure 8)) && !([v, w, q].all (constantsAlone 8))
    | none => false
  | .expr e, sc, x => match asExp x with
    | some a => noComp a && ckE K e sc a
    | none => false
  | .ret e, sc, x => match asRet x with
    | some a => ckE K e sc a
    | none => false
  | .retN, _, x => isRet0 x
  | .ife c a b, sc, x => match asIfS x with
    | some (y, u, w) => ckE K c sc y && ckT c y && ckSs K a sc u && ckSs K b sc w
    | none => false
  | .whil c b, sc, x => match asWhl x with
    | some (y, u) => ckE K c sc y && ckT c y && ckSs K b sc u
    | none => false
  | .for t s b, sc, x => match asFor x with
    | some (tg, it, u) => notSet it && ckSrc K s sc tg it && ckTg K t sc tg && ckSs K b sc u
    | none => false
  | .pass, _, x => isPass x
  | .brk, _, x => isBrk x
  | .cont, _, x => isCnt x
  | .never, _, _ => true
  | .ghost, _, _ => false
def ckSs (K : Ck) : Ss → Scope → List Stmt → Bool
  | .nil, _, xs => xs.isEmpty
  | .cons .ghost r, sc, xs => ckSs K r sc xs
  | .cons s r, sc, xs => match xs with
    | x :: xs => ckS K s sc x && ckSs K r sc xs
    | [] => false
end
theorem ps_of {X : Cx} {e : Stmt} {t t' : TS'} (h : PS' cl X e t) (i : ∀ Z r S, t' Z r S → t Z r S) : PS' cl X e t' := PS.imp h fun Z s H ⟨r, S, T, m, e, q⟩ => ⟨r, S, T, m, e, i _ _ _ q⟩
theorem pss_of {X : Cx} {e : List Stmt} {t t' : TS'} (h : PSs' cl X e t) (i : ∀ Z r S, t' Z r S → t Z r S) : PSs' cl X e t' := PSs.imp h fun Z s H ⟨r, S, T, m, e, q⟩ => ⟨r, S, T, m, e, i _ _ _ q⟩
theorem ok_set {t : Tg} {e : E} {X : Cx} {x : Stmt} (hc : XC cl X) (g : GX cl X G K) (fn : ∀ x, X.fn x = true) (hk : X.env.scope.kind = .function) (h : ckS K (.set t e) X.env.scope x = true) : PS' cl X x (wS G (.set t e)) := by
  simp only [ckS] at h
  split at h
  · rename_i tg v hx
    obtain ⟨p, rfl⟩ := asAsg_eq hx
    simp only [Bool.and_eq_true, Bool.or_eq_true, Bool.not_eq_true'] at h
    obtain ⟨⟨⟨⟨h1, h2⟩, h3⟩, h4⟩, h5⟩ := h
    rcases h5 with ⟨h5, h6⟩ | ⟨h5, h6⟩
    · refine ps_of (s_asg (pos := p) (wE_mono g.mono e) (wTg_mono g.mono t) (okE e X v hc g h2).1 (okTg t X tg hc g fn h1) ?_ (ss_none h6) (asg_one h4)) fun Z r S q => by (simp only [wS] at q; exact q)
      show swapsWith v (some tg) p.line X.env = pure false
      rw [sw_eq hk h3, h5]
    · split at h6
      · rename_i i own vs t' e' c s
        simp only [ckTg] at h1
        split at h1
        · rename_i y hy
          obtain ⟨py, rfl⟩ := asName_eq hy
          simp only [Bool.and_eq_true, Bool.or_eq_true, decide_eq_true_eq] at h1
          simp only [ckE] at h2
          split at h2
          · rename_i elt tg2 iter ifs sc2 hv
            obtain ⟨p2, rfl⟩ := asComp_eq hv
            simp only [Bool.and_eq_true, decide_eq_true_eq] at h2
            obtain ⟨⟨⟨⟨⟨⟨a1, a2⟩, a3⟩, a4⟩, a5⟩, a6⟩, a7⟩ := h2
            have ok : BlkOk X.N X.env.scope sc2 (ownOf K.N vs) := by rw [g.N]; exact blkOk_by a1
            have lc : X.env.scope.names.lookup y = some .local := by
              unfold swC at h5
              simp only [Bool.and_eq_true, decide_eq_true_eq] at h5
              exact h5.1.1
            have sw : swapsWith (.ListComp elt [⟨tg2, iter, ifs, 0⟩] sc2 p2) (some (.Name y py)) p.line X.env = pure true := by rw [sw_eq hk h3, h5]
            have := s_setLc (pos := p2) (spos := p) own hc (by rw [g.N]; exact h1.1) lc sw (wSrc_mono g.mono s) (wTg_mono g.mono t') (wC_mono g.mono c) (wE_mono g.mono e') (okSrc s X tg2 iter hc g a4) ok
              (fun s1 H C cc fp => by rw [a2]; exact tgC_ok (X := X.blk s1 H sc2 (compEnvC sc2 cc C X.env) fp) hc.blk g.N g.mono t' tg2 a5)
              (fun s1 H C cc fp => okC c (X.blk s1 H sc2 (compEnvC sc2 cc C X.env) fp) ifs hc.blk g.blk a6)
              (fun s1 H C cc fp => (okE e' (X.blk s1 H sc2 (compEnvC sc2 cc C X.env) fp) elt hc.blk g.blk a7).1) (notSet_ok a3)
            rw [a2] at this
            exact ps_of this fun Z r S q => by (simp only [wS, wE, wTg] at q; exact q)
          · cases h2
        · cases h1
      · cases h6
  · cases h
theorem ok_par2 {i j : Nat} {a b : E} {X : Cx} {x : Stmt} (hc : XC cl X) (g : GX cl X G K) (hk : X.env.scope.kind = .function) (h : ckS K (.par2 i j a b) X.env.scope x = true) : PS' cl X x (wS G (.par2 i j a b)) := by
  simp only [ckS] at h
  split at h
  · rename_i y z py pz v w hx
    obtain ⟨k, p, k2, p2, p3, rfl⟩ := asPar2_eq hx
    simp only [nmB, Bool.and_eq_true, decide_eq_true_eq, Bool.not_eq_true'] at h
    obtain ⟨⟨⟨⟨⟨⟨⟨⟨⟨⟨h1, h2⟩, h3⟩, h4⟩, h5⟩, h6⟩, h7⟩, h8⟩, h9⟩, h10⟩, h11⟩ := h
    exact ps_of (s_par2 (pos := p3) hc (wE_mono g.mono a) (wE_mono g.mono b) (by rw [g.N]; exact h1.1) (by rw [g.N]; exact h2.1) h3 h1.2 h2.2 (okE a X v hc g h6).1 (okE b X w hc g h7).1 h8 h9 rfl
      (sw_two hk h1.2 h2.2 h5 h4 h8 h9 h10 h11)) fun Z r S q => by (simp only [wS] at q; exact q)
  · cases h
theorem ok_par3 {i j l : Nat} {a b c : E} {X : Cx} {x : Stmt} (hc : XC cl X) (g : GX cl X G K) (hk : X.env.scope.kind = .function) (h : ckS K (.par3 i j l a b c) X.env.scope x = true) : PS' cl X x (wS G (.par3 i j l a b c)) := by
  simp only [ckS] at h
  split at h
  · rename_i y z u py pz pu v w q hx
    obtain ⟨k, p, k2, p2, p3, rfl⟩ := asPar3_eq hx
    simp only [nmB, Bool.and_eq_true, decide_eq_true_eq, Bool.not_eq_true'] at h
    obtain ⟨⟨⟨⟨⟨⟨⟨⟨⟨⟨⟨⟨⟨⟨⟨⟨⟨⟨h1, h2⟩, h3⟩, i1⟩, i2⟩, i3⟩, n1⟩, n2⟩, n3⟩, l1⟩, l2⟩, h6⟩, h7⟩, h8⟩, s1⟩, s2⟩, s3⟩, h10⟩, h11⟩ := h
    exact ps_of (s_par3 (pos := p3) hc (wE_mono g.mono a) (wE_mono g.mono b) (wE_mono g.mono c) (by rw [g.N]; exact h1.1) (by rw [g.N]; exact h2.1) (by rw [g.N]; exact h3.1) i1 i2 i3 h1.2 h2.2 h3.2 (okE a X v hc g h6).1 (okE b X w hc g h7).1 (okE c X q hc g h8).1 s1 s2 s3 rfl
      (sw_three hk h1.2 h2.2 h3.2 l1 l2 n1 n2 n3 s1 s2 s3 h10 h11)) fun Z r S q => by (simp only [wS] at q; exact q)
  · cases h
mutual
theorem okSt : ∀ (s : Sn) (X : Cx) (x : Stmt), XC cl X → GX cl X G K → (∀ x, X.fn x = true) → X.env.scope.kind = .function → ckS K s X.env.scope x = true → PS' cl X x (wS G s)
  | .set t e, X, x, hc, g, fn, hk, h => ok_set hc g fn hk h
  | .par2 .., X, x, hc, g, fn, hk, h => ok_par2 hc g hk h
  | .par3 .., X, x, hc, g, fn, hk, h => ok_par3 hc g hk h
  | .expr e, X, x, hc, g, fn, hk, h => by
    simp only [ckS] at h
    split at h
    · rename_i a hx
      obtain ⟨p, rfl⟩ := asExp_eq hx
      rw [Bool.and_eq_true] at h
      exact ps_of (s_expr (wE_mono g.mono e) (okE e X a hc g h.2).1 (noComp_ok h.1)) fun Z r S q => by (simp only [wS] at q; exact q)
    · cases h
  | .ret e, X, x, hc, g, fn, hk, h => by
    simp only [ckS] at h
    split at h
    · rename_i a hx
      obtain ⟨p, rfl⟩ := asRet_eq hx
      exact ps_of (s_ret (wE_mono g.mono e) (okE e X a hc g h).1) fun Z r S q => by (simp only [wS] at q; exact q)
    · cases h
  | .retN, X, x, hc, g, fn, hk, h => by
    obtain ⟨p, rfl⟩ := isRet0_eq (by simpa only [ckS] using h)
    exact ps_of s_retN fun Z r S q => by (simp only [wS] at q; exact q)
  | .ife c a b, X, x, hc, g, fn, hk, h => by
    simp only [ckS] at h
    split at h
    · rename_i y u w hx
      obtain ⟨p, rfl⟩ := asIfS_eq hx
      simp only [Bool.and_eq_true] at h
      obtain ⟨⟨⟨h1, h2⟩, h3⟩, h4⟩ := h
      exact ps_of (s_if (wE_mono g.mono c) (wSs_mono g.mono a) (wSs_mono g.mono b) ((okE c X y hc g h1).2 h2).1 (okSs a X u hc g fn hk h3) (okSs b X w hc g fn hk h4)) fun Z r S q => by (simp only [wS] at q; exact q)
    · cases h
  | .whil c b, X, x, hc, g, fn, hk, h => by
    simp only [ckS] at h
    split at h
    · rename_i y u hx
      obtain ⟨p, rfl⟩ := asWhl_eq hx
      simp only [Bool.and_eq_true] at h
      obtain ⟨⟨h1, h2⟩, h3⟩ := h
      exact ps_of (s_while hc (wE_mono g.mono c) (wSs_mono g.mono b) ((okE c X y hc g h1).2 h2).1 (okSs b X u hc g fn hk h3)) fun Z r S q => by (simp only [wS] at q; exact q)
    · cases h
  | .for t s b, X, x, hc, g, fn, hk, h => by
    simp only [ckS] at h
    split at h
    · rename_i tg it u hx
      obtain ⟨p, rfl⟩ := asFor_eq hx
      simp only [Bool.and_eq_true] at h
      obtain ⟨⟨⟨h1, h2⟩, h3⟩, h4⟩ := h
      exact ps_of (s_for hc (wSrc_mono g.mono s) (wTg_mono g.mono t) (wSs_mono g.mono b) (okSrc s X tg it hc g h2) (okTg t X tg hc g fn h3) (okSs b X u hc g fn hk h4) (notSet_ok h1)) fun Z r S q => by (simp only [wS] at q; exact q)
    · cases h
  | .pass, X, x, hc, g, fn, hk, h => by
    obtain ⟨p, rfl⟩ := isPass_eq (by simpa only [ckS] using h)
    exact ps_of s_pass fun Z r S q => by (simp only [wS] at q; exact q)
  | .brk, X, x, hc, g, fn, hk, h => by
    obtain ⟨p, rfl⟩ := isBrk_eq (by simpa only [ckS] using h)
    exact ps_of s_brk fun Z r S q => by (simp only [wS] at q; exact q)
  | .cont, X, x, hc, g, fn, hk, h => by
    obtain ⟨p, rfl⟩ := isCnt_eq (by simpa only [ckS] using h)
    exact ps_of s_cont fun Z r S q => by (simp only [wS] at q; exact q)
  | .never, X, x, hc, g, fn, hk, h => ps_of s_never fun Z r S q => by (simp only [wS] at q)
  | .ghost, X, x, hc, g, fn, hk, h => by simp [ckS] at h
theorem okSs : ∀ (s : Ss) (X : Cx) (xs : List Stmt), XC cl X → GX cl X G K → (∀ x, X.fn x = true) → X.env.scope.kind = .function → ckSs K s X.env.scope xs = true → PSs' cl X xs (wSs G s)
  | .nil, X, xs, hc, g, fn, hk, h => by
    simp only [ckSs, List.isEmpty_iff] at h
    subst h
    exact pss_of ss_nil fun Z r S q => by (simp only [wSs] at q; exact q)
  | .cons s r, X, xs, hc, g, fn, hk, h => by
    by_cases hs : s = .ghost
    · subst hs
      simp only [ckSs] at h
      exact pss_of (ss_ghost (wSs_mono g.mono r) (okSs r X xs hc g fn hk h)) fun Z r S q => by (simp only [wSs, wS] at q; exact q)
    · have h' : ∃ x ys, xs = x :: ys ∧ ckS K s X.env.scope x = true ∧ ckSs K r X.env.scope ys = true := by
        cases s <;> first | (exact absurd rfl hs) | (cases xs with
          | nil => exact absurd h (by simp [ckSs])
          | cons x ys => exact ⟨x, ys, rfl, by simpa only [ckSs, Bool.and_eq_true] using h⟩)
      obtain ⟨x, ys, rfl, h1, h2⟩ := h'
      exact pss_of (ss_cons (wS_mono g.mono s) (wSs_mono g.mono r) (okSt s X x hc g fn hk h1) (okSs r X ys hc g fn hk h2)) fun Z r S q => by (simp only [wSs] at q; exact q)
end
end Dz
/-! Dz25: a def keeps its promise. -/
namespace Dz
open PySem PySem.Spec PyProof.Rows L2

variable {cl : CL} {G : Sg} {Kc : Ck}
/-- the slots at a def's entry -/
def r0 (n : Nat) (ds : List D) : Rho := ds.map some ++ List.replicate (n - ds.length) none
theorem r0_sm {N : List Str} {S : Sto} {T H : Hp} : ∀ {ds : List D} {vs : List V}, RpL cl S T H ds vs → SmE cl (r0 N.length ds) S T (L2.start N vs) H := by
  intro ds vs r
  refine ⟨?_, fun i d h => ?_⟩
  · unfold r0 L2.start
    rw [List.length_append, List.length_append, List.length_map, List.length_map, List.length_replicate, List.length_replicate, r.length]
  · unfold r0 at h
    by_cases hi : i < ds.length
    · rw [List.getElem?_append_left (by rw [List.length_map]; exact hi), List.getElem?_map] at h
      cases e : ds[i]? with
      | none => rw [e] at h; cases h
      | some d' =>
        rw [e] at h
        cases h
        obtain ⟨v, h1, h2⟩ := r.get e
        refine ⟨v, ?_, h2⟩
        unfold L2.start
        have hv : i < vs.length := by rw [← r.length]; exact hi
        rw [List.getElem?_append_left (by rw [List.length_map]; exact hv), List.getElem?_map, h1]
        rfl
    · rw [List.getElem?_append_right (by rw [List.length_map]; omega), List.getElem?_replicate] at h
      split at h <;> cases h
/-- what stands around at a level -/
def GAt (P : Program) (w : World) (K : PySem.W.Frag) (mg : Str → Option Value) (base : Heap) (cl : CL) (k : Nat) (G : Sg) (Kc : Ck) : Prop :=
  ∀ X : Cx, X.prog = P → X.w = w → X.K = K → X.mg = mg → X.base = base → X.N = Kc.N → Room k X.A → GX cl X G Kc
section
variable {P : Program} {w : World} {K : PySem.W.Frag} {mg : Str → Option Value} {base : Heap}
/-- a def's body is as it is read, so it keeps its promise -/
theorem fnD_of {x qual : Str} {st : Stmt} {f : Addr} {fd : FuncData} {ps : List Str} {k : Nat} {sp : DSp} {b : Ss} (F : C8.Fun K x qual st f fd) (hS : C8.scC Kc.N ps (C8.fnScope st) = true) (hs : cl.hs = (tupleKind (mixKind P w)).hash)
    (g : GAt P w K mg base cl k G Kc) (ck : ckSs Kc b (C8.fnScope st) (C8.fnBody st) = true) (len : ∀ ds S Q, sp ds S Q → ds.length = ps.length) (mono : MonoSp sp)
    (hb : ∀ ds S Q, sp ds S Q → wSs G b { nx := fun _ S1 => Q .non S1, rt := Q } (r0 Kc.N.length ds) S) : FnD P w K mg base cl (k + 1) f fd ps sp := by
  obtain ⟨oc, od, dV, kV, doc, pm, an, cdv, ct, osl, rfl, lk, hcd⟩ := F.ex
  have SC := C8.fnScope_by hS
  refine ⟨len, mono, fun A outer s H args us vs ds S T Q hr hg e0 hbd r m rl hsp => ?_⟩
  refine LamX.run_ofS (N := Kc.N) lk hcd SC hr e0 hbd r (by rw [← rl.length]; exact len _ _ _ hsp) fun hr' => ?_
  refine ⟨_, (okSs b (cxOf C8.CX0 P w K mg base Kc.N qual (C8.fnScope st) f cdv A outer s H C8.E0).nox (C8.fnBody st) ⟨hs, rfl, hr'.mono (Nat.zero_le _), hg, SC.nd, PassesOwn.never⟩ (g _ rfl rfl rfl rfl rfl rfl hr') (fun _ => rfl) SC.kind ck).nox, ?_⟩
  refine ⟨r0 Kc.N.length ds, S, T, m, r0_sm rl, wSs_mono (g (cxOf C8.CX0 P w K mg base Kc.N qual (C8.fnScope st) f cdv A outer s H C8.E0).nox rfl rfl rfl rfl rfl rfl hr').mono b { nx := fun _ S1 => kQ cl S T H Q .non S1, rt := kQ cl S T H Q } _ _ _ ⟨fun r S1 q s1 H1 x m1 e1 => q .non H1 x m1 .non, fun d S1 q => q, fun r S1 q => False.elim q, fun r S1 q => False.elim q⟩ (hb ds S _ hsp)⟩
end
end Dz
/-! Dz26: sorted by a key of one's own, over a list or a tuple. -/
namespace Dz
open PySem PySem.Spec PyProof.Rows L2

theorem sortedk_any {prog : Program} {w : World} {A : Around} {E : Value → Shared → Prop} {s : Shared} {β : Type} {bs : List β} {k : β → PyData} {R : Value → β → Prop} {it f : Addr} {t : String} {o : Obj} {items : Array Value} {n : Nat} {Q : Value → Shared → Prop}
    (hT : t = "list" ∨ t = "tuple") (ho : s.heap.get? it = some o) (hc : o.cls = .type t) (hd : o.data = .seq items n)
    (e : PySem.W.EachIs R items.toList bs) (hal : PySem.W.AllAlike (bs.map k)) (hk : PySem.W.Sortable (bs.map k)) (hL : bs.length ≤ sizeLine)
    (hu : ∀ b, b ∈ bs → A.units + 2 + (k b).depth < cLine)
    (turn : ∀ (v : Value) (x : β), R v x → x ∈ bs → ∀ (h : Heap) (tk : Nat), (∀ b o, s.heap.get? b = some o → h.get? b = some o) →
      wpAny (model prog w) A.in1.in1 (call (.ref f) [v]) (PySem.W.KeyPure (k x) { s with heap := h, toks := tk }) (fun _ _ => False) { s with heap := h, toks := tk })
    (h : ∀ (l : Addr) (h' : Heap) (tk : Nat) (out : List Value) (c : Nat), s.heap.objs.size ≤ l → (∀ b o', s.heap.get? b = some o' → h'.get? b = some o') → h'.get? l = some { cls := .type "list", data := .seq out.toArray c } →
      PySem.W.EachIs R out (bs.mergeSort (PySem.W.dataLe false k)) → Q (.ref l) { s with heap := h', toks := tk }) :
    wpAny (model prog w) A (call (.builtin "sorted") [.ref it] [(Str.ofString "key", .ref f)]) Q E s := by
  have hlen : items.toList.length = bs.length := e.length
  have hsz : items.size ≤ sizeLine := by rw [← Array.length_toList, hlen]; exact hL
  refine call_function_entry_kw kind_sorted plain_sorted entry_sorted (PyProof.Rows.ksk_s1 _ _) ?_
  unfold Builtin.«sorted»
  refine wpAny_bind (m := checkCount "sorted" 1 1 _) (wpAny_pure ?_)
  refine wpAny_bind (collect_col it hT ho hc hd hsz ?_)
  generalize hh : colHeap s.heap items = h'
  have hk' : ∀ b o', s.heap.get? b = some o' → h'.get? b = some o' := fun b o' q => by rw [← hh]; exact colHeap_old q
  have lt' : s.heap.objs.size ≤ h'.objs.size := by rw [← hh, colHeap_size]; omega
  refine wpAny_bind (wpAny_newList ?_ (by rw [hlen]; exact hL))
  have hn : (h'.push { cls := .type "list", data := .seq items.toList.toArray }).get? h'.objs.size = some (PyProof.Rows.seqObj "list" items.toList.toArray 0) := Heap.get?_push_size _ rfl
  have old : ∀ b o', s.heap.get? b = some o' → (h'.push { cls := .type "list", data := .seq items.toList.toArray }).get? b = some o' := fun b o' q => Heap.get?_push_of_some _ (hk' b o' q)
  have ne : ∀ b o', s.heap.get? b = some o' → b ≠ h'.objs.size := fun b o' q => Nat.ne_of_lt (Nat.lt_of_lt_of_le (Heap.lt_size q) lt')
  refine wpAny_bind (wpAny_holding ?_)
  refine PySem.W.list_sort_key_data (R := R) (b := false) k (vs := items.toList) (bs := bs) (s := { s with heap := h'.push { cls := .type "list", data := .seq items.toList.toArray } }) hn e hal hk hL
    (fun b hb => by have := hu b hb; show A.units + 1 + 1 + _ < _; omega) (PyProof.Rows.ksk_l1 _ _) (PyProof.Rows.ksk_t1 _ _)
    (fun v x hR hx g tk kp => turn v x hR hx g tk fun b o' q => kp b o' (ne b o' q) (old b o' q)) fun out c g tk kp hat _ h2 => ?_
  exact wpAny_pure ⟨_, rfl, h _ _ tk out c lt' (fun b o' q => kp b o' (ne b o' q) (old b o' q)) hat h2⟩
/-- tuple.index(x), at any state -/
theorem tup_index {prog : Program} {w : World} {A : Around} {E : Value → Shared → Prop} {s : Shared} {Q : Value → Shared → Prop} {a : Addr} {its : List Value} {n : Nat} {dd : Option Addr} {sl : Array (Option Value)} {u : Value} {ds : List PyData} {d : PyData} {as bs : List Addr} {j : Nat}
    (ho : s.heap.get? a = some { cls := .type "tuple", dict := dd, data := .seq its.toArray n, slots := sl }) (h4 : ReadsAll s.heap its ds as) (r1 : Reads s.heap u d bs) (l : PyData.canLayAll0 ds = true) (l2 : d.canLay0 = true) (hu : A.units + 1 + min (PyData.depthAll ds) d.depth < cLine)
    (hz : ds[j]? = some d) (hzj : PyData.eqv d d = true) (hno : ∀ (k : Nat) (z : PyData), k < j → ds[k]? = some z → PyData.eqv z d = false) (h : Q (.int (j : Nat) s.toks) { s with toks := s.toks + 1 }) :
    wpAny (model prog w) A (call (.builtin "tuple.index") [.ref a, u]) Q E s := by
  have hn : its.length = ds.length := SeqAt.ReadsAll.length ds its as h4
  have hmap : its.map (SeqAt.readOf s.heap) = ds := SeqAt.readsAll_map ds its as l h4
  obtain ⟨hjd, _⟩ := List.getElem?_eq_some_iff.mp hz
  have hjl : j < its.length := by omega
  have hj' : j < its.toArray.size := by simpa using hjl
  have at_ : ∀ (k : Nat) (hk : k < its.toArray.size) (z' : PyData), ds[k]? = some z' → SeqAt.readOf s.heap its.toArray[k] = z' := by
    intro k hk z' hz'
    have hml : k < its.length := by simpa using hk
    rw [← hmap, List.getElem?_map, List.getElem?_eq_getElem hml] at hz'
    have e1 : SeqAt.readOf s.heap its[k] = z' := Option.some.inj (show some (SeqAt.readOf s.heap its[k]) = some z' from hz')
    simpa using e1
  refine call_meets PySem.F.slot_tuple_index ⟨_, ho, rfl⟩ PySem.F.entry_tuple_index (PySem.F.args_tuple_index_2 _ _)
    (TI.tuple_indexAt a its.toArray n dd sl u (fun w => PyData.eqv (SeqAt.readOf s.heap w) d) j hj' ?_ ?_)
    ⟨ho, SeqAt.items_eqAt (vs := its.toArray) (show ReadsAll s.heap its.toArray.toList ds as from h4) r1 l l2 hu, h⟩
  · show PyData.eqv (SeqAt.readOf s.heap its.toArray[j]) d = true
    rw [at_ j hj' _ hz]
    exact hzj
  · intro k hk hkj
    have hz' : ds[k]? = some ds[k] := List.getElem?_eq_getElem (by omega)
    show PyData.eqv (SeqAt.readOf s.heap its.toArray[k]) d = false
    rw [at_ k hk _ hz']
    exact hno k _ hkj hz'
/-- one turn of lambda x: g.index(x), g captured -/
theorem lam_turn {prog : Program} {w : World} {A : Around} {s : Shared} {f c' cg ga : Addr} {q x g : Str} {params : Arguments} {scope : Scope} {clo : List (Str × Addr)} {pm ctv v : Value} {p1 p2 apos cpos : Pos} {its : List Value} {n : Nat} {sl : Array (Option Value)} {ds : List PyData} {d : PyData} {as bs : List Addr} {j : Nat}
    (of1 : s.heap.get? f = some (PySem.W.kla_obj "<lambda>" q params (.Call (.Attribute (.Name g p1) "index" apos) [.Name x p2] [] cpos) scope clo pm c' ctv))
    (hk : scope.kind = .function) (hco : scope.isCoroutine = false) (hgen : scope.isGenerator = false) (hcell : ∀ y ∈ scope.names, y.2 ≠ .cell) (hx : scope.names.lookup x = some .local) (hg : scope.names.lookup g = some .free) (hcd : s.heap.CodeRec (.ref c') q) (nl : s.heap.NoLimit)
    (hclo : clo.lookup g = some cg) (hcg : s.heap.IsCell cg (some (.ref ga))) (hdep : A.depth < recursionLimit)
    (hbind : bindArgs (PySem.W.kla_fn "<lambda>" q params (.Call (.Attribute (.Name g p1) "index" apos) [.Name x p2] [] cpos) scope clo pm (.ref c') ctv) ⟨[v], []⟩ = pure [(x, v)])
    (hline : (apos.endLine == cpos.line) = true) (gcd : (g == ("__classdict__" : Str)) = false) (gdb : (g == ("__debug__" : Str)) = false) (xdb : (x == ("__debug__" : Str)) = false)
    (ho : s.heap.get? ga = some { cls := .type "tuple", dict := none, data := .seq its.toArray n, slots := sl }) (h4 : ReadsAll s.heap its ds as) (r1 : Reads s.heap v d bs) (l : PyData.canLayAll0 ds = true) (l2 : d.canLay0 = true) (hu : A.units + 4 + min (PyData.depthAll ds) d.depth < cLine)
    (hz : ds[j]? = some d) (hzj : PyData.eqv d d = true) (hno : ∀ (k : Nat) (z : PyData), k < j → ds[k]? = some z → PyData.eqv z d = false) :
    wpAny (model prog w) A (call (.ref f) [v]) (PySem.W.KeyPure (.int (j : Nat)) s) (fun _ _ => False) s := by
  refine wpAny_call (PySem.W.kla_callFunE hdep of1 rfl hco hgen rfl hcd ?_)
  rw [hbind]
  refine wpAny_pure (wpAny_newFunctionEnv hcell (fun y hy => ?_) (fun h₁ hns hsb => ⟨nl.fresh _ hsb, ?_⟩) hk)
  · rcases List.mem_cons.mp hy with e | hy
    · rw [e]; exact hx
    · cases hy
  · have kp : ∀ b o, s.heap.get? b = some o → h₁.get? b = some o := fun b o e => hsb.extBut b o (Nat.ne_of_lt (Heap.lt_size e)) (Heap.get?_push_of_some _ e)
    have kc : ∀ {c : Addr} {v : Option Value}, s.heap.IsCell c v → h₁.IsCell c v := fun {c v} ⟨o, ho, hd⟩ => ⟨o, kp _ _ ho, hd⟩
    refine PySem.W.kla_codeExpr ?_
    refine wpAny_Call_method_late rfl rfl hline rfl ?_
    refine wpAny_Name (wpAny_loadName_free hk hg hclo (kc hcg) ?_ gcd) gdb
    refine ⟨"tuple", "tuple.index", PySem.F.plainAttrs_tuple, PySem.F.slot_tuple_index, PySem.F.type_tuple_index, ⟨_, kp _ _ ho, rfl⟩, fun a e => ?_, ?_⟩
    · cases e
      exact ⟨_, kp _ _ ho, rfl⟩
    · have hl : ([(x, v)] : List (Str × Value)).reverse.lookup x = some v := by simp
      refine Calls.callWith_builtin rfl (Calls.evalArgs_plain (Calls.spliced_cons (wpAny_Name (wpAny_loadName_local (v := v) hk hx hns hl (Calls.spliced_nil ?_)) xdb)))
      · refine tup_index (kp _ _ ho) (PyProof.Rows.ReadsAll.keeps kp h4) (PyProof.Rows.Reads.keeps kp r1) l l2 ?_ hz hzj hno ?_
        · show A.units + 3 + 1 + _ < _
          omega
        · exact ⟨_, _, rfl, kp, .int _ _⟩
end Dz
/-! Dz27: sorted(t, key=lambda x: g.index(x)), g captured. -/
namespace Dz
open PySem PySem.Spec PyProof.Rows L2 LamX

section
variable {cl : CL} {X : Cx} {pins : List (Addr × Obj)} {σ : L2.St} {H : Hp} {s : Shared} {S : Sto} {T : Hp}
/-- a table has grown -/
theorem ex_tab {P c : Addr} {q : Str} {ps qs : Array Value} (hP : H P = some (.tbl ps)) (f : Fr S T P) (nC : H c = none) : Ex S S T H (upd (upd H P (.tbl qs)) c (CodeO c q)) := by
  have ne : ∀ a o, H a = some o → a ≠ c := fun a o e z => by rw [z, nC] at e; cases e
  have nP : ∀ a u, H a = some u → (∀ p, u ≠ .tbl p) → a ≠ P := fun a u e h z => by
    rw [z, hP] at e
    exact h ps (Option.some.inj e).symm
  have key : ∀ a u, H a = some u → (∀ p, u ≠ .tbl p) → upd (upd H P (.tbl qs)) c (CodeO c q) a = some u := fun a u e h => by rw [upd_ne (ne _ _ e), upd_ne (nP a u e h)]; exact e
  refine ⟨fun a u i h1 h2 => ?_, fun a u h1 h2 i => key a u h2 (fun p e => (by rw [e] at i; cases i)), fun a o h1 h2 => ⟨h1.1, ?_⟩, fun a u h1 h2 h3 => ⟨?_, h3⟩⟩
  · rcases h2 with h2 | ⟨ob, h2⟩
    · exact .inl (key a u h2 fun p e => by rw [e] at i; cases i)
    · exact .inr ⟨ob, key a _ h2 fun p e => by cases e⟩
  · by_cases e : a = P
    · subst e
      exact ⟨_, by rw [upd_ne (ne _ _ h2), upd_same]⟩
    · exact ⟨o, by rw [upd_ne (ne _ _ h2), upd_ne e]; exact h2⟩
  · have e : a ≠ P := fun z => by
      rw [z, f.2] at h1
      cases h1
    rw [upd_ne (ne _ _ h2), upd_ne e]; exact h2
theorem lam_make3 {c P : Addr} {params : Arguments} {body : Expr} {scope : Scope} {pos : Pos} {E : Value → Shared → Prop} {Q : Value → Shared → Prop} (I : Inv X pins σ H s) (TB : TabB X.base X.mg c P) (hcode : X.env.code = .ref c)
    (m : Sm cl S T H) (hm : (P, X.env.qual ++ "<lambda>") ∈ cl.tabs) (hu : ∀ p ∈ cl.tabs, p.1 = P → p.2 = X.env.qual ++ "<lambda>") (hdef : defaultsOf params X.env = ([], [])) (hfree : ∀ y ∈ scope.names, y.2 = .free → ∃ c, X.env.cells.lookup y.1 = some c)
    (h : ∀ (f c' : Addr) (pm ctv : Value) (H1 : Hp) (s' : Shared), Inv X pins σ H1 s' → Ex S S T H H1 → Sm cl S T H1 →
      s'.heap.get? f = some (PySem.W.kla_obj "<lambda>" (X.env.qual ++ "<lambda>") params body scope (cloFrom X.env.cells scope.names []) pm c' ctv) → H1 c' = some (CodeO c' (X.env.qual ++ "<lambda>")) → Q (.ref f) s') :
    wpAny (model X.prog X.w) X.A (eval (.Lambda params body scope pos) X.env) Q E s := by
  obtain ⟨fP, ps, hP, ht, ha⟩ := m.tab _ hm
  refine PySem.W.kla_eval hdef ?_
  have bP : s.heap.BuiltinsAt X.mg P := TB.bm.keeps I.bk
  have hP' : s.heap.get? P = some { cls := .none, data := .fields ps } := I.hok P _ hP
  cases hc : codeAmong pos ps.toList with
  | none =>
    refine PySem.W.kla_makeFunction (mg := X.mg) (c := c) (P := P) (ps := ps) (closure_ok hfree) I.ok.glob (I.mod.glob.keeps I.bk) hcode (TB.code.keeps I.bk) hP' ht hc TB.gP bP fun c' ctv h' tk hx hge hlt hrec htb => ?_
    obtain ⟨c2, oc, vs, t, e2, hoc, hd, hv⟩ := hrec
    cases e2
    have nC : H c' = none := I.hok.fresh hge
    have I1 := inv_table (t' := tk) (more := #[rawInt pos.line, rawInt pos.col, .ref c']) (h' := h'.push (PySem.W.kla_obj "<lambda>" (X.env.qual ++ "<lambda>") params body scope (cloFrom X.env.cells scope.names []) ((X.mg "__name__").getD .none) c' ctv)) I hP
      (fun b o hb e => Heap.get?_push_of_some _ (hx b o hb e)) (Heap.get?_push_of_some _ htb) hge ⟨oc, vs, t, Heap.get?_push_of_some _ hoc, hd, hv⟩
    have x : Ex S S T H (upd (upd H P (.tbl (ps ++ #[rawInt pos.line, rawInt pos.col, .ref c']))) c' (CodeO c' (X.env.qual ++ "<lambda>"))) := ex_tab hP fP nC
    have eL : (ps ++ #[rawInt pos.line, rawInt pos.col, .ref c']).toList = ps.toList ++ [rawInt pos.line, rawInt pos.col, .ref c'] := by simp
    have fc : Fr S T c' := m.fr nC
    refine h h'.objs.size c' ((X.mg "__name__").getD .none) ctv _ _ I1 x ⟨fun p hp => ?_, fun a o e => ?_, fun a u e => ?_⟩ (Heap.get?_push_size _ rfl) upd_same
    · by_cases hb : p.1 = P
      · rw [hu p hp hb, hb]
        refine ⟨fP, _, by rw [upd_ne (ne_of_none hP nC), upd_same], by rw [eL]; exact PySem.TriplesOk_snoc _ _ _ _ ht, fun p' cv hcv => ?_⟩
        rw [eL] at hcv
        rcases among_app _ ht hcv with z | z
        · obtain ⟨c0, e1, e2, e3⟩ := ha p' cv z
          exact ⟨c0, e1, x.sq _ _ e3 e2 rfl, e3⟩
        · exact ⟨c', z, upd_same, fc⟩
      · obtain ⟨f2, ps', a1, a2, a3⟩ := m.tab p hp
        refine ⟨f2, ps', by rw [upd_ne (ne_of_none a1 nC), upd_ne hb]; exact a1, a2, fun p' cv hcv => ?_⟩
        obtain ⟨c0, e1, e2, e3⟩ := a3 p' cv hcv
        exact ⟨c0, e1, x.sq _ _ e3 e2 rfl, e3⟩
    · obtain ⟨u, h1, h2⟩ := m.ob a o e
      have e1 : a ≠ P := fun z => by rw [z, fP.1] at e; cases e
      exact ⟨u, by rw [upd_ne (ne_of_none h1 nC), upd_ne e1]; exact h1, h2.ext x⟩
    · obtain ⟨h1, h2⟩ := m.hid a u e
      exact x.hid a u e h1 h2
  | some cv =>
    obtain ⟨c', e, hco, _⟩ := ha pos cv hc
    subst e
    refine PySem.W.kla_makeFunctionHit (mg := X.mg) (c := c) (P := P) (ps := ps) (closure_ok hfree) I.ok.glob (I.mod.glob.keeps I.bk) hcode (TB.code.keeps I.bk) hP' ht hc bP fun ctv h' tk hx hsz => ?_
    have I1 : Inv X pins σ H { s with heap := h'.push (PySem.W.kla_obj "<lambda>" (X.env.qual ++ "<lambda>") params body scope (cloFrom X.env.cells scope.names []) ((X.mg "__name__").getD .none) c' ctv), toks := tk } := I.kept fun b o e => Heap.get?_push_of_some _ (hx b o e)
    exact h h'.objs.size c' ((X.mg "__name__").getD .none) ctv H _ I1 (Ex.refl _ _ _) m (Heap.get?_push_size _ rfl) hco
theorem q_srtk {ta : TE'} {a : Expr} {own : Bool} {c P : Addr} {i : Nat} {g x : Str} {params : Arguments} {lsc : Scope} {lp kp p pos p1 p2 apos cpos : Pos} (hc : XC cl X) (TB : TabB X.base X.mg c P) (hcode : X.env.code = .ref c)
    (hm : (P, X.env.qual ++ "<lambda>") ∈ cl.tabs) (hu : ∀ p ∈ cl.tabs, p.1 = P → p.2 = X.env.qual ++ "<lambda>") (hsg : Gl X "sorted") (hms : X.mg "sorted" = none) (hN : X.N[i]? = some g) (hgc : X.env.scope.names.lookup g = some .cell)
    (hsa : isStar a = false) (mA : MonoE ta) (ha : PE' cl X a ta) (hdef : defaultsOf params X.env = ([], []))
    (hbind : ∀ (clo : List (Str × Addr)) (pm cv ctv v : Value), bindArgs (PySem.W.kla_fn "<lambda>" (X.env.qual ++ "<lambda>") params (.Call (.Attribute (.Name g p1) "index" apos) [.Name x p2] [] cpos) lsc clo pm cv ctv) ⟨[v], []⟩ = pure [(x, v)])
    (hk : lsc.kind = .function) (hco : lsc.isCoroutine = false) (hgen : lsc.isGenerator = false) (hcell : ∀ y ∈ lsc.names, y.2 ≠ .cell) (hx : lsc.names.lookup x = some .local) (hgf : lsc.names.lookup g = some .free) (hf1 : ∀ y ∈ lsc.names, y.2 = .free → y.1 = g)
    (hline : (apos.endLine == cpos.line) = true) (gcd : (g == ("__classdict__" : Str)) = false) (gdb : (g == ("__debug__" : Str)) = false) (xdb : (x == ("__debug__" : Str)) = false) :
    PE' cl X (.Call (.Name "sorted" p) [a] [⟨some "key", .Lambda params (.Call (.Attribute (.Name g p1) "index" apos) [.Name x p2] [] cpos) lsc lp, kp⟩] pos) (fun r S Q => ta r S fun d S1 => ∃ xs ys, ∃ kx : D → Nat, d = .tup xs ∧ r[i]? = some (some (.tup ys)) ∧
      (∀ z ∈ xs, ys[kx z]? = some z ∧ ∀ j, j < kx z → ys[j]? ≠ some z) ∧ (∀ z ∈ xs, Pl 5 z) ∧ (∀ z ∈ ys, Pl 5 z) ∧ finL own (xs.mergeSort (PySem.W.dataLe false fun d => .int ((kx d : Nat) : Int))) S1 Q) := by
  refine ⟨fun pins s σ H Q I ⟨r, S, T, m, e, h⟩ => ?_⟩
  refine wpAny_Call_Name_kw (ld_blt I hsg hms rfl ?_)
  have hA := (pa_cons ha pa_nil (star_no hsa)).run pos pins s σ H (fun vs H1 => ∃ v d S1, vs = [v] ∧ Ex S S1 T H H1 ∧ Sm cl S1 T H1 ∧ SmE cl r S1 T σ H1 ∧ Rp cl S1 T H1 d v ∧ ∃ xs ys, ∃ kx : D → Nat, d = .tup xs ∧ r[i]? = some (some (.tup ys)) ∧
      (∀ z ∈ xs, ys[kx z]? = some z ∧ ∀ j, j < kx z → ys[j]? ≠ some z) ∧ (∀ z ∈ xs, Pl 5 z) ∧ (∀ z ∈ ys, Pl 5 z) ∧ finL own (xs.mergeSort (PySem.W.dataLe false fun d => .int ((kx d : Nat) : Int))) S1 (kQ cl S T H Q)) I
    (tr_then mA m e h fun d S1 v H1 x m1 e1 rp q => ⟨v, d, S1, rfl, x, m1, e1, rp, q⟩)
  refine PyProof.Rows.callWith_kw (thn hA fun us s1 ⟨vs, H1, I1, r1, v, d, S1, hv, x1, m1, e1, rp, xs, ys, kx, ed, hr, hkx, px, py, q⟩ => ?_) (by rw [star_no hsa]; rfl) (by rw [star_no hsa]; rfl) rfl rfl
  subst hv ed
  obtain ⟨u, rfl, ru⟩ := vals1 r1
  obtain ⟨cg, hcg⟩ := I1.ok.has g (.inl hgc)
  show wpAny _ _ (evalAll ((do let v ← eval (.Lambda params (.Call (.Attribute (.Name g p1) "index" apos) [.Name x p2] [] cpos) lsc lp) X.env; standAt pos; pure v) :: [])) _ _ s1
  refine wpAny_evalAll_cons (wpAny_bind (lam_make3 I1 TB hcode m1 hm hu hdef (fun y hy e => ⟨cg, by rw [hf1 y hy e]; exact hcg⟩) fun f c' pm ctv H2 s2 I2 x2 m2 of1 hc' => wpAny_bind (wpAny_standAt (wpAny_pure (wpAny_evalAll_nil ?_)))))
  have rp2 := rp.ext x2
  have e2 := e1.ext x2
  -- the tuple that is sorted
  cases rp2 with
  | tup b1 b0 b2 rl =>
    rename_i ga0 ob0 vs0
    cases ru
    obtain ⟨itsB, rvB, ⟨oB, hoB, hclB, nB, hdB⟩, hzB⟩ := I2.tuple (show SqT X.K H2 _ _ from .inl (.inr ⟨_, b1⟩))
    -- the captured tuple
    obtain ⟨gv, hgv, rg⟩ := e2.get i _ hr
    cases rg with
    | tup g1 g0 g2 rlg =>
      rename_i gag obg vsg
      obtain ⟨itsG, rvG, ⟨oG, hoG, hclG, nG, hdG⟩, hzG⟩ := I2.tuple (show SqT X.K H2 _ _ from .inl (.inr ⟨_, g1⟩))
      obtain ⟨hobg, _⟩ := I2.hok _ _ g1
      have eG : oG = obg := Option.some.inj (hoG.symm.trans hobg)
      subst eG
      obtain ⟨⟨oc, cvs, ct, hoc, hdc, hvc⟩, _, _⟩ := I2.hok c' _ hc'
      -- its cell
      obtain ⟨mm, hn, hl⟩ := I2.loc
      obtain ⟨gu, rgu, lk⟩ := hl i g _ hN hgv (.inr (.inl hgc))
      cases rgu
      have hcl2 : s2.heap.IsCell cg (some (.ref gag)) := by
        rcases lk with ⟨k, _⟩ | ⟨_, c3, e3, z⟩
        · have k : X.env.scope.names.lookup g = some .local := k
          rw [hgc] at k
          cases k
        · rw [hcg] at e3
          cases e3
          exact z
      have hclo : (cloFrom X.env.cells lsc.names []).lookup g = some cg := by
        obtain ⟨c4, h4⟩ := mem_lookup (cloFrom_has (cells := X.env.cells) (acc := []) (PySem.mem_of_lookup hgf))
        rcases cloFrom_mem (PySem.mem_of_lookup h4) with hm' | ⟨_, h2⟩
        · cases hm'
        · rw [h4, h2, hcg]
          rfl
      obtain ⟨as, h4⟩ := Dp.readsAll I2 (pyAll ys) _ itsG (dpAll_of (K := X.K) rlg py) rvG
      have hun : X.A.units + 200 < cLine := by have := hc.room.un; omega
      have hdp : X.A.depth < recursionLimit := by have := hc.room.dp; omega
      have lay : PyData.canLayAll0 (pyAll ys) = true ∧ PyData.depthAll (pyAll ys) ≤ 64 := by
        have l := lay_of (Rp.tup g1 g0 g2 rlg) (show Pl 6 (.tup ys) from py)
        simp only [pyOf, PyData.canLay0, PyData.depth] at l
        exact ⟨l.1, by omega⟩
      obtain ⟨clsG, ddG, dtG, slG⟩ := oG
      simp only at hclG hdG g0
      subst hclG hdG g0
      have e := each_of rl rvB
      refine sortedk_any (R := RVD cl S1 T H2) (bs := xs) (k := fun d => .int ((kx d : Nat) : Int)) (.inr rfl) hoB hclB hdB (by simpa using e) (PySem.W.AllAlike.of fun _ _ => by simp [PySem.W.alike]) (.inr fun p hp => by
        obtain ⟨d, hd, rfl⟩ := List.mem_map.mp hp
        exact ⟨by simp, fun xs e => by cases e⟩) (by rw [rl.length]; exact hzB)
        (fun b hb => by simp only [PyData.depth]; omega) (fun v d hR hd hh tk kp => ?_) fun l hh tk out cc h1 h2 h3 h5 => ?_
      · obtain ⟨w, rw1, rw2⟩ := hR
        obtain ⟨bs, rb⟩ := Dp.reads I2 _ _ _ (dp_of (K := X.K) rw2 (px d hd)) rw1
        have ld := lay_of rw2 (px d hd)
        refine lam_turn (kp _ _ of1) hk hco hgen hcell hx hgf ⟨c', oc, cvs, ct, rfl, kp _ _ hoc, hdc, hvc⟩ (I2.nolimit.keeps kp) hclo ?_ hdp (hbind _ _ _ _ _) hline gcd gdb xdb (kp _ _ hoG) (PyProof.Rows.ReadsAll.keeps kp h4) (PyProof.Rows.Reads.keeps kp rb) lay.1 ld.1 ?_ ?_ ?_ ?_
        · obtain ⟨o, q1, q2⟩ := hcl2
          exact ⟨o, kp _ _ q1, q2⟩
        · show X.A.units + 1 + 1 + 4 + _ < _
          have := Nat.min_le_left (PyData.depthAll (pyAll ys)) (pyOf d).depth
          omega
        · rw [pyAll_get, (hkx d hd).1]; rfl
        · rw [eqv_of 5 5 _ _ (px d hd) (px d hd)]; simp
        · intro k z hk hz
          rw [pyAll_get] at hz
          obtain ⟨w', hw, rfl⟩ := Option.map_eq_some_iff.mp hz
          rw [eqv_of 5 5 _ _ (py w' (List.mem_of_getElem? hw)) (px d hd)]
          exact decide_eq_false fun e => (hkx d hd).2 k hk (by rw [hw, e])
      · obtain ⟨ws, w1, w2⟩ := of_each h5
        have gg := finL_go (Q := Q) m2 w1 (finL_mono (fun d S' k => kQ.up (x1.trans x2) k) q)
        exact ⟨.ref l, upd H2 l (.lst ws), I2.laid (t' := tk) h2 h1 (show ObjOk X.prog X.w _ hh l (.lst ws) from ⟨gg.1, out, cc, w2, h3⟩), rfl, gg.2 l (I2.hok.fresh h1)⟩
end
end Dz
/-! Dz28: the def whose body is: return tuple(sorted(bond, key=lambda x: guards.index(x))). -/
namespace Dz
open PySem PySem.Spec PyProof.Rows L2 LamX

def pairB (st : Stmt) : Bool := match C8.fnBody st with
  | [.Return (some (.Call (.Name tu _) [.Call (.Name so _) [.Name bo _] [⟨some ke, .Lambda ⟨[], [⟨x, _, _⟩], none, [], [], none, []⟩ (.Call (.Attribute (.Name g _) ix apos) [.Name x2 _] [] cpos) lsc _, _⟩] _] [] _)) _] =>
    decide (tu = "tuple") && decide (so = "sorted") && decide (ke = "key") && decide (ix = "index") && decide (x2 = x) && decide (g = "guards") && decide (bo = "bond") &&
      decide ((C8.fnScope st).names.lookup ("guards" : Str) = some .cell) && visB (C8.fnScope st) "bond" && glB (C8.fnScope st) "tuple" && glB (C8.fnScope st) "sorted" &&
      decide (lsc.kind = .function) && !lsc.isCoroutine && !lsc.isGenerator && (lsc.names.all fun y => !decide (y.2 = .cell)) && decide (lsc.names.lookup x = some .local) && decide (lsc.names.lookup g = some .free) &&
      (lsc.names.all fun y => !decide (y.2 = .free) || decide (y.1 = g)) && (apos.endLine == cpos.line) && decide (x = "guard")
  | _ => false
/-- the pair, in the guards' sequence -/
def spPair : DSp := fun ds S Q => ∃ gs a b, ∃ i j : Nat, ds = [.tup gs, .tup [a, b]] ∧ (gs[i]? = some a ∧ ∀ k, k < i → gs[k]? ≠ some a) ∧ (gs[j]? = some b ∧ ∀ k, k < j → gs[k]? ≠ some b) ∧ Pl 5 a ∧ Pl 5 b ∧ (∀ z ∈ gs, Pl 5 z) ∧ Q (.tup (if i ≤ j then [a, b] else [b, a])) S
theorem sort2 {β : Type} {le : β → β → Bool} {a b : β} : [a, b].mergeSort le = if le a b = true then [a, b] else [b, a] := by
  simp [List.mergeSort, List.MergeSort.Internal.splitInTwo, List.merge]
theorem arg1 {q : Str} {ann : Option Expr} {ap : Pos} {body : Expr} {lsc : Scope} (clo : List (Str × Addr)) (pm cv ctv v : Value) : bindArgs (PySem.W.kla_fn "<lambda>" q ⟨[], [⟨"guard", ann, ap⟩], none, [], [], none, []⟩ body lsc clo pm cv ctv) ⟨[v], []⟩ = pure [(("guard" : Str), v)] := rfl
/-- the sorted ones -/
def srtW (ta : TE') (i : Nat) (own : Bool) : TE' := fun r S Q => ta r S fun d S1 => ∃ xs ys, ∃ kx : D → Nat, d = .tup xs ∧ r[i]? = some (some (.tup ys)) ∧
      (∀ z ∈ xs, ys[kx z]? = some z ∧ ∀ j, j < kx z → ys[j]? ≠ some z) ∧ (∀ z ∈ xs, Pl 5 z) ∧ (∀ z ∈ ys, Pl 5 z) ∧ finL own (xs.mergeSort (PySem.W.dataLe false fun d => .int ((kx d : Nat) : Int))) S1 Q
theorem srtW_mono {ta : TE'} {i : Nat} {own : Bool} (m : MonoE ta) : MonoE (srtW ta i own) := fun r S Q Q' h q => m _ _ _ _ (fun d S1 ⟨xs, ys, kx, a1, a2, a3, a4, a5, a6⟩ => ⟨xs, ys, kx, a1, a2, a3, a4, a5, finL_mono h a6⟩) q
def varB : TE' := fun r S Q => ∃ d, r[1]? = some (some d) ∧ Q d S
def srtA : TA' := fun r S Q => srtW varB 0 false r S fun d S1 => Q [d] S1
def srtB : TE' := fun r S Q => srtA r S fun ds S1 => wBi .tuple false ds S1 Q
open Classical in
section
variable {cl : CL} {P : Program} {w : World} {K : PySem.W.Frag} {mg : Str → Option Value} {base : Heap}
theorem pair_fnD {st : Stmt} {f c Pt : Addr} {oc dV kV doc pm ct : Value} {od an : Option Addr} {osl : Array (Option Value)} (hb : pairB st = true) (hS : C8.scC ["guards", "bond"] ["guards", "bond"] (C8.fnScope st) = true) (hs : cl.hs = (tupleKind (mixKind P w)).hash)
    (lk : K.lookup f = some ⟨oc, od, .func (PySem.W.fnOf "pair_of" "pair_of" (C8.fnArgs st) (C8.fnBody st) (C8.fnScope st) dV kV doc pm an (.ref c) ct), osl⟩) (hcd : PySem.W.codeIn K (.ref c) "pair_of" = true)
    (TB : TabB base mg c Pt) (hm : (Pt, ("pair_of.<locals>.<lambda>" : Str)) ∈ cl.tabs) (hu : ∀ p ∈ cl.tabs, p.1 = Pt → p.2 = ("pair_of.<locals>.<lambda>" : Str)) (m1 : mg "sorted" = none) (m2 : mg "tuple" = none) :
    FnD P w K mg base cl 1 f (PySem.W.fnOf "pair_of" "pair_of" (C8.fnArgs st) (C8.fnBody st) (C8.fnScope st) dV kV doc pm an (.ref c) ct) ["guards", "bond"] spPair := by
  have SC := C8.fnScope_by hS
  have len : ∀ ds S Q, spPair ds S Q → ds.length = 2 := fun ds S Q ⟨gs, a, b, i, j, e, _⟩ => by rw [e]; rfl
  refine ⟨len, fun ds S Q Q' h ⟨gs, a, b, i, j, h1, h2, h3, h4, h5, h6, h7⟩ => ⟨gs, a, b, i, j, h1, h2, h3, h4, h5, h6, h _ _ h7⟩, fun A outer s H args us vs ds S T Q hr hg e0 hbd r m rl hsp => ?_⟩
  refine LamX.run_ofS (N := ["guards", "bond"]) lk hcd SC hr e0 hbd r (by rw [← rl.length]; exact len _ _ _ hsp) fun hr' => ?_
  have hc : XC cl (cxOf C8.CX0 P w K mg base ["guards", "bond"] "pair_of" (C8.fnScope st) f (.ref c) A outer s H C8.E0).nox := ⟨hs, rfl, hr'.mono (Nat.zero_le _), hg, SC.nd, PassesOwn.never⟩
  unfold pairB at hb
  split at hb
  · rename_i tu ptn so psn bo pb ke x an2 ap g p1 ix apos x2 p2 cpos lsc lp kp psc ptc prt hbody
    simp only [Bool.and_eq_true, Bool.or_eq_true, decide_eq_true_eq, Bool.not_eq_true', decide_eq_false_iff_not, List.all_eq_true] at hb
    obtain ⟨⟨⟨⟨⟨⟨⟨⟨⟨⟨⟨⟨⟨⟨⟨⟨⟨⟨⟨h1, h2⟩, h3⟩, h4⟩, h5⟩, h6⟩, h7⟩, h8⟩, h9⟩, h10⟩, h11⟩, h12⟩, h13⟩, h14⟩, h15⟩, h16⟩, h17⟩, h18⟩, h19⟩, h20⟩ := hb
    subst h1 h2 h3 h4 h5 h6 h7 h20
    rw [hbody]
    generalize hX : (cxOf C8.CX0 P w K mg base ["guards", "bond"] "pair_of" (C8.fnScope st) f (.ref c) A outer s H C8.E0).nox = X at hc
    have eb : X.base = base := by subst hX; rfl
    have em : X.mg = mg := by subst hX; rfl
    have eN : X.N = (["guards", "bond"] : List Str) := by subst hX; rfl
    have ec : X.env.code = .ref c := by subst hX; rfl
    have eq_ : X.env.qual ++ "<lambda>" = ("pair_of.<locals>.<lambda>" : Str) := by subst hX; rfl
    have es : X.env.scope = C8.fnScope st := by subst hX; rfl
    have mv : MonoE varB := fun r S Q Q' h ⟨d, h1, h2⟩ => ⟨d, h1, h _ _ h2⟩
    have qv : PE' cl X _ varB := q_var (cl := cl) (X := X) (i := 1) (x := "bond") (pos := pb) (by rw [eN]; rfl) (by rw [es]; exact visB_ok h9) rfl rfl
    have qs := q_srtk (own := false) (p := psn) (pos := psc) (kp := kp) (lp := lp) (params := ⟨[], [⟨"guard", an2, ap⟩], none, [], [], none, []⟩) (lsc := lsc) (x := "guard") (g := "guards") (i := 0) (p1 := p1) (p2 := p2) (apos := apos) (cpos := cpos) hc (by rw [eb, em]; exact TB) ec (by rw [eq_]; exact hm) (by rw [eq_]; exact hu) (glB_ok (by rw [es]; exact h11)) (by rw [em]; exact m1) (by rw [eN]; rfl) (by rw [es]; exact h8) rfl mv qv rfl (fun clo pm cv ctv v => arg1 clo pm cv ctv v) h12 h13 h14 h15 h16 h17 (fun y hy e => (h18 y hy).resolve_left fun z => z e) h19 rfl rfl rfl
    have qs' : PE' cl X _ (srtW varB 0 false) := qs
    have ms : MonoE (srtW varB 0 false) := srtW_mono mv
    have mm : MonoA srtA := fun r S Q Q' h q => ms _ _ _ _ (fun d S' q => h _ _ q) q
    have mn : MonoA (fun _ S Q => Q [] S) := fun r S Q Q' h q => h _ _ q
    have ma : PA' cl X _ srtA := q_cons ms mn qs' q_nil (star_no rfl)
    have qb : PE' cl X _ srtB := q_bi (p := ptn) (pos := ptc) hc .tuple false (glB_ok (by rw [es]; exact h10)) (by rw [em]; exact m2) mm ma rfl
    have mb : MonoE srtB := fun r S Q Q' h q => mm _ _ _ _ (fun ds S1 q => wBi_mono h q) q
    have z1 : MonoS (fun Z r S => srtB r S Z.rt) := fun Z Z' r S h q => mb _ _ _ _ h.rt q
    have z2 : MonoS (fun Z r S => Z.nx r S) := fun Z Z' r S h q => h.nx _ _ q
    have qr : PSs' cl X _ (fun Z r S => srtB r S Z.rt) := ss_cons z1 z2 (s_ret (pos := prt) mb qb) ss_nil
    obtain ⟨gs, a, b, i, j, rfl, ⟨i1, i2⟩, ⟨j1, j2⟩, p1', p2', p3', q⟩ := hsp
    subst hX
    refine ⟨_, qr.nox, r0 2 [.tup gs, .tup [a, b]], S, T, m, r0_sm (N := ["guards", "bond"]) rl, .tup [a, b], rfl, [a, b], gs, fun d => if d = a then i else j, rfl, rfl, ?_, ?_, p3', ?_⟩
    · intro z hz
      rcases List.mem_cons.mp hz with rfl | hz
      · dsimp only; rw [if_pos rfl]; exact ⟨i1, i2⟩
      · rcases List.mem_cons.mp hz with rfl | hz
        · dsimp only
          split
          · rename_i e; rw [e]; exact ⟨i1, i2⟩
          · exact ⟨j1, j2⟩
        · cases hz
    · intro z hz
      rcases List.mem_cons.mp hz with rfl | hz
      · exact p1'
      · rcases List.mem_cons.mp hz with rfl | hz
        · exact p2'
        · cases hz
    · have e : [a, b].mergeSort (PySem.W.dataLe false fun d => .int (((if d = a then i else j : Nat) : Nat) : Int)) = if i ≤ j then [a, b] else [b, a] := by
        rw [sort2]
        by_cases hba : b = a
        · subst hba
          split <;> split <;> rfl
        · have e2 : PySem.W.dataLe false (fun d => PyData.int (((if d = a then i else j : Nat) : Nat) : Int)) a b = decide (i ≤ j) := by
            rw [PySem.W.dataLe_int (fun d => (((if d = a then i else j : Nat) : Nat) : Int))]
            simp only [if_pos, if_neg hba]
            exact decide_eq_decide.mpr (by omega)
          rw [e2]
          by_cases hij : i ≤ j
          · rw [if_pos (decide_eq_true hij), if_pos hij]
          · rw [if_neg (by simpa using hij), if_neg hij]
      rw [e]
      have hl : (if i ≤ j then [a, b] else [b, a]).length ≤ sizeLine := by
        rw [sizeLine_eq]
        split <;> simp
      refine ⟨hl, ?_⟩
      rw [if_neg Bool.false_ne_true]
      exact ⟨_, rfl, hl, q⟩
  · cases hb
end
end Dz
/-! Dz32: what stands around, from single facts. -/
namespace Dz
open PySem PySem.Spec PyProof.Rows L2

section
variable (P : Program) (w : World) (K : PySem.W.Frag) (mg : Str → Option Value) (base : Heap) (cl : CL) (k : Nat)
structure FnAt (x : Str) (sp : DSp) (ps : List Str) : Prop where
  ex : ∃ (f : Addr) (fd : FuncData), FnD P w K mg base cl k f fd ps sp ∧ mg x = some (.ref f) ∧ PySem.W.keepIn K (.ref f) = true ∧ BindD K fd ps
structure MkAt (c : Str) (sp : DSp) : Prop where
  ex : ∃ (C f : Addr) (fd : FuncData) (ps : List Str), cl.c c = some C ∧ FnD P w K mg base cl k f fd ps sp ∧ mg c = some (.ref C) ∧ Mk K C f ∧ BindD K fd ps
structure MtAt (c m : Str) (sp : DSp) : Prop where
  ex : ∃ (C f : Addr) (fd : FuncData) (ps : List Str), cl.c c = some C ∧ FnD P w K mg base cl k f fd ps sp ∧ Cls K C ∧ Meth K C m f ∧ BindD K fd ps
structure PrAt (c m : Str) (sp : DSp) : Prop where
  ex : ∃ (C q f : Addr) (fd : FuncData) (ps : List Str), cl.c c = some C ∧ FnD P w K mg base cl k f fd ps sp ∧ Cls K C ∧ PropOf K C m q f ∧ BindD K fd ps
/-- a name that is known, with what it promises -/
structure KnAt (G : Sg) (fk : List (Str × List Str)) (p : Str × Str) : Prop where
  fn : p.1 = ("" : Str) → ∀ sp, G.fn p.2 = some sp → ∃ ps, FnAt P w K mg base cl k p.2 sp ps ∧ ∀ ps', fk.lookup p.2 = some ps' → ps' = ps
  mk0 : p.1 = ("new" : Str) → ∀ sp, G.mk0 p.2 = some sp → MkAt P w K mg base cl k p.2 sp
  mt : ∀ sp, G.mt p.1 p.2 = some sp → MtAt P w K mg base cl k p.1 p.2 sp
  pr : ∀ sp, G.pr p.1 p.2 = some sp → PrAt P w K mg base cl k p.1 p.2 sp
end
section
variable {P : Program} {w : World} {K : PySem.W.Frag} {mg : Str → Option Value} {base : Heap} {cl : CL} {k : Nat} {G : Sg} {Kc : Ck}
/-- the facts of the module's text that hold all the time -/
structure TxAt (K : PySem.W.Frag) (mg : Str → Option Value) (cl : CL) (G : Sg) (flds : List (Str × Str)) (cs : List Str) : Prop where
  mono : MonoG' G
  gl : ∀ x d, G.gl x = some d → ∃ v u, mg x = some u ∧ RelV v u ∧ ∀ S T H, Rp cl S T H d v
  flds : ∀ p ∈ flds, ∃ C, cl.c p.1 = some C ∧ Cls K C ∧ NoAttr K C p.2
  cs : ∀ c ∈ cs, ∃ C, mg c = some (.ref C) ∧ cl.c c = some C ∧ C8.InsC K C
  bi : ∀ x ∈ biAll, mg x = none
theorem gAt_of (t : TxAt K mg cl G Kc.flds Kc.cs) (h : ∀ p ∈ Kc.kn, KnAt P w K mg base cl k G Kc.fk p) : GAt P w K mg base cl (k + 1) G Kc := by
  intro X eP ew eK em eb eN hr
  subst eP ew eK em eb
  have r0 : Room k X.A := hr.mono (Nat.le_succ _)
  have kn : ∀ {p : Str × Str}, Kc.kn.contains p = true → KnAt X.prog X.w X.K X.mg X.base cl k G Kc.fk p := fun hp => h _ (List.contains_iff_mem.mp hp)
  exact {
    N := eN
    mono := t.mono
    gl := t.gl
    fn := fun x sp hp hs => by
      obtain ⟨ps, ⟨f, fd, F, h1, h2, h3⟩, _⟩ := (kn hp).fn rfl sp hs
      exact ⟨k, f, fd, ps, F, r0, h1, h2, h3⟩
    fk := fun x sp ps hp hs hl => by
      obtain ⟨ps', ⟨f, fd, F, h1, h2, h3⟩, e⟩ := (kn hp).fn rfl sp hs
      obtain rfl := e ps hl
      exact ⟨k, f, fd, F, r0, h1, h2, h3⟩
    mk0 := fun x sp hp hs => by
      obtain ⟨C, f, fd, ps, h0, F, h1, h2, h3⟩ := ((kn hp).mk0 rfl sp hs).ex
      exact ⟨C, h0, ⟨k, f, fd, ps, F, hr, h1, h2, h3⟩⟩
    mt := fun c m sp hp hs => by
      obtain ⟨C, f, fd, ps, h0, F, h1, h2, h3⟩ := ((kn hp).mt sp hs).ex
      exact ⟨C, h0, ⟨k, f, fd, ps, F, r0, h1, h2, h3⟩⟩
    pr := fun c m sp hp hs => by
      obtain ⟨C, q, f, fd, ps, h0, F, h1, h2, h3⟩ := ((kn hp).pr sp hs).ex
      exact ⟨C, h0, ⟨k, q, f, fd, ps, F, hr, h1, h2, h3⟩⟩
    flds := fun c f hp => ⟨t.flds (c, f) (List.contains_iff_mem.mp hp)⟩
    cs := fun c hp => t.cs c (List.contains_iff_mem.mp hp)
    bi := t.bi }
end
end Dz
/-! k60: the defs, as they are read (printed by gen.py). -/
namespace Dz60
open PySem PySem.Spec PyProof.Rows L2 Dz
def b_is_integer : Ss := (.cons (.ret (.and (.isb (.var 0) .int) (.not (.isb (.var 0) .bool)))) .nil)
def N_is_integer : List Str := ["value"]
def p_is_integer : List Str := ["value"]
def k_is_integer : List (Str × Str) := []
def b_is_between : Ss := (.cons (.ret (.and (.call "is_integer" (.cons false (.var 0) .nil)) (.cmp2 .LtE .LtE (.var 1) (.var 0) (.var 2)))) .nil)
def N_is_between : List Str := ["value", "least", "most"]
def p_is_between : List Str := ["value", "least", "most"]
def k_is_between : List (Str × Str) := [("", "is_integer")]
def b_is_name : Ss := (.cons (.ife (.or (.not (.isb (.var 0) .str)) (.or (.not (.cmp2 .Lt .LtE (.cst (.int 0)) (.bi .len false (.cons false (.var 0) .nil)) (.glob "MOST_SIGNS"))) (.cmp .NotIn (.ix (.var 0) (.cst (.int 0))) (.glob "LETTERS")))) (.cons (.ret (.cst (.bl false))) .nil) .nil) (.cons (.ret (.bi .all false (.cons false (.comp false [1] (.name 1) (.or (.cmp .In (.var 1) (.glob "LETTERS")) (.cmp .In (.var 1) (.glob "FIGURES"))) .no (.of (.var 0))) .nil))) .nil))
def N_is_name : List Str := ["value", "sign"]
def p_is_name : List Str := ["value"]
def k_is_name : List (Str × Str) := []
def b_Reader_init : Ss := (.cons (.set (.fld "Reader" (.var 0) "own_guards") (.lst true .nil)) (.cons (.set (.fld "Reader" (.var 0) "own_bonds") (.lst true .nil)) .nil))
def N_Reader_init : List Str := ["self"]
def p_Reader_init : List Str := ["self"]
def k_Reader_init : List (Str × Str) := []
def b_Reader_takes : Ss := (.cons (.set (.name 2) (.bm .split false (.var 1) (.cons false (.cst (.str " ")) .nil))) (.cons (.ife (.cmp .Eq (.ix (.var 2) (.cst (.int 0))) (.glob "GUARD")) (.cons (.ret (.meth "Reader" (.var 0) "takes_guard" (.cons false (.var 2) .nil))) .nil) .nil) (.cons (.ret (.and (.cmp .Eq (.ix (.var 2) (.cst (.int 0))) (.glob "BOND")) (.meth "Reader" (.var 0) "takes_bond" (.cons false (.var 2) .nil)))) .nil)))
def N_Reader_takes : List Str := ["self", "line", "words"]
def p_Reader_takes : List Str := ["self", "line"]
def k_Reader_takes : List (Str × Str) := [("Reader", "takes_bond"), ("Reader", "takes_guard")]
def b_Reader_takes_guard : Ss := (.cons (.ife (.or (.cmp .NotEq (.bi .len false (.cons false (.var 1) .nil)) (.cst (.int 2))) (.or (.cmp .NotEq (.fld "Reader" (.var 0) "own_bonds") (.lst false .nil)) (.cmp .Eq (.bi .len false (.cons false (.fld "Reader" (.var 0) "own_guards") .nil)) (.glob "MOST_GUARDS_rolls")))) (.cons (.ret (.cst (.bl false))) .nil) .nil) (.cons (.ife (.or (.not (.call "is_name" (.cons false (.ix (.var 1) (.cst (.int 1))) .nil))) (.cmp .In (.ix (.var 1) (.cst (.int 1))) (.fld "Reader" (.var 0) "own_guards"))) (.cons (.ret (.cst (.bl false))) .nil) .nil) (.cons (.expr (.bm .append false (.fld "Reader" (.var 0) "own_guards") (.cons false (.ix (.var 1) (.cst (.int 1))) .nil))) (.cons (.ret (.cst (.bl true))) .nil))))
def N_Reader_takes_guard : List Str := ["self", "words"]
def p_Reader_takes_guard : List Str := ["self", "words"]
def k_Reader_takes_guard : List (Str × Str) := [("", "is_name")]
def b_Reader_takes_bond : Ss := (.cons (.set (.name 2) (.bi .tuple false (.cons false (.sl false (.var 1) (.yes (.cst (.int 1))) .no) .nil))) (.cons (.ife (.or (.not (.call "is_bond_of" (.cons false (.fld "Reader" (.var 0) "own_guards") (.cons false (.var 2) .nil)))) (.cmp .Eq (.bi .len false (.cons false (.fld "Reader" (.var 0) "own_bonds") .nil)) (.glob "MOST_BONDS"))) (.cons (.ret (.cst (.bl false))) .nil) .nil) (.cons (.ife (.or (.cmp .In (.var 2) (.fld "Reader" (.var 0) "own_bonds")) (.cmp .In (.rev false (.var 2)) (.fld "Reader" (.var 0) "own_bonds"))) (.cons (.ret (.cst (.bl false))) .nil) .nil) (.cons (.expr (.bm .append false (.fld "Reader" (.var 0) "own_bonds") (.cons false (.var 2) .nil))) (.cons (.ret (.cst (.bl true))) .nil)))))
def N_Reader_takes_bond : List Str := ["self", "words", "bond"]
def p_Reader_takes_bond : List Str := ["self", "words"]
def k_Reader_takes_bond : List (Str × Str) := [("", "is_bond_of")]
def b_Reader_found : Ss := (.cons (.ret (.tup (.cons false (.bi .tuple false (.cons false (.fld "Reader" (.var 0) "own_guards") .nil)) (.cons false (.bi .tuple false (.cons false (.fld "Reader" (.var 0) "own_bonds") .nil)) .nil)))) .nil)
def N_Reader_found : List Str := ["self"]
def p_Reader_found : List Str := ["self"]
def k_Reader_found : List (Str × Str) := []
def b_is_bond_of : Ss := (.cons (.ife (.or (.not (.isb (.var 1) .tuple)) (.or (.cmp .NotEq (.bi .len false (.cons false (.var 1) .nil)) (.cst (.int 2))) (.not (.bi .all false (.cons false (.comp false [2] (.name 2) (.isb (.var 2) .str) .no (.of (.var 1))) .nil))))) (.cons (.ret (.cst (.bl false))) .nil) .nil) (.cons (.ret (.and (.cmp .In (.ix (.var 1) (.cst (.int 0))) (.var 0)) (.and (.cmp .In (.ix (.var 1) (.cst (.int 1))) (.var 0)) (.cmp .NotEq (.ix (.var 1) (.cst (.int 0))) (.ix (.var 1) (.cst (.int 1))))))) .nil))
def N_is_bond_of : List Str := ["guards", "value", "part"]
def p_is_bond_of : List Str := ["guards", "value"]
def k_is_bond_of : List (Str × Str) := []
def b_Roll_init : Ss := (.cons (.ife (.not (.isb (.var 1) .str)) (.cons .never .nil) .nil) (.cons (.set (.name 2) (.mk "Reader" .nil)) (.cons (.for (.tup (.cons (.name 3) (.cons (.name 4) .nil))) (.enum (.bm .split false (.var 1) (.cons false (.cst (.str "\n")) .nil))) (.cons (.ife (.not (.meth "Reader" (.var 2) "takes" (.cons false (.var 4) .nil))) (.cons .never .nil) .nil) .nil)) (.cons (.set (.fld "Roll" (.var 0) "own_text") (.var 1)) (.cons (.set (.tup (.cons (.fld "Roll" (.var 0) "own_guards") (.cons (.fld "Roll" (.var 0) "own_bonds") .nil))) (.prop "Reader" (.var 2) "found")) (.cons (.set (.fld "Roll" (.var 0) "own_pairs") (.bi .tuple false (.cons false (.bi .sorted false (.cons false (.comp false [5] (.name 5) (.call "pair_of" (.cons false (.fld "Roll" (.var 0) "own_guards") (.cons false (.var 5) .nil))) .no (.of (.fld "Roll" (.var 0) "own_bonds"))) .nil)) .nil))) .nil))))))
def N_Roll_init : List Str := ["self", "text", "reader", "number", "line", "bond"]
def p_Roll_init : List Str := ["self", "text"]
def k_Roll_init : List (Str × Str) := [("", "pair_of"), ("Reader", "found"), ("Reader", "takes"), ("new", "Reader")]
def b_Roll_guards : Ss := (.cons (.ret (.fld "Roll" (.var 0) "own_guards")) .nil)
def N_Roll_guards : List Str := ["self"]
def p_Roll_guards : List Str := ["self"]
def k_Roll_guards : List (Str × Str) := []
def b_Roll_bonds : Ss := (.cons (.ret (.fld "Roll" (.var 0) "own_bonds")) .nil)
def N_Roll_bonds : List Str := ["self"]
def p_Roll_bonds : List Str := ["self"]
def k_Roll_bonds : List (Str × Str) := []
def b_Roll_pairs : Ss := (.cons (.ret (.fld "Roll" (.var 0) "own_pairs")) .nil)
def N_Roll_pairs : List Str := ["self"]
def p_Roll_pairs : List Str := ["self"]
def k_Roll_pairs : List (Str × Str) := []
def b_pair_of : Ss := (.cons (.ret (.bi .tuple false (.cons false (.srtk false (.var 1) (.var 0)) .nil))) .nil)
def N_pair_of : List Str := ["guards", "bond"]
def p_pair_of : List Str := ["guards", "bond"]
def k_pair_of : List (Str × Str) := []
def b_check_roll : Ss := (.cons (.ife (.not (.isc (.var 0) "Roll")) (.cons .never .nil) .nil) .nil)
def N_check_roll : List Str := ["roll"]
def p_check_roll : List Str := ["roll"]
def k_check_roll : List (Str × Str) := []
def b_check_guard : Ss := (.cons (.ife (.or (.not (.isb (.var 1) .str)) (.cmp .NotIn (.var 1) (.prop "Roll" (.var 0) "guards"))) (.cons .never .nil) .nil) .nil)
def N_check_guard : List Str := ["roll", "value"]
def p_check_guard : List Str := ["roll", "value"]
def k_check_guard : List (Str × Str) := [("Roll", "guards")]
def b_are_prices_of : Ss := (.cons (.ife (.or (.not (.isb (.var 1) .tuple)) (.cmp .NotEq (.bi .len false (.cons false (.var 1) .nil)) (.bi .len false (.cons false (.prop "Roll" (.var 0) "pairs") .nil)))) (.cons (.ret (.cst (.bl false))) .nil) .nil) (.cons (.ret (.bi .all false (.cons false (.comp false [2] (.name 2) (.call "is_between" (.cons false (.var 2) (.cons false (.cst (.int 0)) (.cons false (.glob "MOST_PRICE") .nil)))) .no (.of (.var 1))) .nil))) .nil))
def N_are_prices_of : List Str := ["roll", "value", "price"]
def p_are_prices_of : List Str := ["roll", "value"]
def k_are_prices_of : List (Str × Str) := [("", "is_between"), ("Roll", "pairs")]
def b_check_prices : Ss := (.cons (.expr (.call "check_roll" (.cons false (.var 0) .nil))) (.cons (.ife (.cmp .Gt (.bi .len false (.cons false (.prop "Roll" (.var 0) "guards") .nil)) (.glob "MOST_GUARDS_cheap")) (.cons .never .nil) .nil) (.cons (.ife (.not (.call "are_prices_of" (.cons false (.var 0) (.cons false (.var 1) .nil)))) (.cons .never .nil) .nil) .nil)))
def N_check_prices : List Str := ["roll", "prices"]
def p_check_prices : List Str := ["roll", "prices"]
def k_check_prices : List (Str × Str) := [("", "are_prices_of"), ("Roll", "guards"), ("", "check_roll")]
def b_price_by : Ss := (.cons (.ret (.dzip (.prop "Roll" (.var 0) "pairs") (.var 1))) .nil)
def N_price_by : List Str := ["roll", "prices"]
def p_price_by : List Str := ["roll", "prices"]
def k_price_by : List (Str × Str) := [("Roll", "pairs")]
def b_cost_of : Ss := (.cons (.set (.name 3) (.call "price_by" (.cons false (.var 0) (.cons false (.var 1) .nil)))) (.cons (.ret (.bi .sum false (.cons false (.comp false [4] (.name 4) (.ix (.var 3) (.var 4)) .no (.of (.var 2))) .nil))) .nil))
def N_cost_of : List Str := ["roll", "prices", "pairing", "price", "pair"]
def p_cost_of : List Str := ["roll", "prices", "pairing"]
def k_cost_of : List (Str × Str) := [("", "price_by")]
def b_full_pairings : Ss := (.cons (.set (.name 1) (.lst false (.cons false (.tup (.cons false (.tup .nil) (.cons false (.prop "Roll" (.var 0) "guards") .nil))) .nil))) (.cons (.whil (.and (.cmp .NotEq (.var 1) (.lst false .nil)) (.cmp .NotEq (.ix (.ix (.var 1) (.cst (.int 0))) (.cst (.int 1))) (.tup .nil))) (.cons (.set (.name 2) (.lst true .nil)) (.cons (.for (.tup (.cons (.name 3) (.cons (.name 4) .nil))) (.of (.var 1)) (.cons (.for (.name 5) (.of (.sl false (.var 4) (.yes (.cst (.int 1))) .no)) (.cons (.ife (.cmp .In (.tup (.cons false (.ix (.var 4) (.cst (.int 0))) (.cons false (.var 5) .nil))) (.prop "Roll" (.var 0) "pairs")) (.cons (.expr (.bm .append false (.var 2) (.cons false (.tup (.cons false (.tup (.cons true (.var 3) (.cons false (.tup (.cons false (.ix (.var 4) (.cst (.int 0))) (.cons false (.var 5) .nil))) .nil))) (.cons false (.bi .tuple false (.cons false (.comp false [6] (.name 6) (.var 6) (.yes (.cmp .NotEq (.var 6) (.var 5))) (.of (.sl false (.var 4) (.yes (.cst (.int 1))) .no))) .nil)) .nil))) .nil))) .nil) .nil) .nil)) .nil)) (.cons (.set (.name 1) (.var 2)) .nil)))) (.cons (.ret (.comp false [3, 4] (.tup (.cons (.name 3) (.cons (.name 4) .nil))) (.bi .tuple false (.cons false (.bi .sorted false (.cons false (.var 3) .nil)) .nil)) .no (.of (.var 1)))) .nil)))
def N_full_pairings : List Str := ["roll", "found", "longer", "row", "rest", "other", "one"]
def p_full_pairings : List Str := ["roll"]
def k_full_pairings : List (Str × Str) := [("Roll", "pairs"), ("Roll", "guards")]
def b_costs_of : Ss := (.cons (.ret (.bi .sorted false (.cons false (.comp false [2] (.name 2) (.tup (.cons false (.call "cost_of" (.cons false (.var 0) (.cons false (.var 1) (.cons false (.var 2) .nil)))) (.cons false (.var 2) .nil))) .no (.of (.call "full_pairings" (.cons false (.var 0) .nil)))) .nil))) .nil)
def N_costs_of : List Str := ["roll", "prices", "row"]
def p_costs_of : List Str := ["roll", "prices"]
def k_costs_of : List (Str × Str) := [("", "cost_of"), ("", "full_pairings")]
def b_check_full : Ss := (.cons (.expr (.call "check_prices" (.cons false (.var 0) (.cons false (.var 1) .nil)))) (.cons (.ife (.cmp .Eq (.call "full_pairings" (.cons false (.var 0) .nil)) (.lst false .nil)) (.cons .never .nil) .nil) .nil))
def N_check_full : List Str := ["roll", "prices"]
def p_check_full : List Str := ["roll", "prices"]
def k_check_full : List (Str × Str) := [("", "full_pairings"), ("", "check_prices")]
def b_fates : Ss := (.cons (.expr (.call "check_full" (.cons false (.var 0) (.cons false (.var 1) .nil)))) (.cons (.set (.name 2) (.call "costs_of" (.cons false (.var 0) (.cons false (.var 1) .nil)))) (.cons (.par2 4 5 (.comp false [7, 8] (.tup (.cons (.name 7) (.cons (.name 8) .nil))) (.var 8) (.yes (.cmp .Eq (.var 7) (.ix (.ix (.var 2) (.cst (.int 0))) (.cst (.int 0))))) (.of (.var 2))) (.lst true .nil)) (.cons (.for (.name 3) (.of (.prop "Roll" (.var 0) "pairs")) (.cons (.set (.name 6) (.bi .len false (.cons false (.comp false [8] (.name 8) (.var 8) (.yes (.cmp .In (.var 3) (.var 8))) (.of (.var 4))) .nil))) (.cons (.expr (.bm .append false (.var 5) (.cons false (.ite (.cmp .Eq (.var 6) (.cst (.int 0))) (.glob "NONE") (.ite (.cmp .Eq (.var 6) (.bi .len false (.cons false (.var 4) .nil))) (.glob "ALL") (.glob "SOME"))) .nil))) .nil))) (.cons (.ret (.bi .tuple false (.cons false (.var 5) .nil))) .nil)))))
def N_fates : List Str := ["roll", "prices", "every", "pair", "best", "found", "many", "cost", "row"]
def p_fates : List Str := ["roll", "prices"]
def k_fates : List (Str × Str) := [("Roll", "pairs"), ("", "costs_of"), ("", "check_full")]
def b_may_cost : Ss := (.cons (.expr (.call "check_full" (.cons false (.var 0) (.cons false (.var 1) .nil)))) (.cons (.expr (.call "check_guard" (.cons false (.var 0) (.cons false (.var 2) .nil)))) (.cons (.expr (.call "check_guard" (.cons false (.var 0) (.cons false (.var 3) .nil)))) (.cons (.ife (.or (.cmp .Eq (.var 2) (.var 3)) (.cmp .NotIn (.call "pair_of" (.cons false (.prop "Roll" (.var 0) "guards") (.cons false (.tup (.cons false (.var 2) (.cons false (.var 3) .nil))) .nil))) (.prop "Roll" (.var 0) "pairs"))) (.cons .never .nil) .nil) (.cons (.set (.name 4) (.call "pair_of" (.cons false (.prop "Roll" (.var 0) "guards") (.cons false (.tup (.cons false (.var 2) (.cons false (.var 3) .nil))) .nil)))) (.cons (.set (.name 5) (.comp false [7, 8] (.tup (.cons (.name 7) (.cons (.name 8) .nil))) (.var 7) (.yes (.cmp .In (.var 4) (.var 8))) (.of (.call "costs_of" (.cons false (.var 0) (.cons false (.var 1) .nil)))))) (.cons (.set (.name 6) (.comp false [7, 8] (.tup (.cons (.name 7) (.cons (.name 8) .nil))) (.var 7) (.yes (.cmp .NotIn (.var 4) (.var 8))) (.of (.call "costs_of" (.cons false (.var 0) (.cons false (.var 1) .nil)))))) (.cons (.ife (.cmp .Eq (.var 5) (.lst false .nil)) (.cons (.ret (.glob "NEVER")) .nil) .nil) (.cons (.ret (.ite (.cmp .Eq (.var 6) (.lst false .nil)) (.cst .non) (.bin .Add false (.bin .Sub false (.ix (.var 6) (.cst (.int 0))) (.ix (.var 5) (.cst (.int 0)))) (.ix (.call "price_by" (.cons false (.var 0) (.cons false (.var 1) .nil))) (.var 4))))) .nil)))))))))
def N_may_cost : List Str := ["roll", "prices", "one", "other", "pair", "having", "without", "cost", "row"]
def p_may_cost : List Str := ["roll", "prices", "one", "other"]
def k_may_cost : List (Str × Str) := [("", "price_by"), ("", "costs_of"), ("", "pair_of"), ("Roll", "guards"), ("Roll", "pairs"), ("", "check_guard"), ("", "check_full")]
def b_law_take : Ss := (.cons (.ife (.cmp .Gt (.ix (.var 0) (.cst (.int 0))) (.cst (.int 0))) (.cons (.set (.name 4) (.bin .Mod false (.bi .int false (.cons false (.ix (.var 0) (.cst (.int 0))) .nil)) (.var 1))) (.cons (.set (.sub (.var 0) (.cst (.int 0))) (.bin .FloorDiv false (.ix (.var 0) (.cst (.int 0))) (.var 1))) (.cons (.ret (.var 4)) .nil))) .nil) (.cons (.set (.sub (.var 0) (.cst (.int 2))) (.bin .Add false (.ix (.var 0) (.cst (.int 2))) (.cst (.int 1)))) (.cons (.set (.name 2) (.ix (.lst false (.cons false (.cst (.int 2147483647)) (.cons false (.cst (.int 2147483629)) (.cons false (.cst (.int 2147483587)) (.cons false (.cst (.int 2147483579)) (.cons false (.cst (.int 2147483563)) .nil)))))) (.bin .Mod false (.bi .int false (.cons false (.ix (.var 0) (.cst (.int 2))) .nil)) (.cst (.int 5))))) (.cons (.set (.name 3) (.bin .Mod false (.bi .int false (.cons false (.bin .Pow false (.bin .Add false (.bin .Add false (.ix (.var 0) (.cst (.int 1))) (.bin .Mult false (.bin .Mult false (.cst (.int 96457)) (.ix (.var 0) (.cst (.int 2)))) (.ix (.var 0) (.cst (.int 2))))) (.cst (.int 53))) (.cst (.int 3))) .nil)) (.var 2))) (.cons (.set (.name 3) (.bin .Mod false (.bi .int false (.cons false (.bin .Mult false (.var 3) (.bin .Add false (.bin .Mod false (.bi .int false (.cons false (.var 3) .nil)) (.cst (.int 10177))) (.bin .Mult false (.cst (.int 103)) (.ix (.var 0) (.cst (.int 2)))))) .nil)) (.cst (.int 2305843009213693907)))) (.cons (.ret (.bin .Mod false (.bi .int false (.cons false (.bin .FloorDiv false (.var 3) (.cst (.int 109))) .nil)) (.var 1))) .nil))))))
def N_law_take : List Str := ["pot", "upto", "prime", "made", "digit"]
def p_law_take : List Str := ["pot", "upto"]
def k_law_take : List (Str × Str) := []
def b_law_some : Ss := (.cons (.par2 4 5 (.bi .list true (.cons false (.var 1) .nil)) (.lst true .nil)) (.cons (.for (.name 3) (.range (.cons false (.var 2) .nil)) (.cons (.expr (.bm .append false (.var 5) (.cons false (.bm .pop false (.var 4) (.cons false (.call "_law_take" (.cons false (.var 0) (.cons false (.bi .len false (.cons false (.var 4) .nil)) .nil))) .nil)) .nil))) .nil)) (.cons (.ret (.var 5)) .nil)))
def N_law_some : List Str := ["pot", "some", "many", "lap", "left", "found"]
def p_law_some : List Str := ["pot", "some", "many"]
def k_law_some : List (Str × Str) := [("", "_law_take")]
def b_law_word : Ss := (.cons (.set (.name 1) (.cst (.str "abcdefghijklmnopqrstuvwxyz0123456789"))) (.cons (.set (.name 2) (.ix (.var 1) (.call "_law_take" (.cons false (.var 0) (.cons false (.cst (.int 26)) .nil))))) (.cons (.for (.name 3) (.range (.cons false (.call "_law_take" (.cons false (.var 0) (.cons false (.cst (.int 8)) .nil))) .nil)) (.cons (.set (.name 2) (.bin .Add false (.var 2) (.ix (.var 1) (.call "_law_take" (.cons false (.var 0) (.cons false (.cst (.int 36)) .nil)))))) .nil)) (.cons (.ife (.or (.cmp .In (.var 2) (.tup (.cons false (.cst (.str "zz")) (.cons false (.cst (.str "yy")) (.cons false (.cst (.str "every9")) (.cons false (.cst (.str "nosuch")) (.cons false (.cst (.str "new")) .nil))))))) (.bi .all false (.cons false (.comp false [4] (.name 4) (.cmp .In (.var 4) (.cst (.str "0123456789"))) .no (.of (.sl false (.var 2) (.yes (.cst (.int 1))) .no))) .nil))) (.cons (.ret (.bin .Add false (.cst (.str "of")) (.sl false (.var 2) .no (.yes (.cst (.int 6)))))) .nil) .nil) (.cons (.ret (.var 2)) .nil)))))
def N_law_word : List Str := ["pot", "signs", "found", "lap", "sign"]
def p_law_word : List Str := ["pot"]
def k_law_word : List (Str × Str) := [("", "_law_take")]
def b_law_roll : Ss := (.cons (.set (.name 3) (.lst false (.cons false (.cst (.str "a")) (.cons false (.cst (.str "b")) (.cons false (.cst (.str "anna")) (.cons false (.cst (.str "lee9")) (.cons false (.cst (.str "q")) (.cons false (.cst (.str "z1")) (.cons false (.cst (.str "omar")) (.cons false (.cst (.str "x")) (.cons false (.cst (.str "yu")) (.cons false (.cst (.str "guard")) (.cons false (.cst (.str "bond")) (.cons false (.cst (.str "kim")) (.cons false (.cst (.str "c")) (.cons false (.cst (.str "d")) .nil)))))))))))))))) (.cons (.par2 7 8 (.call "_law_some" (.cons false (.var 0) (.cons false (.var 3) (.cons false (.var 1) .nil)))) (.lst true .nil)) (.cons (.set (.name 4) (.ite (.cmp .Eq (.call "_law_take" (.cons false (.var 0) (.cons false (.cst (.int 3)) .nil))) (.cst (.int 0))) (.call "_law_word" (.cons false (.var 0) .nil)) (.ix (.var 7) (.cst (.int 0))))) (.cons (.ife (.cmp .NotIn (.var 4) (.var 7)) (.cons (.set (.sub (.var 7) (.call "_law_take" (.cons false (.var 0) (.cons false (.var 1) .nil)))) (.var 4)) .nil) .nil) (.cons (.set (.name 5) (.bi .tuple false (.cons false (.var 7) .nil))) (.cons (.for (.name 6) (.range (.cons false (.ite (.cmp .Gt (.var 1) (.cst (.int 1))) (.var 2) (.cst (.int 0))) .nil)) (.cons (.set (.name 9) (.bi .tuple false (.cons false (.call "_law_some" (.cons false (.var 0) (.cons false (.var 5) (.cons false (.cst (.int 2)) .nil)))) .nil))) (.cons (.expr (.bm .extend false (.var 8) (.cons false (.ite (.and (.cmp .NotIn (.var 9) (.var 8)) (.cmp .NotIn (.rev false (.var 9)) (.var 8))) (.lst false (.cons false (.var 9) .nil)) (.lst false .nil)) .nil))) .nil))) (.cons (.ret (.dict false (.cons (.cst (.str "guards")) (.var 5) (.cons (.cst (.str "bonds")) (.bi .tuple false (.cons false (.var 8) .nil)) .nil)))) .nil)))))))
def N_law_roll : List Str := ["pot", "many", "bonds", "pool", "word", "guards", "lap", "names", "found", "bond"]
def p_law_roll : List Str := ["pot", "many", "bonds"]
def k_law_roll : List (Str × Str) := [("", "_law_some"), ("", "_law_take"), ("", "_law_word")]
def b_law_of : Ss := (.cons (.ret (.ix (.var 1) (.call "_law_take" (.cons false (.var 0) (.cons false (.bi .len false (.cons false (.var 1) .nil)) .nil))))) .nil)
def N_law_of : List Str := ["pot", "some"]
def p_law_of : List Str := ["pot", "some"]
def k_law_of : List (Str × Str) := [("", "_law_take")]
def b_law_pair : Ss := (.cons (.ret (.ite (.cmp .Lt (.bm .index false (.ix (.var 0) (.cst (.str "guards"))) (.cons false (.var 1) .nil)) (.bm .index false (.ix (.var 0) (.cst (.str "guards"))) (.cons false (.var 2) .nil))) (.tup (.cons false (.var 1) (.cons false (.var 2) .nil))) (.tup (.cons false (.var 2) (.cons false (.var 1) .nil))))) .nil)
def N_law_pair : List Str := ["lore", "one", "other"]
def p_law_pair : List Str := ["lore", "one", "other"]
def k_law_pair : List (Str × Str) := []
def b_law_pairs : Ss := (.cons (.ret (.bi .sorted false (.cons false (.comp false [1, 2] (.tup (.cons (.name 1) (.cons (.name 2) .nil))) (.call "_law_pair" (.cons false (.var 0) (.cons false (.var 1) (.cons false (.var 2) .nil)))) .no (.of (.ix (.var 0) (.cst (.str "bonds"))))) .nil))) .nil)
def N_law_pairs : List Str := ["lore", "one", "other"]
def p_law_pairs : List Str := ["lore"]
def k_law_pairs : List (Str × Str) := [("", "_law_pair")]
def b_law_price : Ss := (.cons (.ret (.dzip (.call "_law_pairs" (.cons false (.var 0) .nil)) (.var 1))) .nil)
def N_law_price : List Str := ["lore", "prices"]
def p_law_price : List Str := ["lore", "prices"]
def k_law_price : List (Str × Str) := [("", "_law_pairs")]
def b_law_cost : Ss := (.cons (.set (.name 3) (.call "_law_price" (.cons false (.var 0) (.cons false (.var 1) .nil)))) (.cons (.ret (.bi .sum false (.cons false (.comp false [4] (.name 4) (.ix (.var 3) (.var 4)) .no (.of (.var 2))) .nil))) .nil))
def N_law_cost : List Str := ["lore", "prices", "pairing", "price", "pair"]
def p_law_cost : List Str := ["lore", "prices", "pairing"]
def k_law_cost : List (Str × Str) := [("", "_law_price")]
def b_law_text : Ss := (.cons (.set (.name 1) (.comp false [2] (.name 2) (.bin .Add false (.cst (.str "guard ")) (.var 2)) .no (.of (.ix (.var 0) (.cst (.str "guards")))))) (.cons (.ret (.bm .join false (.cst (.str "\n")) (.cons false (.bin .Add false (.var 1) (.comp false [3] (.name 3) (.bm .join false (.cst (.str " ")) (.cons false (.bin .Add false (.tup (.cons false (.cst (.str "bond")) .nil)) (.var 3)) .nil)) .no (.of (.ix (.var 0) (.cst (.str "bonds")))))) .nil))) .nil))
def N_law_text : List Str := ["lore", "lines", "guard", "bond"]
def p_law_text : List Str := ["lore"]
def k_law_text : List (Str × Str) := []
def b_law_prices : Ss := (.cons (.set (.name 2) (.call "_law_of" (.cons false (.var 0) (.cons false (.lst false (.cons false (.cst (.int 2)) (.cons false (.cst (.int 6)) (.cons false (.cst (.int 1000)) .nil)))) .nil)))) (.cons (.ret (.bi .tuple false (.cons false (.comp false [3] (.name 3) (.bi .int false (.cons false (.call "_law_take" (.cons false (.var 0) (.cons false (.var 2) .nil))) .nil)) .no (.of (.ix (.var 1) (.cst (.str "bonds"))))) .nil))) .nil))
def N_law_prices : List Str := ["pot", "lore", "most", "pair"]
def p_law_prices : List Str := ["pot", "lore"]
def k_law_prices : List (Str × Str) := [("", "_law_take"), ("", "_law_of")]
def b_law_full : Ss := (.cons (.par2 2 3 (.call "_law_pairs" (.cons false (.var 0) .nil)) (.lst false (.cons false (.tup (.cons false (.tup .nil) (.cons false (.ix (.var 0) (.cst (.str "guards"))) .nil))) .nil))) (.cons (.for (.name 1) (.range (.cons false (.bin .FloorDiv false (.bi .len false (.cons false (.ix (.var 0) (.cst (.str "guards"))) .nil)) (.cst (.int 2))) .nil)) (.cons (.set (.name 4) (.lst true .nil)) (.cons (.for (.tup (.cons (.name 5) (.cons (.name 6) .nil))) (.of (.var 3)) (.cons (.for (.name 7) (.of (.sl false (.var 6) (.yes (.cst (.int 1))) .no)) (.cons (.ife (.cmp .In (.tup (.cons false (.ix (.var 6) (.cst (.int 0))) (.cons false (.var 7) .nil))) (.var 2)) (.cons (.expr (.bm .append false (.var 4) (.cons false (.tup (.cons false (.bin .Add false (.var 5) (.tup (.cons false (.tup (.cons false (.ix (.var 6) (.cst (.int 0))) (.cons false (.var 7) .nil))) .nil))) (.cons false (.bi .tuple false (.cons false (.comp false [8] (.name 8) (.var 8) (.yes (.cmp .NotEq (.var 8) (.var 7))) (.of (.sl false (.var 6) (.yes (.cst (.int 1))) .no))) .nil)) .nil))) .nil))) .nil) .nil) .nil)) .nil)) (.cons (.set (.name 3) (.var 4)) .nil)))) (.cons (.ret (.comp false [5, 6] (.tup (.cons (.name 5) (.cons (.name 6) .nil))) (.bi .tuple false (.cons false (.bi .sorted false (.cons false (.var 5) .nil)) .nil)) (.yes (.cmp .Eq (.var 6) (.tup .nil))) (.of (.var 3)))) .nil)))
def N_law_full : List Str := ["lore", "lap", "pairs", "found", "longer", "row", "rest", "other", "one"]
def p_law_full : List Str := ["lore"]
def k_law_full : List (Str × Str) := [("", "_law_pairs")]
def b_law_cells : Ss := (.cons (.ret (.lr1 false (.bi .max2 false (.cons false (.cst (.int 1)) (.cons false (.bi .min2 false (.cons false (.var 1) (.cons false (.bi .len false (.cons false (.var 0) .nil)) .nil))) .nil))))) .nil)
def N_law_cells : List Str := ["script", "most"]
def p_law_cells : List Str := ["script", "most"]
def k_law_cells : List (Str × Str) := []
def b_law_pot : Ss := (.cons (.set (.name 2) (.ite (.cmp .Lt (.var 1) (.bi .len false (.cons false (.var 0) .nil))) (.ix (.var 0) (.var 1)) (.bin .Add false (.bin .Mult false (.cst (.int 71)) (.var 1)) (.cst (.int 37))))) (.cons (.set (.name 3) (.bin .Mult false (.bin .Mod false (.bi .int false (.cons false (.bi .abs false (.cons false (.var 2) .nil)) .nil)) (.bin .Pow false (.bin .Pow false (.cst (.int 10)) (.cst (.int 60))) (.cst (.int 5)))) (.bi .int false (.cons false (.cmp .GtE (.bi .abs false (.cons false (.var 2) .nil)) (.bin .Pow false (.cst (.int 10)) (.cst (.int 18)))) .nil)))) (.cons (.set (.name 4) (.bin .Mod false (.bi .int false (.cons false (.var 2) .nil)) (.cst (.int 2305843009213693951)))) (.cons (.ret (.lst true (.cons false (.var 3) (.cons false (.bin .Mod false (.bi .int false (.cons false (.bin .Add false (.bin .Add false (.bin .Mult false (.var 4) (.cst (.int 87553))) (.bin .Mult false (.bin .Mult false (.cst (.int 7411)) (.var 1)) (.var 1))) (.cst (.int 79))) .nil)) (.cst (.int 2305843009213693921))) (.cons false (.cst (.int 0)) .nil))))) .nil))))
def N_law_pot : List Str := ["script", "place", "cell", "own", "small"]
def p_law_pot : List Str := ["script", "place"]
def k_law_pot : List (Str × Str) := []
def b_law_whole_roll : Ss := (.cons (.set (.name 2) (.call "_law_roll" (.cons false (.var 0) (.cons false (.bin .Mult false (.cst (.int 2)) (.var 1)) (.cons false (.call "_law_of" (.cons false (.var 0) (.cons false (.lst false (.cons false (.cst (.int 4)) (.cons false (.cst (.int 10)) (.cons false (.cst (.int 25)) .nil)))) .nil))) .nil))))) (.cons (.par2 4 5 (.call "_law_some" (.cons false (.var 0) (.cons false (.ix (.var 2) (.cst (.str "guards"))) (.cons false (.bin .Mult false (.cst (.int 2)) (.var 1)) .nil)))) (.bi .list true (.cons false (.ix (.var 2) (.cst (.str "bonds"))) .nil))) (.cons (.for (.name 3) (.range (.cons false (.cst (.int 0)) (.cons false (.bin .Mult false (.cst (.int 2)) (.var 1)) (.cons false (.cst (.int 2)) .nil)))) (.cons (.set (.name 6) (.tup (.cons false (.ix (.var 4) (.var 3)) (.cons false (.ix (.var 4) (.bin .Add false (.var 3) (.cst (.int 1)))) .nil)))) (.cons (.expr (.bm .extend false (.var 5) (.cons false (.ite (.and (.cmp .NotIn (.var 6) (.var 5)) (.cmp .NotIn (.rev false (.var 6)) (.var 5))) (.lst false (.cons false (.var 6) .nil)) (.lst false .nil)) .nil))) .nil))) (.cons (.ret (.dict false (.cons (.cst (.str "guards")) (.ix (.var 2) (.cst (.str "guards"))) (.cons (.cst (.str "bonds")) (.bi .tuple false (.cons false (.call "_law_some" (.cons false (.var 0) (.cons false (.var 5) (.cons false (.bi .len false (.cons false (.var 5) .nil)) .nil)))) .nil)) .nil)))) .nil))))
def N_law_whole_roll : List Str := ["pot", "many", "lore", "at", "order", "bonds", "bond"]
def p_law_whole_roll : List Str := ["pot", "many"]
def k_law_whole_roll : List (Str × Str) := [("", "_law_some"), ("", "_law_roll"), ("", "_law_of")]
def b_law_words : Ss := (.cons (.set (.name 3) (.comp false [8] (.name 8) (.call "_law_cost" (.cons false (.var 0) (.cons false (.var 1) (.cons false (.var 8) .nil)))) .no (.of (.var 2)))) (.cons (.par2 5 6 (.comp false [8, 9] (.tup (.cons (.name 8) (.cons (.name 9) .nil))) (.var 8) (.yes (.cmp .Eq (.var 9) (.bi .min1 false (.cons false (.var 3) .nil)))) (.zip (.var 2) (.var 3))) (.lst true .nil)) (.cons (.for (.name 4) (.of (.call "_law_pairs" (.cons false (.var 0) .nil))) (.cons (.set (.name 7) (.bi .len false (.cons false (.comp false [8] (.name 8) (.var 8) (.yes (.cmp .In (.var 4) (.var 8))) (.of (.var 5))) .nil))) (.cons (.expr (.bm .append false (.var 6) (.cons false (.ite (.cmp .Eq (.var 7) (.cst (.int 0))) (.cst (.str "none")) (.ite (.cmp .Eq (.var 7) (.bi .len false (.cons false (.var 5) .nil))) (.cst (.str "all")) (.cst (.str "some")))) .nil))) .nil))) (.cons (.ret (.bi .tuple false (.cons false (.var 6) .nil))) .nil))))
def N_law_words : List Str := ["lore", "prices", "every", "costs", "pair", "best", "found", "many", "row", "cost"]
def p_law_words : List Str := ["lore", "prices", "every"]
def k_law_words : List (Str × Str) := [("", "_law_pairs"), ("", "_law_cost")]
def b_law_is_pair_right : Ss := (.cons (.set (.name 5) (.ix (.call "_law_pairs" (.cons false (.var 0) .nil)) (.var 4))) (.cons (.set (.name 6) (.comp false [12] (.name 12) (.bin .Sub false (.call "_law_cost" (.cons false (.var 0) (.cons false (.var 2) (.cons false (.var 12) .nil)))) (.ix (.var 2) (.var 4))) (.yes (.cmp .In (.var 5) (.var 12))) (.of (.var 3)))) (.cons (.set (.name 7) (.comp false [12] (.name 12) (.call "_law_cost" (.cons false (.var 0) (.cons false (.var 2) (.cons false (.var 12) .nil)))) (.yes (.cmp .NotIn (.var 5) (.var 12))) (.of (.var 3)))) (.cons (.set (.name 8) (.ite (.cmp .Eq (.var 6) (.lst false .nil)) (.cst (.str "never")) (.ite (.cmp .Eq (.var 7) (.lst false .nil)) (.cst .non) (.bin .Sub false (.bi .min1 false (.cons false (.var 7) .nil)) (.bi .min1 false (.cons false (.var 6) .nil)))))) (.cons (.set (.name 9) (.callk "may_cost" .nil ["roll", "prices", "one", "other"] (.cons false (.var 1) (.cons false (.var 2) (.cons false (.ix (.var 5) (.cst (.int 1))) (.cons false (.ix (.var 5) (.cst (.int 0))) .nil)))))) (.cons (.ife (.or (.cmp .NotEq (.bi .repr false (.cons false (.var 9) .nil)) (.bi .repr false (.cons false (.var 8) .nil))) (.cmp .NotEq (.bi .repr false (.cons false (.call "may_cost" (.cons false (.var 1) (.cons false (.var 2) (.cons false (.ix (.var 5) (.cst (.int 0))) (.cons false (.ix (.var 5) (.cst (.int 1))) .nil))))) .nil)) (.bi .repr false (.cons false (.var 8) .nil)))) (.cons (.ret (.cst (.bl false))) .nil) .nil) (.cons (.ife (.or (.cmp .Is (.var 8) (.cst .non)) (.cmp .Eq (.var 8) (.cst (.str "never")))) (.cons (.ret (.cmp .Eq (.ix (.call "fates" (.cons false (.var 1) (.cons false (.var 2) .nil))) (.var 4)) (.ite (.cmp .Is (.var 8) (.cst .non)) (.cst (.str "all")) (.cst (.str "none"))))) .nil) .nil) (.cons (.for (.tup (.cons (.name 10) (.cons (.name 11) .nil))) (.of (.tup (.cons false (.tup (.cons false (.var 8) (.cons false (.cst (.str "some")) .nil))) (.cons false (.tup (.cons false (.bin .Add false (.var 8) (.cst (.int 1))) (.cons false (.cst (.str "none")) .nil))) (.cons false (.tup (.cons false (.bin .Sub false (.var 8) (.cst (.int 1))) (.cons false (.cst (.str "all")) .nil))) .nil))))) (.cons (.ife (.cmp2 .LtE .LtE (.cst (.int 0)) (.var 10) (.cst (.int 999))) (.cons (.ife (.cmp .NotEq (.ix (.call "fates" (.cons false (.var 1) (.cons false (.bin .Add false (.bin .Add false (.sl false (.var 2) .no (.yes (.var 4))) (.tup (.cons false (.bi .int false (.cons false (.var 10) .nil)) .nil))) (.sl false (.var 2) (.yes (.bin .Add false (.var 4) (.cst (.int 1)))) .no)) .nil))) (.var 4)) (.var 11)) (.cons (.ret (.cst (.bl false))) .nil) .nil) .nil) .nil) .nil)) (.cons (.ret (.cst (.bl true))) .nil)))))))))
def N_law_is_pair_right : List Str := ["lore", "roll", "prices", "every", "at", "pair", "having", "without", "due", "told", "price", "word", "row"]
def p_law_is_pair_right : List Str := ["lore", "roll", "prices", "every", "at"]
def k_law_is_pair_right : List (Str × Str) := [("", "fates"), ("", "may_cost"), ("", "_law_cost"), ("", "_law_pairs")]
def b_law_right : Ss := (.cons (.set (.name 1) (.call "_law_whole_roll" (.cons false (.var 0) (.cons false (.bin .Add false (.cst (.int 1)) (.call "_law_take" (.cons false (.var 0) (.cons false (.cst (.int 4)) .nil)))) .nil)))) (.cons (.set (.tup (.cons (.name 3) (.cons (.name 4) (.cons (.name 5) .nil)))) (.tup (.cons false (.mk "Roll" (.cons false (.call "_law_text" (.cons false (.var 1) .nil)) .nil)) (.cons false (.call "_law_prices" (.cons false (.var 0) (.cons false (.var 1) .nil))) (.cons false (.call "_law_full" (.cons false (.var 1) .nil)) .nil))))) (.cons (.ife (.cmp .NotEq (.bi .repr false (.cons false (.callk "fates" .nil ["roll", "prices"] (.cons false (.var 3) (.cons false (.var 4) .nil))) .nil)) (.bi .repr false (.cons false (.call "_law_words" (.cons false (.var 1) (.cons false (.var 4) (.cons false (.var 5) .nil)))) .nil))) (.cons (.ret (.cst (.bl false))) .nil) .nil) (.cons (.set (.name 2) (.call "_law_some" (.cons false (.var 0) (.cons false (.lr1 false (.bi .len false (.cons false (.var 4) .nil))) (.cons false (.bi .min2 false (.cons false (.cst (.int 5)) (.cons false (.bi .len false (.cons false (.var 4) .nil)) .nil))) .nil))))) (.cons (.ret (.bi .all false (.cons false (.comp false [6] (.name 6) (.call "_law_is_pair_right" (.cons false (.var 1) (.cons false (.var 3) (.cons false (.var 4) (.cons false (.var 5) (.cons false (.var 6) .nil)))))) .no (.of (.var 2))) .nil))) .nil)))))
def N_law_right : List Str := ["pot", "lore", "spots", "roll", "prices", "every", "at"]
def p_law_right : List Str := ["pot"]
def k_law_right : List (Str × Str) := [("", "_law_is_pair_right"), ("", "_law_some"), ("", "fates"), ("", "_law_words"), ("", "_law_full"), ("", "_law_prices"), ("new", "Roll"), ("", "_law_text"), ("", "_law_whole_roll"), ("", "_law_take")]
def b_law : Ss := (.cons (.for (.name 1) (.of (.call "_law_cells" (.cons false (.var 0) (.cons false (.cst (.int 2)) .nil)))) (.cons (.set (.name 2) (.call "_law_pot" (.cons false (.var 0) (.cons false (.var 1) .nil)))) (.cons (.ife (.not (.bi .all false (.cons false (.comp false [3] (.name 3) (.call "_law_right" (.cons false (.var 2) .nil)) .no (.range (.cons false (.cst (.int 4)) .nil))) .nil))) (.cons (.ret (.cst (.bl false))) .nil) .nil) .nil))) (.cons (.ret (.cst (.bl true))) .nil))
def N_law : List Str := ["script", "place", "pot", "lap"]
def p_law : List Str := ["script"]
def k_law : List (Str × Str) := [("", "_law_cells"), ("", "_law_right"), ("", "_law_pot")]

end Dz60
/-! Dz33: single steps of the plain reading. -/
namespace Dz
open PySem PySem.Spec PyProof.Rows L2

variable {G : Sg} {r : Rho} {S S' : Sto} {Q : DK} {P : Bool → Prop} {R : Rho → Sto → Prop} {U : Sto → Prop} {i j k : Int} {p : Addr} {xs ys : List D} {v d : D} {own : Bool}
theorem st_add (q : Q (.int (i + j)) S) : wBin .Add own (.int i) (.int j) S Q := q
theorem st_sub (q : Q (.int (i - j)) S) : wBin .Sub own (.int i) (.int j) S Q := q
theorem st_mul (h : CMulW i j) (q : Q (.int (i * j)) S) : wBin .Mult own (.int i) (.int j) S Q := ⟨h, q⟩
theorem st_mod (h : 0 < j) (q : Q (.int (i % j)) S) : wBin .Mod own (.int i) (.int j) S Q := ⟨h, q⟩
theorem st_div (h : CDivW i j) (q : Q (.int (i / j)) S) : wBin .FloorDiv own (.int i) (.int j) S Q := ⟨h, q⟩
theorem st_pow (h : 1 < i ∧ 0 < j ∧ j ≤ 100 ∧ i.natAbs.log2 < 10000) (q : Q (.int (i ^ j.toNat)) S) : wBin .Pow own (.int i) (.int j) S Q := ⟨h, q⟩
theorem st_gt (q : P (decide (j < i))) : wCmp .Gt (.int i) (.int j) S P := ⟨i, j, rfl, rfl, q⟩
theorem st_le (q : P (decide (i ≤ j))) : wCmp .LtE (.int i) (.int j) S P := ⟨i, j, rfl, rfl, q⟩
theorem st_ge (q : P (decide (j ≤ i))) : wCmp .GtE (.int i) (.int j) S P := ⟨i, j, rfl, rfl, q⟩
/-- a list that is owned, at a place -/
theorem st_ixr (h : S p = some (.lst xs)) (a : atI xs k = some v) (q : Q v S) : wIx (.ref p) (.int k) S Q := by
  unfold wIx
  rw [show vw S (.ref p) = .lst xs by rw [vw_ref, h]]
  exact ⟨k, v, rfl, a, q⟩
theorem st_ixl (a : atI xs k = some v) (q : Q v S) : wIx (.lst xs) (.int k) S Q := ⟨k, v, rfl, a, q⟩
theorem st_ixt (a : atI xs k = some v) (q : Q v S) : wIx (.tup xs) (.int k) S Q := ⟨k, v, rfl, a, q⟩
theorem st_ixu (a : atI xs k = some v) (q : Q v S) : wIx (.utup xs) (.int k) S Q := ⟨k, v, rfl, a, q⟩
theorem st_setr (h : S p = some (.lst xs)) (h0 : 0 ≤ k) (hl : k < xs.length) (q : U (sup S p (.lst (xs.set k.toNat v)))) : wSet (.ref p) (.int k) v S U := ⟨p, rfl, .inl ⟨xs, k, h, rfl, h0, hl, q⟩⟩
theorem st_int (q : Q (.int i) S) : wBi .int own [.int i] S Q := q
theorem st_intb {b : Bool} (q : Q (.int (if b then 1 else 0)) S) : wBi .int own [.bl b] S Q := q
theorem st_abs (q : Q (.int i.natAbs) S) : wBi .abs own [.int i] S Q := q
theorem st_finL (h : xs.length ≤ sizeLine) (q : Q (.lst xs) S) : finL false xs S Q := ⟨h, by rw [if_neg Bool.false_ne_true]; exact q⟩
theorem st_finLo (h : xs.length ≤ sizeLine) (q : ∀ p, S p = none → Q (.ref p) (sup S p (.lst xs))) : finL true xs S Q := ⟨h, by rw [if_pos rfl]; exact q⟩
theorem st_finT (h : xs.length ≤ sizeLine) (q : Q (.tup xs) S) : finT xs S Q := ⟨h, q⟩
theorem st_name {n : Nat} (q : R (r.set n (some d)) S) : wTg G (.name n) d r S R := by simp only [wTg]; exact q
theorem st_bl {b : Bool} {C : Bool → Prop} (q : C b) : ∃ k, D.bl b = D.bl k ∧ C k := ⟨b, rfl, q⟩
theorem st_var {n : Nat} {C : D → Prop} (h : r[n]? = some (some d)) (q : C d) : ∃ d, r[n]? = some (some d) ∧ C d := ⟨d, h, q⟩
/-! ### loops -/
theorem wFor_inv {g : Sto → Prop} {Z : Ends'} {step : D → Ends' → Rho → Sto → Prop} (mono : ∀ d Z Z' r S, LeE Z Z' → step d Z r S → step d Z' r S) (Inv : List D → Rho → Sto → Prop)
    (h0 : ∀ r S, Inv [] r S → g S ∧ Z.nx r S) (hs : ∀ d ds r S, Inv (d :: ds) r S → g S ∧ step d { nx := Inv ds, rt := Z.rt, bk := Z.nx, ct := Inv ds } r S) : ∀ (ds : List D) (r : Rho) (S : Sto), Inv ds r S → wFor g Z step ds r S
  | [], r, S, h => h0 r S h
  | d :: ds, r, S, h => by
    obtain ⟨h1, h2⟩ := hs d ds r S h
    have ih := wFor_inv mono Inv h0 hs ds
    exact ⟨h1, mono d { nx := Inv ds, rt := Z.rt, bk := Z.nx, ct := Inv ds } _ r S ⟨fun r S q => ih r S q, fun _ _ q => q, fun _ _ q => q, fun r S q => ih r S q⟩ h2⟩
theorem for_step_mono (hG : MonoG' G) (t : Tg) (b : Ss) : ∀ (d : D) (Z Z' : Ends') (r : Rho) (S : Sto), LeE Z Z' → (wTg G t d r S fun r1 S2 => wSs G b Z r1 S2) → wTg G t d r S fun r1 S2 => wSs G b Z' r1 S2 :=
  fun d Z Z' r S h q => wTg_mono hG t _ _ _ _ _ (fun r1 S1 q => wSs_mono hG b _ _ _ _ h q) q
/-- for name in range(n) -/
theorem st_for_range (hG : MonoG' G) {n : Nat} {es : Es} {b : Ss} {Z : Ends'} {m : Int} (he : wEs G es r S fun ds S1 => ds = [.int m] ∧ S1 = S) (hm : okI m) (Inv : Nat → Rho → Sto → Prop) (i0 : Inv 0 r S)
    (hs : ∀ i r S, i < m.toNat → Inv i r S → wSs G b { nx := Inv (i + 1), rt := Z.rt, bk := Z.nx, ct := Inv (i + 1) } (r.set n (some (.int i))) S) (h0 : ∀ r S, Inv m.toNat r S → Z.nx r S) : wS G (.for (.name n) (.range es) b) Z r S := by
  simp only [wS, wSrc]
  refine wEs_mono hG es _ _ _ _ (fun ds S1 ⟨e1, e2⟩ => ?_) he
  subst e1 e2
  refine ⟨hm, ?_⟩
  refine wFor_inv (for_step_mono hG _ _) (fun rest r S => ∃ i, i ≤ m.toNat ∧ rest = (rangeD 0 1 m.toNat).drop i ∧ Inv i r S) ?_ ?_ _ _ _ ⟨0, Nat.zero_le _, by simp, i0⟩
  · rintro r S ⟨i, hi, e, q⟩
    have hl : (rangeD 0 1 m.toNat).length = m.toNat := by unfold rangeD; simp
    have : i = m.toNat := by
      have z : ((rangeD 0 1 m.toNat).drop i).length = 0 := by rw [← e]; rfl
      rw [List.length_drop, hl] at z
      omega
    subst this
    exact ⟨trivial, h0 r S q⟩
  · rintro d ds r S ⟨i, hi, e, q⟩
    have hl : (rangeD 0 1 m.toNat).length = m.toNat := by unfold rangeD; simp
    have hlt : i < m.toNat := by
      have z : ((rangeD 0 1 m.toNat).drop i).length = ds.length + 1 := by rw [← e]; rfl
      rw [List.length_drop, hl] at z
      omega
    rw [List.drop_eq_getElem_cons (by rw [hl]; exact hlt)] at e
    obtain ⟨e1, e2⟩ := List.cons.inj e
    have ed : d = .int i := by
      rw [e1]
      unfold rangeD
      simp
    subst ed
    refine ⟨trivial, ?_⟩
    simp only [wTg]
    refine wSs_mono hG b { nx := Inv (i + 1), rt := Z.rt, bk := Z.nx, ct := Inv (i + 1) } _ _ _ ⟨fun r S q => ⟨i + 1, hlt, e2, q⟩, fun _ _ q => q, fun _ _ q => q, fun r S q => ⟨i + 1, hlt, e2, q⟩⟩ (hs i r S hlt q)
theorem wComp_inv {g : Sto → Prop} {step : D → Sto → (Option D → Sto → Prop) → Prop} {Q : List D → Sto → Prop} (mono : ∀ d S (K K' : Option D → Sto → Prop), (∀ o S', K o S' → K' o S') → step d S K → step d S K') (Inv : List D → List D → Sto → Prop)
    (h0 : ∀ acc S, Inv [] acc S → g S ∧ Q acc S) (hs : ∀ d ds acc S, Inv (d :: ds) acc S → g S ∧ step d S fun o S' => match o with
      | some y => acc.length < sizeLine ∧ Inv ds (acc ++ [y]) S'
      | none => Inv ds acc S') : ∀ (ds acc : List D) (S : Sto), Inv ds acc S → wComp g step ds acc S Q
  | [], acc, S, h => h0 acc S h
  | d :: ds, acc, S, h => by
    obtain ⟨h1, h2⟩ := hs d ds acc S h
    have ih := wComp_inv mono Inv h0 hs ds
    refine ⟨h1, mono d S _ _ (fun o S' q => ?_) h2⟩
    cases o with
    | some y => exact ⟨q.1, ih _ _ q.2⟩
    | none => exact ih _ _ q
theorem wWhile_inv {Z : Ends'} {c : Rho → Sto → (Bool → Sto → Prop) → Prop} {b : Ends' → Rho → Sto → Prop} (mc : MonoT c) (mb : ∀ Z Z' r S, LeE Z Z' → b Z r S → b Z' r S) (Inv : Nat → Rho → Sto → Prop) (z : ∀ r S, ¬ Inv 0 r S)
    (hs : ∀ n r S, Inv (n + 1) r S → c r S fun k S1 => if k = true then b { nx := Inv n, rt := Z.rt, bk := Z.nx, ct := Inv n } r S1 else Z.nx r S1) : ∀ (n : Nat) (r : Rho) (S : Sto), Inv n r S → wWhile Z c b n r S
  | 0, r, S, h => absurd h (z r S)
  | n + 1, r, S, h => by
    have ih := wWhile_inv mc mb Inv z hs n
    refine mc r S _ _ (fun k S1 q => ?_) (hs n r S h)
    split at q
    · rename_i hk
      rw [if_pos hk]
      exact mb { nx := Inv n, rt := Z.rt, bk := Z.nx, ct := Inv n } _ r S1 ⟨fun r S q => ih r S q, fun _ _ q => q, fun _ _ q => q, fun r S q => ih r S q⟩ q
    · rename_i hk
      rw [if_neg hk]
      exact q
end Dz
/-! Pl1: plain forms of data, frames, promises by pre and post, loops. -/
namespace Dz
open PySem PySem.Spec PyProof.Rows L2

/-! ### forms -/
abbrev Pr := Str × Str
def pD (p : Pr) : D := .tup [.str p.1, .str p.2]
def nD (ns : List Str) : D := .tup (ns.map D.str)
def rD (row : List Pr) : D := .tup (row.map pD)
def iD (ns : List Int) : D := .tup (ns.map D.int)
theorem str_inj (x y : Str) (h : D.str x = .str y) : x = y := by cases h; rfl
theorem int_inj (x y : Int) (h : D.int x = .int y) : x = y := by cases h; rfl
theorem pD_inj (p q : Pr) (h : pD p = pD q) : p = q := by
  obtain ⟨a, b⟩ := p
  obtain ⟨c, d⟩ := q
  simp only [pD, D.tup.injEq, List.cons.injEq, D.str.injEq, and_true] at h
  rw [h.1, h.2]
theorem map_inj {α β : Type} {f : α → β} (hf : ∀ x y, f x = f y → x = y) : ∀ {l l' : List α}, l.map f = l'.map f → l = l'
  | [], [], _ => rfl
  | [], _ :: _, h => by simp at h
  | _ :: _, [], h => by simp at h
  | a :: l, b :: l', h => by
    simp only [List.map_cons, List.cons.injEq] at h
    rw [hf _ _ h.1, map_inj hf h.2]
theorem mem_inj {α β : Type} {f : α → β} (hf : ∀ x y, f x = f y → x = y) {x : α} {l : List α} : f x ∈ l.map f ↔ x ∈ l := by
  rw [List.mem_map]
  constructor
  · rintro ⟨y, hy, e⟩
    rw [← hf _ _ e]; exact hy
  · intro h; exact ⟨x, h, rfl⟩
theorem nD_inj (a b : List Str) (h : nD a = nD b) : a = b := by
  simp only [nD, D.tup.injEq] at h
  exact map_inj str_inj h
theorem rD_inj (a b : List Pr) (h : rD a = rD b) : a = b := by
  simp only [rD, D.tup.injEq] at h
  exact map_inj pD_inj h
theorem nodup_map {α β : Type} {f : α → β} (hf : ∀ x y, f x = f y → x = y) {l : List α} (h : l.Nodup) : (l.map f).Nodup := by
  unfold List.Nodup at *
  rw [List.pairwise_map]
  exact h.imp fun hab e => hab (hf _ _ e)
theorem pl_str {x : Str} : ∀ n : Nat, Pl n (.str x)
  | 0 => trivial
  | _ + 1 => trivial
theorem pl_int {x : Int} : ∀ n : Nat, Pl n (.int x)
  | 0 => trivial
  | _ + 1 => trivial
theorem pl_non : ∀ n : Nat, Pl n .non
  | 0 => trivial
  | _ + 1 => trivial
theorem pl_tup {ds : List D} {n : Nat} (h : ∀ d ∈ ds, Pl n d) : Pl (n + 1) (.tup ds) := h
theorem pl_lst {ds : List D} {n : Nat} (h : ∀ d ∈ ds, Pl n d) : Pl (n + 1) (.lst ds) := h
theorem pl_map {α : Type} {f : α → D} {n : Nat} {l : List α} (h : ∀ x, Pl n (f x)) : ∀ d ∈ l.map f, Pl n d := fun d hd => by
  obtain ⟨x, _, rfl⟩ := List.mem_map.mp hd
  exact h x
theorem pl_p {p : Pr} (n : Nat) : Pl (n + 1) (pD p) := pl_tup fun d hd => by
  simp only [List.mem_cons, List.not_mem_nil, or_false] at hd
  rcases hd with rfl | rfl <;> exact pl_str n
theorem pl_n {l : List Str} (n : Nat) : Pl (n + 1) (nD l) := pl_tup (pl_map fun _ => pl_str n)
theorem pl_i {l : List Int} (n : Nat) : Pl (n + 1) (iD l) := pl_tup (pl_map fun _ => pl_int n)
theorem pl_r {l : List Pr} (n : Nat) : Pl (n + 2) (rD l) := pl_tup (pl_map fun _ => pl_p n)

/-! ### what is kept of the owned things -/
def Kx (L : List Addr) (S S' : Sto) : Prop := ∀ q o, q ∉ L → S q = some o → S' q = some o
abbrev Ks (S S' : Sto) : Prop := Kx [] S S'
theorem Kx.refl {L : List Addr} {S : Sto} : Kx L S S := fun _ _ _ h => h
theorem Kx.trans {L : List Addr} {S S1 S2 : Sto} (a : Kx L S S1) (b : Kx L S1 S2) : Kx L S S2 := fun q o n h => b q o n (a q o n h)
theorem Kx.mono {L L' : List Addr} {S S' : Sto} (h : ∀ a ∈ L, a ∈ L') (k : Kx L S S') : Kx L' S S' := fun q o n e => k q o (fun m => n (h _ m)) e
theorem Ks.up {L : List Addr} {S S' : Sto} (k : Ks S S') : Kx L S S' := k.mono fun a h => by cases h
theorem Kx.get {S S' : Sto} {p : Addr} {o : Ob} (k : Ks S S') (h : S p = some o) : S' p = some o := k p o (by simp) h
theorem Kx.getN {L : List Addr} {S S' : Sto} {p : Addr} {o : Ob} (k : Kx L S S') (h : S p = some o) (n : p ∉ L) : S' p = some o := k p o n h
theorem Ks.new {S : Sto} {p : Addr} {o : Ob} (h : S p = none) : Ks S (sup S p o) := fun q u _ e => by
  rw [sup_ne (fun z => by rw [z, h] at e; cases e)]; exact e
theorem Kx.new {L : List Addr} {S : Sto} {p : Addr} {o : Ob} (h : S p = none) : Kx L S (sup S p o) := (Ks.new h).up
theorem Kx.sup {L : List Addr} {S : Sto} {p : Addr} {o : Ob} (h : p ∈ L) : Kx L S (Dz.sup S p o) := fun q u n e => by
  rw [sup_ne (fun z => n (by rw [z]; exact h))]; exact e
/-- what was new stays out of what is kept -/
theorem Kx.fresh {L : List Addr} {p : Addr} {S S' : Sto} (h : S p = none) (k : Kx (p :: L) S S') : Kx L S S' := fun q o n e => k q o (fun m => by
  rcases List.mem_cons.mp m with z | z
  · rw [z, h] at e; cases e
  · exact n z) e
theorem ne_obj {S : Sto} {p q : Addr} {o u : Ob} (h : S p = some o) (k : S q = some u) (n : o ≠ u) : p ≠ q := fun e => by
  rw [e, k] at h; cases h; exact n rfl
theorem ne_new {S : Sto} {p q : Addr} {o : Ob} (h : S p = some o) (k : S q = none) : p ≠ q := fun e => by
  rw [e, k] at h; cases h
theorem vw_lst' {S : Sto} {p : Addr} {ds : List D} (h : S p = some (.lst ds)) : vw S (.ref p) = .lst ds := by rw [vw_ref, h]
theorem vw_ins' {S : Sto} {p : Addr} {c : Str} {fs : List (Str × D)} (h : S p = some (.ins c fs)) : vw S (.ref p) = .ins c fs := by rw [vw_ref, h]
theorem vw_dic' {S : Sto} {p : Addr} {fs : List (D × D)} (h : S p = some (.dic fs)) : vw S (.ref p) = .dic false fs := by rw [vw_ref, h]
/-- what a thing is seen as stays, if it is kept -/
theorem vw_ks {S S' : Sto} {x d : D} (k : Ks S S') (h : vw S x = d) (n : ∀ p, d ≠ .ref p) : vw S' x = d := by
  cases x with
  | ref p =>
    rw [vw_ref] at h ⊢
    cases e : S p with
    | none => rw [e] at h; exact absurd h.symm (n p)
    | some o =>
      rw [k.get e]
      rw [e] at h
      exact h
  | _ => exact h

/-! ### promises -/
def spOf {α : Type} (args : α → List D) (pre : α → Sto → Prop) (post : α → Sto → D → Sto → Prop) : DSp := fun ds S Q => ∃ a, ds = args a ∧ pre a S ∧ ∀ d S', post a S d S' → Q d S'
theorem spOf_mono {α : Type} {args : α → List D} {pre : α → Sto → Prop} {post : α → Sto → D → Sto → Prop} : MonoSp (spOf args pre post) :=
  fun ds S Q Q' h ⟨a, e, p, q⟩ => ⟨a, e, p, fun d S' z => h _ _ (q d S' z)⟩
theorem spOf_len {α : Type} {args : α → List D} {pre : α → Sto → Prop} {post : α → Sto → D → Sto → Prop} {n : Nat} (h : ∀ a, (args a).length = n) : ∀ ds S Q, spOf args pre post ds S Q → ds.length = n :=
  fun ds S Q ⟨a, e, _⟩ => by rw [e]; exact h a
/-- the body of a def, read as its promise asks -/
def Keeps (G : Sg) (b : Ss) (n : Nat) (sp : DSp) : Prop := ∀ ds S Q, sp ds S Q → wSs G b { nx := fun _ S1 => Q .non S1, rt := Q } (r0 n ds) S

/-! ### one statement at a time -/
section
variable {G : Sg} {s : Sn} {ss : Ss} {Z : Ends'} {r : Rho} {S : Sto} {Q : DK} {e : E}
theorem st_cons (h : wS G s { nx := wSs G ss Z, rt := Z.rt, bk := Z.bk, ct := Z.ct } r S) : wSs G (.cons s ss) Z r S := h
theorem st_nil (h : Z.nx r S) : wSs G .nil Z r S := h
/-- for x in a list that is known by its items -/
theorem wFor_list {α : Type} {g : Sto → Prop} {Z : Ends'} {step : D → Ends' → Rho → Sto → Prop} (mono : ∀ d Z Z' r S, LeE Z Z' → step d Z r S → step d Z' r S) (enc : α → D) (Inv : List α → List α → Rho → Sto → Prop) (xs : List α)
    (h0 : ∀ r S, Inv xs [] r S → g S ∧ Z.nx r S)
    (hs : ∀ done x todo r S, xs = done ++ x :: todo → Inv done (x :: todo) r S → g S ∧ step (enc x) { nx := Inv (done ++ [x]) todo, rt := Z.rt, bk := Z.nx, ct := Inv (done ++ [x]) todo } r S) :
    ∀ (todo done : List α) (r : Rho) (S : Sto), xs = done ++ todo → Inv done todo r S → wFor g Z step (todo.map enc) r S
  | [], done, r, S, e, h => by
    rw [List.append_nil] at e
    subst e
    exact h0 r S h
  | x :: todo, done, r, S, e, h => by
    obtain ⟨h1, h2⟩ := hs done x todo r S e h
    have ih := wFor_list mono enc Inv xs h0 hs todo (done ++ [x])
    have e2 : xs = done ++ [x] ++ todo := by rw [List.append_assoc]; exact e
    exact ⟨h1, mono _ { nx := Inv (done ++ [x]) todo, rt := Z.rt, bk := Z.nx, ct := Inv (done ++ [x]) todo } _ r S ⟨fun r S q => ih r S e2 q, fun _ _ q => q, fun _ _ q => q, fun r S q => ih r S e2 q⟩ h2⟩
/-- a comprehension that is known by its items: what it makes of each -/
theorem wComp_list {α : Type} {g : Sto → Prop} {step : D → Sto → (Option D → Sto → Prop) → Prop} {Q : List D → Sto → Prop} (mono : ∀ d S (K K' : Option D → Sto → Prop), (∀ o S', K o S' → K' o S') → step d S K → step d S K')
    (enc : α → D) (I : Sto → Prop) (f : α → Option D) (xs : List α) (hl : xs.length ≤ sizeLine) (hg : ∀ S, I S → g S)
    (hs : ∀ x ∈ xs, ∀ S, I S → step (enc x) S fun o S' => o = f x ∧ I S') (h0 : ∀ S, I S → Q (xs.filterMap f) S) (S : Sto) (h : I S) : wComp g step (xs.map enc) [] S Q := by
  suffices H : ∀ (todo done : List α) (S : Sto), xs = done ++ todo → I S → wComp g step (todo.map enc) (done.filterMap f) S Q from H xs [] S rfl h
  intro todo
  induction todo with
  | nil =>
    intro done S e h
    rw [List.append_nil] at e
    subst e
    exact ⟨hg S h, h0 S h⟩
  | cons x todo ih =>
    intro done S e h
    have hx : x ∈ xs := by rw [e]; simp
    have e2 : xs = done ++ [x] ++ todo := by rw [List.append_assoc]; exact e
    have hd : (done.filterMap f).length < sizeLine := by
      have a := List.length_filterMap_le f done
      have b : xs.length = done.length + (todo.length + 1) := by rw [e, List.length_append, List.length_cons]
      omega
    refine ⟨hg S h, mono _ S _ _ (fun o S' ⟨ho, hi⟩ => ?_) (hs x hx S h)⟩
    have ih' := ih (done ++ [x]) S' e2 hi
    rw [List.filterMap_append] at ih'
    subst ho
    cases hf : f x with
    | some y =>
      simp only [hf, List.filterMap_cons, List.filterMap_nil] at ih' ⊢
      exact ⟨hd, ih'⟩
    | none =>
      simp only [hf, List.filterMap_cons, List.filterMap_nil, List.append_nil] at ih' ⊢
      exact ih'
/-- a step of a comprehension is monotone -/
theorem comp_mono (hG : MonoG' G) (t : Tg) (e : E) (c : Oe) (f : Sto → Rho) : ∀ (d : D) (S : Sto) (K K' : Option D → Sto → Prop), (∀ o S', K o S' → K' o S') →
    (wTg G t d (f S) S fun r1 S2 => wC G c r1 S2 fun b S3 => if b = true then wE G e r1 S3 fun y S4 => K (some y) S4 else K none S3) →
    wTg G t d (f S) S fun r1 S2 => wC G c r1 S2 fun b S3 => if b = true then wE G e r1 S3 fun y S4 => K' (some y) S4 else K' none S3 :=
  fun d S K K' h q => wTg_mono hG t _ _ _ _ _ (fun r1 S2 q => wC_mono hG c _ _ _ _ (fun b S3 q => by
    split at q
    · rename_i hb; rw [if_pos hb]; exact wE_mono hG e _ _ _ _ (fun y S4 q => h _ _ q) q
    · rename_i hb; rw [if_neg hb]; exact h _ _ q) q) q
end
end Dz
/-! Pl2: expressions that leave what is owned as it is: what they are worth. -/
namespace Dz
open PySem PySem.Spec PyProof.Rows L2

/-- e is worth v, wherever all is kept that stands in S -/
def Ev (G : Sg) (e : E) (r : Rho) (S : Sto) (v : D) : Prop := ∀ S1, Ks S S1 → ∀ Q : DK, (∀ S2, Ks S1 S2 → Q v S2) → wE G e r S1 Q
def EvL (G : Sg) (es : Es) (r : Rho) (S : Sto) (vs : List D) : Prop := ∀ S1, Ks S S1 → ∀ Q : List D → Sto → Prop, (∀ S2, Ks S1 S2 → Q vs S2) → wEs G es r S1 Q
/-- a source's items -/
def EvS (G : Sg) (s : Src) (r : Rho) (S : Sto) (ds : List D) : Prop := ∀ S1, Ks S S1 → ∀ K : (Sto → Prop) → List D → Sto → Prop, (∀ (g : Sto → Prop) S2, Ks S1 S2 → (∀ S3, Ks S S3 → g S3) → K g ds S2) → wSrc G s r S1 K
def TgOk (G : Sg) (t : Tg) (d : D) (r r1 : Rho) : Prop := ∀ S Q, Q r1 S → wTg G t d r S Q
def EvO (G : Sg) (o : Oe) (r : Rho) (S : Sto) (v : Option Int) : Prop := ∀ S1, Ks S S1 → ∀ Q : Option Int → Sto → Prop, (∀ S2, Ks S1 S2 → Q v S2) → wOe G o r S1 Q
/-- a def without an effect -/
def pureSp {α : Type} (args : α → List D) (pre : α → Sto → Prop) (val : α → D) : DSp := fun ds S Q => ∃ a, ds = args a ∧ pre a S ∧ ∀ S', Ks S S' → Q (val a) S'
theorem pureSp_mono {α : Type} {args : α → List D} {pre : α → Sto → Prop} {val : α → D} : MonoSp (pureSp args pre val) :=
  fun ds S Q Q' h ⟨a, e, p, q⟩ => ⟨a, e, p, fun S' z => h _ _ (q S' z)⟩
theorem pureSp_len {α : Type} {args : α → List D} {pre : α → Sto → Prop} {val : α → D} {n : Nat} (h : ∀ a, (args a).length = n) : ∀ ds S Q, pureSp args pre val ds S Q → ds.length = n :=
  fun ds S Q ⟨a, e, _⟩ => by rw [e]; exact h a

section
variable {G : Sg} {r : Rho} {S : Sto} {a b c e : E} {es : Es} {v w x y z : D} {vs xs ys : List D} {i j k m : Int} {p q : Bool} {own : Bool} {X Y : Str}
theorem Ev.use {S1 : Sto} {Q : DK} (h : Ev G e r S v) (k : Ks S S1) (q : ∀ S2, Ks S1 S2 → Q v S2) : wE G e r S1 Q := h S1 k Q q
theorem Ev.conv (h : Ev G e r S v) (e1 : v = w) : Ev G e r S w := e1 ▸ h
theorem Ev.up {S1 : Sto} (h : Ev G e r S v) (k : Ks S S1) : Ev G e r S1 v := fun S2 k2 => h S2 (k.trans k2)
theorem EvL.up {S1 : Sto} (h : EvL G es r S vs) (k : Ks S S1) : EvL G es r S1 vs := fun S2 k2 => h S2 (k.trans k2)
theorem Ev.var {n : Nat} (h : r[n]? = some (some v)) : Ev G (.var n) r S v := fun S1 k Q q => by rw [wE]; exact ⟨v, h, q _ Kx.refl⟩
theorem Ev.cst {c : Cst} : Ev G (.cst c) r S c.d := fun S1 k Q q => by rw [wE]; exact q _ Kx.refl
theorem Ev.glob {n : Str} (h : G.gl n = some v) : Ev G (.glob n) r S v := fun S1 k Q q => by rw [wE]; exact ⟨v, h, q _ Kx.refl⟩
theorem Ev.bin {op : Operator} (ha : Ev G a r S x) (hb : Ev G b r S y) (h : ∀ S Q, Q v S → wBin op own x y S Q) : Ev G (.bin op own a b) r S v := fun S1 k Q q => by
  rw [wE]
  exact ha S1 k _ fun S2 k2 => hb S2 (k.trans k2) _ fun S3 k3 => h _ _ (q _ (k2.trans k3))
theorem Ev.add (ha : Ev G a r S (.int i)) (hb : Ev G b r S (.int j)) : Ev G (.bin .Add own a b) r S (.int (i + j)) := ha.bin hb fun S Q q => q
theorem Ev.sub (ha : Ev G a r S (.int i)) (hb : Ev G b r S (.int j)) : Ev G (.bin .Sub own a b) r S (.int (i - j)) := ha.bin hb fun S Q q => q
theorem Ev.mul (ha : Ev G a r S (.int i)) (hb : Ev G b r S (.int j)) (h : CMulW i j) : Ev G (.bin .Mult own a b) r S (.int (i * j)) := ha.bin hb fun S Q q => ⟨h, q⟩
theorem Ev.mod (ha : Ev G a r S (.int i)) (hb : Ev G b r S (.int j)) (h : 0 < j) : Ev G (.bin .Mod own a b) r S (.int (i % j)) := ha.bin hb fun S Q q => ⟨h, q⟩
theorem Ev.div (ha : Ev G a r S (.int i)) (hb : Ev G b r S (.int j)) (h : CDivW i j) : Ev G (.bin .FloorDiv own a b) r S (.int (i / j)) := ha.bin hb fun S Q q => ⟨h, q⟩
theorem Ev.pow (ha : Ev G a r S (.int i)) (hb : Ev G b r S (.int j)) (h : 1 < i ∧ 0 < j ∧ j ≤ 100 ∧ i.natAbs.log2 < 10000) : Ev G (.bin .Pow own a b) r S (.int (i ^ j.toNat)) := ha.bin hb fun S Q q => ⟨h, q⟩
theorem Ev.addS (ha : Ev G a r S (.str X)) (hb : Ev G b r S (.str Y)) (h : X.length + Y.length ≤ sizeLine) : Ev G (.bin .Add own a b) r S (.str (X ++ Y)) := ha.bin hb fun S Q q => ⟨h, q⟩
theorem Ev.addL (ha : Ev G a r S (.lst xs)) (hb : Ev G b r S (.lst ys)) (h : (xs ++ ys).length ≤ sizeLine) : Ev G (.bin .Add false a b) r S (.lst (xs ++ ys)) := ha.bin hb fun S Q q => st_finL h q
theorem Ev.addT (ha : Ev G a r S (.tup xs)) (hb : Ev G b r S (.tup ys)) (h : (xs ++ ys).length ≤ sizeLine) : Ev G (.bin .Add own a b) r S (.tup (xs ++ ys)) := ha.bin hb fun S Q q => ⟨h, q⟩
theorem Ev.neg (ha : Ev G a r S (.int i)) : Ev G (.neg a) r S (.int (-i)) := fun S1 k Q q => by
  rw [wE]
  exact ha S1 k _ fun S2 k2 => ⟨i, rfl, q _ k2⟩
theorem Ev.cmp {op : CmpOp} (ha : Ev G a r S x) (hb : Ev G b r S y) (h : ∀ S1, Ks S S1 → ∀ P : Bool → Prop, P p → wCmp op x y S1 P) : Ev G (.cmp op a b) r S (.bl p) := fun S1 k Q q => by
  rw [wE]
  exact ha S1 k _ fun S2 k2 => hb S2 (k.trans k2) _ fun S3 k3 => h _ ((k.trans k2).trans k3) _ (q _ (k2.trans k3))
theorem Ev.cmp2 {o o2 : CmpOp} (ha : Ev G a r S x) (hb : Ev G b r S y) (hc : Ev G c r S z) (h : ∀ S1, Ks S S1 → ∀ P : Bool → Prop, P p → wCmp o x y S1 P) (h2 : ∀ S1, Ks S S1 → ∀ P : Bool → Prop, P q → wCmp o2 y z S1 P) :
    Ev G (.cmp2 o o2 a b c) r S (.bl (p && q)) := fun S1 k Q t => by
  rw [wE]
  refine ha S1 k _ fun S2 k2 => hb S2 (k.trans k2) _ fun S3 k3 => h _ ((k.trans k2).trans k3) _ ?_
  cases p with
  | true => exact hc S3 ((k.trans k2).trans k3) _ fun S4 k4 => h2 _ (((k.trans k2).trans k3).trans k4) _ (t _ ((k2.trans k3).trans k4))
  | false => exact t _ (k2.trans k3)
/-! single comparisons -/
theorem c_eqS {S : Sto} {P : Bool → Prop} (q : P (decide (X = Y))) : wCmp .Eq (.str X) (.str Y) S P := by
  show P6 (.str X) ∧ P6 (.str Y) ∧ _
  refine ⟨pl_str _, pl_str _, ?_⟩
  rw [show decide (vw S (D.str X) = vw S (D.str Y)) = decide (X = Y) from decide_eq_decide.mpr ⟨str_inj _ _, fun e => by rw [e]⟩]
  exact q
theorem c_neS {S : Sto} {P : Bool → Prop} (q : P (decide (X ≠ Y))) : wCmp .NotEq (.str X) (.str Y) S P := by
  refine c_eqS (S := S) (P := fun r => P (!r)) ?_
  rw [decide_not] at q
  exact q
theorem c_eqI {S : Sto} {P : Bool → Prop} (q : P (decide (i = j))) : wCmp .Eq (.int i) (.int j) S P := by
  show P6 (.int i) ∧ P6 (.int j) ∧ _
  refine ⟨pl_int _, pl_int _, ?_⟩
  rw [show decide (vw S (D.int i) = vw S (D.int j)) = decide (i = j) from decide_eq_decide.mpr ⟨int_inj _ _, fun e => by rw [e]⟩]
  exact q
theorem c_neI {S : Sto} {P : Bool → Prop} (q : P (decide (i ≠ j))) : wCmp .NotEq (.int i) (.int j) S P := by
  refine c_eqI (S := S) (P := fun r => P (!r)) ?_
  rw [decide_not] at q
  exact q
/-- of things that are no truths, by their views -/
theorem c_eqV {S : Sto} {P : Bool → Prop} {u t : D} {pr : Prop} [Decidable pr] (h1 : vw S x = u) (h2 : vw S y = t) (n : ∀ b, u ≠ .bl b) (p1 : P6 u) (p2 : P6 t) (hp : u = t ↔ pr) (q : P (decide pr)) : wCmp .Eq x y S P := by
  unfold wCmp
  simp only [h1, h2]
  rw [show decide pr = decide (u = t) from decide_eq_decide.mpr hp.symm] at q
  unfold eqD
  split
  · exact absurd rfl (n _)
  · exact ⟨p1, p2, q⟩
theorem c_neV {S : Sto} {P : Bool → Prop} {u t : D} {pr : Prop} [Decidable pr] (h1 : vw S x = u) (h2 : vw S y = t) (n : ∀ b, u ≠ .bl b) (p1 : P6 u) (p2 : P6 t) (hp : u = t ↔ pr) (q : P (decide ¬ pr)) : wCmp .NotEq x y S P := by
  refine c_eqV (S := S) (P := fun r => P (!r)) h1 h2 n p1 p2 hp ?_
  rw [decide_not] at q
  exact q
theorem c_in {S : Sto} {P : Bool → Prop} {pr : Prop} [Decidable pr] (h : vw S y = .lst ys ∨ vw S y = .tup ys) (p1 : P6 x) (p2 : ∀ d ∈ ys, Pl 5 d) (hp : x ∈ ys ↔ pr) (q : P (decide pr)) : wCmp .In x y S P := by
  unfold wCmp
  rw [show decide pr = decide (x ∈ ys) from decide_eq_decide.mpr hp.symm] at q
  rcases h with h | h <;> simp only [h] <;> exact ⟨p1, p2, q⟩
theorem c_notIn {S : Sto} {P : Bool → Prop} {pr : Prop} [Decidable pr] (h : vw S y = .lst ys ∨ vw S y = .tup ys) (p1 : P6 x) (p2 : ∀ d ∈ ys, Pl 5 d) (hp : x ∈ ys ↔ pr) (q : P (decide ¬ pr)) : wCmp .NotIn x y S P := by
  refine c_in (S := S) (P := fun r => P (!r)) h p1 p2 hp ?_
  rw [decide_not] at q
  exact q
theorem c_inS {S : Sto} {P : Bool → Prop} {n : Nat} (q : P (decide (n ∈ Y.cps.toList))) : wCmp .In (.str ⟨#[n]⟩) (.str Y) S P := ⟨n, rfl, q⟩
theorem c_notInS {S : Sto} {P : Bool → Prop} {n : Nat} (q : P (decide (n ∉ Y.cps.toList))) : wCmp .NotIn (.str ⟨#[n]⟩) (.str Y) S P := by
  rw [decide_not] at q
  exact ⟨n, rfl, q⟩
theorem Ev.eqS (ha : Ev G a r S (.str X)) (hb : Ev G b r S (.str Y)) : Ev G (.cmp .Eq a b) r S (.bl (decide (X = Y))) := ha.cmp hb fun _ _ _ q => c_eqS q
theorem Ev.neS (ha : Ev G a r S (.str X)) (hb : Ev G b r S (.str Y)) : Ev G (.cmp .NotEq a b) r S (.bl (decide (X ≠ Y))) := ha.cmp hb fun _ _ _ q => c_neS q
theorem Ev.eqI (ha : Ev G a r S (.int i)) (hb : Ev G b r S (.int j)) : Ev G (.cmp .Eq a b) r S (.bl (decide (i = j))) := ha.cmp hb fun _ _ _ q => c_eqI q
theorem Ev.neI (ha : Ev G a r S (.int i)) (hb : Ev G b r S (.int j)) : Ev G (.cmp .NotEq a b) r S (.bl (decide (i ≠ j))) := ha.cmp hb fun _ _ _ q => c_neI q
theorem Ev.ltI (ha : Ev G a r S (.int i)) (hb : Ev G b r S (.int j)) : Ev G (.cmp .Lt a b) r S (.bl (decide (i < j))) := ha.cmp hb fun _ _ _ q => q
theorem Ev.gtI (ha : Ev G a r S (.int i)) (hb : Ev G b r S (.int j)) : Ev G (.cmp .Gt a b) r S (.bl (decide (j < i))) := ha.cmp hb fun _ _ _ q => ⟨i, j, rfl, rfl, q⟩
theorem Ev.leI (ha : Ev G a r S (.int i)) (hb : Ev G b r S (.int j)) : Ev G (.cmp .LtE a b) r S (.bl (decide (i ≤ j))) := ha.cmp hb fun _ _ _ q => ⟨i, j, rfl, rfl, q⟩
theorem Ev.geI (ha : Ev G a r S (.int i)) (hb : Ev G b r S (.int j)) : Ev G (.cmp .GtE a b) r S (.bl (decide (j ≤ i))) := ha.cmp hb fun _ _ _ q => ⟨i, j, rfl, rfl, q⟩
theorem Ev.eqT {pr : Prop} [Decidable pr] (ha : Ev G a r S (.tup xs)) (hb : Ev G b r S (.tup ys)) (p1 : P6 (.tup xs)) (p2 : P6 (.tup ys)) (hp : xs = ys ↔ pr) : Ev G (.cmp .Eq a b) r S (.bl (decide pr)) :=
  ha.cmp hb fun _ _ _ q => c_eqV (u := .tup xs) (t := .tup ys) rfl rfl (by simp) p1 p2 (by rw [D.tup.injEq]; exact hp) q
theorem Ev.neT {pr : Prop} [Decidable pr] (ha : Ev G a r S (.tup xs)) (hb : Ev G b r S (.tup ys)) (p1 : P6 (.tup xs)) (p2 : P6 (.tup ys)) (hp : xs = ys ↔ pr) : Ev G (.cmp .NotEq a b) r S (.bl (decide ¬ pr)) :=
  ha.cmp hb fun _ _ _ q => c_neV (u := .tup xs) (t := .tup ys) rfl rfl (by simp) p1 p2 (by rw [D.tup.injEq]; exact hp) q
theorem Ev.eqL {pr : Prop} [Decidable pr] (ha : Ev G a r S (.lst xs)) (hb : Ev G b r S (.lst ys)) (p1 : P6 (.lst xs)) (p2 : P6 (.lst ys)) (hp : xs = ys ↔ pr) : Ev G (.cmp .Eq a b) r S (.bl (decide pr)) :=
  ha.cmp hb fun _ _ _ q => c_eqV (u := .lst xs) (t := .lst ys) rfl rfl (by simp) p1 p2 (by rw [D.lst.injEq]; exact hp) q
theorem Ev.neL {pr : Prop} [Decidable pr] (ha : Ev G a r S (.lst xs)) (hb : Ev G b r S (.lst ys)) (p1 : P6 (.lst xs)) (p2 : P6 (.lst ys)) (hp : xs = ys ↔ pr) : Ev G (.cmp .NotEq a b) r S (.bl (decide ¬ pr)) :=
  ha.cmp hb fun _ _ _ q => c_neV (u := .lst xs) (t := .lst ys) rfl rfl (by simp) p1 p2 (by rw [D.lst.injEq]; exact hp) q
theorem Ev.inL {pr : Prop} [Decidable pr] (ha : Ev G a r S x) (hb : Ev G b r S (.lst ys)) (p1 : P6 x) (p2 : ∀ d ∈ ys, Pl 5 d) (hp : x ∈ ys ↔ pr) : Ev G (.cmp .In a b) r S (.bl (decide pr)) :=
  ha.cmp hb fun _ _ _ q => c_in (.inl rfl) p1 p2 hp q
theorem Ev.inT {pr : Prop} [Decidable pr] (ha : Ev G a r S x) (hb : Ev G b r S (.tup ys)) (p1 : P6 x) (p2 : ∀ d ∈ ys, Pl 5 d) (hp : x ∈ ys ↔ pr) : Ev G (.cmp .In a b) r S (.bl (decide pr)) :=
  ha.cmp hb fun _ _ _ q => c_in (.inr rfl) p1 p2 hp q
theorem Ev.notInL {pr : Prop} [Decidable pr] (ha : Ev G a r S x) (hb : Ev G b r S (.lst ys)) (p1 : P6 x) (p2 : ∀ d ∈ ys, Pl 5 d) (hp : x ∈ ys ↔ pr) : Ev G (.cmp .NotIn a b) r S (.bl (decide ¬ pr)) :=
  ha.cmp hb fun _ _ _ q => c_notIn (.inl rfl) p1 p2 hp q
theorem Ev.notInT {pr : Prop} [Decidable pr] (ha : Ev G a r S x) (hb : Ev G b r S (.tup ys)) (p1 : P6 x) (p2 : ∀ d ∈ ys, Pl 5 d) (hp : x ∈ ys ↔ pr) : Ev G (.cmp .NotIn a b) r S (.bl (decide ¬ pr)) :=
  ha.cmp hb fun _ _ _ q => c_notIn (.inr rfl) p1 p2 hp q
/-- in a list that is owned -/
theorem Ev.inV {pr : Prop} [Decidable pr] (ha : Ev G a r S x) (hb : Ev G b r S y) (hy : vw S y = .lst ys ∨ vw S y = .tup ys) (p1 : P6 x) (p2 : ∀ d ∈ ys, Pl 5 d) (hp : x ∈ ys ↔ pr) : Ev G (.cmp .In a b) r S (.bl (decide pr)) :=
  ha.cmp hb fun _ k _ q => c_in (hy.imp (fun h => vw_ks k h (by simp)) fun h => vw_ks k h (by simp)) p1 p2 hp q
theorem Ev.notInV {pr : Prop} [Decidable pr] (ha : Ev G a r S x) (hb : Ev G b r S y) (hy : vw S y = .lst ys ∨ vw S y = .tup ys) (p1 : P6 x) (p2 : ∀ d ∈ ys, Pl 5 d) (hp : x ∈ ys ↔ pr) : Ev G (.cmp .NotIn a b) r S (.bl (decide ¬ pr)) :=
  ha.cmp hb fun _ k _ q => c_notIn (hy.imp (fun h => vw_ks k h (by simp)) fun h => vw_ks k h (by simp)) p1 p2 hp q
theorem Ev.eqV {u t : D} {pr : Prop} [Decidable pr] (ha : Ev G a r S x) (hb : Ev G b r S y) (h1 : vw S x = u) (h2 : vw S y = t) (u1 : ∀ p, u ≠ .ref p) (u2 : ∀ p, t ≠ .ref p) (n : ∀ b, u ≠ .bl b) (p1 : P6 u) (p2 : P6 t) (hp : u = t ↔ pr) : Ev G (.cmp .Eq a b) r S (.bl (decide pr)) :=
  ha.cmp hb fun _ k _ q => c_eqV (vw_ks k h1 u1) (vw_ks k h2 u2) n p1 p2 hp q
theorem Ev.neV {u t : D} {pr : Prop} [Decidable pr] (ha : Ev G a r S x) (hb : Ev G b r S y) (h1 : vw S x = u) (h2 : vw S y = t) (u1 : ∀ p, u ≠ .ref p) (u2 : ∀ p, t ≠ .ref p) (n : ∀ b, u ≠ .bl b) (p1 : P6 u) (p2 : P6 t) (hp : u = t ↔ pr) : Ev G (.cmp .NotEq a b) r S (.bl (decide ¬ pr)) :=
  ha.cmp hb fun _ k _ q => c_neV (vw_ks k h1 u1) (vw_ks k h2 u2) n p1 p2 hp q
theorem Ev.isNon (ha : Ev G a r S x) (hb : Ev G b r S .non) : Ev G (.cmp .Is a b) r S (.bl (decide (x = .non))) := ha.cmp hb fun _ _ _ q => .inl ⟨rfl, q⟩
theorem Ev.isNotNon (ha : Ev G a r S x) (hb : Ev G b r S .non) : Ev G (.cmp .IsNot a b) r S (.bl (!decide (x = .non))) := ha.cmp hb fun _ _ _ q => .inl ⟨rfl, q⟩
theorem Ev.isB {t u : Bool} (ha : Ev G a r S (.bl t)) (hb : Ev G b r S (.bl u)) : Ev G (.cmp .Is a b) r S (.bl (decide (t = u))) := ha.cmp hb fun _ _ _ q => .inr ⟨t, u, rfl, rfl, q⟩
theorem Ev.isNotB {t u : Bool} (ha : Ev G a r S (.bl t)) (hb : Ev G b r S (.bl u)) : Ev G (.cmp .IsNot a b) r S (.bl (!decide (t = u))) := ha.cmp hb fun _ _ _ q => .inr ⟨t, u, rfl, rfl, q⟩
/-! truths -/
theorem Ev.not (ha : Ev G a r S (.bl p)) : Ev G (.not a) r S (.bl (!p)) := fun S1 k Q q => by
  rw [wE]
  exact ha S1 k _ fun S2 k2 => ⟨p, rfl, q _ k2⟩
theorem Ev.and (ha : Ev G a r S (.bl p)) (hb : p = true → Ev G b r S (.bl q)) : Ev G (.and a b) r S (.bl (p && q)) := fun S1 k Q t => by
  rw [wE]
  refine ha S1 k _ fun S2 k2 => ⟨p, rfl, ?_⟩
  cases p with
  | true => exact hb rfl S2 (k.trans k2) _ fun S3 k3 => ⟨q, rfl, t _ (k2.trans k3)⟩
  | false => exact t _ k2
theorem Ev.or (ha : Ev G a r S (.bl p)) (hb : p = false → Ev G b r S (.bl q)) : Ev G (.or a b) r S (.bl (p || q)) := fun S1 k Q t => by
  rw [wE]
  refine ha S1 k _ fun S2 k2 => ⟨p, rfl, ?_⟩
  cases p with
  | false => exact hb rfl S2 (k.trans k2) _ fun S3 k3 => ⟨q, rfl, t _ (k2.trans k3)⟩
  | true => exact t _ k2
theorem Ev.ite (hc : Ev G c r S (.bl p)) (ha : p = true → Ev G a r S x) (hb : p = false → Ev G b r S y) : Ev G (.ite c a b) r S (if p = true then x else y) := fun S1 k Q t => by
  rw [wE]
  refine hc S1 k _ fun S2 k2 => ⟨p, rfl, ?_⟩
  cases p with
  | true => exact ha rfl S2 (k.trans k2) _ fun S3 k3 => t _ (k2.trans k3)
  | false => exact hb rfl S2 (k.trans k2) _ fun S3 k3 => t _ (k2.trans k3)
theorem Ev.iteT (hc : Ev G c r S (.bl true)) (ha : Ev G a r S x) : Ev G (.ite c a b) r S x := Ev.conv (Ev.ite (y := x) hc (fun _ => ha) (by simp)) rfl
theorem Ev.iteF (hc : Ev G c r S (.bl false)) (hb : Ev G b r S x) : Ev G (.ite c a b) r S x := Ev.conv (Ev.ite (x := x) hc (by simp) fun _ => hb) rfl
/-! lists of arguments, displays -/
theorem EvL.nil : EvL G .nil r S [] := fun S1 k Q q => by rw [wEs]; exact q _ Kx.refl
theorem EvL.cons (ha : Ev G a r S x) (h : EvL G es r S vs) : EvL G (.cons false a es) r S (x :: vs) := fun S1 k Q q => by
  rw [wEs]
  refine ha S1 k _ fun S2 k2 => ?_
  rw [if_neg Bool.false_ne_true]
  exact h S2 (k.trans k2) _ fun S3 k3 => q _ (k2.trans k3)
theorem items_ks {S1 : Sto} (k : Ks S S1) (h : itemsD S x = some xs) : itemsD S1 x = some xs := by
  unfold itemsD at *
  cases e : vw S x with
  | ref p => rw [e] at h; cases h
  | _ =>
    rw [vw_ks k e (by simp)]
    rw [e] at h
    exact h
theorem EvL.star (ha : Ev G a r S x) (hx : itemsD S x = some xs) (h : EvL G es r S vs) : EvL G (.cons true a es) r S (xs ++ vs) := fun S1 k Q q => by
  rw [wEs]
  refine ha S1 k _ fun S2 k2 => ?_
  rw [if_pos rfl]
  exact ⟨xs, items_ks (k.trans k2) hx, h S2 (k.trans k2) _ fun S3 k3 => q _ (k2.trans k3)⟩
theorem Ev.tup (h : EvL G es r S vs) (hl : vs.length ≤ sizeLine := by rw [sizeLine_eq]; decide) : Ev G (.tup es) r S (.tup vs) := fun S1 k Q q => by
  rw [wE]
  exact h S1 k _ fun S2 k2 => ⟨hl, q _ k2⟩
theorem Ev.lst (h : EvL G es r S vs) (hl : vs.length ≤ sizeLine := by rw [sizeLine_eq]; decide) : Ev G (.lst false es) r S (.lst vs) := fun S1 k Q q => by
  rw [wE]
  exact h S1 k _ fun S2 k2 => st_finL hl (q _ k2)
/-! items, slices -/
theorem Ev.ix (ha : Ev G a r S x) (hb : Ev G b r S y) (h : ∀ S1, Ks S S1 → ∀ Q : DK, Q v S1 → wIx x y S1 Q) : Ev G (.ix a b) r S v := fun S1 k Q q => by
  rw [wE]
  exact ha S1 k _ fun S2 k2 => hb S2 (k.trans k2) _ fun S3 k3 => h _ ((k.trans k2).trans k3) _ (q _ (k2.trans k3))
theorem Ev.ixL (ha : Ev G a r S (.lst xs)) (hb : Ev G b r S (.int i)) (h : atI xs i = some v) : Ev G (.ix a b) r S v := ha.ix hb fun _ _ _ q => ⟨i, v, rfl, h, q⟩
theorem Ev.ixT (ha : Ev G a r S (.tup xs)) (hb : Ev G b r S (.int i)) (h : atI xs i = some v) : Ev G (.ix a b) r S v := ha.ix hb fun _ _ _ q => ⟨i, v, rfl, h, q⟩
theorem Ev.ixU (ha : Ev G a r S (.utup xs)) (hb : Ev G b r S (.int i)) (h : atI xs i = some v) : Ev G (.ix a b) r S v := ha.ix hb fun _ _ _ q => ⟨i, v, rfl, h, q⟩
theorem Ev.ixF (ha : Ev G a r S (.fls xs)) (hb : Ev G b r S (.int i)) (h : atI xs i = some v) : Ev G (.ix a b) r S v := ha.ix hb fun _ _ _ q => ⟨i, v, rfl, h, q⟩
theorem Ev.ixR {l : Addr} (hl : S l = some (.lst xs)) (ha : Ev G a r S (.ref l)) (hb : Ev G b r S (.int i)) (h : atI xs i = some v) : Ev G (.ix a b) r S v := ha.ix hb fun _ k _ q => st_ixr (k.get hl) h q
theorem Ev.ixS {n : Nat} (ha : Ev G a r S (.str X)) (hb : Ev G b r S (.int i)) (hl : X.length ≤ sizeLine) (h : atI X.cps.toList i = some n) : Ev G (.ix a b) r S (.str ⟨#[n]⟩) := ha.ix hb fun _ _ _ q => ⟨i, n, rfl, hl, h, q⟩
theorem Ev.ixD {t : Bool} {kvs : List (D × D)} (ha : Ev G a r S (.dic t kvs)) (hb : Ev G b r S y) (hk : isKey t y = true) (h : lookD kvs y = some v) : Ev G (.ix a b) r S v := ha.ix hb fun _ _ _ q => ⟨v, hk, h, q⟩
theorem atI_n {α : Type} {xs : List α} {n : Nat} : atI xs (n : Int) = xs[n]? := by
  unfold atI ixN
  rw [if_pos (Int.natCast_nonneg n)]
  by_cases h : n < xs.length
  · rw [if_pos (by omega), Int.toNat_natCast]; rfl
  · rw [if_neg (by omega), List.getElem?_eq_none (by omega)]; rfl
theorem EvO.no : EvO G .no r S none := fun S1 k Q q => by rw [wOe]; exact q _ Kx.refl
theorem EvO.yes (ha : Ev G a r S (.int i)) : EvO G (.yes a) r S (some i) := fun S1 k Q q => by
  rw [wOe]
  exact ha S1 k _ fun S2 k2 => ⟨i, rfl, q _ k2⟩
theorem Ev.sl {lo hi : Oe} {l h : Option Int} (ha : Ev G a r S x) (hl : EvO G lo r S l) (hh : EvO G hi r S h) (hv : ∀ S Q, Q v S → wSl own x l h S Q) : Ev G (.sl own a lo hi) r S v := fun S1 k Q q => by
  rw [wE]
  exact ha S1 k _ fun S2 k2 => hl S2 (k.trans k2) _ fun S3 k3 => hh S3 ((k.trans k2).trans k3) _ fun S4 k4 => hv _ _ (q _ ((k2.trans k3).trans k4))
theorem cutL_len {lo hi : Option Int} : (cutL xs lo hi).length ≤ xs.length := by
  unfold cutL
  rw [List.length_take, List.length_drop]
  omega
theorem cutL_from {n : Nat} : cutL xs (some (n : Int)) none = xs.drop n := by
  unfold cutL
  rw [HT.sIx_nat, HT.sIx_none]
  by_cases h : n ≤ xs.length
  · rw [Nat.min_eq_left h, List.take_of_length_le (by rw [List.length_drop]; omega)]
  · rw [Nat.min_eq_right (by omega), List.drop_of_length_le (by omega), List.drop_of_length_le (by omega)]
    simp
theorem cutL_to {n : Nat} : cutL xs none (some (n : Int)) = xs.take n := by
  unfold cutL
  rw [HT.sIx_nat, HT.sIx_none, List.drop_zero, Nat.sub_zero]
  by_cases h : n ≤ xs.length
  · rw [Nat.min_eq_left h]
  · rw [Nat.min_eq_right (by omega), List.take_of_length_le (by omega), List.take_of_length_le (by omega)]
theorem Ev.slT {lo hi : Oe} {l h : Option Int} (ha : Ev G a r S (.tup xs)) (hl : EvO G lo r S l) (hh : EvO G hi r S h) (hz : xs.length ≤ sizeLine) : Ev G (.sl own a lo hi) r S (.tup (cutL xs l h)) :=
  ha.sl hl hh fun S Q q => ⟨Nat.le_trans cutL_len hz, q⟩
theorem Ev.slL {lo hi : Oe} {l h : Option Int} (ha : Ev G a r S (.lst xs)) (hl : EvO G lo r S l) (hh : EvO G hi r S h) (hz : xs.length ≤ sizeLine) : Ev G (.sl false a lo hi) r S (.lst (cutL xs l h)) :=
  ha.sl hl hh fun S Q q => st_finL (Nat.le_trans cutL_len hz) q
theorem Ev.slS {lo hi : Oe} {l h : Option Int} (ha : Ev G a r S (.str X)) (hl : EvO G lo r S l) (hh : EvO G hi r S h) (hz : X.length ≤ sizeLine) : Ev G (.sl own a lo hi) r S (.str (cutS X l h)) :=
  ha.sl hl hh fun S Q q => ⟨hz, q⟩
theorem Ev.revT (ha : Ev G a r S (.tup xs)) (hz : xs.length ≤ sizeLine) : Ev G (.rev own a) r S (.tup xs.reverse) := fun S1 k Q q => by
  rw [wE]
  exact ha S1 k _ fun S2 k2 => ⟨by rw [List.length_reverse]; exact hz, q _ k2⟩
/-! fields, properties, calls -/
theorem Ev.fld {c f : Str} {fs : List (Str × D)} (ha : Ev G a r S x) (hx : vw S x = .ins c fs) (hf : fs.lookup f = some v) : Ev G (.fld c a f) r S v := fun S1 k Q q => by
  rw [wE]
  exact ha S1 k _ fun S2 k2 => ⟨fs, v, vw_ks (k.trans k2) hx (by simp), hf, q _ k2⟩
theorem Ev.prop {α : Type} {args : α → List D} {pre : α → Sto → Prop} {val : α → D} {c f : Str} {fs : List (Str × D)} (hs : G.pr c f = some (pureSp args pre val)) (ha : Ev G a r S x) (hx : vw S x = .ins c fs) (t : α) (ht : [x] = args t) (hp : ∀ S1, Ks S S1 → pre t S1) :
    Ev G (.prop c a f) r S (val t) := fun S1 k Q q => by
  rw [wE]
  exact ⟨_, hs, ha S1 k _ fun S2 k2 => ⟨⟨fs, vw_ks (k.trans k2) hx (by simp)⟩, t, ht, hp _ (k.trans k2), fun S3 k3 => q _ (k2.trans k3)⟩⟩
theorem Ev.call {α : Type} {args : α → List D} {pre : α → Sto → Prop} {val : α → D} {f : Str} (hs : G.fn f = some (pureSp args pre val)) (t : α) (ha : EvL G es r S (args t)) (hp : ∀ S1, Ks S S1 → pre t S1) : Ev G (.call f es) r S (val t) := fun S1 k Q q => by
  rw [wE]
  exact ⟨_, hs, ha S1 k _ fun S2 k2 => ⟨t, rfl, hp _ (k.trans k2), fun S3 k3 => q _ (k2.trans k3)⟩⟩
theorem Ev.callk {α : Type} {args : α → List D} {pre : α → Sto → Prop} {val : α → D} {f : Str} {ks : List Str} {kes : Es} (hs : G.fn f = some (pureSp args pre val)) (t : α) (ha : EvL G es r S vs) (hb : EvL G kes r S ys) (ht : vs ++ ys = args t) (hp : ∀ S1, Ks S S1 → pre t S1) :
    Ev G (.callk f es ks kes) r S (val t) := fun S1 k Q q => by
  rw [wE]
  exact ⟨_, hs, ha S1 k _ fun S2 k2 => hb S2 (k.trans k2) _ fun S3 k3 => ⟨t, ht, hp _ ((k.trans k2).trans k3), fun S4 k4 => q _ ((k2.trans k3).trans k4)⟩⟩
/-! built-in functions -/
theorem Ev.bi {f : Bi} (ha : EvL G es r S vs) (h : ∀ S1, Ks S S1 → ∀ Q : DK, Q v S1 → wBi f own vs S1 Q) : Ev G (.bi f own es) r S v := fun S1 k Q q => by
  rw [wE]
  exact ha S1 k _ fun S2 k2 => h _ (k.trans k2) _ (q _ k2)
theorem Ev.bi1 {f : Bi} (ha : Ev G a r S x) (h : ∀ S1, Ks S S1 → ∀ Q : DK, Q v S1 → wBi f own [x] S1 Q) : Ev G (.bi f own (.cons false a .nil)) r S v := Ev.bi (EvL.cons ha EvL.nil) h
theorem Ev.lenT (ha : Ev G a r S (.tup xs)) : Ev G (.bi .len own (.cons false a .nil)) r S (.int xs.length) := ha.bi1 fun _ _ _ q => q
theorem Ev.lenL (ha : Ev G a r S (.lst xs)) : Ev G (.bi .len own (.cons false a .nil)) r S (.int xs.length) := ha.bi1 fun _ _ _ q => q
theorem Ev.lenF (ha : Ev G a r S (.fls xs)) : Ev G (.bi .len own (.cons false a .nil)) r S (.int xs.length) := ha.bi1 fun _ _ _ q => q
theorem Ev.lenS (ha : Ev G a r S (.str X)) (hl : X.length ≤ sizeLine) : Ev G (.bi .len own (.cons false a .nil)) r S (.int X.length) := ha.bi1 fun _ _ _ q => ⟨hl, q⟩
theorem Ev.lenV (ha : Ev G a r S x) (hx : vw S x = .lst xs) : Ev G (.bi .len own (.cons false a .nil)) r S (.int xs.length) := ha.bi1 fun S1 k Q q => by
  simp only [wBi, vw_ks k hx (by simp)]
  exact q
theorem Ev.intI (ha : Ev G a r S (.int i)) : Ev G (.bi .int own (.cons false a .nil)) r S (.int i) := ha.bi1 fun _ _ _ q => q
theorem Ev.intB (ha : Ev G a r S (.bl p)) : Ev G (.bi .int own (.cons false a .nil)) r S (.int (if p then 1 else 0)) := ha.bi1 fun _ _ _ q => q
theorem Ev.abs (ha : Ev G a r S (.int i)) : Ev G (.bi .abs own (.cons false a .nil)) r S (.int i.natAbs) := ha.bi1 fun _ _ _ q => q
theorem Ev.min2 (ha : Ev G a r S (.int i)) (hb : Ev G b r S (.int j)) : Ev G (.bi .min2 own (.cons false a (.cons false b .nil))) r S (.int (min i j)) := Ev.bi (EvL.cons ha (EvL.cons hb EvL.nil)) fun _ _ _ q => q
theorem Ev.max2 (ha : Ev G a r S (.int i)) (hb : Ev G b r S (.int j)) : Ev G (.bi .max2 own (.cons false a (.cons false b .nil))) r S (.int (max i j)) := Ev.bi (EvL.cons ha (EvL.cons hb EvL.nil)) fun _ _ _ q => q
theorem intsD_map : ∀ l : List Int, intsD (l.map D.int) = some l
  | [] => rfl
  | x :: l => by show (intsD (l.map D.int)).map (x :: ·) = _; rw [intsD_map l]; rfl
theorem blsD_map : ∀ l : List Bool, blsD (l.map D.bl) = some l
  | [] => rfl
  | x :: l => by show (blsD (l.map D.bl)).map (x :: ·) = _; rw [blsD_map l]; rfl
theorem strsD_map : ∀ l : List Str, strsD (l.map D.str) = some l
  | [] => rfl
  | x :: l => by show (strsD (l.map D.str)).map (x :: ·) = _; rw [strsD_map l]; rfl
theorem Ev.sum {l : List Int} (ha : Ev G a r S (.lst (l.map D.int))) : Ev G (.bi .sum own (.cons false a .nil)) r S (.int l.sum) := ha.bi1 fun _ _ _ q => ⟨_, _, rfl, intsD_map l, q⟩
theorem Ev.all_ {l : List Bool} (ha : Ev G a r S (.lst (l.map D.bl))) : Ev G (.bi .all own (.cons false a .nil)) r S (.bl (l.all id)) := ha.bi1 fun _ _ _ q => ⟨_, _, rfl, blsD_map l, q⟩
theorem Ev.any_ {l : List Bool} (ha : Ev G a r S (.lst (l.map D.bl))) : Ev G (.bi .any own (.cons false a .nil)) r S (.bl (l.any id)) := ha.bi1 fun _ _ _ q => ⟨_, _, rfl, blsD_map l, q⟩
theorem Ev.min1 {l : List Int} {m : Int} (ha : Ev G a r S (.lst (l.map D.int))) (hm : m ∈ l) (h : ∀ y ∈ l, m ≤ y) : Ev G (.bi .min1 own (.cons false a .nil)) r S (.int m) :=
  ha.bi1 fun _ _ _ q => ⟨_, l, rfl, intsD_map l, List.ne_nil_of_mem hm, fun n n1 n2 => by rw [show n = m from Int.le_antisymm (n2 _ hm) (h _ n1)]; exact q⟩
theorem Ev.max1 {l : List Int} {m : Int} (ha : Ev G a r S (.lst (l.map D.int))) (hm : m ∈ l) (h : ∀ y ∈ l, y ≤ m) : Ev G (.bi .max1 own (.cons false a .nil)) r S (.int m) :=
  ha.bi1 fun _ _ _ q => ⟨_, l, rfl, intsD_map l, List.ne_nil_of_mem hm, fun n n1 n2 => by rw [show n = m from Int.le_antisymm (h _ n1) (n2 _ hm)]; exact q⟩
theorem Ev.tupleL (ha : Ev G a r S (.lst xs)) (hl : xs.length ≤ sizeLine) : Ev G (.bi .tuple own (.cons false a .nil)) r S (.tup xs) := ha.bi1 fun _ _ _ q => ⟨xs, rfl, hl, q⟩
theorem Ev.tupleT (ha : Ev G a r S (.tup xs)) (hl : xs.length ≤ sizeLine) : Ev G (.bi .tuple own (.cons false a .nil)) r S (.tup xs) := ha.bi1 fun _ _ _ q => ⟨xs, rfl, hl, q⟩
theorem Ev.tupleR {l : Addr} (h : S l = some (.lst xs)) (ha : Ev G a r S (.ref l)) (hl : xs.length ≤ sizeLine) : Ev G (.bi .tuple own (.cons false a .nil)) r S (.tup xs) :=
  ha.bi1 fun S1 k _ q => ⟨xs, by unfold seqD; rw [vw_lst' (k.get h)], hl, q⟩
theorem Ev.list_ (ha : Ev G a r S x) (h : itemsD S x = some xs) (hl : xs.length ≤ sizeLine) : Ev G (.bi .list false (.cons false a .nil)) r S (.lst xs) := ha.bi1 fun _ k _ q => ⟨xs, items_ks k h, st_finL hl q⟩
theorem sortD_len : (sortD xs).length = xs.length := List.length_mergeSort _
theorem Ev.sorted (ha : Ev G a r S x) (h : itemsD S x = some xs) (hs : Srt xs) (hl : xs.length ≤ sizeLine) : Ev G (.bi .sorted false (.cons false a .nil)) r S (.lst (sortD xs)) :=
  ha.bi1 fun _ k _ q => ⟨xs, items_ks k h, hs, st_finL (by rw [sortD_len]; exact hl) q⟩
theorem Ev.sortedL (ha : Ev G a r S (.lst xs)) (hs : Srt xs) (hl : xs.length ≤ sizeLine) : Ev G (.bi .sorted false (.cons false a .nil)) r S (.lst (sortD xs)) := ha.sorted rfl hs hl
theorem Ev.sortedT (ha : Ev G a r S (.tup xs)) (hs : Srt xs) (hl : xs.length ≤ sizeLine) : Ev G (.bi .sorted false (.cons false a .nil)) r S (.lst (sortD xs)) := ha.sorted rfl hs hl
theorem Ev.repr (ha : Ev G a r S x) (h : vw S x = y) (n : ∀ p, y ≠ .ref p) (p6 : P6 y) (hs : PyData.showable (pyOf y) = true) (hl : (shD y).length ≤ sizeLine) : Ev G (.bi .repr own (.cons false a .nil)) r S (.str (shD y)) :=
  ha.bi1 fun S1 k Q q => by
    show P6 (vw S1 x) ∧ _
    rw [vw_ks k h n]
    exact ⟨p6, hs, hl, q⟩
theorem Ev.isb {t : BT} (ha : Ev G a r S x) (h : vw S x = y) (n : ∀ p, y ≠ .ref p) (hk : isbD y t = some p) : Ev G (.isb a t) r S (.bl p) := fun S1 k Q q => by
  rw [wE]
  exact ha S1 k _ fun S2 k2 => ⟨p, by rw [vw_ks (k.trans k2) h n]; exact hk, q _ k2⟩
theorem Ev.isbI {t : BT} (ha : Ev G a r S (.int i)) (hk : isbD (.int i) t = some p := by rfl) : Ev G (.isb a t) r S (.bl p) := ha.isb (y := .int i) rfl (by simp) hk
theorem Ev.isbS {t : BT} (ha : Ev G a r S (.str X)) (hk : isbD (.str X) t = some p := by rfl) : Ev G (.isb a t) r S (.bl p) := ha.isb (y := .str X) rfl (by simp) hk
theorem Ev.isbT {t : BT} (ha : Ev G a r S (.tup xs)) (hk : isbD (.tup xs) t = some p := by rfl) : Ev G (.isb a t) r S (.bl p) := ha.isb (y := .tup xs) rfl (by simp) hk
theorem Ev.isc {c : Str} {fs : List (Str × D)} (ha : Ev G a r S x) (hx : vw S x = .ins c fs) : Ev G (.isc a c) r S (.bl true) := fun S1 k Q q => by
  rw [wE]
  exact ha S1 k _ fun S2 k2 => ⟨⟨fs, vw_ks (k.trans k2) hx (by simp)⟩, q _ k2⟩
/-! methods of built-ins -/
theorem Ev.bm {f : Bm} (ha : Ev G a r S x) (hb : EvL G es r S vs) (ht : ∀ S1, Ks S S1 → ∃ t, bmTy f (vw S1 x) = some t) (h : ∀ S1, Ks S S1 → ∀ Q : DK, Q v S1 → wBm f own x vs S1 Q) : Ev G (.bm f own a es) r S v := fun S1 k Q q => by
  rw [wE]
  exact ha S1 k _ fun S2 k2 => ⟨ht _ (k.trans k2), hb S2 (k.trans k2) _ fun S3 k3 => h _ ((k.trans k2).trans k3) _ (q _ (k2.trans k3))⟩
theorem Ev.split (ha : Ev G a r S (.str X)) (hb : Ev G b r S (.str Y)) (h1 : Y.length ≠ 0) (h2 : X.length + 2 ≤ sizeLine) (h3 : (Txt.split X Y).length ≤ sizeLine) : Ev G (.bm .split false a (.cons false b .nil)) r S (.lst ((Txt.split X Y).map D.str)) :=
  ha.bm (EvL.cons hb EvL.nil) (fun _ _ => ⟨_, rfl⟩) fun _ _ _ q => ⟨X, rfl, h1, h2, st_finL (by rw [List.length_map]; exact h3) q⟩
theorem Ev.join {l : List Str} (ha : Ev G a r S (.str X)) (hb : Ev G b r S y) (hy : itemsD S y = some (l.map D.str)) (hl : (l.map (·.length)).sum + l.length * X.length ≤ 16777216) : Ev G (.bm .join own a (.cons false b .nil)) r S (.str (Txt.join X l)) :=
  ha.bm (EvL.cons hb EvL.nil) (fun _ _ => ⟨_, rfl⟩) fun _ k _ q => ⟨X, _, l, rfl, items_ks k hy, strsD_map l, hl, q⟩
theorem Ev.index {n : Nat} (ha : Ev G a r S x) (hb : Ev G b r S y) (hx : vw S x = .lst xs ∨ vw S x = .tup xs) (p1 : P6 y) (p2 : ∀ d ∈ xs, Pl 5 d) (h1 : xs[n]? = some y) (h2 : ∀ j, j < n → xs[j]? ≠ some y) : Ev G (.bm .index own a (.cons false b .nil)) r S (.int (n : Nat)) :=
  ha.bm (EvL.cons hb EvL.nil) (fun _ k => by
    rcases hx with h | h
    · rw [vw_ks k h (by simp)]; exact ⟨_, rfl⟩
    · rw [vw_ks k h (by simp)]; exact ⟨_, rfl⟩) fun _ k _ q => ⟨xs, n, hx.imp (fun h => vw_ks k h (by simp)) fun h => vw_ks k h (by simp), p1, p2, h1, h2, q⟩
/-! list(range(..)) -/
theorem Ev.lr1 (ha : Ev G a r S (.int i)) (hi : okI i) (h : i.toNat ≤ 16777216) (hl : i.toNat ≤ sizeLine) : Ev G (.lr1 false a) r S (.lst (rangeD 0 1 i.toNat)) := fun S1 k Q q => by
  rw [wE]
  refine ha S1 k _ fun S2 k2 => ⟨i, rfl, ⟨by decide, by decide⟩, hi, by rw [Int.sub_zero]; exact h, ?_⟩
  rw [Int.sub_zero]
  exact st_finL (by unfold rangeD; rw [List.length_map, List.length_range]; exact hl) (q _ k2)
/-! comprehensions -/
theorem EvS.conv {s : Src} (h : EvS G s r S xs) (e1 : xs = ys) : EvS G s r S ys := e1 ▸ h
theorem EvS.ofL (h : Ev G e r S (.lst xs)) : EvS G (.of e) r S xs := fun S1 k K q => by
  rw [wSrc]
  exact h S1 k _ fun S2 k2 => q _ _ k2 fun _ _ => trivial
theorem EvS.ofT (h : Ev G e r S (.tup xs)) : EvS G (.of e) r S xs := fun S1 k K q => by
  rw [wSrc]
  exact h S1 k _ fun S2 k2 => q _ _ k2 fun _ _ => trivial
theorem EvS.ofF (h : Ev G e r S (.fls xs)) : EvS G (.of e) r S xs := fun S1 k K q => by
  rw [wSrc]
  exact h S1 k _ fun S2 k2 => q _ _ k2 fun _ _ => trivial
theorem EvS.ofS (h : Ev G e r S (.str X)) : EvS G (.of e) r S (X.cps.toList.map fun c => D.str ⟨#[c]⟩) := fun S1 k K q => by
  rw [wSrc]
  exact h S1 k _ fun S2 k2 => q _ _ k2 fun _ _ => trivial
theorem EvS.ofR {l : Addr} (hl : S l = some (.lst xs)) (h : Ev G e r S (.ref l)) : EvS G (.of e) r S xs := fun S1 k K q => by
  rw [wSrc]
  exact h S1 k _ fun S2 k2 => ⟨xs, (k.trans k2).get hl, q _ _ k2 fun S3 k3 => k3.get hl⟩
theorem vw_ref_lst {p : Addr} (h : vw S (.ref p) = .lst xs) : S p = some (.lst xs) := by
  rw [vw_ref] at h
  cases e : S p with
  | none => rw [e] at h; cases h
  | some o =>
    rw [e] at h
    cases o with
    | lst ds => cases h; rfl
    | dic ds => cases h
    | ins c ds => cases h
theorem EvS.ofV (hv : vw S v = .lst xs) (h : Ev G e r S v) : EvS G (.of e) r S xs := by
  cases v with
  | ref p => exact EvS.ofR (vw_ref_lst hv) h
  | lst ys =>
    cases (show D.lst ys = .lst xs from hv)
    exact EvS.ofL h
  | _ => cases hv
theorem Ev.ixV (hv : vw S x = .lst xs) (ha : Ev G a r S x) (hb : Ev G b r S (.int i)) (h : atI xs i = some v) : Ev G (.ix a b) r S v := by
  cases x with
  | ref p => exact Ev.ixR (vw_ref_lst hv) ha hb h
  | lst ys =>
    cases (show D.lst ys = .lst xs from hv)
    exact Ev.ixL ha hb h
  | _ => cases hv
theorem EvS.range1 (h : Ev G e r S (.int i)) (hi : okI i) : EvS G (.range (.cons false e .nil)) r S (rangeD 0 1 i.toNat) := fun S1 k K q => by
  rw [wSrc]
  exact EvL.cons h EvL.nil S1 k _ fun S2 k2 => ⟨hi, q _ _ k2 fun _ _ => trivial⟩
theorem EvS.range3 (h1 : Ev G a r S (.int i)) (h2 : Ev G b r S (.int j)) (h3 : Ev G c r S (.int k)) (hi : okI i) (hj : okI j) (hk : 0 < k ∧ k < 1000) : EvS G (.range (.cons false a (.cons false b (.cons false c .nil)))) r S (rangeD i k ((j - i + k - 1) / k).toNat) := fun S1 k K q => by
  rw [wSrc]
  exact EvL.cons h1 (EvL.cons h2 (EvL.cons h3 EvL.nil)) S1 k _ fun S2 k2 => ⟨hi, hj, hk, q _ _ k2 fun _ _ => trivial⟩
theorem EvS.enumL (h : Ev G e r S (.lst xs)) : EvS G (.enum e) r S (enumD xs) := fun S1 k K q => by
  rw [wSrc]
  exact h S1 k _ fun S2 k2 => ⟨⟨xs, .inl rfl⟩, q _ _ k2 fun _ _ => trivial⟩
theorem EvS.zipL (h1 : Ev G a r S (.lst xs)) (h2 : Ev G b r S (.lst ys)) : EvS G (.zip a b) r S (zipD xs ys) := fun S1 k K q => by
  rw [wSrc]
  exact h1 S1 k _ fun S2 k2 => h2 S2 (k.trans k2) _ fun S3 k3 => ⟨.inl ⟨⟨xs, .inl rfl⟩, ⟨ys, .inl rfl⟩⟩, q _ _ (k2.trans k3) fun _ _ => ⟨trivial, trivial⟩⟩
theorem EvS.zipT (h1 : Ev G a r S (.tup xs)) (h2 : Ev G b r S (.tup ys)) : EvS G (.zip a b) r S (zipD xs ys) := fun S1 k K q => by
  rw [wSrc]
  exact h1 S1 k _ fun S2 k2 => h2 S2 (k.trans k2) _ fun S3 k3 => ⟨.inr ⟨⟨xs, .inl rfl⟩, ⟨ys, .inl rfl⟩⟩, q _ _ (k2.trans k3) fun _ _ => ⟨trivial, trivial⟩⟩
theorem TgOk.name {n : Nat} {d : D} : TgOk G (.name n) d r (r.set n (some d)) := fun S Q q => by rw [wTg]; exact q
theorem TgOk.two {n m : Nat} {d d1 d2 : D} (h : d = .tup [d1, d2] ∨ d = .utup [d1, d2]) : TgOk G (.tup (.cons (.name n) (.cons (.name m) .nil))) d r ((r.set n (some d1)).set m (some d2)) := fun S Q q => by
  simp only [wTg, wTgs]
  exact ⟨_, h, rfl, d1, [d2], rfl, d2, [], rfl, rfl, q⟩
def EvC (G : Sg) (c : Oe) (r : Rho) (S : Sto) (p : Bool) : Prop := ∀ S1, Ks S S1 → ∀ Q : Bool → Sto → Prop, (∀ S2, Ks S1 S2 → Q p S2) → wC G c r S1 Q
theorem EvC.yes (h : Ev G e r S (.bl p)) : EvC G (.yes e) r S p := fun S1 k Q q => by
  rw [wC]
  exact h S1 k _ fun S2 k2 => ⟨p, rfl, q _ k2⟩
theorem EvC.no : EvC G .no r S true := fun S1 k Q q => by rw [wC]; exact q _ Kx.refl
theorem filterMap_if {α β : Type} {f : α → β} {p : α → Bool} : ∀ l : List α, l.filterMap (fun x => if p x = true then some (f x) else none) = (l.filter p).map f
  | [] => rfl
  | x :: l => by
    rw [List.filterMap_cons, List.filter_cons]
    cases p x <;> simp [filterMap_if l]
theorem Ev.compc {α : Type} (hG : MonoG' G) {us : List Nat} {t : Tg} {o : Oe} {s : Src} {l : List α} {enc f : α → D} {p : α → Bool} {r1 : α → Rho} (hs : EvS G s r S (l.map enc)) (hl : l.length ≤ sizeLine) (ht : ∀ x ∈ l, TgOk G t (enc x) (wipeR r us) (r1 x))
    (hc : ∀ x ∈ l, EvC G o (r1 x) S (p x)) (he : ∀ x ∈ l, p x = true → Ev G e (r1 x) S (f x)) : Ev G (.comp false us t e o s) r S (.lst ((l.filter p).map f)) := fun S1 k Q q => by
  rw [wE]
  refine hs S1 k _ fun g S2 k2 hg => ?_
  refine wComp_list (comp_mono hG t e o fun _ => wipeR r us) enc (fun S3 => Ks S2 S3) (fun x => if p x = true then some (f x) else none) l hl (fun S3 k3 => hg S3 ((k.trans k2).trans k3)) (fun x hx S3 k3 => ?_) (fun S3 k3 => ?_) S2 Kx.refl
  · refine ht x hx _ _ (hc x hx S3 ((k.trans k2).trans k3) _ fun S4 k4 => ?_)
    split
    · rename_i hp
      exact he x hx hp S4 (((k.trans k2).trans k3).trans k4) _ fun S5 k5 => ⟨rfl, (k3.trans k4).trans k5⟩
    · exact ⟨rfl, k3.trans k4⟩
  · rw [filterMap_if]
    refine st_finL ?_ (q _ (k2.trans k3))
    rw [List.length_map]
    exact Nat.le_trans (List.length_filter_le _ _) hl
theorem Ev.comp {α : Type} (hG : MonoG' G) {us : List Nat} {t : Tg} {s : Src} {l : List α} {enc f : α → D} {r1 : α → Rho} (hs : EvS G s r S (l.map enc)) (hl : l.length ≤ sizeLine) (ht : ∀ x ∈ l, TgOk G t (enc x) (wipeR r us) (r1 x))
    (he : ∀ x ∈ l, Ev G e (r1 x) S (f x)) : Ev G (.comp false us t e .no s) r S (.lst (l.map f)) := by
  have h := Ev.compc (p := fun _ => true) hG hs hl ht (fun x hx => EvC.no) fun x hx _ => he x hx
  rw [List.filter_eq_self.mpr fun _ _ => rfl] at h
  exact h
/-! ### statements -/
variable {s : Sn} {ss : Ss} {Z : Ends'} {S0 : Sto}
theorem sv_set {n : Nat} (k : Ks S0 S) (h : Ev G e r S0 v) (q : ∀ S2, Ks S S2 → Z.nx (r.set n (some v)) S2) : wS G (.set (.name n) e) Z r S := by
  rw [wS]
  refine h S k _ fun S2 k2 => ?_
  rw [wTg]
  exact q _ k2
theorem sv_ret (k : Ks S0 S) (h : Ev G e r S0 v) (q : ∀ S2, Ks S S2 → Z.rt v S2) : wS G (.ret e) Z r S := by
  rw [wS]
  exact h S k _ q
theorem sv_if {A B : Ss} (k : Ks S0 S) (h : Ev G e r S0 (.bl p)) (h1 : p = true → ∀ S2, Ks S S2 → wSs G A Z r S2) (h2 : p = false → ∀ S2, Ks S S2 → wSs G B Z r S2) : wS G (.ife e A B) Z r S := by
  rw [wS]
  refine h S k _ fun S2 k2 => ⟨p, rfl, ?_⟩
  cases p with
  | true => exact h1 rfl _ k2
  | false => exact h2 rfl _ k2
theorem sv_ifT {A B : Ss} (k : Ks S0 S) (h : Ev G e r S0 (.bl true)) (h1 : ∀ S2, Ks S S2 → wSs G A Z r S2) : wS G (.ife e A B) Z r S := sv_if k h (fun _ => h1) fun z => by cases z
theorem sv_ifF {A B : Ss} (k : Ks S0 S) (h : Ev G e r S0 (.bl false)) (h2 : ∀ S2, Ks S S2 → wSs G B Z r S2) : wS G (.ife e A B) Z r S := sv_if k h (fun z => by cases z) fun _ => h2
theorem sv_par2 {n m : Nat} (k : Ks S0 S) (ha : Ev G a r S0 x) (hb : Ev G b r S0 y) (q : ∀ S2, Ks S S2 → Z.nx ((r.set n (some x)).set m (some y)) S2) : wS G (.par2 n m a b) Z r S := by
  rw [wS]
  exact ha S k _ fun S2 k2 => hb S2 (k.trans k2) _ fun S3 k3 => q _ (k2.trans k3)
theorem sv_new {n : Nat} (k : Ks S0 S) (h : EvL G es r S0 vs) (hl : vs.length ≤ sizeLine) (q : ∀ S1 l, Ks S S1 → S1 l = none → Z.nx (r.set n (some (.ref l))) (sup S1 l (.lst vs))) : wS G (.set (.name n) (.lst true es)) Z r S := by
  rw [wS, wE]
  refine h S k _ fun S2 k2 => st_finLo hl fun l hl0 => ?_
  rw [wTg]
  exact q _ _ k2 hl0
theorem sv_par2n {n m : Nat} (k : Ks S0 S) (ha : Ev G a r S0 x) (q : ∀ S1 l, Ks S S1 → S1 l = none → Z.nx ((r.set n (some x)).set m (some (.ref l))) (sup S1 l (.lst []))) : wS G (.par2 n m a (.lst true .nil)) Z r S := by
  rw [wS]
  refine ha S k _ fun S2 k2 => ?_
  rw [wE, wEs]
  exact st_finLo (Nat.zero_le _) fun l hl => q _ _ k2 hl
/-- xs.append(e), xs a name -/
theorem sv_app {n : Nat} {l : Addr} (k : Ks S0 S) (hr : r[n]? = some (some (.ref l))) (hS : S l = some (.lst xs)) (hl : xs.length < sizeLine) (h : Ev G e r S0 v) (q : ∀ S1, Ks S S1 → Z.nx r (sup S1 l (.lst (xs ++ [v])))) :
    wS G (.expr (.bm .append own (.var n) (.cons false e .nil))) Z r S := by
  rw [wS, wE, wE]
  refine ⟨_, hr, ⟨"list", by rw [vw_lst' hS]; rfl⟩, ?_⟩
  refine EvL.cons h EvL.nil S k _ fun S2 k2 => ⟨l, xs, rfl, k2.get hS, hl, ?_⟩
  exact q _ k2
/-- for .. in .., the items known -/
theorem sv_for {α : Type} (hG : MonoG' G) {t : Tg} {s : Src} {A : Ss} (enc : α → D) (l : List α) (k : Ks S0 S) (hs : EvS G s r S0 (l.map enc)) (Inv : List α → List α → Rho → Sto → Prop)
    (h : ∀ (g : Sto → Prop) S1, Ks S S1 → (∀ S2, Ks S0 S2 → g S2) → Inv [] l r S1 ∧ (∀ r S, Inv l [] r S → g S ∧ Z.nx r S) ∧
      ∀ done x todo r S, l = done ++ x :: todo → Inv done (x :: todo) r S → g S ∧ wTg G t (enc x) r S fun r1 S2 => wSs G A { nx := Inv (done ++ [x]) todo, rt := Z.rt, bk := Z.nx, ct := Inv (done ++ [x]) todo } r1 S2) : wS G (.for t s A) Z r S := by
  rw [wS]
  refine hs S k _ fun g S1 k1 hg => ?_
  obtain ⟨h1, h2, h3⟩ := h g S1 k1 hg
  exact wFor_list (for_step_mono hG t A) enc Inv l h2 h3 l [] r S1 rfl h1
/-- the end of a block that is the last one of its own block -/
theorem st_nil2 {rt : DK} {bk ct : Rho → Sto → Prop} (h : Z.nx r S) : wSs G .nil { nx := wSs G .nil Z, rt := rt, bk := bk, ct := ct } r S := st_nil (G := G) (st_nil (G := G) h)
/-! the same, with what follows -/
theorem ss_ret (k : Ks S0 S) (h : Ev G e r S0 v) (q : ∀ S2, Ks S S2 → Z.rt v S2) : wSs G (.cons (.ret e) ss) Z r S := st_cons (sv_ret k h q)
theorem ss_set {n : Nat} (k : Ks S0 S) (h : Ev G e r S0 v) (q : ∀ S2, Ks S S2 → wSs G ss Z (r.set n (some v)) S2) : wSs G (.cons (.set (.name n) e) ss) Z r S := st_cons (sv_set k h q)
theorem ss_par2 {n m : Nat} (k : Ks S0 S) (ha : Ev G a r S0 x) (hb : Ev G b r S0 y) (q : ∀ S2, Ks S S2 → wSs G ss Z ((r.set n (some x)).set m (some y)) S2) : wSs G (.cons (.par2 n m a b) ss) Z r S := st_cons (sv_par2 k ha hb q)
theorem ss_par2n {n m : Nat} (k : Ks S0 S) (ha : Ev G a r S0 x) (q : ∀ S1 l, Ks S S1 → S1 l = none → wSs G ss Z ((r.set n (some x)).set m (some (.ref l))) (sup S1 l (.lst []))) : wSs G (.cons (.par2 n m a (.lst true .nil)) ss) Z r S := st_cons (sv_par2n k ha q)
theorem ss_expr (k : Ks S0 S) (h : Ev G e r S0 v) (q : ∀ S2, Ks S S2 → wSs G ss Z r S2) : wSs G (.cons (.expr e) ss) Z r S := by
  refine st_cons ?_
  rw [wS]
  exact h S k _ q
theorem ss_ifF {A : Ss} (k : Ks S0 S) (h : Ev G e r S0 (.bl false)) (q : ∀ S2, Ks S S2 → wSs G ss Z r S2) : wSs G (.cons (.ife e A .nil) ss) Z r S := st_cons (sv_ifF k h fun S2 k2 => st_nil (q S2 k2))
/-- if e: return a -/
theorem ss_ifR {A : Ss} (k : Ks S0 S) (h : Ev G e r S0 (.bl p)) (h1 : p = true → Ev G a r S0 v) (q1 : p = true → ∀ S2, Ks S S2 → Z.rt v S2) (q : p = false → ∀ S2, Ks S S2 → wSs G ss Z r S2) : wSs G (.cons (.ife e (.cons (.ret a) A) .nil) ss) Z r S :=
  st_cons (sv_if k h (fun hp S2 k2 => ss_ret (k.trans k2) (h1 hp) fun S3 k3 => q1 hp S3 (k2.trans k3)) fun hp S2 k2 => st_nil (q hp S2 k2))
theorem ss_if {A B : Ss} (k : Ks S0 S) (h : Ev G e r S0 (.bl p)) (h1 : p = true → ∀ S2, Ks S S2 → wSs G A { nx := wSs G ss Z, rt := Z.rt, bk := Z.bk, ct := Z.ct } r S2) (h2 : p = false → ∀ S2, Ks S S2 → wSs G B { nx := wSs G ss Z, rt := Z.rt, bk := Z.bk, ct := Z.ct } r S2) :
    wSs G (.cons (.ife e A B) ss) Z r S := st_cons (sv_if k h h1 h2)
theorem ss_new {n : Nat} (k : Ks S0 S) (h : EvL G es r S0 vs) (hl : vs.length ≤ sizeLine) (q : ∀ S1 l, Ks S S1 → S1 l = none → wSs G ss Z (r.set n (some (.ref l))) (sup S1 l (.lst vs))) : wSs G (.cons (.set (.name n) (.lst true es)) ss) Z r S := st_cons (sv_new k h hl q)
/-- while e: A, with a measure -/
theorem ss_while (hG : MonoG' G) {A : Ss} (Inv : Nat → Rho → Sto → Prop) (n : Nat) (h0 : Inv n r S) (h : ∀ n r S, Inv n r S → ∃ p, Ev G e r S (.bl p) ∧ ∀ S1, Ks S S1 → (p = true → ∃ m, n = m + 1 ∧ wSs G A { nx := Inv m, rt := Z.rt, bk := wSs G ss Z, ct := Inv m } r S1) ∧ (p = false → wSs G ss Z r S1)) :
    wSs G (.cons (.whil e A) ss) Z r S := by
  refine st_cons ?_
  rw [wS]
  have key : ∀ n r S, Inv n r S → wWhile { nx := wSs G ss Z, rt := Z.rt, bk := Z.bk, ct := Z.ct } (fun r S Q => wE G e r S fun x S1 => ∃ k, x = .bl k ∧ Q k S1) (fun Z' r S => wSs G A Z' r S) (n + 1) r S := by
    intro n
    induction n with
    | zero =>
      intro r S hi
      obtain ⟨p, hp, hk⟩ := h 0 r S hi
      refine hp S Kx.refl _ fun S1 k1 => ⟨p, rfl, ?_⟩
      obtain ⟨h1, h2⟩ := hk S1 k1
      cases p with
      | true => obtain ⟨m, e, _⟩ := h1 rfl; cases e
      | false => exact h2 rfl
    | succ n ih =>
      intro r S hi
      obtain ⟨p, hp, hk⟩ := h (n + 1) r S hi
      refine hp S Kx.refl _ fun S1 k1 => ⟨p, rfl, ?_⟩
      obtain ⟨h1, h2⟩ := hk S1 k1
      cases p with
      | true =>
        obtain ⟨m, e, hb⟩ := h1 rfl
        cases e
        exact wSs_mono hG A { nx := Inv n, rt := Z.rt, bk := wSs G ss Z, ct := Inv n } _ r S1 ⟨fun r S q => ih r S q, fun _ _ q => q, fun _ _ q => q, fun r S q => ih r S q⟩ hb
      | false => exact h2 rfl
  exact ⟨n + 1, key n r S h0⟩
theorem ss_app {n : Nat} {l : Addr} (k : Ks S0 S) (hr : r[n]? = some (some (.ref l))) (hS : S l = some (.lst xs)) (hl : xs.length < sizeLine) (h : Ev G e r S0 v) (q : ∀ S1, Ks S S1 → wSs G ss Z r (sup S1 l (.lst (xs ++ [v])))) :
    wSs G (.cons (.expr (.bm .append own (.var n) (.cons false e .nil))) ss) Z r S := st_cons (sv_app k hr hS hl h q)
/-- for: Inv of what is done and what is left -/
theorem ss_for {α : Type} (hG : MonoG' G) {t : Tg} {s : Src} {A : Ss} (enc : α → D) (l : List α) (k : Ks S0 S) (hs : EvS G s r S0 (l.map enc)) (Inv : List α → List α → Rho → Sto → Prop)
    (h : ∀ (g : Sto → Prop) S1, Ks S S1 → (∀ S2, Ks S0 S2 → g S2) → Inv [] l r S1 ∧ (∀ r S, Inv l [] r S → g S ∧ wSs G ss Z r S) ∧
      ∀ done x todo r S, l = done ++ x :: todo → Inv done (x :: todo) r S → g S ∧ ∃ r1, TgOk G t (enc x) r r1 ∧ wSs G A { nx := Inv (done ++ [x]) todo, rt := Z.rt, bk := wSs G ss Z, ct := Inv (done ++ [x]) todo } r1 S) : wSs G (.cons (.for t s A) ss) Z r S := by
  refine st_cons ?_
  rw [wS]
  refine hs S k _ fun g S1 k1 hg => ?_
  obtain ⟨h1, h2, h3⟩ := h g S1 k1 hg
  refine wFor_list (for_step_mono hG t A) enc Inv l h2 (fun done x todo r S e hi => ?_) l [] r S1 rfl h1
  obtain ⟨a1, r1, a2, a3⟩ := h3 done x todo r S e hi
  exact ⟨a1, a2 _ _ a3⟩
end
end Dz
/-! Pl3: the pot, names, rolls, what is sorted. -/
namespace Dz
open PySem PySem.Spec PyProof.Rows L2

/-! ### the pot of a law -/
/-- at p stands a pot that has at least n draws to go -/
def PotAt (S : Sto) (p : Addr) (n : Nat) : Prop := ∃ a b c : Int, S p = some (.lst [.int a, .int b, .int c]) ∧ 0 ≤ a ∧ (0 ≤ b ∧ b < 2 ^ 61) ∧ 0 ≤ c ∧ c + n < 2 ^ 40
theorem PotAt.ks {S S' : Sto} {p : Addr} {n : Nat} (h : PotAt S p n) (k : Ks S S') : PotAt S' p n := let ⟨a, b, c, e, r⟩ := h; ⟨a, b, c, k.get e, r⟩
theorem PotAt.kx {L : List Addr} {S S' : Sto} {p : Addr} {n : Nat} (h : PotAt S p n) (k : Kx L S S') (hn : p ∉ L) : PotAt S' p n := let ⟨a, b, c, e, r⟩ := h; ⟨a, b, c, k.getN e hn, r⟩
theorem PotAt.less {S : Sto} {p : Addr} {n m : Nat} (h : PotAt S p n) (k : m ≤ n) : PotAt S p m := let ⟨a, b, c, e, h1, h2, h3, h4⟩ := h; ⟨a, b, c, e, h1, h2, h3, by omega⟩
theorem PotAt.ne {S : Sto} {p q : Addr} {n : Nat} (h : PotAt S p n) (k : S q = none) : p ≠ q := let ⟨a, b, c, e, _⟩ := h; ne_new e k
theorem PotAt.some {S : Sto} {p : Addr} {n : Nat} (h : PotAt S p n) : ∃ xs, S p = some (.lst xs) := let ⟨a, b, c, e, _⟩ := h; ⟨_, e⟩
def takeSp : DSp := fun ds S Q => ∃ p n m, ds = [.ref p, .int n] ∧ PotAt S p (m + 1) ∧ (0 < n ∧ n < 2 ^ 60) ∧ ∀ r S', 0 ≤ r → r < n → PotAt S' p m → Kx [p] S S' → Q (.int r) S'
theorem takeSp_mono : MonoSp takeSp := fun ds S Q Q' h ⟨p, n, m, e, h1, h2, q⟩ => ⟨p, n, m, e, h1, h2, fun r S' a b c d => h _ _ (q r S' a b c d)⟩
theorem takeSp_len : ∀ ds S Q, takeSp ds S Q → ds.length = 2 := fun ds S Q ⟨p, n, m, e, _⟩ => by rw [e]; rfl
/-- some of a sequence are drawn, each once -/
def someSp : DSp := fun ds S Q => ∃ p x m xs n, ds = [.ref p, x, .int (m : Nat)] ∧ PotAt S p (m + n) ∧ itemsD S x = some xs ∧ m ≤ xs.length ∧ xs.length < 1000 ∧
  ∀ S' q ys zs, S' q = some (.lst ys) → S q = none → PotAt S' p n → (ys ++ zs).Perm xs → ys.length = m → Kx [p] S S' → Q (.ref q) S'
theorem someSp_mono : MonoSp someSp := fun ds S Q Q' h ⟨p, x, m, xs, n, e, h1, h2, h3, h4, q⟩ => ⟨p, x, m, xs, n, e, h1, h2, h3, h4, fun S' q' ys zs a b c d e f => h _ _ (q S' q' ys zs a b c d e f)⟩
theorem someSp_len : ∀ ds S Q, someSp ds S Q → ds.length = 3 := fun ds S Q ⟨p, x, m, xs, n, e, _⟩ => by rw [e]; rfl
section
variable {G : Sg} {r : Rho} {S S0 : Sto} {a b c : E} {p : Addr} {n : Int} {m : Nat} {Q : DK} {x : D} {xs : List D}
/-- a draw -/
theorem take_at (h : G.fn "_law_take" = some takeSp) (k : Ks S0 S) (ha : Ev G a r S0 (.ref p)) (hb : Ev G b r S0 (.int n)) (hp : PotAt S p (m + 1)) (hn : 0 < n ∧ n < 2 ^ 60) (q : ∀ t S', 0 ≤ t → t < n → PotAt S' p m → Kx [p] S S' → Q (.int t) S') :
    wE G (.call "_law_take" (.cons false a (.cons false b .nil))) r S Q := by
  rw [wE]
  exact ⟨_, h, EvL.cons ha (EvL.cons hb EvL.nil) S k _ fun S2 k2 => ⟨p, n, m, rfl, hp.ks k2, hn, fun t S' h0 h1 hq kk => q t S' h0 h1 hq (k2.up.trans kk)⟩⟩
theorem some_at {k' : Nat} (h : G.fn "_law_some" = some someSp) (k : Ks S0 S) (ha : Ev G a r S0 (.ref p)) (hb : Ev G b r S0 x) (hc : Ev G c r S0 (.int (m : Nat))) (hp : PotAt S p (m + k')) (hx : itemsD S0 x = some xs) (hm : m ≤ xs.length) (hl : xs.length < 1000)
    (q : ∀ S' t ys zs, S' t = some (.lst ys) → S t = none → PotAt S' p k' → (ys ++ zs).Perm xs → ys.length = m → Kx [p] S S' → Q (.ref t) S') :
    wE G (.call "_law_some" (.cons false a (.cons false b (.cons false c .nil)))) r S Q := by
  rw [wE]
  refine ⟨_, h, EvL.cons ha (EvL.cons hb (EvL.cons hc EvL.nil)) S k _ fun S2 k2 => ⟨p, x, m, xs, k', rfl, hp.ks k2, items_ks (k.trans k2) hx, hm, hl, fun S' t ys zs h1 h2 h3 h4 h5 kk => q S' t ys zs h1 ?_ h3 h4 h5 (k2.up.trans kk)⟩⟩
  cases e : S t with
  | none => rfl
  | some o => rw [k2.get e] at h2; cases h2
end
theorem perm_map {α β : Type} {f : α → β} : ∀ {l : List α} {l' : List β}, l'.Perm (List.map f l) → ∃ l2, l2.Perm l ∧ l' = List.map f l2 := by
  intro l l' h
  generalize e : l.map f = m at h
  induction h generalizing l with
  | nil => 
    rw [List.map_eq_nil_iff] at e
    exact ⟨[], by rw [e], rfl⟩
  | cons x h ih =>
    cases l with
    | nil => cases e
    | cons y l =>
      rw [List.map_cons] at e
      obtain ⟨e1, e2⟩ := List.cons.inj e
      obtain ⟨l2, p, e3⟩ := ih e2
      exact ⟨y :: l2, p.cons y, by rw [List.map_cons, e1, e3]⟩
  | swap x y t =>
    cases l with
    | nil => cases e
    | cons a l =>
      cases l with
      | nil => simp at e
      | cons b l =>
        simp only [List.map_cons, List.cons.injEq] at e
        obtain ⟨e1, e2, e3⟩ := e
        exact ⟨b :: a :: l, List.Perm.swap .., by simp [e1, e2, e3]⟩
  | trans h1 h2 ih1 ih2 =>
    obtain ⟨l2, p2, e2⟩ := ih2 e
    obtain ⟨l3, p3, e3⟩ := ih1 e2.symm
    exact ⟨l3, p3.trans p2, e3⟩
theorem perm_map2 {α β : Type} {f : α → β} {l : List α} {ys zs : List β} (h : (ys ++ zs).Perm (List.map f l)) : ∃ l1 l2, (l1 ++ l2).Perm l ∧ ys = List.map f l1 ∧ zs = List.map f l2 := by
  obtain ⟨l2, p, e⟩ := perm_map h
  obtain ⟨a, b, e1, e2, e3⟩ := List.append_eq_map_iff.mp e
  exact ⟨a, b, by rw [← e1]; exact p, e2.symm, e3.symm⟩

/-! ### names -/
def lett (c : Nat) : Prop := 97 ≤ c ∧ c ≤ 122
def figu (c : Nat) : Prop := 48 ≤ c ∧ c ≤ 57
instance (c : Nat) : Decidable (lett c) := by unfold lett; exact inferInstance
instance (c : Nat) : Decidable (figu c) := by unfold figu; exact inferInstance
abbrev cps (x : Str) : List Nat := x.cps.toList
structure IsName (x : Str) : Prop where
  hd : ∃ c r, cps x = c :: r ∧ lett c
  len : x.length ≤ 8
  all : ∀ c ∈ cps x, lett c ∨ figu c
theorem cps_len (x : Str) : (cps x).length = x.length := Array.length_toList
theorem cps_app (x y : Str) : cps (x ++ y) = cps x ++ cps y := by
  show (x.cps ++ y.cps).toList = _
  rw [Array.toList_append]
theorem str_ext {x y : Str} (h : cps x = cps y) : x = y := by
  obtain ⟨x⟩ := x
  obtain ⟨y⟩ := y
  congr 1
  exact Array.toList_inj.mp h
theorem IsName.pos {x : Str} (h : IsName x) : 0 < x.length := by
  obtain ⟨c, r, e, _⟩ := h.hd
  rw [← cps_len, e]
  exact Nat.succ_pos _
theorem IsName.blank {x : Str} (h : IsName x) {c : Nat} (hc : c < 48) : c ∉ cps x := fun m => by
  rcases h.all c m with z | z
  · have := z.1; omega
  · have := z.1; omega

/-! ### rolls -/
structure RollD where
  text : Str
  gs : List Str
  bs : List Pr
  ps : List Pr
def RollD.fs (r : RollD) : List (Str × D) := [("own_text", .str r.text), ("own_guards", nD r.gs), ("own_bonds", rD r.bs), ("own_pairs", rD r.ps)]
theorem RollD.l1 (r : RollD) : r.fs.lookup ("own_text" : Str) = some (.str r.text) := by
  unfold RollD.fs
  rw [List.lookup_cons, show (("own_text" : Str) == "own_text") = true by decide +kernel]
theorem RollD.l2 (r : RollD) : r.fs.lookup ("own_guards" : Str) = some (nD r.gs) := by
  unfold RollD.fs
  rw [List.lookup_cons, show (("own_guards" : Str) == "own_text") = false by decide +kernel, List.lookup_cons, show (("own_guards" : Str) == "own_guards") = true by decide +kernel]
theorem RollD.l3 (r : RollD) : r.fs.lookup ("own_bonds" : Str) = some (rD r.bs) := by
  unfold RollD.fs
  rw [List.lookup_cons, show (("own_bonds" : Str) == "own_text") = false by decide +kernel, List.lookup_cons, show (("own_bonds" : Str) == "own_guards") = false by decide +kernel, List.lookup_cons, show (("own_bonds" : Str) == "own_bonds") = true by decide +kernel]
theorem RollD.l4 (r : RollD) : r.fs.lookup ("own_pairs" : Str) = some (rD r.ps) := by
  unfold RollD.fs
  rw [List.lookup_cons, show (("own_pairs" : Str) == "own_text") = false by decide +kernel, List.lookup_cons, show (("own_pairs" : Str) == "own_guards") = false by decide +kernel, List.lookup_cons, show (("own_pairs" : Str) == "own_bonds") = false by decide +kernel,
    List.lookup_cons, show (("own_pairs" : Str) == "own_pairs") = true by decide +kernel]
def IsRoll (S : Sto) (x : D) (r : RollD) : Prop := vw S x = .ins "Roll" r.fs
theorem IsRoll.ks {S S' : Sto} {x : D} {r : RollD} (h : IsRoll S x r) (k : Ks S S') : IsRoll S' x r := vw_ks k h (by simp)
theorem IsRoll.kx {L : List Addr} {S S' : Sto} {x : D} {r : RollD} (h : IsRoll S x r) (k : Kx L S S') (hL : ∀ p ∈ L, S p = none ∨ ∃ xs, S p = some (.lst xs)) : IsRoll S' x r := by
  cases x with
  | ref p =>
    unfold IsRoll at *
    rw [vw_ref] at h ⊢
    cases e : S p with
    | none => rw [e] at h; cases h
    | some o =>
      rw [e] at h
      rw [k.getN e fun m => ?_]
      · exact h
      · rcases hL p m with z | ⟨xs, z⟩
        · rw [z] at e; cases e
        · rw [z] at e; cases e; cases h
  | _ => exact h
/-- a getter -/
def getSp (f : RollD → D) : DSp := pureSp (fun a : D × RollD => [a.1]) (fun a S => IsRoll S a.1 a.2) fun a => f a.2
section
variable {G : Sg} {r : Rho} {S : Sto} {a : E} {x : D} {R : RollD}
theorem Ev.get {c : Str} {f : RollD → D} (h : G.pr "Roll" c = some (getSp f)) (ha : Ev G a r S x) (hx : IsRoll S x R) : Ev G (.prop "Roll" a c) r S (f R) := Ev.prop h ha hx (x, R) rfl fun _ k => hx.ks k
end

/-! ### what is sorted -/
theorem dlt_irrefl (a : D) : dlt a a = false := PySem.W.dataLt_self _
theorem dlt_trans {a b c : D} (h : dlt a b = true) (k : dlt b c = true) : dlt a c = true := lex_trans (O := itemOrd) _ _ _ h k
theorem dlt_neg {a c : D} (b : D) (h : dlt a c = true) : dlt a b = true ∨ dlt b c = true := lex_negTrans (O := itemOrd) _ _ _ h
theorem dlt_asym {a b : D} (h : dlt a b = true) : dlt b a = false := by
  cases e : dlt b a with
  | false => rfl
  | true => exact absurd (dlt_trans h e) (by rw [dlt_irrefl]; simp)
theorem sortD_perm (ds : List D) : (sortD ds).Perm ds := List.mergeSort_perm _ _
theorem sortD_sorted (ds : List D) : (sortD ds).Pairwise fun a b => dlt b a = false := by
  have h := List.pairwise_mergeSort (le := fun a b : D => !dlt b a) (fun a b c h1 h2 => by
    simp only [Bool.not_eq_true'] at *
    cases e : dlt c a with
    | false => rfl
    | true =>
      rcases dlt_neg b e with z | z
      · rw [h2] at z; cases z
      · rw [h1] at z; cases z) (fun a b => by
    simp only [Bool.or_eq_true, Bool.not_eq_true']
    cases e : dlt b a with
    | false => exact .inl rfl
    | true => exact .inr (dlt_asym e)) ds
  exact h.imp fun hab => by simpa using hab
theorem mem_sortD {ds : List D} {d : D} : d ∈ sortD ds ↔ d ∈ ds := (sortD_perm ds).mem_iff
/-- of things of one form -/
theorem sortD_map {α : Type} {f : α → D} (l : List α) : ∃ l2 : List α, l2.Perm l ∧ sortD (l.map f) = l2.map f := perm_map (sortD_perm _)
theorem alike_p (p q : Pr) : alikeD (pD p) (pD q) := by
  show PySem.W.alike (.tuple [.str p.1, .str p.2]) (.tuple [.str q.1, .str q.2]) = true
  simp [PySem.W.alike, PySem.W.alikeAll]
theorem pyAll_map' {α : Type} {f : α → D} (l : List α) : pyAll (l.map f) = l.map fun x => pyOf (f x) := by
  induction l with
  | nil => rfl
  | cons x l ih => show pyOf (f x) :: pyAll (l.map f) = _; rw [ih]; rfl
theorem alikeAll_any {α : Type} {f : α → PyData} (h : ∀ x y, PySem.W.alike (f x) (f y) = true) : ∀ l m : List α, PySem.W.alikeAll (l.map f) (m.map f) = true
  | [], _ => by simp [PySem.W.alikeAll]
  | _ :: _, [] => by simp [PySem.W.alikeAll]
  | x :: l, y :: m => by
    show PySem.W.alikeAll (f x :: l.map f) (f y :: m.map f) = true
    rw [PySem.W.alikeAll, h, alikeAll_any h l m]
    rfl
theorem alike_r (a b : List Pr) : alikeD (rD a) (rD b) := by
  show PySem.W.alike (.tuple (pyAll (a.map pD))) (.tuple (pyAll (b.map pD))) = true
  rw [pyAll_map', pyAll_map', PySem.W.alike]
  exact alikeAll_any alike_p a b
theorem srt_p (l : List Pr) : Srt (l.map pD) := ⟨pl_map fun _ => pl_p 4, fun d hd e he => by
    obtain ⟨x, _, rfl⟩ := List.mem_map.mp hd
    obtain ⟨y, _, rfl⟩ := List.mem_map.mp he
    exact alike_p x y, .inl fun d hd => by
    obtain ⟨x, _, rfl⟩ := List.mem_map.mp hd
    exact ⟨_, _, rfl⟩⟩
/-- pairs, in Python's own sequence -/
noncomputable def srtP (l : List Pr) : List Pr := (sortD_map (f := pD) l).choose
theorem srtP_perm (l : List Pr) : (srtP l).Perm l := (sortD_map (f := pD) l).choose_spec.1
theorem srtP_eq (l : List Pr) : sortD (l.map pD) = (srtP l).map pD := (sortD_map (f := pD) l).choose_spec.2
theorem mem_srtP {l : List Pr} {p : Pr} : p ∈ srtP l ↔ p ∈ l := (srtP_perm l).mem_iff
theorem p6_nilT : P6 (.tup []) := fun d hd => by cases hd
theorem p6_nilL : P6 (.lst []) := fun d hd => by cases hd
theorem pl_up {d : D} : ∀ {n : Nat}, Pl n d → Pl (n + 1) d := by
  intro n
  induction n generalizing d with
  | zero => 
    intro h
    cases d <;> first | exact h | trivial | (exact h.elim)
  | succ n ih =>
    intro h
    cases d with
    | tup ds => exact fun e he => ih (h e he)
    | lst ds => exact fun e he => ih (h e he)
    | _ => first | exact h | trivial | (exact h.elim)
theorem pl_le {d : D} {n m : Nat} (h : Pl n d) (k : n ≤ m) : Pl m d := by
  induction k with
  | refl => exact h
  | step _ ih => exact pl_up ih
end Dz
/-! K60b: draws. -/
namespace Dz60
open PySem PySem.Spec PyProof.Rows L2 Dz
variable {G : Sg}
theorem lg {x : Int} {m : Nat} (h : 0 ≤ x) (h2 : x < 2 ^ m) (hm : 0 < m) : x.natAbs.log2 < m := by
  by_cases z : x.natAbs = 0
  · rw [z]; exact hm
  · rw [Nat.log2_lt z]
    have : (x.natAbs : Int) = x := by omega
    have h3 : (x.natAbs : Int) < ((2 ^ m : Nat) : Int) := by rw [this]; simpa using h2
    exact_mod_cast h3
theorem mulW {x y : Int} {m1 m2 : Nat} (h : 0 ≤ x) (h2 : x < 2 ^ m1) (k : 0 ≤ y) (k2 : y < 2 ^ m2) (hm : 0 < m1 ∧ 0 < m2 ∧ m1 + m2 < 1000000) : CMulW x y := by
  have a := lg h h2 hm.1
  have b := lg k k2 hm.2.1
  unfold CMulW
  omega
/-- a pot -/
def potD (a b c : Int) : Ob := .lst [.int a, .int b, .int c]
def potOk (a b c : Int) : Prop := 0 ≤ a ∧ (0 ≤ b ∧ b < 2 ^ 61) ∧ (0 ≤ c ∧ c < 2 ^ 40)
def sp_law_take : DSp := fun ds S Q => ∃ p n a b c, ds = [.ref p, .int n] ∧ S p = some (potD a b c) ∧ (0 < n ∧ n < 2 ^ 60) ∧ potOk a b c ∧ ∀ r a' c', 0 ≤ r → r < n → 0 ≤ a' → 0 ≤ c' → c' ≤ c + 1 → Q (.int r) (sup S p (potD a' b c'))
theorem w_law_take : ∀ ds S Q, sp_law_take ds S Q → wSs G b_law_take { nx := fun _ S1 => Q .non S1, rt := Q } (r0 5 ds) S := by
  rintro ds S Q ⟨p, n, a, b, c, rfl, hp, ⟨hn, hn2⟩, ⟨ha, ⟨hb, hb2⟩, hc, hc2⟩, q⟩
  have hr : r0 5 [.ref p, .int n] = [some (.ref p), some (.int n), none, none, none] := rfl
  rw [hr]
  unfold b_law_take
  simp only [wSs, wS, wE, wEs, List.getElem?_cons_zero, List.getElem?_cons_succ, Option.some.injEq, exists_eq_left', Bool.false_eq_true, if_false]
  refine st_ixr hp rfl (st_gt (st_bl ?_))
  split
  · refine st_ixr hp rfl (st_int (st_mod hn (st_name ?_)))
    refine st_var rfl (st_ixr hp rfl (st_var rfl (st_div ⟨hn, lg (Int.le_of_lt hn) (by omega) (by omega)⟩ ?_)))
    simp only [wTg, wE]
    refine st_var rfl (st_setr hp (by decide) (by simp) (st_var rfl ?_))
    exact q _ (a / n) c (Int.emod_nonneg _ (by omega)) (Int.emod_lt_of_pos _ hn) (Int.ediv_nonneg ha (by omega)) hc (by omega)
  · refine st_ixr hp rfl (st_add ?_)
    simp only [wTg, wE, List.getElem?_cons_zero, List.getElem?_cons_succ, Option.some.injEq, exists_eq_left']
    refine st_setr hp (by decide) (by simp) ?_
    have hp2 : sup S p (.lst [.int a, .int b, .int (c + 1)]) p = some (.lst [.int a, .int b, .int (c + 1)]) := sup_same
    have hS : (Ob.lst ([D.int a, D.int b, D.int c].set (Int.toNat 2) (D.int (c + 1)))) = .lst [.int a, .int b, .int (c + 1)] := rfl
    rw [hS]
    obtain ⟨pr, hpr, p0, p1⟩ : ∃ pr : Int, atI [D.int 2147483647, .int 2147483629, .int 2147483587, .int 2147483579, .int 2147483563] ((c + 1) % 5) = some (.int pr) ∧ 0 < pr ∧ pr < 2 ^ 31 := by
      have h5 : (c + 1) % 5 = 0 ∨ (c + 1) % 5 = 1 ∨ (c + 1) % 5 = 2 ∨ (c + 1) % 5 = 3 ∨ (c + 1) % 5 = 4 := by omega
      rcases h5 with e | e | e | e | e <;> rw [e] <;> exact ⟨_, rfl, by decide, by decide⟩
    have m0 : 0 ≤ c + 1 := by omega
    have mm : (c + 1) * (c + 1) ≤ 2 ^ 40 * 2 ^ 40 := Int.mul_le_mul (by omega) (by omega) m0 (by decide)
    have mn : 0 ≤ (c + 1) * (c + 1) := Int.mul_nonneg m0 m0
    have ma : 96457 * (c + 1) * (c + 1) = 96457 * ((c + 1) * (c + 1)) := Int.mul_assoc _ _ _
    refine st_finL (by rw [sizeLine_eq]; decide) (st_ixr hp2 rfl (st_int (st_mod (by decide) (st_ixl hpr ?_))))
    refine st_var rfl (st_ixr hp2 rfl (st_var rfl (st_ixr hp2 rfl (st_mul ?_ (st_var rfl (st_ixr hp2 rfl (st_mul ?_ (st_add (st_add (st_pow ?_ (st_int (st_var rfl (st_mod p0 ?_)))))))))))))
    · exact mulW (m1 := 17) (by decide) (by decide) m0 (m2 := 41) (by omega) (by decide)
    · exact mulW (m1 := 58) (by omega) (by omega) m0 (m2 := 41) (by omega) (by decide)
    · exact ⟨by omega, by decide, by decide, Nat.lt_trans (lg (m := 200) (by omega) (by omega) (by decide)) (by decide)⟩
    generalize (b + 96457 * (c + 1) * (c + 1) + 53) ^ Int.toNat 3 = big
    have t0 := Int.emod_nonneg big (show pr ≠ 0 by omega)
    have t1 := Int.emod_lt_of_pos big p0
    generalize big % pr = made at t0 t1 ⊢
    refine st_var rfl (st_var rfl (st_int (st_mod (by decide) (st_var rfl (st_ixr hp2 rfl (st_mul ?_ (st_add (st_mul ?_ (st_int (st_mod (by decide) (st_var rfl (st_div ⟨(by decide : (0 : Int) < 109), Nat.lt_trans (lg (x := 109) (m := 10) (by decide) (by decide) (by decide)) (by decide)⟩ (st_int (st_var rfl (st_mod hn ?_)))))))))))))))
    · exact mulW (m1 := 7) (by decide) (by decide) m0 (m2 := 41) (by omega) (by decide)
    · exact mulW (m1 := 31) t0 (by omega) (m2 := 60) (by omega) (by omega) (by decide)
    exact q _ a (c + 1) (Int.emod_nonneg _ (by omega)) (Int.emod_lt_of_pos _ hn) ha (by omega) (by omega)
theorem kp_law_take : Keeps G b_law_take 5 takeSp := fun ds S Q ⟨p, n, m, e, ⟨a, b, c, hp, ha, hb, hc, hm⟩, hn, q⟩ =>
  w_law_take ds S Q ⟨p, n, a, b, c, e, hp, hn, ⟨ha, hb, hc, by omega⟩, fun r a' c' h0 h1 h2 h3 h4 => q r _ h0 h1 ⟨a', b, c', sup_same, h2, hb, h3, by omega⟩ (Kx.sup (by simp))⟩
theorem out_perm {α : Type} : ∀ (l : List α) (i : Nat) (h : i < l.length), (l[i] :: l.eraseIdx i).Perm l
  | a :: l, 0, h => by simp
  | a :: l, i + 1, h => by
    simp only [List.getElem_cons_succ, List.eraseIdx_cons_succ]
    exact (List.Perm.swap _ _ _).trans ((out_perm l i (by simpa using h)).cons a)
theorem kp_law_some (hG : MonoG' G) (h : G.fn "_law_take" = some takeSp) : Keeps G b_law_some 6 someSp := by
  rintro ds S Q ⟨p, x, m, xs, n, rfl, hp, hx, hm, hl, q⟩
  have hr : r0 6 [.ref p, x, .int (m : Nat)] = [some (.ref p), some x, some (.int (m : Nat)), none, none, none] := rfl
  rw [hr]
  unfold b_law_some
  rw [wSs, wS]
  simp only [wE, wEs, List.getElem?_cons_zero, List.getElem?_cons_succ, Option.some.injEq, exists_eq_left', Bool.false_eq_true, if_false]
  refine ⟨xs, hx, st_finLo (by rw [sizeLine_eq]; omega) fun l hl0 => st_finLo (by simp) fun f hf0 => ?_⟩
  have hpl : p ≠ l := hp.ne hl0
  have hpf : p ≠ f := PotAt.ne (n := m + n) (hp.ks (Ks.new hl0)) hf0
  have hlf : l ≠ f := ne_new sup_same hf0
  have hf1 : S f = none := by rw [sup_ne (Ne.symm hlf)] at hf0; exact hf0
  rw [wSs]
  refine st_for_range (m := (m : Int)) hG (by simp [wEs, wE]) ⟨by omega, by omega⟩ (fun i r S1 => ∃ lap ys zs, r = [some (.ref p), some x, some (.int (m : Nat)), lap, some (.ref l), some (.ref f)] ∧ S1 f = some (.lst ys) ∧ S1 l = some (.lst zs) ∧ PotAt S1 p (m - i + n) ∧
    (ys ++ zs).Perm xs ∧ ys.length = i ∧ Kx [p] S S1) ?_ ?_ ?_
  · refine ⟨none, [], xs, rfl, sup_same, by rw [sup_ne hlf, sup_same], (hp.ks (Ks.new hl0)).ks (Ks.new hf0), by simp, rfl, (Ks.new hl0).up.trans (Ks.new hf0).up⟩
  · rintro i r S1 hi ⟨lap, ys, zs, rfl, hf, hll, hpp, hperm, hlen, kp⟩
    have hlen2 := hperm.length_eq
    rw [List.length_append] at hlen2
    have hi2 : i < m := by omega
    simp only [wSs, wS, wE, wEs, h, List.set, List.getElem?_cons_zero, List.getElem?_cons_succ, Option.some.injEq, exists_eq_left', Bool.false_eq_true, if_false]
    refine ⟨⟨"list", by rw [vw_lst' hf]; rfl⟩, ⟨"list", by rw [vw_lst' hll]; rfl⟩, ?_⟩
    simp only [wBi, vw_lst' hll]
    refine ⟨p, zs.length, m - (i + 1) + n, rfl, hpp.less (by omega), ⟨by omega, by omega⟩, fun t S2 t0 t1 hp2 k2 => ?_⟩
    have ht : t.toNat < zs.length := by omega
    have hl2 : S2 l = some (.lst zs) := k2.getN hll (by simpa using Ne.symm hpl)
    have hf2 : S2 f = some (.lst ys) := k2.getN hf (by simpa using Ne.symm hpf)
    refine ⟨l, zs, zs[t.toNat], rfl, hl2, t0, by omega, List.getElem?_eq_getElem ht, ?_⟩
    refine ⟨f, ys, rfl, by rw [sup_ne (Ne.symm hlf)]; exact hf2, by rw [sizeLine_eq]; omega, ?_⟩
    refine ⟨_, ys ++ [zs[t.toNat]], zs.eraseIdx t.toNat, rfl, sup_same, by rw [sup_ne hlf, sup_same], ?_, ?_, by rw [List.length_append, hlen]; rfl, ?_⟩
    · obtain ⟨a, b, c, e, r⟩ := hp2
      exact ⟨a, b, c, by rw [sup_ne hpf, sup_ne hpl]; exact e, r⟩
    · rw [List.append_assoc]
      exact ((out_perm zs t.toNat ht).append_left ys).trans hperm
    · intro o u ho e
      have h1 : o ≠ l := fun z => by rw [z, hl0] at e; cases e
      have h2 : o ≠ f := fun z => by rw [z, hf1] at e; cases e
      rw [sup_ne h2, sup_ne h1]
      exact k2.getN (kp o u ho e) ho
  · rintro r S1 ⟨lap, ys, zs, rfl, hf, hll, hpp, hperm, hlen, kp⟩
    simp only [wSs, wS, wE, List.getElem?_cons_zero, List.getElem?_cons_succ, Option.some.injEq, exists_eq_left']
    exact q S1 f ys zs hf hf1 (hpp.less (by omega)) hperm (by omega) kp
end Dz60
/-! K60c: what the defs promise. -/
namespace Dz60
open PySem PySem.Spec PyProof.Rows L2 Dz

/-! ### the plain things -/
def swp (p : Pr) : Pr := (p.2, p.1)
def pairOf (gs : List Str) (p : Pr) : Pr := if gs.idxOf p.1 ≤ gs.idxOf p.2 then p else swp p
noncomputable def pairsOf (gs : List Str) (bs : List Pr) : List Pr := srtP (bs.map (pairOf gs))
structure BondsOk (gs : List Str) (bs : List Pr) : Prop where
  ends : ∀ p ∈ bs, p.1 ∈ gs ∧ p.2 ∈ gs ∧ p.1 ≠ p.2
  diff : bs.Pairwise fun p q => p ≠ q ∧ p ≠ swp q
structure LoreOk (gs : List Str) (bs : List Pr) : Prop where
  names : ∀ x ∈ gs, IsName x
  nodup : gs.Nodup
  bonds : BondsOk gs bs
  lg : 0 < gs.length ∧ gs.length ≤ 24
  lb : bs.length ≤ 200
/-- all can go in pairs -/
def Perfect (gs : List Str) (bs : List Pr) : Prop := ∃ M : List Pr, (M.flatMap fun p => [p.1, p.2]).Perm gs ∧ ∀ p ∈ M, p ∈ bs ∨ swp p ∈ bs
/-- rows of pairs, and who is left -/
abbrev Rw := List Pr × List Str
def step1 (ps : List Pr) (x : Rw) : List Rw := match x.2 with
  | [] => []
  | a :: t => (t.filter fun o => decide ((a, o) ∈ ps)).map fun o => (x.1 ++ [(a, o)], t.filter fun z => decide (z ≠ o))
def stepF (ps : List Pr) (f : List Rw) : List Rw := f.flatMap (step1 ps)
def iterF (ps : List Pr) (gs : List Str) : Nat → List Rw
  | 0 => [([], gs)]
  | n + 1 => stepF ps (iterF ps gs n)
noncomputable def fullR (gs : List Str) (ps : List Pr) : List (List Pr) := (iterF ps gs (gs.length / 2)).map fun x => srtP x.1
def priceOf (ps : List Pr) (prices : List Int) (p : Pr) : Int := ((ps.zip prices).lookup p).getD 0
def costR (ps : List Pr) (prices : List Int) (row : List Pr) : Int := (row.map (priceOf ps prices)).sum
def least {α : Type} (F : List α) (c : α → Int) : Int := ((F.map c).min?).getD 0
def wordsOf (ps : List Pr) (F : List (List Pr)) (c : List Pr → Int) : List Str := ps.map fun p =>
  let best := F.filter fun row => decide (c row = least F c)
  let many := (best.filter fun row => decide (p ∈ row)).length
  if many = 0 then "none" else if many = best.length then "all" else "some"
def dueOf (F : List (List Pr)) (c : List Pr → Int) (p : Pr) (x : Int) : D :=
  let having := F.filter fun row => decide (p ∈ row)
  let without := F.filter fun row => decide (p ∉ row)
  if having = [] then .str "never" else if without = [] then .non else .int (least without c - least having c + x)
def lineG (x : Str) : Str := ("guard " : Str) ++ x
def lineB (p : Pr) : Str := Txt.join (" " : Str) [("bond" : Str), p.1, p.2]
def textOf (gs : List Str) (bs : List Pr) : Str := Txt.join ("\n" : Str) (gs.map lineG ++ bs.map lineB)
noncomputable def rollOf (gs : List Str) (bs : List Pr) : RollD := ⟨textOf gs bs, gs, bs, pairsOf gs bs⟩
def loreD (gs : List Str) (bs : List Pr) : D := .dic false [(.str "guards", nD gs), (.str "bonds", rD bs)]
/-- a roll whose pairings are all looked at -/
structure Good (R : RollD) : Prop where
  nodup : R.gs.Nodup
  ev : R.gs.length % 2 = 0
  lg : 0 < R.gs.length ∧ R.gs.length ≤ 8
  pn : R.ps.Nodup
  lp : R.ps.length ≤ 200
  pe : ∀ p ∈ R.ps, p.1 ∈ R.gs ∧ p.2 ∈ R.gs
  full : fullR R.gs R.ps ≠ []
structure PricesOk (R : RollD) (prices : List Int) : Prop where
  len : prices.length = R.ps.length
  rng : ∀ z ∈ prices, 0 ≤ z ∧ z ≤ 999

/-! ### the promises -/
def sp_is_integer : DSp := pureSp (fun i : Int => [.int i]) (fun _ _ => True) fun _ => .bl true
def sp_is_between : DSp := pureSp (fun a : Int × Int × Int => [.int a.1, .int a.2.1, .int a.2.2]) (fun _ _ => True) fun a => .bl (decide (a.2.1 ≤ a.1) && decide (a.1 ≤ a.2.2))
def sp_is_name : DSp := pureSp (fun x : Str => [.str x]) (fun x _ => IsName x) fun _ => .bl true
def RdAt (S : Sto) (p l1 l2 : Addr) (gs : List Str) (bs : List Pr) : Prop :=
  S p = some (.ins "Reader" [("own_guards", .ref l1), ("own_bonds", .ref l2)]) ∧ S l1 = some (.lst (gs.map D.str)) ∧ S l2 = some (.lst (bs.map pD)) ∧ l1 ≠ l2
def sp_Reader_init : DSp := fun ds S Q => ∃ p, ds = [.ref p] ∧ S p = some (.ins "Reader" []) ∧ ∀ S' l1 l2, RdAt S' p l1 l2 [] [] → S l1 = none → S l2 = none → Kx [p] S S' → Q .non S'
structure GLine (gs : List Str) (bs : List Pr) (x : Str) : Prop where
  nm : IsName x
  new : x ∉ gs
  nb : bs = []
  lt : gs.length < 24
structure BLine (gs : List Str) (bs : List Pr) (p : Pr) : Prop where
  a : p.1 ∈ gs
  b : p.2 ∈ gs
  ne : p.1 ≠ p.2
  new : p ∉ bs
  new2 : swp p ∉ bs
  lt : bs.length < 200
  n1 : IsName p.1
  n2 : IsName p.2
def sp_Reader_takes : DSp := fun ds S Q => ∃ p l1 l2 gs bs line, ds = [.ref p, .str line] ∧ RdAt S p l1 l2 gs bs ∧
  ((∃ x, line = lineG x ∧ GLine gs bs x ∧ ∀ S', RdAt S' p l1 l2 (gs ++ [x]) bs → Kx [l1, l2] S S' → Q (.bl true) S') ∨
   (∃ q, line = lineB q ∧ BLine gs bs q ∧ ∀ S', RdAt S' p l1 l2 gs (bs ++ [q]) → Kx [l1, l2] S S' → Q (.bl true) S'))
def sp_Reader_takes_guard : DSp := fun ds S Q => ∃ p l1 l2 gs bs x, ds = [.ref p, .lst [.str "guard", .str x]] ∧ RdAt S p l1 l2 gs bs ∧ GLine gs bs x ∧ ∀ S', RdAt S' p l1 l2 (gs ++ [x]) bs → Kx [l1, l2] S S' → Q (.bl true) S'
def sp_Reader_takes_bond : DSp := fun ds S Q => ∃ p l1 l2 gs bs q, ds = [.ref p, .lst [.str "bond", .str q.1, .str q.2]] ∧ RdAt S p l1 l2 gs bs ∧ BLine gs bs q ∧ ∀ S', RdAt S' p l1 l2 gs (bs ++ [q]) → Kx [l1, l2] S S' → Q (.bl true) S'
def sp_Reader_found : DSp := pureSp (fun a : Addr × Addr × Addr × List Str × List Pr => [.ref a.1]) (fun a S => RdAt S a.1 a.2.1 a.2.2.1 a.2.2.2.1 a.2.2.2.2 ∧ a.2.2.2.1.length ≤ 24 ∧ a.2.2.2.2.length ≤ 200) fun a => .tup [nD a.2.2.2.1, rD a.2.2.2.2]
def sp_is_bond_of : DSp := pureSp (fun a : D × List Str × Pr => [a.1, pD a.2.2]) (fun a S => (vw S a.1 = .lst (a.2.1.map D.str) ∨ vw S a.1 = .tup (a.2.1.map D.str)) ∧ a.2.2.1 ∈ a.2.1 ∧ a.2.2.2 ∈ a.2.1 ∧ a.2.2.1 ≠ a.2.2.2) fun _ => .bl true
def sp_Roll_init : DSp := fun ds S Q => ∃ p gs bs, ds = [.ref p, .str (textOf gs bs)] ∧ S p = some (.ins "Roll" []) ∧ LoreOk gs bs ∧ ∀ S', S' p = some (.ins "Roll" (rollOf gs bs).fs) → Kx [p] S S' → Q .non S'
def sp_check_roll : DSp := pureSp (fun a : D × RollD => [a.1]) (fun a S => IsRoll S a.1 a.2) fun _ => .non
def sp_check_guard : DSp := pureSp (fun a : D × RollD × Str => [a.1, .str a.2.2]) (fun a S => IsRoll S a.1 a.2.1 ∧ a.2.2 ∈ a.2.1.gs) fun _ => .non
def sp_are_prices_of : DSp := pureSp (fun a : D × RollD × List Int => [a.1, iD a.2.2]) (fun a S => IsRoll S a.1 a.2.1 ∧ Good a.2.1 ∧ PricesOk a.2.1 a.2.2) fun _ => .bl true
def sp_check_prices : DSp := pureSp (fun a : D × RollD × List Int => [a.1, iD a.2.2]) (fun a S => IsRoll S a.1 a.2.1 ∧ Good a.2.1 ∧ PricesOk a.2.1 a.2.2) fun _ => .non
def priceD (ps : List Pr) (prices : List Int) : D := .dic true ((ps.map pD).zip (prices.map D.int))
def sp_price_by : DSp := pureSp (fun a : D × RollD × List Int => [a.1, iD a.2.2]) (fun a S => IsRoll S a.1 a.2.1 ∧ Good a.2.1 ∧ PricesOk a.2.1 a.2.2) fun a => priceD a.2.1.ps a.2.2
def sp_cost_of : DSp := pureSp (fun a : (D × RollD × List Int) × List Pr => [a.1.1, iD a.1.2.2, rD a.2]) (fun a S => IsRoll S a.1.1 a.1.2.1 ∧ Good a.1.2.1 ∧ PricesOk a.1.2.1 a.1.2.2 ∧ (∀ p ∈ a.2, p ∈ a.1.2.1.ps) ∧ a.2.length ≤ 100) fun a => .int (costR a.1.2.1.ps a.1.2.2 a.2)
def sp_full_pairings : DSp := pureSp (fun a : D × RollD => [a.1]) (fun a S => IsRoll S a.1 a.2 ∧ Good a.2) fun a => .lst ((fullR a.2.gs a.2.ps).map rD)
noncomputable def costsD (R : RollD) (prices : List Int) : List D := sortD ((fullR R.gs R.ps).map fun row => .tup [.int (costR R.ps prices row), rD row])
def sp_costs_of : DSp := pureSp (fun a : D × RollD × List Int => [a.1, iD a.2.2]) (fun a S => IsRoll S a.1 a.2.1 ∧ Good a.2.1 ∧ PricesOk a.2.1 a.2.2) fun a => .lst (costsD a.2.1 a.2.2)
def sp_check_full : DSp := pureSp (fun a : D × RollD × List Int => [a.1, iD a.2.2]) (fun a S => IsRoll S a.1 a.2.1 ∧ Good a.2.1 ∧ PricesOk a.2.1 a.2.2) fun _ => .non
def sp_fates : DSp := pureSp (fun a : D × RollD × List Int => [a.1, iD a.2.2]) (fun a S => IsRoll S a.1 a.2.1 ∧ Good a.2.1 ∧ PricesOk a.2.1 a.2.2) fun a => nD (wordsOf a.2.1.ps (fullR a.2.1.gs a.2.1.ps) (costR a.2.1.ps a.2.2))
def sp_may_cost : DSp := pureSp (fun a : (D × RollD × List Int) × Pr => [a.1.1, iD a.1.2.2, .str a.2.1, .str a.2.2]) (fun a S => IsRoll S a.1.1 a.1.2.1 ∧ Good a.1.2.1 ∧ PricesOk a.1.2.1 a.1.2.2 ∧ a.2.1 ∈ a.1.2.1.gs ∧ a.2.2 ∈ a.1.2.1.gs ∧ a.2.1 ≠ a.2.2 ∧ pairOf a.1.2.1.gs a.2 ∈ a.1.2.1.ps)
  fun a => dueOf (fullR a.1.2.1.gs a.1.2.1.ps) (costR a.1.2.1.ps a.1.2.2) (pairOf a.1.2.1.gs a.2) (priceOf a.1.2.1.ps a.1.2.2 (pairOf a.1.2.1.gs a.2))
/-! the law's own -/
def sp_law_word : DSp := fun ds S Q => ∃ p n, ds = [.ref p] ∧ PotAt S p (n + 9) ∧ ∀ x S', IsName x → PotAt S' p n → Kx [p] S S' → Q (.str x) S'
def sp_law_of : DSp := fun ds S Q => ∃ p xs n, ds = [.ref p, .lst xs] ∧ PotAt S p (n + 1) ∧ 0 < xs.length ∧ xs.length < 1000 ∧ ∀ y S', y ∈ xs → PotAt S' p n → Kx [p] S S' → Q y S'
def sp_law_roll : DSp := fun ds S Q => ∃ p m b n, ds = [.ref p, .int (m : Nat), .int (b : Nat)] ∧ PotAt S p (n + (m + 2 * b + 11)) ∧ 2 ≤ m ∧ m ≤ 14 ∧ b ≤ 100 ∧
  ∀ gs bs S', LoreOk gs bs → gs.length = m → bs.length ≤ b → PotAt S' p n → Kx [p] S S' → Q (loreD gs bs) S'
def sp_law_pair : DSp := pureSp (fun a : List Str × List Pr × Pr => [loreD a.1 a.2.1, .str a.2.2.1, .str a.2.2.2]) (fun a _ => a.2.2.1 ∈ a.1 ∧ a.2.2.2 ∈ a.1 ∧ a.2.2.1 ≠ a.2.2.2) fun a => pD (pairOf a.1 a.2.2)
def sp_law_pairs : DSp := pureSp (fun a : List Str × List Pr => [loreD a.1 a.2]) (fun a _ => LoreOk a.1 a.2) fun a => .lst ((pairsOf a.1 a.2).map pD)
def sp_law_price : DSp := pureSp (fun a : (List Str × List Pr) × List Int => [loreD a.1.1 a.1.2, iD a.2]) (fun a _ => LoreOk a.1.1 a.1.2 ∧ a.2.length = a.1.2.length) fun a => priceD (pairsOf a.1.1 a.1.2) a.2
def sp_law_cost : DSp := pureSp (fun a : ((List Str × List Pr) × List Int) × List Pr => [loreD a.1.1.1 a.1.1.2, iD a.1.2, rD a.2]) (fun a _ => LoreOk a.1.1.1 a.1.1.2 ∧ a.1.2.length = a.1.1.2.length ∧ (∀ p ∈ a.2, p ∈ pairsOf a.1.1.1 a.1.1.2) ∧ a.2.length ≤ 100)
  fun a => .int (costR (pairsOf a.1.1.1 a.1.1.2) a.1.2 a.2)
def sp_law_text : DSp := pureSp (fun a : List Str × List Pr => [loreD a.1 a.2]) (fun a _ => LoreOk a.1 a.2) fun a => .str (textOf a.1 a.2)
def sp_law_prices : DSp := fun ds S Q => ∃ p gs bs n, ds = [.ref p, loreD gs bs] ∧ PotAt S p (n + (bs.length + 1)) ∧ bs.length ≤ 200 ∧ ∀ prices : List Int, ∀ S', prices.length = bs.length → (∀ z ∈ prices, 0 ≤ z ∧ z ≤ 999) → PotAt S' p n → Kx [p] S S' → Q (iD prices) S'
def sp_law_full : DSp := pureSp (fun a : List Str × List Pr => [loreD a.1 a.2]) (fun a _ => LoreOk a.1 a.2 ∧ a.1.length % 2 = 0 ∧ a.1.length ≤ 8) fun a => .lst ((fullR a.1 (pairsOf a.1 a.2)).map rD)
def sp_law_cells : DSp := fun ds S Q => ∃ xs m, ds = [.fls xs, .int m] ∧ xs.length ≤ 63 ∧ ∀ n : Nat, ∀ S', n ≤ 63 → Ks S S' → Q (.lst (rangeD 0 1 n)) S'
def sp_law_pot : DSp := fun ds S Q => ∃ ns : List Int, ∃ i : Nat, ds = [.fls (ns.map D.int), .int i] ∧ ns.length ≤ 63 ∧ i ≤ 63 ∧ (∀ z ∈ ns, Builtin.Int.intBits z ≤ 1048576) ∧ ∀ S' p, S p = none → PotAt S' p 100000 → Ks S S' → Q (.ref p) S'
def sp_law_whole_roll : DSp := fun ds S Q => ∃ p m n, ds = [.ref p, .int (m : Nat)] ∧ PotAt S p (n + 200) ∧ 1 ≤ m ∧ m ≤ 4 ∧ ∀ gs bs S', LoreOk gs bs → gs.length = 2 * m → Perfect gs bs → PotAt S' p n → Kx [p] S S' → Q (loreD gs bs) S'
structure Whole (gs : List Str) (bs : List Pr) : Prop where
  ok : LoreOk gs bs
  good : Good (rollOf gs bs)
def sp_law_words : DSp := pureSp (fun a : (List Str × List Pr) × List Int => [loreD a.1.1 a.1.2, iD a.2, .lst ((fullR a.1.1 (pairsOf a.1.1 a.1.2)).map rD)]) (fun a _ => Whole a.1.1 a.1.2 ∧ PricesOk (rollOf a.1.1 a.1.2) a.2)
  fun a => nD (wordsOf (pairsOf a.1.1 a.1.2) (fullR a.1.1 (pairsOf a.1.1 a.1.2)) (costR (pairsOf a.1.1 a.1.2) a.2))
def sp_law_is_pair_right : DSp := pureSp (fun a : ((List Str × List Pr) × List Int) × D × Nat => [loreD a.1.1.1 a.1.1.2, a.2.1, iD a.1.2, .lst ((fullR a.1.1.1 (pairsOf a.1.1.1 a.1.1.2)).map rD), .int (a.2.2 : Nat)])
  (fun a S => IsRoll S a.2.1 (rollOf a.1.1.1 a.1.1.2) ∧ Whole a.1.1.1 a.1.1.2 ∧ PricesOk (rollOf a.1.1.1 a.1.1.2) a.1.2 ∧ a.2.2 < a.1.2.length) fun _ => .bl true
def sp_law_right : DSp := fun ds S Q => ∃ p n, ds = [.ref p] ∧ PotAt S p (n + 1000) ∧ ∀ S', PotAt S' p n → Kx [p] S S' → Q (.bl true) S'
def sp_law : DSp := fun ds S Q => ∃ ns : List Int, ds = [.fls (ns.map D.int)] ∧ ns.length ≤ 63 ∧ (∀ z ∈ ns, Builtin.Int.intBits z ≤ 1048576) ∧ ∀ S', Q (.bl true) S'

/-! ### what stands around -/
structure H60 (G : Sg) : Prop where
  mono : MonoG' G
  g1 : G.gl "LETTERS" = some (.str "abcdefghijklmnopqrstuvwxyz")
  g2 : G.gl "FIGURES" = some (.str "0123456789")
  g3 : G.gl "MOST_SIGNS" = some (.int 8)
  g4 : G.gl "MOST_GUARDS_rolls" = some (.int 24)
  g5 : G.gl "MOST_BONDS" = some (.int 200)
  g6 : G.gl "GUARD" = some (.str "guard")
  g7 : G.gl "BOND" = some (.str "bond")
  g8 : G.gl "MOST_GUARDS_cheap" = some (.int 10)
  g9 : G.gl "MOST_PRICE" = some (.int 999)
  g10 : G.gl "NEVER" = some (.str "never")
  g11 : G.gl "ALL" = some (.str "all")
  g12 : G.gl "SOME" = some (.str "some")
  g13 : G.gl "NONE" = some (.str "none")
  is_integer : G.fn "is_integer" = some sp_is_integer
  is_between : G.fn "is_between" = some sp_is_between
  is_name : G.fn "is_name" = some sp_is_name
  Reader_init : G.mk0 "Reader" = some sp_Reader_init
  Reader_takes : G.mt "Reader" "takes" = some sp_Reader_takes
  Reader_takes_guard : G.mt "Reader" "takes_guard" = some sp_Reader_takes_guard
  Reader_takes_bond : G.mt "Reader" "takes_bond" = some sp_Reader_takes_bond
  Reader_found : G.pr "Reader" "found" = some sp_Reader_found
  is_bond_of : G.fn "is_bond_of" = some sp_is_bond_of
  Roll_init : G.mk0 "Roll" = some sp_Roll_init
  Roll_guards : G.pr "Roll" "guards" = some (getSp fun R => nD R.gs)
  Roll_bonds : G.pr "Roll" "bonds" = some (getSp fun R => rD R.bs)
  Roll_pairs : G.pr "Roll" "pairs" = some (getSp fun R => rD R.ps)
  pair_of : G.fn "pair_of" = some spPair
  check_roll : G.fn "check_roll" = some sp_check_roll
  check_guard : G.fn "check_guard" = some sp_check_guard
  are_prices_of : G.fn "are_prices_of" = some sp_are_prices_of
  check_prices : G.fn "check_prices" = some sp_check_prices
  price_by : G.fn "price_by" = some sp_price_by
  cost_of : G.fn "cost_of" = some sp_cost_of
  full_pairings : G.fn "full_pairings" = some sp_full_pairings
  costs_of : G.fn "costs_of" = some sp_costs_of
  check_full : G.fn "check_full" = some sp_check_full
  fates : G.fn "fates" = some sp_fates
  may_cost : G.fn "may_cost" = some sp_may_cost
  law_take : G.fn "_law_take" = some takeSp
  law_some : G.fn "_law_some" = some someSp
  law_word : G.fn "_law_word" = some sp_law_word
  law_roll : G.fn "_law_roll" = some sp_law_roll
  law_of : G.fn "_law_of" = some sp_law_of
  law_pair : G.fn "_law_pair" = some sp_law_pair
  law_pairs : G.fn "_law_pairs" = some sp_law_pairs
  law_price : G.fn "_law_price" = some sp_law_price
  law_cost : G.fn "_law_cost" = some sp_law_cost
  law_text : G.fn "_law_text" = some sp_law_text
  law_prices : G.fn "_law_prices" = some sp_law_prices
  law_full : G.fn "_law_full" = some sp_law_full
  law_cells : G.fn "_law_cells" = some sp_law_cells
  law_pot : G.fn "_law_pot" = some sp_law_pot
  law_whole_roll : G.fn "_law_whole_roll" = some sp_law_whole_roll
  law_words : G.fn "_law_words" = some sp_law_words
  law_is_pair_right : G.fn "_law_is_pair_right" = some sp_law_is_pair_right
  law_right : G.fn "_law_right" = some sp_law_right
end Dz60
/-! K60d: the small defs. -/
namespace Dz60
open PySem PySem.Spec PyProof.Rows L2 Dz
variable {G : Sg}
theorem line1 {n : Nat} (h : n ≤ 10000) : n ≤ sizeLine := by rw [sizeLine_eq]; omega
theorem kp_is_integer : Keeps G b_is_integer 1 sp_is_integer := by
  rintro ds S Q ⟨i, rfl, -, q⟩
  refine (ss_ret Kx.refl (v := .bl true) ?_ q)
  exact (Ev.isbI (p := true) (Ev.var rfl)).and fun _ => (Ev.isbI (p := false) (Ev.var rfl)).not
theorem kp_is_between (H : H60 G) : Keeps G b_is_between 3 sp_is_between := by
  rintro ds S Q ⟨⟨i, j, k⟩, rfl, -, q⟩
  refine (ss_ret Kx.refl (v := .bl (decide (j ≤ i) && decide (i ≤ k))) ?_ q)
  refine Ev.conv (Ev.and (p := true) (Ev.call H.is_integer i (EvL.cons (Ev.var rfl) EvL.nil) fun _ _ => trivial) fun _ => Ev.cmp2 (Ev.var rfl) (Ev.var rfl) (Ev.var rfl) (fun _ _ _ q => ⟨_, _, rfl, rfl, q⟩) fun _ _ _ q => ⟨_, _, rfl, rfl, q⟩) ?_
  rfl
theorem mem_letters (c : Nat) : c ∈ cps "abcdefghijklmnopqrstuvwxyz" ↔ lett c := by
  have e : cps "abcdefghijklmnopqrstuvwxyz" = [97,98,99,100,101,102,103,104,105,106,107,108,109,110,111,112,113,114,115,116,117,118,119,120,121,122] := by decide +kernel
  rw [e]
  simp only [List.mem_cons, List.not_mem_nil, or_false, lett]
  omega
theorem mem_figures (c : Nat) : c ∈ cps "0123456789" ↔ figu c := by
  have e : cps "0123456789" = [48,49,50,51,52,53,54,55,56,57] := by decide +kernel
  rw [e]
  simp only [List.mem_cons, List.not_mem_nil, or_false, figu]
  omega
theorem kp_is_name (H : H60 G) : Keeps G b_is_name 2 sp_is_name := by
  rintro ds S Q ⟨x, rfl, hx, q⟩
  dsimp only at *
  obtain ⟨c, r, e, hc⟩ := hx.hd
  have hl := hx.pos
  have hl8 := hx.len
  have hz : x.length ≤ sizeLine := line1 (by omega)
  refine (ss_ifF Kx.refl ?_ fun S1 k1 => ?_)
  · refine Ev.conv (Ev.or (p := false) (Ev.isbS (p := true) (Ev.var rfl)).not fun _ => Ev.or (p := false) ?_ fun _ => (Ev.ixS (n := c) (Ev.var rfl) Ev.cst hz ?_).cmp (Ev.glob H.g1) fun _ _ _ q => c_notInS q) ?_
    · refine Ev.conv (Ev.not (Ev.cmp2 (p := true) (q := true) Ev.cst (Ev.lenS (Ev.var rfl) hz) (Ev.glob H.g3) (fun _ _ P q => ?_) fun _ _ P q => ?_)) rfl
      · show P (decide ((0 : Int) < (x.length : Int)))
        rw [decide_eq_true (by omega)]; exact q
      · refine ⟨_, _, rfl, rfl, ?_⟩
        rw [decide_eq_true (by omega)]; exact q
    · show atI (cps x) ((0 : Nat) : Int) = _
      rw [atI_n, e]; rfl
    · rw [decide_eq_false]
      · rfl
      · exact fun h => h ((mem_letters c).mpr hc)
  · refine ss_ret k1 (v := .bl true) ?_ fun S2 k2 => q S2 (k1.trans k2)
    refine Ev.conv (Ev.all_ (l := (cps x).map fun _ => true) (Ev.conv (Ev.comp (l := cps x) (enc := fun c => D.str ⟨#[c]⟩) (f := fun _ => .bl true) H.mono (EvS.ofS (Ev.var rfl)) (by rw [cps_len]; exact hz) (fun _ _ => TgOk.name) fun c hc => ?_) ?_)) ?_
    · have hcc := hx.all c hc
      refine Ev.conv (Ev.or (p := decide (lett c)) (q := decide (figu c)) ((Ev.var rfl).cmp (Ev.glob H.g1) fun _ _ P q => c_inS ?_) fun _ => ((Ev.var rfl).cmp (Ev.glob H.g2) fun _ _ P q => c_inS ?_)) ?_
      · rw [decide_eq_decide.mpr (mem_letters c)]; exact q
      · rw [decide_eq_decide.mpr (mem_figures c)]; exact q
      · rcases hcc with h | h
        · rw [decide_eq_true h]; rfl
        · rw [decide_eq_true h, Bool.or_true]
    · simp
    · simp
theorem kp_Roll_guards : Keeps G b_Roll_guards 1 (getSp fun R => nD R.gs) := by
  rintro ds S Q ⟨⟨x, R⟩, rfl, h, q⟩
  exact (ss_ret Kx.refl (Ev.fld (Ev.var rfl) h (RollD.l2 R)) q)
theorem kp_Roll_bonds : Keeps G b_Roll_bonds 1 (getSp fun R => rD R.bs) := by
  rintro ds S Q ⟨⟨x, R⟩, rfl, h, q⟩
  exact (ss_ret Kx.refl (Ev.fld (Ev.var rfl) h (RollD.l3 R)) q)
theorem kp_Roll_pairs : Keeps G b_Roll_pairs 1 (getSp fun R => rD R.ps) := by
  rintro ds S Q ⟨⟨x, R⟩, rfl, h, q⟩
  exact (ss_ret Kx.refl (Ev.fld (Ev.var rfl) h (RollD.l4 R)) q)
theorem kp_check_roll : Keeps G b_check_roll 1 sp_check_roll := by
  rintro ds S Q ⟨⟨x, R⟩, rfl, h, q⟩
  exact (ss_ifF Kx.refl (Ev.conv (Ev.isc (Ev.var rfl) h).not rfl) fun S1 k1 => st_nil (q S1 k1))
theorem kp_check_guard (H : H60 G) : Keeps G b_check_guard 2 sp_check_guard := by
  rintro ds S Q ⟨⟨x, R, g⟩, rfl, ⟨h, hg⟩, q⟩
  dsimp only at *
  refine (ss_ifF Kx.refl ?_ fun S1 k1 => st_nil (q S1 k1))
  refine Ev.conv (Ev.or (p := false) (Ev.isbS (p := true) (Ev.var rfl)).not fun _ => Ev.notInT (pr := g ∈ R.gs) (Ev.var rfl) (Ev.get H.Roll_guards (Ev.var rfl) h) (pl_str 6) (pl_map fun _ => pl_str 5) (mem_inj str_inj)) ?_
  rw [decide_eq_false (fun n => n hg)]
  rfl
theorem kp_are_prices_of (H : H60 G) : Keeps G b_are_prices_of 3 sp_are_prices_of := by
  rintro ds S Q ⟨⟨x, R, ps⟩, rfl, ⟨h, hR, hp⟩, q⟩
  dsimp only at *
  have hl : ps.length ≤ 200 := by rw [hp.len]; exact hR.lp
  refine (ss_ifF Kx.refl ?_ fun S1 k1 => ?_)
  · refine Ev.conv (Ev.or (p := false) (Ev.isbT (p := true) (Ev.var rfl)).not fun _ => Ev.neI (Ev.lenT (xs := ps.map D.int) (Ev.var rfl)) (Ev.lenT (Ev.get H.Roll_pairs (Ev.var rfl) h))) ?_
    rw [List.length_map, List.length_map, hp.len]
    simp
  · refine ss_ret k1 (v := .bl true) ?_ fun S2 k2 => q S2 (k1.trans k2)
    refine Ev.conv (Ev.all_ (l := ps.map fun _ => true) (Ev.conv (Ev.comp (l := ps) (enc := D.int) (f := fun z => .bl (decide (0 ≤ z) && decide (z ≤ 999))) H.mono (EvS.ofT (Ev.var rfl)) (line1 (by omega)) (fun _ _ => TgOk.name) fun z hz => ?_) ?_)) ?_
    · exact Ev.call H.is_between (z, 0, 999) (EvL.cons (Ev.var rfl) (EvL.cons Ev.cst (EvL.cons (Ev.glob H.g9) EvL.nil))) fun _ _ => trivial
    · rw [List.map_map]
      congr 1
      refine List.map_congr_left fun z hz => ?_
      have := hp.rng z hz
      simp [this.1, this.2]
    · simp
theorem kp_check_prices (H : H60 G) : Keeps G b_check_prices 2 sp_check_prices := by
  rintro ds S Q ⟨⟨x, R, ps⟩, rfl, ⟨h, hR, hp⟩, q⟩
  dsimp only at *
  refine ss_expr Kx.refl (Ev.call H.check_roll (x, R) (EvL.cons (Ev.var rfl) EvL.nil) fun _ k => h.ks k) fun S1 k1 => ?_
  refine ss_ifF k1 ?_ fun S2 k2 => ss_ifF (k1.trans k2) ?_ fun S3 k3 => st_nil (q S3 ((k1.trans k2).trans k3))
  · refine Ev.conv (Ev.gtI (Ev.lenT (Ev.get H.Roll_guards (Ev.var rfl) h)) (Ev.glob H.g8)) ?_
    rw [List.length_map, decide_eq_false]
    have := hR.lg.2
    omega
  · exact Ev.conv (Ev.not (Ev.call H.are_prices_of (x, R, ps) (EvL.cons (Ev.var rfl) (EvL.cons (Ev.var rfl) EvL.nil)) fun _ k => ⟨h.ks k, hR, hp⟩)) rfl
theorem kp_is_bond_of (H : H60 G) : Keeps G b_is_bond_of 3 sp_is_bond_of := by
  rintro ds S Q ⟨⟨x, gs, p⟩, rfl, ⟨h, h1, h2, h3⟩, q⟩
  dsimp only at *
  refine (ss_ifF Kx.refl ?_ fun S1 k1 => ?_)
  · refine Ev.conv (Ev.or (p := false) (Ev.isbT (p := true) (Ev.var rfl)).not fun _ => Ev.or (p := false) (Ev.conv (Ev.neI (Ev.lenT (xs := [.str p.1, .str p.2]) (Ev.var rfl)) Ev.cst) rfl) (q := false) fun _ => ?_) rfl
    refine Ev.conv (Ev.not (Ev.all_ (l := [true, true]) (Ev.conv (Ev.comp (l := [p.1, p.2]) (enc := D.str) (f := fun _ => .bl true) H.mono (EvS.ofT (Ev.var rfl)) (line1 (by simp)) (fun _ _ => TgOk.name) fun z hz => ?_) rfl))) rfl
    exact Ev.isbS (p := true) (Ev.var rfl)
  · refine ss_ret k1 (v := .bl true) ?_ fun S2 k2 => q S2 (k1.trans k2)
    have e1 : Ev G (.ix (.var 1) (.cst (.int 0))) (r0 3 [x, pD p]) S (.str p.1) := Ev.ixT (xs := [.str p.1, .str p.2]) (Ev.var rfl) Ev.cst rfl
    have e2 : Ev G (.ix (.var 1) (.cst (.int 1))) (r0 3 [x, pD p]) S (.str p.2) := Ev.ixT (xs := [.str p.1, .str p.2]) (Ev.var rfl) Ev.cst rfl
    refine Ev.conv (Ev.and (e1.inV (pr := p.1 ∈ gs) (Ev.var rfl) h (pl_str 6) (pl_map fun _ => pl_str 5) (mem_inj str_inj)) fun _ => Ev.and (e2.inV (pr := p.2 ∈ gs) (Ev.var rfl) h (pl_str 6) (pl_map fun _ => pl_str 5) (mem_inj str_inj)) fun _ => e1.neS e2) ?_
    simp [h1, h2, h3]
end Dz60
/-! K60m: plain mathematics. -/
namespace Dz60
open PySem PySem.Spec PyProof.Rows L2 Dz

/-! ### places in a list -/
theorem idx_ne {α : Type} [DecidableEq α] {l : List α} {a b : α} (h : b ≠ a) : (b :: l).idxOf a = l.idxOf a + 1 := by
  rw [List.idxOf_cons, beq_eq_false_iff_ne.mpr h]
  rfl
theorem idx_get {α : Type} [DecidableEq α] : ∀ {l : List α} {a : α}, a ∈ l → l[l.idxOf a]? = some a ∧ ∀ k, k < l.idxOf a → l[k]? ≠ some a
  | [], _, h => by cases h
  | b :: l, a, h => by
    by_cases e : b = a
    · subst e
      rw [List.idxOf_cons_self]
      exact ⟨rfl, fun k hk => by omega⟩
    · have h' : a ∈ l := by
        rcases List.mem_cons.mp h with z | z
        · exact absurd z.symm e
        · exact z
      obtain ⟨h1, h2⟩ := idx_get h'
      rw [idx_ne e]
      refine ⟨by simpa using h1, fun k hk => ?_⟩
      cases k with
      | zero => simp [e]
      | succ k => simpa using h2 k (by omega)
theorem idx_inj {α : Type} [DecidableEq α] {l : List α} {a b : α} (ha : a ∈ l) (hb : b ∈ l) (h : l.idxOf a = l.idxOf b) : a = b := by
  have h1 := (idx_get ha).1
  have h2 := (idx_get hb).1
  rw [h, h2] at h1
  exact (Option.some.inj h1).symm
theorem idx_sub {α : Type} [DecidableEq α] : ∀ {gs : List α} {a o : α} {t : List α}, (a :: t).Sublist gs → gs.Nodup → o ∈ t → gs.idxOf a < gs.idxOf o
  | [], _, _, _, h, _, _ => by cases h
  | g :: gs, a, o, t, h, nd, ho => by
    have hg := List.nodup_cons.mp nd
    cases h with
    | cons _ h =>
      have ha : a ∈ gs := h.subset (by simp)
      have ho' : o ∈ gs := h.subset (by simp [ho])
      rw [idx_ne (fun e => hg.1 (by rw [e]; exact ha)), idx_ne (fun e => hg.1 (by rw [e]; exact ho'))]
      have := idx_sub h hg.2 ho
      omega
    | cons_cons _ h =>
      have ho' : o ∈ gs := h.subset ho
      rw [List.idxOf_cons_self, idx_ne (fun e => hg.1 (by rw [e]; exact ho'))]
      omega
/-! ### pairs -/
theorem swp_swp (p : Pr) : swp (swp p) = p := rfl
theorem pairOf_or (gs : List Str) (p : Pr) : pairOf gs p = p ∨ pairOf gs p = swp p := by
  unfold pairOf
  split
  · exact .inl rfl
  · exact .inr rfl
theorem pairOf_swp {gs : List Str} {p : Pr} (h1 : p.1 ∈ gs) (h2 : p.2 ∈ gs) (h3 : p.1 ≠ p.2) : pairOf gs (swp p) = pairOf gs p := by
  unfold pairOf swp
  have n : gs.idxOf p.1 ≠ gs.idxOf p.2 := fun e => h3 (idx_inj h1 h2 e)
  dsimp only
  by_cases a : gs.idxOf p.1 ≤ gs.idxOf p.2
  · rw [if_pos a, if_neg (by omega)]
  · rw [if_neg a, if_pos (by omega)]
theorem mem_pairsOf {gs : List Str} {bs : List Pr} {p : Pr} : p ∈ pairsOf gs bs ↔ ∃ b ∈ bs, pairOf gs b = p := by
  unfold pairsOf
  rw [mem_srtP, List.mem_map]
theorem pairsOf_len {gs : List Str} {bs : List Pr} : (pairsOf gs bs).length = bs.length := by
  unfold pairsOf
  rw [(srtP_perm _).length_eq, List.length_map]
theorem pairsOf_nodup {gs : List Str} {bs : List Pr} (h : BondsOk gs bs) : (pairsOf gs bs).Nodup := by
  unfold pairsOf
  refine (srtP_perm _).nodup_iff.mpr ?_
  unfold List.Nodup
  rw [List.pairwise_map]
  refine h.diff.imp fun {a b} hab e => ?_
  rcases pairOf_or gs a with x | x <;> rcases pairOf_or gs b with y | y <;> rw [x, y] at e
  · exact hab.1 e
  · exact hab.2 e
  · exact hab.2 (by rw [← e]; rfl)
  · exact hab.1 (by rw [← swp_swp a, e]; rfl)
theorem pairsOf_ends {gs : List Str} {bs : List Pr} (h : BondsOk gs bs) : ∀ p ∈ pairsOf gs bs, p.1 ∈ gs ∧ p.2 ∈ gs ∧ p.1 ≠ p.2 := fun p hp => by
  obtain ⟨b, hb, e⟩ := mem_pairsOf.mp hp
  have := h.ends b hb
  rcases pairOf_or gs b with x | x <;> rw [x] at e <;> subst e
  · exact this
  · exact ⟨this.2.1, this.1, this.2.2.symm⟩
theorem pairOf_id {gs : List Str} {bs : List Pr} (h : BondsOk gs bs) : ∀ p ∈ pairsOf gs bs, pairOf gs p = p := fun p hp => by
  obtain ⟨b, hb, e⟩ := mem_pairsOf.mp hp
  have hh := h.ends b hb
  rcases pairOf_or gs b with x | x
  · rw [x] at e; subst e; exact x
  · have : p = swp b := by rw [← e, x]
    rw [this, pairOf_swp hh.1 hh.2.1 hh.2.2, x]
/-! ### all pairings -/
structure RwOk (gs : List Str) (ps : List Pr) (i : Nat) (x : Rw) : Prop where
  sub : x.2.Sublist gs
  len : x.2.length + 2 * i = gs.length
  row : x.1.length = i
  mem : ∀ p ∈ x.1, p ∈ ps
theorem filter_ne_len {α : Type} [DecidableEq α] : ∀ {t : List α} {o : α}, t.Nodup → o ∈ t → (t.filter fun z => decide (z ≠ o)).length + 1 = t.length
  | [], _, _, h => by cases h
  | b :: t, o, nd, h => by
    have hb := List.nodup_cons.mp nd
    rw [List.filter_cons]
    by_cases e : b = o
    · subst e
      rw [if_neg (by simp), List.filter_eq_self.mpr fun z hz => by simpa using fun e => hb.1 (by rw [← e]; exact hz), List.length_cons]
    · have h' : o ∈ t := by
        rcases List.mem_cons.mp h with z | z
        · exact absurd z.symm e
        · exact z
      rw [if_pos (by simpa using e), List.length_cons, List.length_cons, filter_ne_len hb.2 h']
theorem mem_stepF {ps : List Pr} {f : List Rw} {y : Rw} : y ∈ stepF ps f ↔ ∃ x ∈ f, ∃ a t o, x.2 = a :: t ∧ o ∈ t ∧ (a, o) ∈ ps ∧ y = (x.1 ++ [(a, o)], t.filter fun z => decide (z ≠ o)) := by
  unfold stepF
  rw [List.mem_flatMap]
  constructor
  · rintro ⟨x, hx, hy⟩
    unfold step1 at hy
    split at hy
    · cases hy
    · rename_i a t e
      obtain ⟨o, ho, rfl⟩ := List.mem_map.mp hy
      rw [List.mem_filter] at ho
      exact ⟨x, hx, a, t, o, e, ho.1, by simpa using ho.2, rfl⟩
  · rintro ⟨x, hx, a, t, o, e, ho, hp, rfl⟩
    refine ⟨x, hx, ?_⟩
    unfold step1
    rw [e]
    exact List.mem_map.mpr ⟨o, List.mem_filter.mpr ⟨ho, by simpa using hp⟩, rfl⟩
theorem iterF_ok {gs : List Str} {ps : List Pr} (nd : gs.Nodup) : ∀ i, ∀ x ∈ iterF ps gs i, RwOk gs ps i x
  | 0, x, h => by
    rw [show x = ([], gs) by simpa [iterF] using h]
    exact ⟨List.Sublist.refl _, by simp, rfl, by simp⟩
  | i + 1, y, h => by
    obtain ⟨x, hx, a, t, o, e, ho, hp, rfl⟩ := mem_stepF.mp (show y ∈ stepF ps (iterF ps gs i) from h)
    have k := iterF_ok nd i x hx
    have ks := k.sub
    rw [e] at ks
    have nt : t.Nodup := (List.nodup_cons.mp (ks.nodup nd)).2
    refine ⟨(List.filter_sublist.trans (List.sublist_cons_self a t)).trans ks, ?_, by simp [k.row], fun p h => ?_⟩
    · have h1 := filter_ne_len nt ho
      have h2 := k.len
      rw [e, List.length_cons] at h2
      dsimp only
      omega
    · rw [List.mem_append, List.mem_singleton] at h
      rcases h with h | h
      · exact k.mem p h
      · rw [h]; exact hp
theorem stepF_len {ps : List Pr} {n : Nat} : ∀ {f : List Rw}, (∀ x ∈ f, x.2.length ≤ n) → (stepF ps f).length ≤ n * f.length
  | [], _ => by simp [stepF]
  | x :: f, h => by
    have h1 := stepF_len (ps := ps) (f := f) fun y hy => h y (by simp [hy])
    have e : stepF ps (x :: f) = step1 ps x ++ stepF ps f := List.flatMap_cons
    rw [e, List.length_append, List.length_cons, Nat.mul_succ]
    have hx := h x (by simp)
    have : (step1 ps x).length ≤ n := by
      unfold step1
      split
      · simp
      · rename_i a t e
        rw [List.length_map]
        rw [e, List.length_cons] at hx
        exact Nat.le_trans (List.length_filter_le _ _) (by omega)
    omega
theorem iterF_len {gs : List Str} {ps : List Pr} (nd : gs.Nodup) (h8 : gs.length ≤ 8) : ∀ i, (iterF ps gs i).length ≤ 8 ^ i
  | 0 => by simp [iterF]
  | i + 1 => by
    have h := stepF_len (ps := ps) (n := 8) (f := iterF ps gs i) fun x hx => by
      have := (iterF_ok (ps := ps) nd i x hx).len
      omega
    have ih := iterF_len (ps := ps) nd h8 i
    show (stepF ps (iterF ps gs i)).length ≤ 8 ^ (i + 1)
    rw [Nat.pow_succ, Nat.mul_comm]
    exact Nat.le_trans h (Nat.mul_le_mul_left 8 ih)
theorem filter_erase {α : Type} [DecidableEq α] {t : List α} {o : α} (nd : t.Nodup) : (t.filter fun z => decide (z ≠ o)) = t.erase o := by
  rw [List.Nodup.erase_eq_filter nd]
  congr 1
  funext z
  rw [Bool.eq_iff_iff]
  simp
theorem iterF_full {gs : List Str} {bs : List Pr} (h : LoreOk gs bs) (hp : Perfect gs bs) : ∀ i, 2 * i ≤ gs.length → ∃ x ∈ iterF (pairsOf gs bs) gs i, ∃ M : List Pr, (M.flatMap fun p => [p.1, p.2]).Perm x.2 ∧ ∀ p ∈ M, p ∈ bs ∨ swp p ∈ bs
  | 0, _ => by
    obtain ⟨M, h1, h2⟩ := hp
    exact ⟨([], gs), by simp [iterF], M, h1, h2⟩
  | i + 1, hi => by
    obtain ⟨x, hx, M, h1, h2⟩ := iterF_full h hp i (by omega)
    have k := iterF_ok (ps := pairsOf gs bs) h.nodup i x hx
    cases e : x.2 with
    | nil => have := k.len; rw [e] at this; simp at this; omega
    | cons a t =>
      have ks := k.sub
      rw [e] at ks h1
      have nat_ := ks.nodup h.nodup
      have nt := List.nodup_cons.mp nat_
      have ha : a ∈ M.flatMap fun p => [p.1, p.2] := h1.mem_iff.mpr (by simp)
      obtain ⟨p, hpM, hap⟩ := List.mem_flatMap.mp ha
      obtain ⟨M', hM'⟩ : ∃ M', M.Perm (p :: M') := ⟨M.erase p, List.perm_cons_erase hpM⟩
      have h3 : ((p :: M').flatMap fun p => [p.1, p.2]).Perm (a :: t) := (hM'.symm.flatMap_right _).trans h1
      rw [List.flatMap_cons] at h3
      obtain ⟨o, ho, hao⟩ : ∃ o, ([p.1, p.2] : List Str).Perm [a, o] ∧ ((a, o) = p ∨ (a, o) = swp p) := by
        simp only [List.mem_cons, List.not_mem_nil, or_false] at hap
        rcases hap with z | z
        · exact ⟨p.2, by rw [z], .inl (by rw [z])⟩
        · exact ⟨p.1, by rw [z]; exact List.Perm.swap .., .inr (by rw [z]; rfl)⟩
      have h4 : (o :: M'.flatMap fun p => [p.1, p.2]).Perm t := ((ho.symm.append_right _).trans h3).cons_inv
      have hot : o ∈ t := h4.mem_iff.mp (by simp)
      have hps : (a, o) ∈ pairsOf gs bs := by
        have hlt := idx_sub ks h.nodup hot
        have hid : pairOf gs (a, o) = (a, o) := by
          unfold pairOf
          rw [if_pos (by show gs.idxOf a ≤ gs.idxOf o; omega)]
        have hag : a ∈ gs := ks.subset (by simp)
        have hog : o ∈ gs := ks.subset (by simp [hot])
        have hne : a ≠ o := fun e => nt.1 (by rw [e]; exact hot)
        have hid2 : pairOf gs (swp (a, o)) = (a, o) := by rw [pairOf_swp hag hog hne, hid]
        rw [mem_pairsOf]
        rcases hao with z | z
        · rcases h2 p hpM with y | y
          · exact ⟨p, y, by rw [← z, hid]⟩
          · exact ⟨swp p, y, by rw [← z, hid2]⟩
        · have z2 : p = swp (a, o) := by rw [z]; rfl
          rcases h2 p hpM with y | y
          · exact ⟨p, y, by rw [z2, hid2]⟩
          · exact ⟨swp p, y, by rw [z2]; exact hid⟩
      refine ⟨_, mem_stepF.mpr ⟨x, hx, a, t, o, e, hot, hps, rfl⟩, M', ?_, fun q hq => h2 q (hM'.mem_iff.mpr (by simp [hq]))⟩
      dsimp only
      rw [filter_erase nt.2]
      exact (List.perm_cons_erase hot).symm.trans h4.symm |>.cons_inv.symm
theorem good_of {gs : List Str} {bs : List Pr} (h : LoreOk gs bs) (h8 : gs.length ≤ 8) (hev : gs.length % 2 = 0) (hp : Perfect gs bs) : Good (rollOf gs bs) := by
  refine ⟨h.nodup, hev, ⟨h.lg.1, h8⟩, pairsOf_nodup h.bonds, by show (pairsOf gs bs).length ≤ 200; rw [pairsOf_len]; exact h.lb, fun p hp => ?_, fun e => ?_⟩
  · have := pairsOf_ends h.bonds p hp
    exact ⟨this.1, this.2.1⟩
  · obtain ⟨x, hx, _⟩ := iterF_full h hp (gs.length / 2) (by omega)
    have e' : (iterF (pairsOf gs bs) gs (gs.length / 2)).map (fun x => srtP x.1) = [] := e
    rw [List.map_eq_nil_iff] at e'
    rw [e'] at hx
    cases hx
/-! ### the rows -/
theorem fullR_mem {gs : List Str} {ps : List Pr} (nd : gs.Nodup) {row : List Pr} (h : row ∈ fullR gs ps) : (∀ p ∈ row, p ∈ ps) ∧ row.length = gs.length / 2 := by
  unfold fullR at h
  obtain ⟨x, hx, rfl⟩ := List.mem_map.mp h
  have k := iterF_ok nd _ x hx
  refine ⟨fun p hp => k.mem p (mem_srtP.mp hp), ?_⟩
  rw [(srtP_perm _).length_eq, k.row]
theorem fullR_len {gs : List Str} {ps : List Pr} (nd : gs.Nodup) (h8 : gs.length ≤ 8) : (fullR gs ps).length ≤ 4096 := by
  unfold fullR
  rw [List.length_map]
  have a := iterF_len (ps := ps) nd h8 (gs.length / 2)
  have b : (8 : Nat) ^ (gs.length / 2) ≤ 8 ^ 4 := Nat.pow_le_pow_right (by decide) (by omega)
  exact Nat.le_trans a (Nat.le_trans b (by decide))
theorem iterF_last {gs : List Str} {ps : List Pr} (nd : gs.Nodup) (hev : gs.length % 2 = 0) : ∀ x ∈ iterF ps gs (gs.length / 2), x.2 = [] := fun x hx => by
  have := (iterF_ok nd _ x hx).len
  exact List.eq_nil_of_length_eq_zero (by omega)
/-! ### prices -/
theorem lookD_zip {p : Pr} : ∀ {ps : List Pr} {prices : List Int}, prices.length = ps.length → p ∈ ps → lookD ((ps.map pD).zip (prices.map D.int)) (pD p) = some (.int (priceOf ps prices p))
  | [], _, _, h => by cases h
  | _ :: _, [], h, _ => by simp at h
  | q :: ps, z :: prices, hl, h => by
    unfold lookD priceOf
    rw [List.map_cons, List.map_cons, List.zip_cons_cons, List.zip_cons_cons, List.find?_cons, List.lookup_cons]
    by_cases e : q = p
    · subst e
      simp
    · have h' : p ∈ ps := by
        rcases List.mem_cons.mp h with w | w
        · exact absurd w.symm e
        · exact w
      have ih := lookD_zip (ps := ps) (prices := prices) (by simpa using hl) h'
      unfold lookD priceOf at ih
      rw [show decide (pD q = pD p) = false from decide_eq_false fun w => e (pD_inj _ _ w), show (p == q) = false from beq_eq_false_iff_ne.mpr (Ne.symm e)]
      exact ih
/-! ### the least -/
theorem least_mem {α : Type} {F : List α} {c : α → Int} {m : Int} (h1 : m ∈ F.map c) (h2 : ∀ y ∈ F.map c, m ≤ y) : least F c = m := by
  unfold least
  rw [List.min?_eq_some_iff.mpr ⟨h1, h2⟩]
  rfl
theorem least_ex {α : Type} {c : α → Int} : ∀ {F : List α}, F ≠ [] → ∃ m ∈ F.map c, ∀ y ∈ F.map c, m ≤ y
  | [], h => absurd rfl h
  | [a], _ => ⟨c a, by simp, by simp⟩
  | a :: b :: F, _ => by
    obtain ⟨m, h1, h2⟩ := least_ex (c := c) (F := b :: F) (by simp)
    by_cases h : c a ≤ m
    · refine ⟨c a, by simp, fun y hy => ?_⟩
      rw [List.map_cons, List.mem_cons] at hy
      rcases hy with rfl | hy
      · exact Int.le_refl _
      · exact Int.le_trans h (h2 y hy)
    · refine ⟨m, by rw [List.map_cons]; exact List.mem_cons_of_mem _ h1, fun y hy => ?_⟩
      rw [List.map_cons, List.mem_cons] at hy
      rcases hy with rfl | hy
      · omega
      · exact h2 y hy
theorem least_spec {α : Type} {F : List α} {c : α → Int} (h : F ≠ []) : least F c ∈ F.map c ∧ ∀ y ∈ F.map c, least F c ≤ y := by
  obtain ⟨m, h1, h2⟩ := least_ex (c := c) h
  rw [least_mem h1 h2]
  exact ⟨h1, h2⟩
theorem least_perm {α : Type} {F F' : List α} {c : α → Int} (h : F ≠ []) (p : F'.Perm F) : least F' c = least F c := by
  obtain ⟨h1, h2⟩ := least_spec (c := c) h
  exact least_mem ((p.map c).mem_iff.mpr h1) fun y hy => h2 y ((p.map c).mem_iff.mp hy)
end Dz60
/-! K60f: all pairings, prices. -/
namespace Dz60
open PySem PySem.Spec PyProof.Rows L2 Dz
variable {G : Sg}
theorem Ev.dzip {a b : E} {r : Rho} {S : Sto} {x : D} {xs ys : List D} (ha : Ev G a r S x) (hb : Ev G b r S (.tup ys)) (hx : itemsD S x = some xs) (hl : xs.length = ys.length) (hk : ∀ z ∈ xs, isKey true z = true) (hn : xs.Nodup) : Ev G (.dzip a b) r S (.dic true (xs.zip ys)) := fun S1 k Q q => by
  rw [wE]
  exact ha S1 k _ fun S2 k2 => hb S2 (k.trans k2) _ fun S3 k3 => ⟨xs, ys, items_ks ((k.trans k2).trans k3) hx, rfl, hl, hk, hn, q _ (k2.trans k3)⟩
theorem Ev.pair {es : Es} {r : Rho} {S : Sto} {gs : List Str} {p : Pr} (h : G.fn "pair_of" = some spPair) (ha : EvL G es r S [nD gs, pD p]) (h1 : p.1 ∈ gs) (h2 : p.2 ∈ gs) : Ev G (.call "pair_of" es) r S (pD (pairOf gs p)) := fun S1 k Q q => by
  rw [wE]
  refine ⟨_, h, ha S1 k _ fun S2 k2 => ?_⟩
  have key : ∀ {x : Str}, x ∈ gs → (gs.map D.str)[gs.idxOf x]? = some (.str x) ∧ ∀ k, k < gs.idxOf x → (gs.map D.str)[k]? ≠ some (.str x) := fun {x} hx => by
    obtain ⟨e1, e2⟩ := idx_get hx
    refine ⟨by rw [List.getElem?_map, e1]; rfl, fun k hk e => e2 k hk ?_⟩
    rw [List.getElem?_map] at e
    cases z : gs[k]? with
    | none => rw [z] at e; cases e
    | some y => rw [z] at e; cases e; rfl
  refine ⟨gs.map D.str, .str p.1, .str p.2, gs.idxOf p.1, gs.idxOf p.2, rfl, key h1, key h2, pl_str 5, pl_str 5, pl_map fun _ => pl_str 5, ?_⟩
  have e : (D.tup (if gs.idxOf p.1 ≤ gs.idxOf p.2 then [.str p.1, .str p.2] else [.str p.2, .str p.1])) = pD (pairOf gs p) := by
    unfold pairOf
    split <;> rfl
  rw [e]
  exact q _ k2
theorem kp_price_by (H : H60 G) : Keeps G b_price_by 2 sp_price_by := by
  rintro ds S Q ⟨⟨x, R, ps⟩, rfl, ⟨h, hR, hp⟩, q⟩
  dsimp only at *
  refine ss_ret Kx.refl (Ev.dzip (xs := R.ps.map pD) (Ev.get H.Roll_pairs (Ev.var rfl) h) (Ev.var rfl) rfl ?_ (fun z hz => ?_) ?_) q
  · rw [List.length_map, List.length_map, hp.len]
  · obtain ⟨p, _, rfl⟩ := List.mem_map.mp hz
    rfl
  · exact nodup_map pD_inj hR.pn
theorem priced {e : E} {r : Rho} {S : Sto} {ps : List Pr} {prices : List Int} {row : List Pr} (hG : MonoG' G) (h : Ev G (.var 3) r S (priceD ps prices)) (hr : Ev G e r S (rD row)) (h4 : 4 < r.length) (hl : prices.length = ps.length) (hm : ∀ p ∈ row, p ∈ ps) (hz : row.length ≤ 100) (h3 : r[3]? = some (some (priceD ps prices))) :
    Ev G (.bi .sum false (.cons false (.comp false [4] (.name 4) (.ix (.var 3) (.var 4)) .no (.of e)) .nil)) r S (.int (costR ps prices row)) := by
  refine Ev.sum (l := row.map (priceOf ps prices)) (Ev.conv (Ev.comp (l := row) (enc := pD) (f := fun p => .int (priceOf ps prices p)) hG (EvS.ofT hr) (line1 (by omega)) (fun _ _ => TgOk.name) fun p hp => ?_) ?_)
  · refine Ev.ixD (t := true) (kvs := (ps.map pD).zip (prices.map D.int)) (y := pD p) (Ev.var ?_) (Ev.var ?_) rfl (lookD_zip hl (hm p hp))
    · rw [List.getElem?_set_ne (by decide)]
      show (r.set 4 none)[3]? = _
      rw [List.getElem?_set_ne (by decide), h3]
      rfl
    · rw [List.getElem?_set_self]
      show 4 < (r.set 4 none).length
      rw [List.length_set]
      exact h4
  · rw [List.map_map]
    rfl
theorem kp_cost_of (H : H60 G) : Keeps G b_cost_of 5 sp_cost_of := by
  rintro ds S Q ⟨⟨⟨x, R, ps⟩, row⟩, rfl, ⟨h, hR, hp, hm, hl⟩, q⟩
  dsimp only at *
  refine ss_set Kx.refl (Ev.call H.price_by (x, R, ps) (EvL.cons (Ev.var rfl) (EvL.cons (Ev.var rfl) EvL.nil)) fun _ k => ⟨h.ks k, hR, hp⟩) fun S1 k1 => ?_
  exact ss_ret k1 (priced (r := [some x, some (iD ps), some (rD row), some (priceD R.ps ps), none]) H.mono (Ev.var rfl) (Ev.var rfl) (by simp) hp.len hm hl rfl) fun S2 k2 => q S2 (k1.trans k2)
theorem kp_law_pair : Keeps G b_law_pair 3 sp_law_pair := by
  rintro ds S Q ⟨⟨gs, bs, p⟩, rfl, ⟨h1, h2, h3⟩, q⟩
  dsimp only at *
  have key : ∀ {x : Str}, x ∈ gs → (gs.map D.str)[gs.idxOf x]? = some (.str x) ∧ ∀ k, k < gs.idxOf x → (gs.map D.str)[k]? ≠ some (.str x) := fun {x} hx => by
    obtain ⟨e1, e2⟩ := idx_get hx
    refine ⟨by rw [List.getElem?_map, e1]; rfl, fun k hk e => e2 k hk ?_⟩
    rw [List.getElem?_map] at e
    cases z : gs[k]? with
    | none => rw [z] at e; cases e
    | some y => rw [z] at e; cases e; rfl
  have hg : Ev G (.ix (.var 0) (.cst (.str "guards"))) (r0 3 [loreD gs bs, .str p.1, .str p.2]) S (nD gs) := Ev.ixD (t := false) (kvs := [(.str "guards", nD gs), (.str "bonds", rD bs)]) (y := .str "guards") (Ev.var rfl) Ev.cst rfl (by simp [lookD])
  refine ss_ret Kx.refl (Ev.conv (Ev.ite (Ev.ltI (Ev.index hg (Ev.var rfl) (.inr rfl) (pl_str 6) (pl_map fun _ => pl_str 5) (key h1).1 (key h1).2) (Ev.index hg (Ev.var rfl) (.inr rfl) (pl_str 6) (pl_map fun _ => pl_str 5) (key h2).1 (key h2).2))
    (fun _ => Ev.tup (EvL.cons (Ev.var rfl) (EvL.cons (Ev.var rfl) EvL.nil)) (line1 (by simp))) (fun _ => Ev.tup (EvL.cons (Ev.var rfl) (EvL.cons (Ev.var rfl) EvL.nil)) (line1 (by simp)))) ?_) q
  have n : gs.idxOf p.1 ≠ gs.idxOf p.2 := fun e => h3 (idx_inj h1 h2 e)
  unfold pairOf
  by_cases a : gs.idxOf p.1 < gs.idxOf p.2
  · rw [if_pos (by simpa using a), if_pos (by omega)]; rfl
  · rw [if_neg (by simpa using a), if_neg (by omega)]; rfl
theorem loreB {gs : List Str} {bs : List Pr} {r : Rho} {S : Sto} {n : Nat} (h : r[n]? = some (some (loreD gs bs))) : Ev G (.ix (.var n) (.cst (.str "bonds"))) r S (rD bs) :=
  Ev.ixD (t := false) (kvs := [(.str "guards", nD gs), (.str "bonds", rD bs)]) (y := .str "bonds") (Ev.var h) Ev.cst rfl (by
    have e : ¬ (("guards" : Str) = "bonds") := by decide +kernel
    simp [lookD, e])
theorem loreG {gs : List Str} {bs : List Pr} {r : Rho} {S : Sto} {n : Nat} (h : r[n]? = some (some (loreD gs bs))) : Ev G (.ix (.var n) (.cst (.str "guards"))) r S (nD gs) :=
  Ev.ixD (t := false) (kvs := [(.str "guards", nD gs), (.str "bonds", rD bs)]) (y := .str "guards") (Ev.var h) Ev.cst rfl (by simp [lookD])
theorem kp_law_pairs (H : H60 G) : Keeps G b_law_pairs 3 sp_law_pairs := by
  rintro ds S Q ⟨⟨gs, bs⟩, rfl, h, q⟩
  dsimp only at *
  refine ss_ret Kx.refl (Ev.conv (Ev.sortedL (xs := (bs.map (pairOf gs)).map pD) (Ev.conv (Ev.comp (l := bs) (enc := pD) (f := fun p => pD (pairOf gs p)) (r1 := fun p => [some (loreD gs bs), some (.str p.1), some (.str p.2)]) H.mono (EvS.ofT (loreB rfl)) (line1 (by have := h.lb; omega)) (fun p hp => TgOk.two (.inl rfl)) fun p hp => ?_) ?_) (srt_p _) ?_) ?_) q
  · have := h.bonds.ends p hp
    exact Ev.call H.law_pair (gs, bs, p) (EvL.cons (Ev.var rfl) (EvL.cons (Ev.var rfl) (EvL.cons (Ev.var rfl) EvL.nil))) fun _ _ => this
  · rw [List.map_map]; rfl
  · rw [List.length_map, List.length_map]; exact line1 (by have := h.lb; omega)
  · rw [srtP_eq]; rfl
theorem kp_law_price (H : H60 G) : Keeps G b_law_price 2 sp_law_price := by
  rintro ds S Q ⟨⟨⟨gs, bs⟩, ps⟩, rfl, ⟨h, hl⟩, q⟩
  dsimp only at *
  refine ss_ret Kx.refl (Ev.dzip (xs := (pairsOf gs bs).map pD) (Ev.call H.law_pairs (gs, bs) (EvL.cons (Ev.var rfl) EvL.nil) fun _ _ => h) (Ev.var rfl) rfl ?_ (fun z hz => ?_) ?_) q
  · rw [List.length_map, List.length_map, hl, pairsOf_len]
  · obtain ⟨p, _, rfl⟩ := List.mem_map.mp hz
    rfl
  · exact nodup_map pD_inj (pairsOf_nodup h.bonds)
theorem kp_law_cost (H : H60 G) : Keeps G b_law_cost 5 sp_law_cost := by
  rintro ds S Q ⟨⟨⟨⟨gs, bs⟩, ps⟩, row⟩, rfl, ⟨h, hl, hm, hz⟩, q⟩
  dsimp only at *
  refine ss_set Kx.refl (Ev.call H.law_price ((gs, bs), ps) (EvL.cons (Ev.var rfl) (EvL.cons (Ev.var rfl) EvL.nil)) fun _ k => ⟨h, hl⟩) fun S1 k1 => ?_
  exact ss_ret k1 (priced (r := [some (loreD gs bs), some (iD ps), some (rD row), some (priceD (pairsOf gs bs) ps), none]) H.mono (Ev.var rfl) (Ev.var rfl) (by simp) (by rw [hl, pairsOf_len]) hm hz rfl) fun S2 k2 => q S2 (k1.trans k2)
end Dz60
/-! Pl4: what is shown by repr has a size. -/
namespace Dz
open PySem PySem.Spec PyProof.Rows L2

/-- it can be shown, in n signs at most -/
def Shn (n : Nat) (d : D) : Prop := PyData.showable (pyOf d) = true ∧ (shD d).length ≤ n
theorem Shn.mono {n m : Nat} {d : D} (h : Shn n d) (k : n ≤ m) : Shn m d := ⟨h.1, Nat.le_trans h.2 k⟩
theorem Shn.non : Shn 4 .non := ⟨rfl, by decide +kernel⟩
theorem Shn.int {i : Int} (h : i.natAbs.log2 < 1920) : Shn 1921 (.int i) := by
  refine ⟨?_, ?_⟩
  · show PyData.showable (.int i) = true
    simp only [PyData.showable, decide_eq_true_eq]
    exact h
  · show (PyData.shown (.int i)).length ≤ 1921
    simp only [PyData.shown]
    exact int_text_len_1921 h
theorem log_lt_of {i : Int} {m : Nat} (h : i.natAbs < 2 ^ m) (hm : 0 < m) : i.natAbs.log2 < m := by
  by_cases z : i.natAbs = 0
  · rw [z]; exact hm
  · rw [Nat.log2_lt z]; exact h
theorem repr_char : ∀ c < 128, (Builtin.Str.reprChar 39 c).length ≤ 4 ∧ (Builtin.Str.reprChar 34 c).length ≤ 4 := by decide +kernel
theorem repr_len {x : Str} (h : ∀ c ∈ cps x, c < 128) : (reprText x).length ≤ 4 * x.length + 2 := by
  have hq : reprQuote x = 39 ∨ reprQuote x = 34 := by
    unfold reprQuote
    split
    · exact .inr rfl
    · exact .inl rfl
  have fold : ∀ (l : List Nat) (acc : Array Nat), (∀ c ∈ l, c < 128) → (l.foldl (fun out c => out ++ (Builtin.Str.reprChar (reprQuote x) c).toArray) acc).size ≤ acc.size + 4 * l.length := by
    intro l
    induction l with
    | nil => intro acc _; exact Nat.le_refl _
    | cons c l ih =>
      intro acc hl
      rw [List.foldl_cons]
      have h1 := ih (acc ++ (Builtin.Str.reprChar (reprQuote x) c).toArray) fun z hz => hl z (List.mem_cons_of_mem _ hz)
      have h2 := repr_char c (hl c (List.mem_cons_self ..))
      have h3 : (Builtin.Str.reprChar (reprQuote x) c).length ≤ 4 := by rcases hq with e | e <;> rw [e] <;> simp [h2]
      have h4 : (acc ++ (Builtin.Str.reprChar (reprQuote x) c).toArray).size = acc.size + (Builtin.Str.reprChar (reprQuote x) c).length := by simp
      rw [h4] at h1
      rw [List.length_cons]
      omega
  unfold reprText
  show (Array.push _ _).size ≤ _
  rw [Array.size_push, ← Array.foldl_toList]
  have := fold x.cps.toList #[reprQuote x] h
  have e : x.cps.toList.length = x.length := cps_len x
  rw [e] at this
  have e2 : (#[reprQuote x] : Array Nat).size = 1 := rfl
  omega
theorem Shn.str {x : Str} (h : ∀ c ∈ cps x, c < 128) : Shn (4 * x.length + 2) (.str x) := by
  refine ⟨?_, ?_⟩
  · show PyData.showable (.str x) = true
    simp only [PyData.showable]
  · show (PyData.shown (.str x)).length ≤ _
    simp only [PyData.shown]
    exact repr_len h
theorem showAll {ds : List D} (h : ∀ d ∈ ds, PyData.showable (pyOf d) = true) : PyData.showableAll (pyAll ds) = true := by
  induction ds with
  | nil => simp [pyAll, PyData.showableAll]
  | cons d ds ih =>
    show PyData.showableAll (pyOf d :: pyAll ds) = true
    rw [PyData.showableAll, h d (by simp), ih fun e he => h e (by simp [he])]
    rfl
theorem sumAll {n : Nat} {ds : List D} (h : ∀ d ∈ ds, (shD d).length ≤ n) : ((PyData.shownAll (pyAll ds)).map (·.length)).sum ≤ n * ds.length ∧ (PyData.shownAll (pyAll ds)).length = ds.length := by
  induction ds with
  | nil => simp [pyAll, PyData.shownAll]
  | cons d ds ih =>
    obtain ⟨h1, h2⟩ := ih fun e he => h e (by simp [he])
    have h3 := h d (by simp)
    unfold shD at h3
    refine ⟨?_, ?_⟩
    · show ((PyData.shownAll (pyOf d :: pyAll ds)).map (·.length)).sum ≤ _
      rw [PyData.shownAll, List.map_cons, List.sum_cons, List.length_cons, Nat.mul_succ]
      omega
    · show (PyData.shownAll (pyOf d :: pyAll ds)).length = _
      rw [PyData.shownAll, List.length_cons, h2, List.length_cons]
theorem Shn.tup {n : Nat} {ds : List D} (h : ∀ d ∈ ds, Shn n d) : Shn ((n + 2) * ds.length + 4) (.tup ds) := by
  obtain ⟨h1, h2⟩ := sumAll fun d hd => (h d hd).2
  refine ⟨?_, ?_⟩
  · show PyData.showable (.tuple (pyAll ds)) = true
    rw [PyData.showable]
    exact showAll fun d hd => (h d hd).1
  · show (PyData.shown (.tuple (pyAll ds))).length ≤ _
    rw [PyData.shown]
    unfold tupleText
    rw [Str.length_append, Str.length_append]
    have h3 := StrLaws.join_length_le (", " : Str) (PyData.shownAll (pyAll ds))
    have e1 : ((", " : Str)).length = 2 := by decide +kernel
    have e2 : (("(" : Str)).length = 1 := by decide +kernel
    have e3 : (((if (PyData.shownAll (pyAll ds)).length == 1 then ",)" else ")" : String) : Str)).length ≤ 2 := by split <;> decide +kernel
    rw [e1, h2] at h3
    rw [e2]
    have e4 : (n + 2) * ds.length = n * ds.length + ds.length * 2 := by rw [Nat.add_mul, Nat.mul_comm 2]
    omega
theorem textFrom_le : ∀ (ts : List Str) (k : Nat) (acc : Str), (textFrom k acc ts).length ≤ acc.length + (ts.map (·.length)).sum + 2 * ts.length
  | [], _, acc => by show acc.length ≤ _; omega
  | t :: ts, k, acc => by
    have h := textFrom_le ts (k + 1) (acc ++ (if k > 0 then ", " else "" : String) ++ t)
    have e3 : (((if k > 0 then ", " else "" : String) : Str)).length ≤ 2 := by split <;> decide +kernel
    rw [Str.length_append, Str.length_append] at h
    rw [List.map_cons, List.sum_cons, List.length_cons]
    show (textFrom (k + 1) (acc ++ (if k > 0 then ", " else "" : String) ++ t) ts).length ≤ _
    omega
theorem Shn.lst {n : Nat} {ds : List D} (h : ∀ d ∈ ds, Shn n d) : Shn ((n + 2) * ds.length + 4) (.lst ds) := by
  obtain ⟨h1, h2⟩ := sumAll fun d hd => (h d hd).2
  refine ⟨?_, ?_⟩
  · show PyData.showable (.list (pyAll ds)) = true
    rw [PyData.showable]
    exact showAll fun d hd => (h d hd).1
  · show (PyData.shown (.list (pyAll ds))).length ≤ _
    rw [PyData.shown]
    unfold listText
    rw [Str.length_append]
    have h3 := textFrom_le (PyData.shownAll (pyAll ds)) 0 ("[" : Str)
    have e2 : (("[" : Str)).length = 1 := by decide +kernel
    have e3 : (("]" : Str)).length = 1 := by decide +kernel
    rw [e2, h2] at h3
    rw [e3]
    have e4 : (n + 2) * ds.length = n * ds.length + 2 * ds.length := by rw [Nat.add_mul]
    omega
section
variable {G : Sg} {r : Rho} {S : Sto} {a b : E} {x y z : D} {n : Nat} {own own2 : Bool}
/-- two things that are the same show the same -/
theorem Ev.reprSame (ha : Ev G a r S x) (hb : Ev G b r S y) (h1 : vw S x = z) (h2 : vw S y = z) (nr : ∀ p, z ≠ .ref p) (p6 : P6 z) (hs : Shn n z) (hn : n ≤ 16777216 := by decide) :
    Ev G (.cmp .NotEq (.bi .repr own (.cons false a .nil)) (.bi .repr own2 (.cons false b .nil))) r S (.bl false) := by
  have hz : (shD z).length ≤ sizeLine := by rw [sizeLine_eq]; have := hs.2; omega
  exact Ev.conv (Ev.neS (Ev.repr ha h1 nr p6 hs.1 hz) (Ev.repr hb h2 nr p6 hs.1 hz)) (by simp)
theorem Ev.reprSameT {xs : List D} (ha : Ev G a r S (.tup xs)) (hb : Ev G b r S (.tup xs)) (p6 : P6 (.tup xs)) (hs : Shn n (.tup xs)) (hn : n ≤ 16777216) :
    Ev G (.cmp .NotEq (.bi .repr own (.cons false a .nil)) (.bi .repr own2 (.cons false b .nil))) r S (.bl false) := Ev.reprSame (z := .tup xs) ha hb rfl rfl (by simp) p6 hs hn
end
end Dz
/-! Pl5: fields stored, methods, things made. -/
namespace Dz
open PySem PySem.Spec PyProof.Rows L2
section
variable {G : Sg} {r : Rho} {S S0 : Sto} {e o a b : E} {es : Es} {v x y : D} {vs xs : List D} {ss : Ss} {Z : Ends'} {c f m : Str} {fs : List (Str × D)} {p : Addr} {Q : DK} {own : Bool}
theorem st_fldset (k : Ks S0 S) (ho : Ev G o r S0 (.ref p)) (hp : S p = some (.ins c fs)) (hl : fs.length < 1000) {R : Rho → Sto → Prop} (q : ∀ S1, Ks S S1 → R r (sup S1 p (.ins c (putFD f v fs)))) : wTg G (.fld c o f) v r S R := by
  rw [wTg]
  exact ho S k _ fun S1 k1 => ⟨p, fs, rfl, k1.get hp, hl, q _ k1⟩
theorem ss_fld (k : Ks S0 S) (he : Ev G e r S0 v) (ho : Ev G o r S0 (.ref p)) (hp : S p = some (.ins c fs)) (hl : fs.length < 1000) (q : ∀ S1, Ks S S1 → wSs G ss Z r (sup S1 p (.ins c (putFD f v fs)))) : wSs G (.cons (.set (.fld c o f) e) ss) Z r S := by
  refine st_cons ?_
  rw [wS]
  exact he S k _ fun S1 k1 => st_fldset (S0 := S0) (k.trans k1) ho (k1.get hp) hl fun S2 k2 => q _ (k1.trans k2)
/-- self.f = [] -/
theorem ss_fldn (k : Ks S0 S) (ho : Ev G o r S0 (.ref p)) (hp : S p = some (.ins c fs)) (hl : fs.length < 1000) (q : ∀ S1 l S2, Ks S S1 → S1 l = none → Ks (sup S1 l (.lst [])) S2 → wSs G ss Z r (sup S2 p (.ins c (putFD f (.ref l) fs)))) : wSs G (.cons (.set (.fld c o f) (.lst true .nil)) ss) Z r S := by
  refine st_cons ?_
  rw [wS, wE, wEs]
  refine st_finLo (Nat.zero_le _) fun l hl0 => ?_
  exact st_fldset (S0 := S0) (k.trans (Ks.new hl0)) ho ((Ks.new hl0).get hp) hl fun S2 k2 => q S l S2 Kx.refl hl0 k2
theorem ss_appE {l : Addr} (k : Ks S0 S) (ho : Ev G o r S0 (.ref l)) (hS : S l = some (.lst xs)) (hl : xs.length < sizeLine) (h : Ev G e r S0 v) (q : ∀ S1, Ks S S1 → wSs G ss Z r (sup S1 l (.lst (xs ++ [v])))) :
    wSs G (.cons (.expr (.bm .append own o (.cons false e .nil))) ss) Z r S := by
  refine st_cons ?_
  rw [wS, wE]
  refine ho S k _ fun S1 k1 => ⟨⟨"list", by rw [vw_lst' (k1.get hS)]; rfl⟩, ?_⟩
  refine EvL.cons h EvL.nil S1 (k.trans k1) _ fun S2 k2 => ⟨l, xs, rfl, (k1.trans k2).get hS, hl, ?_⟩
  exact q _ (k1.trans k2)
theorem meth_at {sp : DSp} (h : G.mt c m = some sp) (k : Ks S0 S) (ho : Ev G o r S0 x) (hx : vw S0 x = .ins c fs) (hm : fs.lookup m = none) (ha : EvL G es r S0 vs) (q : ∀ S1, Ks S S1 → sp (x :: vs) S1 Q) : wE G (.meth c o m es) r S Q := by
  rw [wE]
  exact ⟨_, h, ho S k _ fun S1 k1 => ⟨⟨fs, vw_ks (k.trans k1) hx (by simp), hm⟩, ha S1 (k.trans k1) _ fun S2 k2 => q _ (k1.trans k2)⟩⟩
theorem mk_at {sp : DSp} (h : G.mk0 c = some sp) (k : Ks S0 S) (ha : EvL G es r S0 vs) (q : ∀ S1 p, Ks S S1 → S1 p = none → sp (.ref p :: vs) (sup S1 p (.ins c [])) fun d S2 => d = .non ∧ Q (.ref p) S2) : wE G (.mk c es) r S Q := by
  rw [wE]
  exact ⟨_, h, ha S k _ fun S1 k1 => fun p hp => q S1 p k1 hp⟩
theorem call_at {sp : DSp} (h : G.fn f = some sp) (k : Ks S0 S) (ha : EvL G es r S0 vs) (q : ∀ S1, Ks S S1 → sp vs S1 Q) : wE G (.call f es) r S Q := by
  rw [wE]
  exact ⟨_, h, ha S k _ fun S1 k1 => q S1 k1⟩
/-- x = e, e any -/
theorem ss_setE {n : Nat} (h : wE G e r S fun d S1 => wSs G ss Z (r.set n (some d)) S1) : wSs G (.cons (.set (.name n) e) ss) Z r S := by
  refine st_cons ?_
  rw [wS]
  have e1 : (fun d S1 => wTg G (.name n) d r S1 { nx := wSs G ss Z, rt := Z.rt, bk := Z.bk, ct := Z.ct : Ends' }.nx) = fun d S1 => wSs G ss Z (r.set n (some d)) S1 := by
    funext d S1
    rw [wTg]
  rw [e1]
  exact h
theorem ss_retE (h : wE G e r S Z.rt) : wSs G (.cons (.ret e) ss) Z r S := by
  refine st_cons ?_
  rw [wS]
  exact h
end
/-! ### texts joined and split -/
theorem join_two (y a b : Str) : Txt.join y [a, b] = a ++ y ++ b := by
  rw [TL.join_eq]
  rfl
theorem split_of {y : Str} {s : Nat} (ey : cps y = [s]) (hs : s < 256) {parts : List Str} (hne : parts ≠ []) (hp : ∀ p ∈ parts, s ∉ cps p) : Txt.split (Txt.join y parts) y = parts := by
  refine TL.split_join (y := y) (s := s) (S := []) ey ?_ hne hp
  rw [← Array.all_toList]
  show (cps y).all _ = true
  rw [ey]
  simp [hs]
end Dz
/-! K60e: the reader, a roll made of its text. -/
namespace Dz60
open PySem PySem.Spec PyProof.Rows L2 Dz
variable {G : Sg}
def rdF (l1 l2 : Addr) : List (Str × D) := [("own_guards", .ref l1), ("own_bonds", .ref l2)]
theorem rd1 (l1 l2 : Addr) : (rdF l1 l2).lookup ("own_guards" : Str) = some (.ref l1) := by
  unfold rdF
  rw [List.lookup_cons, show (("own_guards" : Str) == "own_guards") = true by decide +kernel]
theorem rd2 (l1 l2 : Addr) : (rdF l1 l2).lookup ("own_bonds" : Str) = some (.ref l2) := by
  unfold rdF
  rw [List.lookup_cons, show (("own_bonds" : Str) == "own_guards") = false by decide +kernel, List.lookup_cons, show (("own_bonds" : Str) == "own_bonds") = true by decide +kernel]
theorem rdN {m : Str} (h1 : (m == ("own_guards" : Str)) = false) (h2 : (m == ("own_bonds" : Str)) = false) (l1 l2 : Addr) : (rdF l1 l2).lookup m = none := by
  unfold rdF
  rw [List.lookup_cons, h1, List.lookup_cons, h2]
  rfl
theorem RdAt.ks {S S' : Sto} {p l1 l2 : Addr} {gs : List Str} {bs : List Pr} (h : RdAt S p l1 l2 gs bs) (k : Ks S S') : RdAt S' p l1 l2 gs bs := ⟨k.get h.1, k.get h.2.1, k.get h.2.2.1, h.2.2.2⟩
theorem kp_Reader_init : Keeps G b_Reader_init 1 sp_Reader_init := by
  rintro ds S Q ⟨p, rfl, hp, q⟩
  refine ss_fldn (S0 := S) (c := "Reader") (fs := []) Kx.refl (Ev.var rfl) hp (by decide) fun S1 l1 S2 k1 h1 k2 => ?_
  have hpl1 : p ≠ l1 := ne_new (k1.get hp) h1
  have hp2 : S2 p = some (.ins "Reader" []) := k2.get (by rw [sup_ne hpl1]; exact k1.get hp)
  refine ss_fldn (S0 := sup S2 p (.ins "Reader" (putFD "own_guards" (.ref l1) []))) (c := "Reader") Kx.refl (Ev.var rfl) sup_same (by show 1 < 1000; decide) fun S3 l2 S4 k3 h3 k4 => ?_
  have hl1 : S2 l1 = some (.lst []) := k2.get sup_same
  have hl13 : S3 l1 = some (.lst []) := k3.get (by rw [sup_ne (Ne.symm hpl1)]; exact hl1)
  have hl12 : l1 ≠ l2 := ne_new hl13 h3
  have hpl2 : p ≠ l2 := ne_new (k3.get sup_same) h3
  have hs2 : S l1 = none := by
    cases e : S l1 with
    | none => rfl
    | some o => rw [k1.get e] at h1; cases h1
  have kS2 : Kx [p] S (sup S2 p (.ins "Reader" (putFD "own_guards" (.ref l1) []))) := (((Ks.up k1).trans (Kx.new h1)).trans (Ks.up k2)).trans (Kx.sup (by simp))
  refine st_nil (q _ l1 l2 ⟨?_, ?_, ?_, hl12⟩ hs2 ?_ ?_)
  · rw [sup_same]
    have e : putFD "own_bonds" (.ref l2) (putFD "own_guards" (.ref l1) []) = rdF l1 l2 := by
      show putFD ("own_bonds" : Str) (.ref l2) [(("own_guards" : Str), D.ref l1)] = _
      unfold putFD
      rw [if_neg (show ¬ (("own_guards" : Str) = "own_bonds") by decide +kernel)]
      rfl
    rw [e]
    rfl
  · rw [sup_ne (Ne.symm hpl1)]
    exact k4.get (by rw [sup_ne hl12]; exact hl13)
  · rw [sup_ne (Ne.symm hpl2)]
    exact k4.get sup_same
  · cases e : S l2 with
    | none => rfl
    | some o =>
      have : l2 ∉ [p] := by simpa using Ne.symm hpl2
      have := k3.get (kS2.getN e this)
      rw [h3] at this; cases this
  · exact ((kS2.trans (Ks.up k3)).trans (Kx.new h3)).trans ((Ks.up k4).trans (Kx.sup (by simp)))
theorem kp_Reader_takes_guard (H : H60 G) : Keeps G b_Reader_takes_guard 2 sp_Reader_takes_guard := by
  rintro ds S Q ⟨p, l1, l2, gs, bs, x, rfl, h, hx, q⟩
  have hp : vw S (.ref p) = .ins "Reader" (rdF l1 l2) := vw_ins' h.1
  have f1 : Ev G (.fld "Reader" (.var 0) "own_guards") (r0 2 [.ref p, .lst [.str "guard", .str x]]) S (.ref l1) := Ev.fld (Ev.var rfl) hp (rd1 l1 l2)
  have f2 : Ev G (.fld "Reader" (.var 0) "own_bonds") (r0 2 [.ref p, .lst [.str "guard", .str x]]) S (.ref l2) := Ev.fld (Ev.var rfl) hp (rd2 l1 l2)
  have w1 : Ev G (.ix (.var 1) (.cst (.int 1))) (r0 2 [.ref p, .lst [.str "guard", .str x]]) S (.str x) := Ev.ixL (xs := [.str "guard", .str x]) (Ev.var rfl) Ev.cst rfl
  refine ss_ifF Kx.refl ?_ fun S1 k1 => ss_ifF k1 ?_ fun S2 k2 => ?_
  · refine Ev.conv (Ev.or (p := false) (Ev.conv (Ev.neI (Ev.lenL (xs := [.str "guard", .str x]) (Ev.var rfl)) Ev.cst) rfl) fun _ => Ev.or (p := false) (Ev.conv (Ev.neV (pr := True) (u := .lst (bs.map pD)) (t := .lst []) f2 (Ev.lst EvL.nil) (vw_lst' h.2.2.1) rfl (by simp) (by simp) (by simp) (pl_lst (pl_map fun _ => pl_p 4)) p6_nilL (by rw [hx.nb]; simp)) (by simp)) fun _ => Ev.eqI (Ev.lenV f1 (vw_lst' h.2.1)) (Ev.glob H.g4)) ?_
    rw [List.length_map, decide_eq_false]
    · rfl
    · have := hx.lt; omega
  · refine Ev.conv (Ev.or (p := false) (Ev.conv (Ev.not (Ev.call H.is_name x (EvL.cons w1 EvL.nil) fun _ _ => hx.nm)) rfl) fun _ => Ev.inV (pr := x ∈ gs) w1 f1 (.inl (vw_lst' h.2.1)) (pl_str 6) (pl_map fun _ => pl_str 5) (mem_inj str_inj)) ?_
    rw [decide_eq_false hx.new]
    rfl
  · have kk := k1.trans k2
    refine ss_appE kk f1 (kk.get h.2.1) ?_ w1 fun S3 k3 => ss_ret (S0 := sup S3 l1 _) (v := .bl true) Kx.refl Ev.cst fun S4 k4 => ?_
    · rw [List.length_map, sizeLine_eq]; have := hx.lt; omega
    · have k' := kk.trans k3
      have n1 : p ≠ l1 := ne_obj h.1 h.2.1 (by simp)
      refine q S4 ⟨k4.get (by rw [sup_ne n1]; exact k'.get h.1), k4.get (by rw [sup_same, List.map_append]; rfl), k4.get (by rw [sup_ne (Ne.symm h.2.2.2)]; exact k'.get h.2.2.1), h.2.2.2⟩ (((Ks.up k').trans (Kx.sup (by simp))).trans (Ks.up k4))
theorem kp_Reader_takes_bond (H : H60 G) : Keeps G b_Reader_takes_bond 3 sp_Reader_takes_bond := by
  rintro ds S Q ⟨p, l1, l2, gs, bs, b, rfl, h, hx, q⟩
  have hp : vw S (.ref p) = .ins "Reader" (rdF l1 l2) := vw_ins' h.1
  refine ss_set (v := pD b) Kx.refl (Ev.conv (Ev.tupleL (Ev.slL (xs := [.str "bond", .str b.1, .str b.2]) (Ev.var rfl) (EvO.yes Ev.cst) EvO.no (line1 (by simp))) (Nat.le_trans cutL_len (line1 (by simp)))) rfl) fun S1 k1 => ?_
  have f1 : Ev G (.fld "Reader" (.var 0) "own_guards") [some (.ref p), some (.lst [.str "bond", .str b.1, .str b.2]), some (pD b)] S (.ref l1) := Ev.fld (Ev.var rfl) hp (rd1 l1 l2)
  have f2 : Ev G (.fld "Reader" (.var 0) "own_bonds") [some (.ref p), some (.lst [.str "bond", .str b.1, .str b.2]), some (pD b)] S (.ref l2) := Ev.fld (Ev.var rfl) hp (rd2 l1 l2)
  refine ss_ifF k1 ?_ fun S2 k2 => ss_ifF (k1.trans k2) ?_ fun S3 k3 => ?_
  · refine Ev.conv (Ev.or (p := false) (Ev.conv (Ev.not (Ev.call H.is_bond_of (.ref l1, gs, b) (EvL.cons f1 (EvL.cons (Ev.var rfl) EvL.nil)) fun _ k => ⟨.inl (vw_lst' (k.get h.2.1)), hx.a, hx.b, hx.ne⟩)) rfl) fun _ => Ev.eqI (Ev.lenV f2 (vw_lst' h.2.2.1)) (Ev.glob H.g5)) ?_
    rw [List.length_map, decide_eq_false]
    · rfl
    · have := hx.lt; omega
  · refine Ev.conv (Ev.or (p := false) (Ev.conv (Ev.inV (pr := b ∈ bs) (x := pD b) (Ev.var rfl) f2 (.inl (vw_lst' h.2.2.1)) (pl_p 5) (pl_map fun _ => pl_p 4) (mem_inj pD_inj)) (by simp [hx.new])) fun _ => Ev.inV (pr := swp b ∈ bs) (x := pD (swp b)) (Ev.revT (xs := [.str b.1, .str b.2]) (Ev.var rfl) (line1 (by simp))) f2 (.inl (vw_lst' h.2.2.1)) (pl_p 5) (pl_map fun _ => pl_p 4) (mem_inj pD_inj)) ?_
    rw [decide_eq_false hx.new2]
    rfl
  · have kk := (k1.trans k2).trans k3
    refine ss_appE kk f2 (kk.get h.2.2.1) ?_ (Ev.var rfl) fun S4 k4 => ss_ret (S0 := sup S4 l2 _) (v := .bl true) Kx.refl Ev.cst fun S5 k5 => ?_
    · rw [List.length_map, sizeLine_eq]; have := hx.lt; omega
    · have k' := kk.trans k4
      have n1 : p ≠ l2 := ne_obj h.1 h.2.2.1 (by simp)
      refine q S5 ⟨k5.get (by rw [sup_ne n1]; exact k'.get h.1), k5.get (by rw [sup_ne h.2.2.2]; exact k'.get h.2.1), k5.get (by rw [sup_same, List.map_append]; rfl), h.2.2.2⟩ (((Ks.up k').trans (Kx.sup (by simp))).trans (Ks.up k5))
theorem kp_Reader_found : Keeps G b_Reader_found 1 sp_Reader_found := by
  rintro ds S Q ⟨⟨p, l1, l2, gs, bs⟩, rfl, ⟨h, hg, hb⟩, q⟩
  dsimp only at *
  have hp : vw S (.ref p) = .ins "Reader" (rdF l1 l2) := vw_ins' h.1
  refine ss_ret Kx.refl (Ev.tup (EvL.cons (Ev.tupleR h.2.1 (Ev.fld (Ev.var rfl) hp (rd1 l1 l2)) (by rw [List.length_map]; exact line1 (by omega))) (EvL.cons (Ev.tupleR h.2.2.1 (Ev.fld (Ev.var rfl) hp (rd2 l1 l2)) (by rw [List.length_map]; exact line1 (by omega))) EvL.nil)) (line1 (by simp))) q
theorem lineG_join (x : Str) : lineG x = Txt.join (" " : Str) [("guard" : Str), x] := by
  rw [join_two]
  refine str_ext ?_
  unfold lineG
  rw [cps_app, cps_app, cps_app, show cps ("guard " : Str) = cps "guard" ++ cps " " by decide +kernel]
theorem blank1 : cps (" " : Str) = [32] := by decide +kernel
theorem split_G {x : Str} (h : IsName x) : Txt.split (lineG x) (" " : Str) = [("guard" : Str), x] := by
  rw [lineG_join]
  refine split_of blank1 (by decide) (by simp) fun p hp => ?_
  simp only [List.mem_cons, List.not_mem_nil, or_false] at hp
  rcases hp with rfl | rfl
  · decide +kernel
  · exact h.blank (by decide)
theorem split_B {p : Pr} (h1 : IsName p.1) (h2 : IsName p.2) : Txt.split (lineB p) (" " : Str) = [("bond" : Str), p.1, p.2] := by
  refine split_of blank1 (by decide) (by simp) fun w hp => ?_
  simp only [List.mem_cons, List.not_mem_nil, or_false] at hp
  rcases hp with rfl | rfl | rfl
  · decide +kernel
  · exact h1.blank (by decide)
  · exact h2.blank (by decide)
theorem lineG_len {x : Str} (h : IsName x) : (lineG x).length ≤ 14 := by
  unfold lineG
  rw [Str.length_append, show ("guard " : Str).length = 6 by decide +kernel]
  have := h.len
  omega
theorem lineB_len {p : Pr} (h1 : IsName p.1) (h2 : IsName p.2) : (lineB p).length ≤ 25 := by
  unfold lineB
  have a := StrLaws.join_length_le (" " : Str) [("bond" : Str), p.1, p.2]
  rw [← TL.join_eq, show (" " : Str).length = 1 by decide +kernel] at a
  simp only [List.map_cons, List.map_nil, List.sum_cons, List.sum_nil, List.length_cons, List.length_nil, show ("bond" : Str).length = 4 by decide +kernel] at a
  have := h1.len
  have := h2.len
  omega
theorem kp_Reader_takes (H : H60 G) : Keeps G b_Reader_takes 3 sp_Reader_takes := by
  rintro ds S Q ⟨p, l1, l2, gs, bs, line, rfl, h, q⟩
  have hp : vw S (.ref p) = .ins "Reader" (rdF l1 l2) := vw_ins' h.1
  have m1 : (rdF l1 l2).lookup ("takes_guard" : Str) = none := rdN (by decide +kernel) (by decide +kernel) _ _
  have m2 : (rdF l1 l2).lookup ("takes_bond" : Str) = none := rdN (by decide +kernel) (by decide +kernel) _ _
  have hb1 : (" " : Str).length ≠ 0 := by decide +kernel
  rcases q with ⟨x, rfl, hx, q⟩ | ⟨b, rfl, hx, q⟩
  · have hl := lineG_len hx.nm
    refine ss_set (v := .lst [.str "guard", .str x]) Kx.refl (Ev.conv (Ev.split (Ev.var rfl) Ev.cst hb1 (by rw [sizeLine_eq]; omega) (by rw [show Txt.split (lineG x) _ = _ from split_G hx.nm]; exact line1 (by simp))) (by rw [show Txt.split (lineG x) _ = _ from split_G hx.nm]; rfl)) fun S1 k1 => ?_
    refine ss_if k1 (p := true) (Ev.conv (Ev.eqS (Ev.ixL (xs := [.str "guard", .str x]) (Ev.var rfl) Ev.cst rfl) (Ev.glob H.g6)) (by simp)) (fun _ S2 k2 => ?_) (fun z => by cases z)
    refine ss_retE (meth_at H.Reader_takes_guard (k1.trans k2) (Ev.var rfl) hp m1 (EvL.cons (Ev.var rfl) EvL.nil) fun S3 k3 => ?_)
    have kk := (k1.trans k2).trans k3
    exact ⟨p, l1, l2, gs, bs, x, rfl, h.ks kk, hx, fun S4 h4 k4 => q S4 h4 ((Ks.up kk).trans k4)⟩
  · have hl := lineB_len hx.n1 hx.n2
    refine ss_set (v := .lst [.str "bond", .str b.1, .str b.2]) Kx.refl (Ev.conv (Ev.split (Ev.var rfl) Ev.cst hb1 (by rw [sizeLine_eq]; omega) (by rw [show Txt.split (lineB b) _ = _ from split_B hx.n1 hx.n2]; exact line1 (by simp))) (by rw [show Txt.split (lineB b) _ = _ from split_B hx.n1 hx.n2]; rfl)) fun S1 k1 => ?_
    refine ss_ifF k1 (Ev.conv (Ev.eqS (Ev.ixL (xs := [.str "bond", .str b.1, .str b.2]) (Ev.var rfl) Ev.cst rfl) (Ev.glob H.g6)) (congrArg D.bl (by decide +kernel))) fun S2 k2 => ?_
    refine ss_retE ?_
    rw [wE]
    refine Ev.use (Ev.eqS (Ev.ixL (xs := [.str "bond", .str b.1, .str b.2]) (Ev.var rfl) Ev.cst rfl) (Ev.glob H.g7)) (k1.trans k2) fun S3 k3 => ⟨true, by simp, ?_⟩
    rw [if_pos rfl]
    refine meth_at H.Reader_takes_bond ((k1.trans k2).trans k3) (Ev.var rfl) hp m2 (EvL.cons (Ev.var rfl) EvL.nil) fun S4 k4 => ?_
    have kk := ((k1.trans k2).trans k3).trans k4
    exact ⟨p, l1, l2, gs, bs, b, rfl, h.ks kk, hx, fun S5 h5 k5 => ⟨true, rfl, q S5 h5 ((Ks.up kk).trans k5)⟩⟩
/-! ### a roll, made of its text -/
theorem lines_ok {gs : List Str} {bs : List Pr} (h : LoreOk gs bs) : ∀ l ∈ gs.map lineG ++ bs.map lineB, l.length ≤ 25 ∧ 10 ∉ cps l := fun l hl => by
  rcases List.mem_append.mp hl with hl | hl
  · obtain ⟨x, hx, rfl⟩ := List.mem_map.mp hl
    have := lineG_len (h.names x hx)
    refine ⟨by omega, ?_⟩
    unfold lineG
    rw [cps_app, List.mem_append]
    rintro (z | z)
    · revert z; decide +kernel
    · exact (h.names x hx).blank (by decide) z
  · obtain ⟨p, hp, rfl⟩ := List.mem_map.mp hl
    have e := h.bonds.ends p hp
    refine ⟨lineB_len (h.names _ e.1) (h.names _ e.2.1), ?_⟩
    unfold lineB
    rw [TL.join_eq]
    show 10 ∉ cps (("bond" : Str) ++ " " ++ (p.1 ++ " " ++ p.2))
    rw [cps_app, cps_app, cps_app, cps_app, List.mem_append, List.mem_append, List.mem_append, List.mem_append]
    have n32 : 10 ∉ cps (" " : Str) := by decide +kernel
    rintro ((z | z) | (z | z) | z)
    · revert z; decide +kernel
    · exact n32 z
    · exact (h.names _ e.1).blank (by decide) z
    · exact n32 z
    · exact (h.names _ e.2.1).blank (by decide) z
theorem nl1 : cps ("\n" : Str) = [10] := by decide +kernel
theorem text_split {gs : List Str} {bs : List Pr} (h : LoreOk gs bs) : Txt.split (textOf gs bs) ("\n" : Str) = gs.map lineG ++ bs.map lineB :=
  split_of nl1 (by decide) (fun e => by
    have a := congrArg List.length e
    rw [List.length_append, List.length_map, List.length_nil] at a
    have b := h.lg
    omega) fun l hl => (lines_ok h l hl).2
theorem lines_num {gs : List Str} {bs : List Pr} (h : LoreOk gs bs) : (gs.map lineG ++ bs.map lineB).length ≤ 224 := by
  rw [List.length_append, List.length_map, List.length_map]
  have := h.lg
  have := h.lb
  omega
theorem sum_le {l : List Str} {n : Nat} (h : ∀ x ∈ l, x.length ≤ n) : (l.map (·.length)).sum ≤ n * l.length := by
  induction l with
  | nil => simp
  | cons x l ih =>
    have h1 := ih fun y hy => h y (by simp [hy])
    have h2 := h x (by simp)
    rw [List.map_cons, List.sum_cons, List.length_cons, Nat.mul_succ]
    omega
theorem text_len {gs : List Str} {bs : List Pr} (h : LoreOk gs bs) : (textOf gs bs).length ≤ 10000 ∧ ((gs.map lineG ++ bs.map lineB).map (·.length)).sum + (gs.map lineG ++ bs.map lineB).length * 1 ≤ 10000 := by
  have a := StrLaws.join_length_le ("\n" : Str) (gs.map lineG ++ bs.map lineB)
  rw [← TL.join_eq, show ("\n" : Str).length = 1 by decide +kernel] at a
  have b := sum_le fun x hx => (lines_ok h x hx).1
  have c := lines_num h
  unfold textOf
  omega
def encL (p : Str × Nat) : D := .utup [.int (p.2 : Nat), .str p.1]
theorem enum_lines (l : List Str) : enumD (l.map D.str) = l.zipIdx.map encL := by
  unfold enumD
  rw [List.zipIdx_map, List.map_map]
  rfl
theorem putFD_len {f : Str} {v : D} : ∀ {fs : List (Str × D)}, (putFD f v fs).length ≤ fs.length + 1
  | [] => Nat.le_refl _
  | (g, w) :: r => by
    unfold putFD
    split
    · simp
    · have := putFD_len (f := f) (v := v) (fs := r)
      rw [List.length_cons, List.length_cons]
      omega
theorem kp_Roll_init (H : H60 G) : Keeps G b_Roll_init 6 sp_Roll_init := by
  rintro ds S Q ⟨p, gs, bs, rfl, hp, hL, q⟩
  have hlg := hL.lg
  have hlb := hL.lb
  have hn1 : ("\n" : Str).length ≠ 0 := by decide +kernel
  have htl := (text_len hL).1
  have hln := lines_num hL
  refine ss_ifF Kx.refl (Ev.conv (Ev.isbS (p := true) (Ev.var rfl)).not rfl) fun S1 k1 => ss_setE (mk_at H.Reader_init k1 EvL.nil fun S2 rd k2 hrd => ⟨rd, rfl, sup_same, fun S3 l1 l2 hR h1 h2 k3 => ⟨rfl, ?_⟩⟩)
  have n1 : l1 ≠ rd := fun e => by rw [e, sup_same] at h1; cases h1
  have n2 : l2 ≠ rd := fun e => by rw [e, sup_same] at h2; cases h2
  rw [sup_ne n1] at h1
  rw [sup_ne n2] at h2
  have kk2 : Ks S S2 := k1.trans k2
  have kk3 : Ks S S3 := Kx.fresh (show S rd = none by
    cases e : S rd with
    | none => rfl
    | some o => rw [kk2.get e] at hrd; cases hrd) ((Ks.up kk2).trans ((Kx.sup (L := [rd]) (by simp)).trans k3))
  have f1 : S l1 = none := by
    cases e : S l1 with
    | none => rfl
    | some o => rw [kk2.get e] at h1; cases h1
  have f2 : S l2 = none := by
    cases e : S l2 with
    | none => rfl
    | some o => rw [kk2.get e] at h2; cases h2
  refine ss_for (S0 := S) H.mono encL (gs.map lineG ++ bs.map lineB).zipIdx kk3 (EvS.conv (EvS.enumL (Ev.conv (Ev.split (Ev.var rfl) Ev.cst hn1 (by rw [sizeLine_eq]; omega) (by rw [show Txt.split (textOf gs bs) _ = _ from text_split hL]; exact line1 (by omega))) (by rw [show Txt.split (textOf gs bs) _ = _ from text_split hL]))) (enum_lines _))
    (fun done todo r S' => ∃ a3 a4, r = [some (.ref p), some (.str (textOf gs bs)), some (.ref rd), a3, a4, none] ∧ RdAt S' rd l1 l2 (gs.take done.length) (bs.take (done.length - gs.length)) ∧ Ks S S') fun g S4 k4 hg => ⟨⟨none, none, rfl, by simpa using hR.ks k4, kk3.trans k4⟩, ?_, ?_⟩
  · rintro r S5 ⟨a3, a4, rfl, hR5, k5⟩
    refine ⟨hg S5 k5, ?_⟩
    rw [List.length_zipIdx, List.length_append, List.length_map, List.length_map, List.take_of_length_le (by omega), List.take_of_length_le (by omega)] at hR5
    have hp5 := k5.get hp
    refine ss_fld (S0 := S5) (c := "Roll") (fs := []) Kx.refl (Ev.var rfl) (Ev.var rfl) hp5 (by decide) fun S6 k6 => ?_
    have nrd : rd ≠ p := ne_obj hR5.1 hp5 (by simp)
    have nl1 : l1 ≠ p := ne_obj hR5.2.1 hp5 (by simp)
    have nl2 : l2 ≠ p := ne_obj hR5.2.2.1 hp5 (by simp)
    have hR6 := hR5.ks k6
    generalize hS6 : sup S6 p (.ins "Roll" (putFD "own_text" (.str (textOf gs bs)) [])) = S7
    have hR7 : RdAt S7 rd l1 l2 gs bs := by
      rw [← hS6]
      exact ⟨by rw [sup_ne nrd]; exact hR6.1, by rw [sup_ne nl1]; exact hR6.2.1, by rw [sup_ne nl2]; exact hR6.2.2.1, hR6.2.2.2⟩
    have hp7 : S7 p = some (.ins "Roll" (putFD "own_text" (.str (textOf gs bs)) [])) := by rw [← hS6]; exact sup_same
    have k7 : Kx [p] S S7 := by rw [← hS6]; exact (Ks.up (k5.trans k6)).trans (Kx.sup (by simp))
    refine st_cons ?_
    rw [wS]
    refine Ev.use (S := S7) (Ev.prop H.Reader_found (Ev.var rfl) (vw_ins' hR7.1) (rd, l1, l2, gs, bs) rfl fun _ k => ⟨hR7.ks k, hlg.2, hlb⟩) Kx.refl fun S8 k8 => ?_
    rw [wTg]
    refine ⟨[nD gs, rD bs], .inl rfl, rfl, ?_⟩
    rw [wTgs]
    refine ⟨nD gs, [rD bs], rfl, st_fldset (S0 := S8) Kx.refl (Ev.var rfl) (k8.get hp7) (by show 1 < 1000; decide) fun S9 k9 => ?_⟩
    rw [wTgs]
    refine ⟨rD bs, [], rfl, st_fldset (S0 := sup S9 p _) Kx.refl (Ev.var rfl) sup_same (Nat.lt_of_le_of_lt putFD_len (Nat.lt_of_le_of_lt (Nat.succ_le_succ putFD_len) (by show 2 < 1000; decide))) fun S10 k10 => ?_⟩
    rw [wTgs]
    refine ⟨rfl, ?_⟩
    have ef : putFD "own_bonds" (rD bs) (putFD "own_guards" (nD gs) (putFD "own_text" (.str (textOf gs bs)) [])) = ([("own_text", .str (textOf gs bs)), ("own_guards", nD gs), ("own_bonds", rD bs)] : List (Str × D)) := by
      have e1 : ¬ (("own_text" : Str) = "own_guards") := by decide +kernel
      have e2 : ¬ (("own_text" : Str) = "own_bonds") := by decide +kernel
      have e3 : ¬ (("own_guards" : Str) = "own_bonds") := by decide +kernel
      simp [putFD, e1, e2, e3]
    rw [ef]
    generalize hS11 : sup S10 p (.ins "Roll" [("own_text", .str (textOf gs bs)), ("own_guards", nD gs), ("own_bonds", rD bs)]) = S11
    have hp11 : S11 p = some (.ins "Roll" [("own_text", .str (textOf gs bs)), ("own_guards", nD gs), ("own_bonds", rD bs)]) := by rw [← hS11]; exact sup_same
    have k11 : Kx [p] S S11 := by rw [← hS11]; exact (((k7.trans (Ks.up k8)).trans (Ks.up k9)).trans (Kx.sup (by simp))).trans ((Ks.up k10).trans (Kx.sup (by simp)))
    have hv11 := vw_ins' hp11
    have g1 : ([("own_text", .str (textOf gs bs)), ("own_guards", nD gs), ("own_bonds", rD bs)] : List (Str × D)).lookup ("own_guards" : Str) = some (nD gs) := by
      rw [List.lookup_cons, show (("own_guards" : Str) == "own_text") = false by decide +kernel, List.lookup_cons, show (("own_guards" : Str) == "own_guards") = true by decide +kernel]
    have g2 : ([("own_text", .str (textOf gs bs)), ("own_guards", nD gs), ("own_bonds", rD bs)] : List (Str × D)).lookup ("own_bonds" : Str) = some (rD bs) := by
      rw [List.lookup_cons, show (("own_bonds" : Str) == "own_text") = false by decide +kernel, List.lookup_cons, show (("own_bonds" : Str) == "own_guards") = false by decide +kernel, List.lookup_cons, show (("own_bonds" : Str) == "own_bonds") = true by decide +kernel]
    refine ss_fld (S0 := S11) (c := "Roll") (v := rD (pairsOf gs bs)) Kx.refl ?_ (Ev.var rfl) hp11 (by show 3 < 1000; decide) fun S12 k12 => st_nil (q _ ?_ ((k11.trans (Ks.up k12)).trans (Kx.sup (by simp))))
    · have hz : ((bs.map (pairOf gs)).map pD).length ≤ sizeLine := by rw [List.length_map, List.length_map]; exact line1 (by omega)
      refine Ev.conv (Ev.tupleL (Ev.sortedL (xs := (bs.map (pairOf gs)).map pD) (Ev.conv (Ev.comp (l := bs) (enc := pD) (f := fun b => pD (pairOf gs b)) H.mono (EvS.ofT (Ev.fld (Ev.var rfl) hv11 g2)) (line1 (by omega)) (fun _ _ => TgOk.name) fun b hb => Ev.pair H.pair_of (EvL.cons (Ev.fld (Ev.var rfl) hv11 g1) (EvL.cons (Ev.var rfl) EvL.nil)) (hL.bonds.ends b hb).1 (hL.bonds.ends b hb).2.1) (by rw [List.map_map]; rfl)) (srt_p _) hz) (by rw [sortD_len]; exact hz)) ?_
      rw [srtP_eq]
      rfl
    · rw [sup_same]
      have e1 : ¬ (("own_text" : Str) = "own_pairs") := by decide +kernel
      have e2 : ¬ (("own_guards" : Str) = "own_pairs") := by decide +kernel
      have e3 : ¬ (("own_bonds" : Str) = "own_pairs") := by decide +kernel
      simp [putFD, e1, e2, e3, rollOf, RollD.fs]
  · rintro done ⟨s, n⟩ todo r S5 ed ⟨a3, a4, rfl, hR5, k5⟩
    refine ⟨hg S5 k5, _, TgOk.two (.inr rfl), ?_⟩
    have hget : (gs.map lineG ++ bs.map lineB)[done.length]? = some s := by
      have e : ((gs.map lineG ++ bs.map lineB).zipIdx)[done.length]? = some (s, n) := by rw [ed]; simp
      rw [List.getElem?_zipIdx] at e
      cases z : (gs.map lineG ++ bs.map lineB)[done.length]? with
      | none => rw [z] at e; cases e
      | some t => rw [z] at e; simp at e; rw [e.1]
    have htk : wE G (.meth "Reader" (.var 2) "takes" (.cons false (.var 4) .nil)) [some (.ref p), some (.str (textOf gs bs)), some (.ref rd), some (.int (n : Nat)), some (.str s), none] S5 (fun d S6 => d = .bl true ∧ RdAt S6 rd l1 l2 (gs.take (done.length + 1)) (bs.take (done.length + 1 - gs.length)) ∧ Ks S S6) := by
      refine meth_at (S0 := S5) H.Reader_takes Kx.refl (Ev.var rfl) (vw_ins' hR5.1) (rdN (by decide +kernel) (by decide +kernel) l1 l2) (EvL.cons (Ev.var rfl) EvL.nil) fun S6 k6 => ?_
      refine ⟨rd, l1, l2, _, _, s, rfl, hR5.ks k6, ?_⟩
      have hend : ∀ {S' : Sto}, Kx [l1, l2] S6 S' → Ks S S' := fun {S'} k q o nq e => k.getN ((k5.trans k6).get e) (by
        intro m
        simp only [List.mem_cons, List.not_mem_nil, or_false] at m
        rcases m with rfl | rfl
        · rw [f1] at e; cases e
        · rw [f2] at e; cases e)
      by_cases hi : done.length < gs.length
      · left
        rw [List.getElem?_append_left (by rw [List.length_map]; exact hi), List.getElem?_map] at hget
        obtain ⟨x, hx⟩ : ∃ x, gs[done.length]? = some x := ⟨_, List.getElem?_eq_getElem hi⟩
        rw [hx] at hget
        cases hget
        have hxm : x ∈ gs := List.mem_of_getElem? hx
        have etk : gs.take (done.length + 1) = gs.take done.length ++ [x] := by
          rw [List.take_succ_eq_append_getElem hi]
          congr 2
          rw [List.getElem?_eq_getElem hi] at hx
          exact Option.some.inj hx
        refine ⟨x, rfl, ⟨hL.names x hxm, fun hm => ?_, by rw [show done.length - gs.length = 0 by omega]; rfl, by rw [List.length_take]; omega⟩, fun S' hR' k' => ⟨rfl, ?_, hend k'⟩⟩
        · have hnd := hL.nodup
          rw [← List.take_append_drop (done.length + 1) gs, etk, List.append_assoc] at hnd
          exact (List.nodup_append.mp hnd).2.2 x hm x (by simp) rfl
        · rw [etk, show done.length + 1 - gs.length = 0 by omega]
          rw [show done.length - gs.length = 0 by omega] at hR'
          exact hR'
      · right
        rw [List.getElem?_append_right (by rw [List.length_map]; omega), List.getElem?_map, List.length_map] at hget
        cases hb : bs[done.length - gs.length]? with
        | none => rw [hb] at hget; cases hget
        | some b =>
          rw [hb] at hget
          cases hget
          have hbl : done.length - gs.length < bs.length := (List.getElem?_eq_some_iff.mp hb).1
          have hbm : b ∈ bs := List.mem_of_getElem? hb
          have e := hL.bonds.ends b hbm
          have etk : bs.take (done.length - gs.length + 1) = bs.take (done.length - gs.length) ++ [b] := by
            rw [List.take_succ_eq_append_getElem hbl]
            congr 2
            rw [List.getElem?_eq_getElem hbl] at hb
            exact Option.some.inj hb
          have hdf := hL.bonds.diff
          rw [← List.take_append_drop (done.length - gs.length + 1) bs, etk, List.append_assoc] at hdf
          have hdf2 := (List.pairwise_append.mp hdf).2.2
          refine ⟨b, rfl, ⟨by rw [List.take_of_length_le (by omega)]; exact e.1, by rw [List.take_of_length_le (by omega)]; exact e.2.1, e.2.2, fun hm => (hdf2 b hm b (by simp)).1 rfl, fun hm => (hdf2 (swp b) hm b (by simp)).2 rfl, by rw [List.length_take]; omega, hL.names _ e.1, hL.names _ e.2.1⟩, fun S' hR' k' => ⟨rfl, ?_, hend k'⟩⟩
          rw [show done.length + 1 - gs.length = done.length - gs.length + 1 by omega, etk, List.take_of_length_le (show gs.length ≤ done.length + 1 by omega)]
          rw [List.take_of_length_le (show gs.length ≤ done.length by omega)] at hR'
          exact hR'
    refine st_cons ?_
    rw [wS, wE]
    refine wE_mono H.mono _ _ _ _ _ (fun d S6 ⟨e1, e2, e3⟩ => ?_) htk
    subst e1
    refine ⟨true, rfl, false, rfl, ?_⟩
    rw [if_neg (by simp)]
    refine st_nil2 ⟨_, _, rfl, ?_, e3⟩
    rw [List.length_append, List.length_singleton]
    exact e2
end Dz60
/-! Pl6: draws in expressions, loops and comprehensions that draw. -/
namespace Dz
open PySem PySem.Spec PyProof.Rows L2
/-- nothing owned -/
def emp : Sto := fun _ => none
theorem emp_ks {S : Sto} : Ks emp S := fun _ _ _ h => by cases h
section
variable {G : Sg} {r : Rho} {S S0 : Sto} {e a b c : E} {s : Src} {ss A : Ss} {Z : Ends'} {p : Addr} {Q : DK} {own : Bool} {X : Str} {n : Int} {m : Nat}
theorem pick_at (h : G.fn "_law_take" = some takeSp) (k : Ks S0 S) (hX : Ev G a r S0 (.str X)) (hb : Ev G b r S0 (.ref p)) (hc : Ev G c r S0 (.int n)) (hp : PotAt S p (m + 1)) (hn : 0 < n) (hl : n ≤ X.length) (hz : X.length ≤ 1000)
    (q : ∀ z S', z ∈ (cps X).take n.toNat → PotAt S' p m → Kx [p] S S' → Q (.str ⟨#[z]⟩) S') : wE G (.ix a (.call "_law_take" (.cons false b (.cons false c .nil)))) r S Q := by
  rw [wE]
  refine hX S k _ fun S1 k1 => ?_
  refine take_at (S0 := S0) h (k.trans k1) hb hc (hp.ks k1) ⟨hn, by omega⟩ fun t S2 t0 t1 hp2 k2 => ?_
  have ht : t.toNat < (cps X).length := by rw [cps_len]; omega
  refine ⟨t, (cps X)[t.toNat], rfl, by rw [sizeLine_eq]; omega, ?_, q _ _ ?_ hp2 ((Ks.up k1).trans k2)⟩
  · have e1 : atI (cps X) ((t.toNat : Nat) : Int) = some (cps X)[t.toNat] := by rw [atI_n]; exact List.getElem?_eq_getElem ht
    rw [Int.toNat_of_nonneg t0] at e1
    exact e1
  · rw [List.mem_take_iff_getElem]
    exact ⟨t.toNat, by omega, rfl⟩
theorem ss_for_rangeE (hG : MonoG' G) {v : Nat} (he : wE G e r S fun d S1 => ∃ n : Nat, d = .int (n : Nat) ∧ n < 1000000 ∧ ∃ Inv : Nat → Rho → Sto → Prop, Inv 0 r S1 ∧ (∀ i r S, i < n → Inv i r S → wSs G A { nx := Inv (i + 1), rt := Z.rt, bk := wSs G ss Z, ct := Inv (i + 1) } (r.set v (some (.int (i : Nat)))) S) ∧ ∀ r S, Inv n r S → wSs G ss Z r S) :
    wSs G (.cons (.for (.name v) (.range (.cons false e .nil)) A) ss) Z r S := by
  refine st_cons ?_
  rw [wS, wSrc, wEs]
  refine wE_mono hG e _ _ _ _ (fun d S1 ⟨n, e1, hn, Iv, i0, hs, h0⟩ => ?_) he
  subst e1
  rw [if_neg Bool.false_ne_true, wEs]
  refine ⟨⟨by omega, by omega⟩, ?_⟩
  have er : rangeD 0 1 (n : Int).toNat = (List.range n).map fun i => D.int (i : Nat) := by
    unfold rangeD
    rw [Int.toNat_natCast]
    exact List.map_congr_left fun i _ => by congr 1; omega
  rw [er]
  refine wFor_list (for_step_mono hG (.name v) A) (fun i : Nat => D.int (i : Nat)) (fun done _ r S => Iv done.length r S) (List.range n) (fun r S h => ⟨trivial, h0 r S (by simpa using h)⟩) (fun done i todo r S e h => ⟨trivial, ?_⟩) (List.range n) [] r S1 rfl i0
  have hi : i = done.length ∧ i < n := by
    have e1 : (List.range n)[done.length]? = some i := by rw [e]; simp
    rw [List.getElem?_eq_some_iff] at e1
    obtain ⟨h1, h2⟩ := e1
    rw [List.getElem_range] at h2
    rw [List.length_range] at h1
    omega
  rw [wTg]
  have := hs i r S hi.2 (by rw [hi.1]; exact h)
  rw [List.length_append, List.length_singleton, ← hi.1]
  exact this
/-- for over a frozen source, the turns draw -/
theorem ss_forF {α : Type} (hG : MonoG' G) {t : Tg} (enc : α → D) (l : List α) (hs : EvS G s r emp (l.map enc)) (Inv : List α → List α → Rho → Sto → Prop) (i0 : ∀ S1, Ks S S1 → Inv [] l r S1) (h0 : ∀ r S, Inv l [] r S → wSs G ss Z r S)
    (hst : ∀ done x todo r S, l = done ++ x :: todo → Inv done (x :: todo) r S → ∃ r1, TgOk G t (enc x) r r1 ∧ wSs G A { nx := Inv (done ++ [x]) todo, rt := Z.rt, bk := wSs G ss Z, ct := Inv (done ++ [x]) todo } r1 S) : wSs G (.cons (.for t s A) ss) Z r S := by
  refine st_cons ?_
  rw [wS]
  refine hs S emp_ks _ fun g S1 k1 hg => ?_
  refine wFor_list (for_step_mono hG t A) enc Inv l (fun r S h => ⟨hg S emp_ks, h0 r S h⟩) (fun done x todo r S e hi => ?_) l [] r S1 rfl (i0 S1 k1)
  obtain ⟨r1, a2, a3⟩ := hst done x todo r S e hi
  exact ⟨hg S emp_ks, a2 _ _ a3⟩
/-- a comprehension that draws -/
theorem comp_eff {α : Type} (hG : MonoG' G) {us : List Nat} {t : Tg} {l : List α} {enc : α → D} {r1 : α → Rho} (hs : EvS G s r emp (l.map enc)) (hl : l.length ≤ sizeLine) (ht : ∀ x ∈ l, TgOk G t (enc x) (wipeR r us) (r1 x)) (I : List α → List D → Sto → Prop)
    (i0 : ∀ S1, Ks S S1 → I [] [] S1) (hst : ∀ done x todo acc S, l = done ++ x :: todo → I done acc S → wE G e (r1 x) S fun y S' => I (done ++ [x]) (acc ++ [y]) S') (fin : ∀ acc S, I l acc S → acc.length = l.length → finL own acc S Q) : wE G (.comp own us t e .no s) r S Q := by
  rw [wE]
  refine hs S emp_ks _ fun g S1 k1 hg => ?_
  refine wComp_inv (comp_mono hG t e .no fun _ => wipeR r us) (fun rest acc S => ∃ done todo, l = done ++ todo ∧ rest = todo.map enc ∧ acc.length = done.length ∧ I done acc S) (fun acc S ⟨done, todo, e1, e2, e3, e4⟩ => ?_) (fun d ds acc S ⟨done, todo, e1, e2, e3, e4⟩ => ?_) _ _ _ ⟨[], l, rfl, rfl, rfl, i0 S1 k1⟩
  · have : todo = [] := by
      cases todo with
      | nil => rfl
      | cons x t => cases e2
    subst this
    rw [List.append_nil] at e1
    subst e1
    exact ⟨hg S emp_ks, fin acc S e4 e3⟩
  · cases todo with
    | nil => cases e2
    | cons x todo =>
      rw [List.map_cons] at e2
      obtain ⟨rfl, rfl⟩ := List.cons.inj e2
      have hx : x ∈ l := by rw [e1]; simp
      refine ⟨hg S emp_ks, ht x hx _ _ ?_⟩
      rw [wC, if_pos rfl]
      refine wE_mono hG e _ _ _ _ (fun y S' hi => ?_) (hst done x todo acc S e1 e4)
      have hlen := congrArg List.length e1
      rw [List.length_append, List.length_cons] at hlen
      exact ⟨by omega, done ++ [x], todo, by rw [List.append_assoc]; exact e1, rfl, by rw [List.length_append, List.length_append, e3]; rfl, hi⟩
end
end Dz
/-! K60k: drawn things, 1. -/
namespace Dz60
open PySem PySem.Spec PyProof.Rows L2 Dz
variable {G : Sg}
theorem kp_law_text (H : H60 G) : Keeps G b_law_text 4 sp_law_text := by
  rintro ds S Q ⟨⟨gs, bs⟩, rfl, h, q⟩
  dsimp only at *
  have hlg := h.lg
  have hlb := h.lb
  have hlen := (text_len h).2
  refine ss_set (v := .lst ((gs.map lineG).map D.str)) Kx.refl (Ev.conv (Ev.comp (l := gs) (enc := D.str) (f := fun x => .str (lineG x)) H.mono (EvS.ofT (loreG rfl)) (line1 (by omega)) (fun _ _ => TgOk.name) fun x hx => Ev.addS Ev.cst (Ev.var rfl) ?_) (by rw [List.map_map]; rfl)) fun S1 k1 => ?_
  · have := (h.names x hx).len
    show ("guard " : Str).length + x.length ≤ sizeLine
    rw [show ("guard " : Str).length = 6 by decide +kernel, sizeLine_eq]
    omega
  refine ss_ret k1 (Ev.join (X := "\n") (l := gs.map lineG ++ bs.map lineB) (y := .lst ((gs.map lineG ++ bs.map lineB).map D.str)) Ev.cst (Ev.conv (Ev.addL (xs := (gs.map lineG).map D.str) (ys := (bs.map lineB).map D.str) (Ev.var rfl) (Ev.conv (Ev.comp (l := bs) (enc := pD) (f := fun b => .str (lineB b)) H.mono (EvS.ofT (loreB rfl)) (line1 (by omega)) (fun _ _ => TgOk.name) fun b hb => ?_) (by rw [List.map_map]; rfl)) ?_) (by rw [List.map_append])) rfl ?_) fun S2 k2 => q S2 (k1.trans k2)
  · have e := h.bonds.ends b hb
    refine Ev.join (X := " ") (l := [("bond" : Str), b.1, b.2]) (y := .tup [.str "bond", .str b.1, .str b.2]) Ev.cst (Ev.addT (xs := [.str "bond"]) (ys := [.str b.1, .str b.2]) (Ev.tup (EvL.cons Ev.cst EvL.nil) (line1 (by simp))) (Ev.var rfl) (line1 (by simp))) rfl ?_
    have a1 := (h.names _ e.1).len
    have a2 := (h.names _ e.2.1).len
    simp only [List.map_cons, List.map_nil, List.sum_cons, List.sum_nil, List.length_cons, List.length_nil, show ("bond" : Str).length = 4 by decide +kernel, show (" " : Str).length = 1 by decide +kernel]
    omega
  · rw [List.length_append, List.length_map, List.length_map, List.length_map, List.length_map]
    exact line1 (by omega)
  · rw [show ("\n" : Str).length = 1 by decide +kernel]
    omega
/-! ### names -/
def nameB (x : Str) : Bool := match cps x with
  | [] => false
  | c :: r => decide (lett c) && decide (x.length ≤ 8) && (cps x).all fun c => decide (lett c) || decide (figu c)
theorem name_of {x : Str} (h : nameB x = true) : IsName x := by
  unfold nameB at h
  split at h
  · cases h
  · rename_i c r e
    simp only [Bool.and_eq_true, decide_eq_true_eq, List.all_eq_true, Bool.or_eq_true] at h
    exact ⟨⟨c, r, e, h.1.1⟩, h.1.2, h.2⟩
def sgn : Str := "abcdefghijklmnopqrstuvwxyz0123456789"
theorem sgn_eq : cps sgn = [97,98,99,100,101,102,103,104,105,106,107,108,109,110,111,112,113,114,115,116,117,118,119,120,121,122,48,49,50,51,52,53,54,55,56,57] := by decide +kernel
theorem sgn_len : sgn.length = 36 := by decide +kernel
theorem sgn_l {c : Nat} (h : c ∈ (cps sgn).take 26) : lett c := by
  rw [sgn_eq] at h
  simp only [List.take_succ_cons, List.take_zero, List.mem_cons, List.not_mem_nil, or_false] at h
  unfold lett
  omega
theorem sgn_a {c : Nat} (h : c ∈ (cps sgn).take 36) : lett c ∨ figu c := by
  rw [sgn_eq] at h
  simp only [List.take_succ_cons, List.take_zero, List.mem_cons, List.not_mem_nil, or_false] at h
  unfold lett figu
  omega
theorem cps_mk (l : List Nat) : cps ⟨l.toArray⟩ = l := rfl
theorem cut6 (x : Str) : (∀ c ∈ cps (cutS x none (some 6)), c ∈ cps x) ∧ (cutS x none (some 6)).length ≤ 6 := by
  have e : cps (cutS x none (some 6)) = ((cps x).drop 0).take (min 6 x.length - 0) := by
    unfold cutS
    rw [cps_mk, HT.sIx_none]
    have := HT.sIx_nat x.length x.length 6
    rw [show (((6 : Nat) : Int)) = 6 from rfl] at this
    rw [this]
  refine ⟨fun c hc => ?_, ?_⟩
  · rw [e] at hc
    exact (List.mem_of_mem_take hc)
  · rw [← cps_len, e, List.length_take]
    omega
theorem kp_law_word (H : H60 G) : Keeps G b_law_word 5 sp_law_word := by
  rintro ds S Q ⟨p, n, rfl, hp, q⟩
  refine ss_set (v := .str sgn) Kx.refl Ev.cst fun S1 k1 => ss_setE (pick_at (S0 := S1) (n := 26) (m := n + 8) H.law_take Kx.refl (Ev.var rfl) (Ev.var rfl) Ev.cst (hp.ks k1) (by decide) (by rw [sgn_len]; decide) (by rw [sgn_len]; decide) fun c S2 hc hp2 k2 => ?_)
  have hc' := sgn_l hc
  refine ss_for_rangeE H.mono (take_at (S0 := S2) (n := 8) (m := n + 7) H.law_take Kx.refl (Ev.var rfl) Ev.cst hp2 ⟨by decide, by decide⟩ fun t S3 t0 t1 hp3 k3 => ⟨t.toNat, by rw [Int.toNat_of_nonneg t0], by omega, fun i r S' => ∃ a3 x, r = [some (.ref p), some (.str sgn), some (.str x), a3, none] ∧ (∃ rest, cps x = c :: rest) ∧ (∀ z ∈ cps x, lett z ∨ figu z) ∧ x.length = i + 1 ∧ PotAt S' p (n + 7 - i) ∧ Kx [p] S S', ?_, ?_, ?_⟩)
  · refine ⟨none, ⟨#[c]⟩, rfl, ⟨[], rfl⟩, fun z hz => ?_, rfl, hp3, ((Ks.up k1).trans k2).trans k3⟩
    have : z = c := by simpa using (show z ∈ [c] from hz)
    rw [this]
    exact .inl hc'
  · rintro i r S4 hi ⟨a3, x, rfl, ⟨rest, hx⟩, hall, hxl, hp4, k4⟩
    refine ss_setE ?_
    rw [wE]
    refine Ev.use (S := S4) (Ev.var rfl) Kx.refl fun S5 k5 => ?_
    refine pick_at (S0 := S5) (n := 36) (m := n + 7 - (i + 1)) (X := sgn) H.law_take Kx.refl (Ev.var rfl) (Ev.var rfl) Ev.cst ((hp4.ks k5).less (by omega)) (by decide) (by rw [sgn_len]; decide) (by rw [sgn_len]; decide) fun z S6 hz hp6 k6 => ?_
    refine ⟨by show x.length + 1 ≤ _; rw [sizeLine_eq]; omega, st_nil ⟨_, x ++ ⟨#[z]⟩, rfl, ⟨rest ++ [z], by rw [cps_app, hx]; rfl⟩, fun w hw => ?_, ?_, hp6, (k4.trans (Ks.up k5)).trans k6⟩⟩
    · rw [cps_app, List.mem_append] at hw
      rcases hw with hw | hw
      · exact hall w hw
      · have : w = z := by simpa using (show w ∈ [z] from hw)
        rw [this]; exact sgn_a hz
    · rw [Str.length_append, hxl]; rfl
  · rintro r S4 ⟨a3, x, rfl, ⟨rest, hx⟩, hall, hxl, hp4, k4⟩
    have hxz : x.length ≤ sizeLine := line1 (by omega)
    have fin : ∀ {y : Str} {S5 : Sto}, IsName y → Ks S4 S5 → Q (.str y) S5 := fun {y S5} hy k5 => q y S5 hy ((hp4.ks k5).less (by omega)) (k4.trans (Ks.up k5))
    refine ss_ifR (S0 := S4) (v := .str (("of" : Str) ++ cutS x none (some 6))) Kx.refl (Ev.or (p := decide (x ∈ [("zz" : Str), "yy", "every9", "nosuch", "new"])) (q := ((cps (cutS x (some 1) none)).map fun c => decide (c ∈ cps "0123456789")).all id) ?_ fun _ => ?_) (fun _ => Ev.addS Ev.cst (Ev.slS (Ev.var rfl) EvO.no (EvO.yes Ev.cst) hxz) ?_) (fun _ S5 k5 => fin ?_ k5) fun _ S5 k5 => ss_ret (S0 := S5) Kx.refl (Ev.var rfl) fun S6 k6 => fin ⟨⟨c, rest, hx, hc'⟩, by omega, hall⟩ (k5.trans k6)
    · exact Ev.inT (ys := [("zz" : Str), "yy", "every9", "nosuch", "new"].map D.str) (Ev.var rfl) (Ev.tup (EvL.cons Ev.cst (EvL.cons Ev.cst (EvL.cons Ev.cst (EvL.cons Ev.cst (EvL.cons Ev.cst EvL.nil))))) (line1 (by simp))) (pl_str 6) (pl_map fun _ => pl_str 5) (mem_inj str_inj)
    · refine Ev.all_ (Ev.conv (Ev.comp (l := cps (cutS x (some 1) none)) (enc := fun c => D.str ⟨#[c]⟩) (f := fun c => .bl (decide (c ∈ cps "0123456789"))) H.mono (EvS.ofS (Ev.slS (Ev.var rfl) (EvO.yes Ev.cst) EvO.no hxz)) ?_ (fun _ _ => TgOk.name) fun c hc => (Ev.var rfl).cmp Ev.cst fun _ _ _ q => c_inS q) (by rw [List.map_map]; rfl))
      unfold cutS
      rw [cps_mk, List.length_take, List.length_drop]
      have : x.cps.toList.length = x.length := cps_len x
      exact line1 (by omega)
    · have := (cut6 x).2
      show ("of" : Str).length + _ ≤ sizeLine
      rw [show ("of" : Str).length = 2 by decide +kernel, sizeLine_eq]
      omega
    · obtain ⟨h1, h2⟩ := cut6 x
      have eo : cps ("of" : Str) = [111, 102] := by decide +kernel
      refine ⟨⟨111, 102 :: cps (cutS x none (some 6)), by rw [cps_app, eo]; rfl, by decide⟩, ?_, fun w hw => ?_⟩
      · rw [Str.length_append, show ("of" : Str).length = 2 by decide +kernel]
        omega
      · rw [cps_app, eo, List.mem_append] at hw
        rcases hw with hw | hw
        · simp only [List.mem_cons, List.not_mem_nil, or_false] at hw
          rcases hw with rfl | rfl <;> exact .inl (by decide)
        · exact hall w (h1 w hw)
theorem kp_law_of (H : H60 G) : Keeps G b_law_of 2 sp_law_of := by
  rintro ds S Q ⟨p, xs, n, rfl, hp, hl, hl2, q⟩
  refine ss_retE ?_
  rw [wE]
  refine Ev.use (S := S) (Ev.var rfl) Kx.refl fun S1 k1 => take_at (S0 := S1) H.law_take Kx.refl (Ev.var rfl) (Ev.lenL (xs := xs) (Ev.var rfl)) (hp.ks k1) ⟨by omega, by omega⟩ fun t S2 t0 t1 hp2 k2 => ?_
  have ht : t.toNat < xs.length := by omega
  have e1 : atI xs ((t.toNat : Nat) : Int) = some xs[t.toNat] := by rw [atI_n]; exact List.getElem?_eq_getElem ht
  rw [Int.toNat_of_nonneg t0] at e1
  exact st_ixl e1 (q _ S2 (List.getElem_mem ht) hp2 ((Ks.up k1).trans k2))
theorem kp_law_prices (H : H60 G) : Keeps G b_law_prices 4 sp_law_prices := by
  rintro ds S Q ⟨p, gs, bs, n, rfl, hp, hl, q⟩
  refine ss_setE (call_at (S0 := S) H.law_of Kx.refl (EvL.cons (Ev.var rfl) (EvL.cons (Ev.lst (EvL.cons Ev.cst (EvL.cons Ev.cst (EvL.cons Ev.cst EvL.nil))) (line1 (by simp))) EvL.nil)) fun S1 k1 => ⟨p, _, n + bs.length, rfl, (hp.ks k1).less (by omega), by simp, by simp, fun y S2 hy hp2 k2 => ?_⟩)
  obtain ⟨m, rfl, hm⟩ : ∃ m : Int, y = .int m ∧ 0 < m ∧ m ≤ 1000 := by
    simp only [List.mem_cons, List.not_mem_nil, or_false] at hy
    rcases hy with rfl | rfl | rfl
    · exact ⟨2, rfl, by decide, by decide⟩
    · exact ⟨6, rfl, by decide, by decide⟩
    · exact ⟨1000, rfl, by decide, by decide⟩
  refine ss_retE ?_
  rw [wE, wEs]
  refine comp_eff (l := bs) (enc := pD) (r1 := fun b => [some (.ref p), some (loreD gs bs), some (.int m), some (pD b)]) H.mono (EvS.ofT (loreB rfl)) (line1 (by omega)) (fun b _ => TgOk.name) (fun done acc S' => ∃ ps : List Int, acc = ps.map D.int ∧ ps.length = done.length ∧ (∀ z ∈ ps, 0 ≤ z ∧ z ≤ 999) ∧ PotAt S' p (n + (bs.length - done.length)) ∧ Kx [p] S S') (fun S3 k3 => ⟨[], rfl, rfl, by simp, hp2.ks k3, ((Ks.up k1).trans k2).trans (Ks.up k3)⟩) ?_ ?_
  · rintro done b todo acc S3 ed ⟨ps, rfl, hpl, hr, hp3, k3⟩
    have hdl := congrArg List.length ed
    rw [List.length_append, List.length_cons] at hdl
    rw [wE, wEs]
    refine take_at (S0 := S3) (m := n + (bs.length - (done.length + 1))) H.law_take Kx.refl (Ev.var rfl) (Ev.var rfl) (hp3.less (by omega)) ⟨hm.1, by omega⟩ fun t S4 t0 t1 hp4 k4 => ?_
    rw [if_neg Bool.false_ne_true, wEs]
    refine ⟨ps ++ [t], by rw [List.map_append]; rfl, by rw [List.length_append, List.length_append, hpl]; rfl, fun z hz => ?_, by rw [List.length_append]; exact hp4, k3.trans k4⟩
    rcases List.mem_append.mp hz with hz | hz
    · exact hr z hz
    · rw [List.mem_singleton] at hz; omega
  · rintro acc S3 ⟨ps, rfl, hpl, hr, hp3, k3⟩ _
    have hz : (ps.map D.int).length ≤ sizeLine := by rw [List.length_map]; exact line1 (by omega)
    refine st_finL hz ?_
    rw [if_neg Bool.false_ne_true, wEs]
    exact ⟨_, rfl, hz, q ps S3 hpl hr (hp3.less (by omega)) k3⟩
theorem kp_law_cells : Keeps G b_law_cells 2 sp_law_cells := by
  rintro ds S Q ⟨xs, m, rfl, hl, q⟩
  have hn : (max 1 (min m (xs.length : Int))).toNat ≤ 63 := by omega
  exact ss_ret Kx.refl (Ev.lr1 (Ev.max2 (i := 1) Ev.cst (Ev.min2 (Ev.var rfl) (Ev.lenF (Ev.var rfl)))) ⟨by omega, by omega⟩ (by omega) (line1 (by omega))) fun S1 k1 => q _ S1 hn k1
theorem kp_law_pot : Keeps G b_law_pot 5 sp_law_pot := by
  rintro ds S Q ⟨ns, i, rfl, hl, hi, hb, q⟩
  have hlog : ∀ {x : Int} {m : Nat}, x.natAbs < 2 ^ m → 0 < m → x.natAbs.log2 < m := fun h hm => log_lt_of h hm
  have h0 : (0 : Int) ≤ i := by omega
  obtain ⟨cell, hc⟩ : ∃ cell : Int, Ev G (.ite (.cmp .Lt (.var 1) (.bi .len false (.cons false (.var 0) .nil))) (.ix (.var 0) (.var 1)) (.bin .Add false (.bin .Mult false (.cst (.int 71)) (.var 1)) (.cst (.int 37)))) (r0 5 [.fls (ns.map D.int), .int i]) S (.int cell) := by
    have ht : Ev G (.cmp .Lt (.var 1) (.bi .len false (.cons false (.var 0) .nil))) (r0 5 [.fls (ns.map D.int), .int i]) S (.bl (decide ((i : Int) < ((ns.map D.int).length : Int)))) := Ev.ltI (Ev.var rfl) (Ev.lenF (Ev.var rfl))
    by_cases h : i < ns.length
    · rw [decide_eq_true (by rw [List.length_map]; omega)] at ht
      refine ⟨ns[i], Ev.iteT ht (Ev.ixF (xs := ns.map D.int) (Ev.var rfl) (Ev.var rfl) (by rw [atI_n, List.getElem?_map, List.getElem?_eq_getElem h]; rfl))⟩
    · rw [decide_eq_false (by rw [List.length_map]; omega)] at ht
      exact ⟨71 * i + 37, Ev.iteF ht (Ev.add (Ev.mul Ev.cst (Ev.var rfl) (by
        have a := hlog (x := 71) (m := 10) (by decide) (by decide)
        have b := hlog (x := (i : Int)) (m := 10) (by omega) (by decide)
        unfold CMulW; omega)) Ev.cst)⟩
  have hM : 0 < ((10 : Int) ^ (60 : Int).toNat) ^ (5 : Int).toNat := by decide
  refine ss_set Kx.refl hc fun S1 k1 => ?_
  refine ss_set (v := .int (((cell.natAbs : Nat) : Int) % (((10 : Int) ^ (60 : Int).toNat) ^ (5 : Int).toNat) * (if decide ((10 : Int) ^ (18 : Int).toNat ≤ ((cell.natAbs : Nat) : Int)) = true then 1 else 0))) k1 (Ev.mul (Ev.mod (Ev.intI (Ev.abs (Ev.var rfl))) (Ev.pow (Ev.pow Ev.cst Ev.cst ⟨by decide, by decide, by decide, by decide⟩) Ev.cst ⟨by decide, by decide, by decide, by decide +kernel⟩) hM) (Ev.intB (Ev.geI (Ev.abs (Ev.var rfl)) (Ev.pow Ev.cst Ev.cst ⟨by decide, by decide, by decide, by decide⟩))) ?_) fun S2 k2 => ?_
  · have a0 := Int.emod_nonneg ((cell.natAbs : Nat) : Int) (show ((10 : Int) ^ (60 : Int).toNat) ^ (5 : Int).toNat ≠ 0 from Int.ne_of_gt hM)
    have a1 := Int.emod_lt_of_pos ((cell.natAbs : Nat) : Int) hM
    have hbig : ((10 : Int) ^ (60 : Int).toNat) ^ (5 : Int).toNat < 2 ^ 1000 := by decide +kernel
    generalize ((cell.natAbs : Nat) : Int) % (((10 : Int) ^ (60 : Int).toNat) ^ (5 : Int).toNat) = y at a0 a1 ⊢
    have a2 : y < 2 ^ 1000 := Int.lt_trans a1 hbig
    have a := hlog (x := y) (m := 1000) (by
      have : ((y.natAbs : Nat) : Int) < ((2 ^ 1000 : Nat) : Int) := by
        rw [Int.natAbs_of_nonneg a0]
        exact_mod_cast a2
      exact_mod_cast this) (by decide)
    have b : (if decide ((10 : Int) ^ (18 : Int).toNat ≤ ((cell.natAbs : Nat) : Int)) = true then (1 : Int) else 0).natAbs.log2 < 10 := by split <;> decide
    unfold CMulW
    omega
  have o0 : 0 ≤ ((cell.natAbs : Nat) : Int) % (((10 : Int) ^ (60 : Int).toNat) ^ (5 : Int).toNat) * (if decide ((10 : Int) ^ (18 : Int).toNat ≤ ((cell.natAbs : Nat) : Int)) = true then 1 else 0) := by
    refine Int.mul_nonneg (Int.emod_nonneg _ (Int.ne_of_gt hM)) ?_
    split <;> decide
  generalize ((cell.natAbs : Nat) : Int) % (((10 : Int) ^ (60 : Int).toNat) ^ (5 : Int).toNat) * (if decide ((10 : Int) ^ (18 : Int).toNat ≤ ((cell.natAbs : Nat) : Int)) = true then 1 else 0) = own at o0 ⊢
  refine ss_set (v := .int (cell % 2305843009213693951)) (k1.trans k2) (Ev.mod (Ev.intI (Ev.var rfl)) Ev.cst (by decide)) fun S3 k3 => ?_
  have s0 := Int.emod_nonneg cell (show (2305843009213693951 : Int) ≠ 0 by decide)
  have s1 := Int.emod_lt_of_pos cell (show (0 : Int) < 2305843009213693951 by decide)
  generalize cell % 2305843009213693951 = small at s0 s1 ⊢
  refine ss_retE ?_
  have ls := hlog (x := small) (m := 62) (by omega) (by decide)
  have li := hlog (x := (i : Int)) (m := 10) (by omega) (by decide)
  rw [wE]
  refine (show EvL G _ _ S3 [.int own, .int ((small * 87553 + 7411 * (i : Int) * (i : Int) + 79) % 2305843009213693921), .int 0] from EvL.cons (Ev.var rfl) (EvL.cons (Ev.mod (Ev.intI (Ev.add (Ev.add (Ev.mul (Ev.var rfl) Ev.cst (by
      have := hlog (x := 87553) (m := 20) (by decide) (by decide)
      unfold CMulW; omega)) (Ev.mul (Ev.mul Ev.cst (Ev.var rfl) (by
      have := hlog (x := 7411) (m := 20) (by decide) (by decide)
      unfold CMulW; omega)) (Ev.var rfl) (by
      have := hlog (x := 7411 * (i : Int)) (m := 30) (by omega) (by decide)
      unfold CMulW; omega))) Ev.cst)) Ev.cst (by decide)) (EvL.cons Ev.cst EvL.nil))) S3 Kx.refl _ fun S4 k4 => st_finLo (line1 (by simp)) fun p hp => q _ p ?_ ⟨own, _, 0, sup_same, o0, ⟨Int.emod_nonneg _ (by decide), ?_⟩, by decide, by decide⟩ ((((k1.trans k2).trans k3).trans k4).trans (Ks.new hp))
  · cases e : S p with
    | none => rfl
    | some o => rw [(((k1.trans k2).trans k3).trans k4).get e] at hp; cases hp
  · exact Int.lt_trans (Int.emod_lt_of_pos _ (show (0 : Int) < 2305843009213693921 by decide)) (by decide)
end Dz60
/-! K60l: drawn rolls. -/
namespace Dz60
open PySem PySem.Spec PyProof.Rows L2 Dz
variable {G : Sg}
theorem pool_ok : (∀ x ∈ ([("a" : Str), "b", "anna", "lee9", "q", "z1", "omar", "x", "yu", "guard", "bond", "kim", "c", "d"] : List Str), IsName x) ∧ ([("a" : Str), "b", "anna", "lee9", "q", "z1", "omar", "x", "yu", "guard", "bond", "kim", "c", "d"] : List Str).Nodup := by
  refine ⟨fun x hx => name_of ?_, by decide +kernel⟩
  have h : ([("a" : Str), "b", "anna", "lee9", "q", "z1", "omar", "x", "yu", "guard", "bond", "kim", "c", "d"] : List Str).all nameB = true := by decide +kernel
  exact List.all_eq_true.mp h x hx
theorem nodup_set {α : Type} : ∀ {l : List α} {i : Nat} {w : α}, l.Nodup → w ∉ l → (l.set i w).Nodup
  | [], _, _, _, _ => List.nodup_nil
  | a :: l, 0, w, h, n => by
    rw [List.set_cons_zero]
    exact List.nodup_cons.mpr ⟨fun m => n (List.mem_cons_of_mem _ m), (List.nodup_cons.mp h).2⟩
  | a :: l, i + 1, w, h, n => by
    rw [List.set_cons_succ]
    have h2 := List.nodup_cons.mp h
    refine List.nodup_cons.mpr ⟨fun m => ?_, nodup_set h2.2 fun m => n (List.mem_cons_of_mem _ m)⟩
    rcases List.mem_or_eq_of_mem_set m with m | m
    · exact h2.1 m
    · exact n (by rw [m]; simp)
theorem BondsOk.add {gs : List Str} {bs : List Pr} {b : Pr} (h : BondsOk gs bs) (e : b.1 ∈ gs ∧ b.2 ∈ gs ∧ b.1 ≠ b.2) (n1 : b ∉ bs) (n2 : swp b ∉ bs) : BondsOk gs (bs ++ [b]) := by
  refine ⟨fun p hp => ?_, ?_⟩
  · rcases List.mem_append.mp hp with hp | hp
    · exact h.ends p hp
    · rw [List.mem_singleton] at hp; rw [hp]; exact e
  · rw [List.pairwise_append]
    refine ⟨h.diff, by simp, fun p hp q hq => ?_⟩
    rw [List.mem_singleton] at hq
    subst hq
    exact ⟨fun z => n1 (z ▸ hp), fun z => n2 (z ▸ hp)⟩
/-- found.extend([bond] if .. else []) -/
theorem ss_ext {S S0 : Sto} {n : Nat} {l : Addr} {xs ys : List D} {e : E} {r : Rho} {ss : Ss} {Z : Ends'} {own : Bool} (hk : Ks S0 S) (hr : r[n]? = some (some (.ref l))) (hS : S l = some (.lst xs)) (h : Ev G e r S0 (.lst ys)) (hz : xs.length + ys.length ≤ sizeLine)
    (q : ∀ S1, Ks S S1 → wSs G ss Z r (sup S1 l (.lst (xs ++ ys)))) : wSs G (.cons (.expr (.bm .extend own (.var n) (.cons false e .nil))) ss) Z r S := by
  refine st_cons ?_
  rw [wS, wE, wE]
  refine ⟨_, hr, ⟨"list", by rw [vw_lst' hS]; rfl⟩, ?_⟩
  refine EvL.cons h EvL.nil S hk _ fun S2 k2 => ⟨l, xs, ys, rfl, k2.get hS, rfl, hz, ?_⟩
  exact q _ k2
/-- [bond] if bond not in found and bond[::-1] not in found else [] -/
theorem new_bond {S : Sto} {r : Rho} {l : Addr} {bs : List Pr} {b : Pr} {i j : Nat} (hr : r[j]? = some (some (.ref l))) (hb : r[i]? = some (some (pD b))) (hS : S l = some (.lst (bs.map pD))) :
    Ev G (.ite (.and (.cmp .NotIn (.var i) (.var j)) (.cmp .NotIn (.rev false (.var i)) (.var j))) (.lst false (.cons false (.var i) .nil)) (.lst false .nil)) r S (.lst ((if b ∉ bs ∧ swp b ∉ bs then [b] else []).map pD)) := by
  refine Ev.conv (Ev.ite (Ev.and (Ev.notInV (pr := b ∈ bs) (Ev.var hb) (Ev.var hr) (.inl (vw_lst' hS)) (pl_p 5) (pl_map fun _ => pl_p 4) (mem_inj pD_inj)) fun _ => Ev.notInV (pr := swp b ∈ bs) (x := pD (swp b)) (Ev.revT (xs := [.str b.1, .str b.2]) (Ev.var hb) (line1 (by simp))) (Ev.var hr) (.inl (vw_lst' hS)) (pl_p 5) (pl_map fun _ => pl_p 4) (mem_inj pD_inj))
    (fun _ => Ev.lst (EvL.cons (Ev.var hb) EvL.nil) (line1 (by simp))) fun _ => Ev.lst EvL.nil (line1 (by simp))) ?_
  by_cases h1 : b ∈ bs <;> by_cases h2 : swp b ∈ bs <;> simp [h1, h2]
theorem merge2 (x y : D) : mergeD [] [(.str "guards", x), (.str "bonds", y)] = [(.str "guards", x), (.str "bonds", y)] := by
  have e : ¬ (("guards" : Str) = "bonds") := by decide +kernel
  simp [mergeD, putD, e]
theorem dict_lore (hG : MonoG' G) {S : Sto} {r : Rho} {gs : List Str} {a b : E} {Q : DK} (h : wE G a r S fun x S1 => x = nD gs ∧ wE G b r S1 fun y S2 => ∃ bs, y = rD bs ∧ Q (loreD gs bs) S2) :
    wE G (.dict false (.cons (.cst (.str "guards")) a (.cons (.cst (.str "bonds")) b .nil))) r S Q := by
  rw [wE, wKvs, wE]
  refine wE_mono hG a _ _ _ _ (fun x S1 ⟨e, h⟩ => ?_) h
  subst e
  rw [wKvs, wE]
  refine wE_mono hG b _ _ _ _ (fun y S2 ⟨bs, e, h⟩ => ?_) h
  subst e
  rw [wKvs]
  refine ⟨fun p hp => ?_, by simp, by simp [Cst.d, merge2]; rw [sizeLine_eq]; decide, ?_⟩
  · simp only [List.mem_cons, List.not_mem_nil, or_false] at hp
    rcases hp with rfl | rfl <;> rfl
  · rw [if_neg Bool.false_ne_true]
    show Q (.dic false (mergeD [] [(.str "guards", nD gs), (.str "bonds", rD bs)])) S2
    rw [merge2]
    exact h
theorem kp_law_roll (H : H60 G) : Keeps G b_law_roll 10 sp_law_roll := by
  rintro ds S Q ⟨p, m, b, n, rfl, hp, hm, hm2, hb, q⟩
  generalize hpool : ([("a" : Str), "b", "anna", "lee9", "q", "z1", "omar", "x", "yu", "guard", "bond", "kim", "c", "d"] : List Str) = pool at *
  obtain ⟨po1, po2⟩ := pool_ok
  rw [hpool] at po1 po2
  have hpl : pool.length = 14 := by rw [← hpool]; rfl
  refine ss_set (v := .lst (pool.map D.str)) Kx.refl (Ev.conv (Ev.lst (EvL.cons Ev.cst (EvL.cons Ev.cst (EvL.cons Ev.cst (EvL.cons Ev.cst (EvL.cons Ev.cst (EvL.cons Ev.cst (EvL.cons Ev.cst (EvL.cons Ev.cst (EvL.cons Ev.cst (EvL.cons Ev.cst (EvL.cons Ev.cst (EvL.cons Ev.cst (EvL.cons Ev.cst (EvL.cons Ev.cst EvL.nil)))))))))))))) (line1 (by simp))) (by rw [← hpool]; rfl)) fun S1 k1 => ?_
  refine st_cons ?_
  rw [wS]
  refine some_at (S0 := S1) (k' := n + (2 * b + 11)) H.law_some Kx.refl (Ev.var rfl) (Ev.var rfl) (Ev.var rfl) ((hp.ks k1).less (by omega)) rfl (by rw [List.length_map, hpl]; exact hm2) (by rw [List.length_map, hpl]; decide) fun S2 t ys zs ht hft hp2 hperm hyl k2 => ?_
  rw [wE, wEs]
  refine st_finLo (Nat.zero_le _) fun f hf => ?_
  obtain ⟨names, rest, pm, rfl, rfl⟩ := perm_map2 hperm
  rw [List.length_map] at hyl
  have hnn : ∀ x ∈ names, IsName x := fun x hx => po1 x (pm.mem_iff.mp (by simp [hx]))
  have hnd : names.Nodup := (List.nodup_append.mp (pm.nodup_iff.mpr po2)).1
  have htf : t ≠ f := ne_new ht hf
  have hpf : p ≠ f := hp2.ne hf
  have kS2 : Kx [p] S S2 := (Ks.up k1).trans k2
  have hpt : p ≠ t := by
    obtain ⟨xs0, e0⟩ := (hp.ks k1).some
    exact ne_new e0 hft
  have frS : ∀ {o : Addr}, S1 o = none → S o = none := fun {o} h => by
    cases e : S o with
    | none => rfl
    | some u => rw [k1.get e] at h; cases h
  have fS : S f = none := by
    cases e : S f with
    | none => rfl
    | some u => rw [kS2.getN e (by simpa using Ne.symm hpf)] at hf; cases hf
  have tS : S t = none := frS hft
  -- the word
  have hword : ∀ {Q' : DK}, (∀ w S4, IsName w → PotAt S4 p (n + (2 * b + 1)) → Kx [p] (sup S2 f (.lst [])) S4 → Q' (.str w) S4) →
      wE G (.ite (.cmp .Eq (.call "_law_take" (.cons false (.var 0) (.cons false (.cst (.int 3)) .nil))) (.cst (.int 0))) (.call "_law_word" (.cons false (.var 0) .nil)) (.ix (.var 7) (.cst (.int 0)))) [some (.ref p), some (.int m), some (.int b), some (.lst (pool.map D.str)), none, none, none, some (.ref t), some (.ref f), none] (sup S2 f (.lst [])) Q' := fun {Q'} h => by
    rw [wE, wE]
    refine take_at (S0 := sup S2 f (.lst [])) (m := n + (2 * b + 10)) H.law_take Kx.refl (Ev.var rfl) Ev.cst ((hp2.ks (Ks.new hf)).less (by omega)) ⟨by decide, by decide⟩ fun z S3 z0 z1 hp3 k3 => ?_
    rw [wE]
    refine c_eqI ?_
    refine ⟨_, rfl, ?_⟩
    split
    · exact call_at (S0 := S3) H.law_word Kx.refl (EvL.cons (Ev.var rfl) EvL.nil) fun S4 k4 => ⟨p, n + (2 * b + 1), rfl, (hp3.ks k4).less (by omega), fun w S5 hw hp5 k5 => h w S5 hw hp5 ((k3.trans (Ks.up k4)).trans k5)⟩
    · have ht3 : S3 t = some (.lst (names.map D.str)) := k3.getN (by rw [sup_ne htf]; exact ht) (by simpa using Ne.symm hpt)
      have h0 : 0 < names.length := by omega
      refine Ev.use (S := S3) (Ev.ixR (v := .str names[0]) ht3 (Ev.var rfl) Ev.cst (by
        show atI _ ((0 : Nat) : Int) = _
        rw [atI_n, List.getElem?_map, List.getElem?_eq_getElem h0]; rfl)) Kx.refl fun S4 k4 => h _ S4 (hnn _ (List.getElem_mem h0)) ((hp3.ks k4).less (by omega)) (k3.trans (Ks.up k4))
  refine ss_setE (hword fun w S4 hw hp4 k4 => ?_)
  have ht4 : S4 t = some (.lst (names.map D.str)) := k4.getN (by rw [sup_ne htf]; exact ht) (by simpa using Ne.symm hpt)
  have hf4 : S4 f = some (.lst []) := k4.getN sup_same (by simpa using Ne.symm hpf)
  have kS4 : Kx [p] S S4 := kS2.trans ((Kx.new hf).trans k4)
  -- what follows the names
  have hrest : ∀ {gs : List Str} {S5 : Sto}, LoreOk gs [] → gs.length = m → PotAt S5 p (n + 2 * b) → S5 t = some (.lst (gs.map D.str)) → S5 f = some (.lst []) → Kx [p] S S5 →
      wSs G (.cons (.set (.name 5) (.bi .tuple false (.cons false (.var 7) .nil))) (.cons (.for (.name 6) (.range (.cons false (.ite (.cmp .Gt (.var 1) (.cst (.int 1))) (.var 2) (.cst (.int 0))) .nil)) (.cons (.set (.name 9) (.bi .tuple false (.cons false (.call "_law_some" (.cons false (.var 0) (.cons false (.var 5) (.cons false (.cst (.int 2)) .nil)))) .nil))) (.cons (.expr (.bm .extend false (.var 8) (.cons false (.ite (.and (.cmp .NotIn (.var 9) (.var 8)) (.cmp .NotIn (.rev false (.var 9)) (.var 8))) (.lst false (.cons false (.var 9) .nil)) (.lst false .nil)) .nil))) .nil))) (.cons (.ret (.dict false (.cons (.cst (.str "guards")) (.var 5) (.cons (.cst (.str "bonds")) (.bi .tuple false (.cons false (.var 8) .nil)) .nil)))) .nil)))
        { nx := fun _ S1 => Q .non S1, rt := Q } [some (.ref p), some (.int m), some (.int b), some (.lst (pool.map D.str)), some (.str w), none, none, some (.ref t), some (.ref f), none] S5 := fun {gs S5} hL hgl hp5 ht5 hf5 k5 => by
    refine ss_set (S0 := S5) (v := nD gs) Kx.refl (Ev.tupleR ht5 (Ev.var rfl) (by rw [List.length_map]; exact line1 (by omega))) fun S6 k6 => ?_
    refine ss_for_rangeE H.mono ?_
    refine Ev.use (S := S6) (Ev.iteT (Ev.conv (Ev.gtI (Ev.var rfl) Ev.cst) (by
      rw [decide_eq_true]
      show (1 : Int) < m
      omega)) (Ev.var rfl)) Kx.refl fun S7 k7 => ?_
    refine ⟨b, rfl, by omega, fun i r S' => ∃ a6 a9 bs, r = [some (.ref p), some (.int m), some (.int b), some (.lst (pool.map D.str)), some (.str w), some (nD gs), a6, some (.ref t), some (.ref f), a9] ∧ LoreOk gs bs ∧ bs.length ≤ i ∧ PotAt S' p (n + 2 * (b - i)) ∧ S' f = some (.lst (bs.map pD)) ∧ Kx [p] S S', ?_, ?_, ?_⟩
    · exact ⟨none, none, [], rfl, hL, Nat.le_refl _, (hp5.ks (k6.trans k7)).less (by omega), (k6.trans k7).get hf5, k5.trans (Ks.up (k6.trans k7))⟩
    · rintro i r S8 hi ⟨a6, a9, bs, rfl, hL8, hbl, hp8, hf8, k8⟩
      refine ss_setE ?_
      rw [wE, wEs]
      refine some_at (S0 := S8) (m := 2) (k' := n + 2 * (b - (i + 1))) H.law_some Kx.refl (Ev.var rfl) (Ev.var rfl) Ev.cst (hp8.less (by omega)) (xs := gs.map D.str) rfl (by rw [List.length_map]; omega) (by rw [List.length_map]; omega) fun S9 u ys2 zs2 hu hfu hp9 hperm2 hyl2 k9 => ?_
      rw [if_neg Bool.false_ne_true, wEs]
      obtain ⟨l2, rest2, pm2, rfl, rfl⟩ := perm_map2 hperm2
      rw [List.length_map] at hyl2
      obtain ⟨x1, x2, rfl⟩ : ∃ x1 x2, l2 = [x1, x2] := by
        match l2, hyl2 with
        | [x1, x2], _ => exact ⟨x1, x2, rfl⟩
      refine ⟨_, by unfold seqD; rw [vw_lst' hu], line1 (by simp), ?_⟩
      have hxm : x1 ∈ gs ∧ x2 ∈ gs := ⟨pm2.mem_iff.mp (by simp), pm2.mem_iff.mp (by simp)⟩
      have hx12 : x1 ≠ x2 := by
        have := pm2.nodup_iff.mpr hL.nodup
        simp at this
        exact this.1.1
      have hf9 : S9 f = some (.lst (bs.map pD)) := k9.getN hf8 (by simpa using Ne.symm hpf)
      refine ss_ext (S0 := S9) Kx.refl rfl hf9 (new_bond (b := (x1, x2)) rfl rfl hf9) ?_ fun S10 k10 => st_nil ⟨_, _, bs ++ (if (x1, x2) ∉ bs ∧ swp (x1, x2) ∉ bs then [(x1, x2)] else []), rfl, ?_, ?_, ?_, ?_, ?_⟩
      · rw [List.length_map, List.length_map]
        have : (if (x1, x2) ∉ bs ∧ swp (x1, x2) ∉ bs then [(x1, x2)] else []).length ≤ 1 := by split <;> simp
        exact line1 (by omega)
      · split
        · rename_i hc
          exact ⟨hL8.names, hL8.nodup, hL8.bonds.add ⟨hxm.1, hxm.2, hx12⟩ hc.1 hc.2, hL8.lg, by rw [List.length_append, List.length_singleton]; omega⟩
        · rw [List.append_nil]; exact hL8
      · rw [List.length_append]
        have : (if (x1, x2) ∉ bs ∧ swp (x1, x2) ∉ bs then [(x1, x2)] else []).length ≤ 1 := by split <;> simp
        omega
      · have hp10 := hp9.ks k10
        obtain ⟨c1, c2, c3, e, r⟩ := hp10
        exact ⟨c1, c2, c3, by rw [sup_ne hpf]; exact e, r⟩
      · rw [sup_same, List.map_append]
      · intro o u' ho e
        have : o ≠ f := fun z => by rw [z, fS] at e; cases e
        rw [sup_ne this]
        exact k10.get (k9.getN (k8.getN e ho) ho)
    · rintro r S8 ⟨a6, a9, bs, rfl, hL8, hbl, hp8, hf8, k8⟩
      refine ss_retE (dict_lore (gs := gs) H.mono ?_)
      refine Ev.use (S := S8) (Ev.var rfl) Kx.refl fun S9 k9 => ⟨rfl, ?_⟩
      refine Ev.use (S := S9) (Ev.tupleR (k9.get hf8) (Ev.var rfl) (by rw [List.length_map]; exact line1 (by omega))) Kx.refl fun S10 k10 => ⟨bs, rfl, ?_⟩
      exact q gs bs S10 hL8 hgl hbl ((hp8.ks (k9.trans k10)).less (by omega)) (k8.trans (Ks.up (k9.trans k10)))
  have hL0 : ∀ {gs : List Str}, (∀ x ∈ gs, IsName x) → gs.Nodup → gs.length = m → LoreOk gs [] := fun h1 h2 h3 => ⟨h1, h2, ⟨by simp, List.Pairwise.nil⟩, by omega, by simp⟩
  refine ss_if (S0 := S4) (p := decide ¬ (w ∈ names)) Kx.refl (Ev.notInV (Ev.var rfl) (Ev.var rfl) (.inl (vw_lst' ht4)) (pl_str 6) (pl_map fun _ => pl_str 5) (mem_inj str_inj)) (fun hwn S5 k5 => ?_) fun _ S5 k5 => st_nil (hrest (hL0 hnn hnd hyl) hyl ((hp4.ks k5).less (by omega)) (k5.get ht4) (k5.get hf4) (kS4.trans (Ks.up k5)))
  have hwn' : w ∉ names := by simpa using hwn
  refine st_cons ?_
  rw [wS]
  refine Ev.use (S := S5) (Ev.var rfl) Kx.refl fun S6 k6 => ?_
  rw [wTg]
  refine Ev.use (S := S6) (Ev.var rfl) Kx.refl fun S7 k7 => ?_
  have k57 := (k5.trans k6).trans k7
  refine take_at (S0 := S7) (m := n + 2 * b) H.law_take Kx.refl (Ev.var rfl) (Ev.var rfl) (hp4.ks k57) ⟨by omega, by omega⟩ fun z S8 z0 z1 hp8 k8 => ?_
  have ht8 : S8 t = some (.lst (names.map D.str)) := k8.getN (k57.get ht4) (by simpa using Ne.symm hpt)
  have hf8 : S8 f = some (.lst []) := k8.getN (k57.get hf4) (by simpa using Ne.symm hpf)
  refine st_setr ht8 z0 (by rw [List.length_map]; omega) ?_
  show wSs G Ss.nil _ _ _
  refine st_nil ?_
  refine hrest (gs := names.set z.toNat w) (hL0 (fun x hx => ?_) (nodup_set hnd hwn') (by rw [List.length_set]; exact hyl)) (by rw [List.length_set]; exact hyl) ?_ ?_ ?_ ?_
  · rcases List.mem_or_eq_of_mem_set hx with h | h
    · exact hnn x h
    · rw [h]; exact hw
  · obtain ⟨c1, c2, c3, e, r⟩ := hp8
    exact ⟨c1, c2, c3, by rw [sup_ne hpt]; exact e, r⟩
  · rw [sup_same, List.map_set]
  · rw [sup_ne (Ne.symm htf)]; exact hf8
  · intro o u ho e
    have : o ≠ t := fun z => by rw [z, tS] at e; cases e
    rw [sup_ne this]
    exact k8.getN (k57.get (kS4.getN e ho)) ho
end Dz60
/-! K60g: all pairings, by the program and by the law. -/
namespace Dz60
open PySem PySem.Spec PyProof.Rows L2 Dz
variable {G : Sg}
def rowD (x : Rw) : D := .tup [rD x.1, nD x.2]
def part1 (ps : List Pr) (x : Rw) (d : List Str) : List Rw := match x.2 with
  | [] => []
  | a :: t => (d.filter fun o => decide ((a, o) ∈ ps)).map fun o => (x.1 ++ [(a, o)], t.filter fun z => decide (z ≠ o))
theorem part1_all (ps : List Pr) (x : Rw) : part1 ps x (x.2.drop 1) = step1 ps x := by
  unfold part1 step1
  cases x.2 <;> rfl
theorem part1_nil (ps : List Pr) (x : Rw) : part1 ps x [] = [] := by
  unfold part1
  cases x.2 <;> rfl
theorem part1_add {ps : List Pr} {x : Rw} {a o : Str} {t d : List Str} (e : x.2 = a :: t) : part1 ps x (d ++ [o]) = part1 ps x d ++ (if (a, o) ∈ ps then [(x.1 ++ [(a, o)], t.filter fun z => decide (z ≠ o))] else []) := by
  unfold part1
  rw [e]
  dsimp only
  rw [List.filter_append, List.map_append, List.filter_cons]
  congr 1
  by_cases h : (a, o) ∈ ps
  · rw [if_pos (by simpa using h), if_pos h]; rfl
  · rw [if_neg (by simpa using h), if_neg h]; rfl
theorem part1_app (ps : List Pr) (x : Rw) (d d2 : List Str) : part1 ps x (d ++ d2) = part1 ps x d ++ part1 ps x d2 := by
  unfold part1
  cases x.2 with
  | nil => rfl
  | cons a t => dsimp only; rw [List.filter_append, List.map_append]
theorem stepF_app (ps : List Pr) (f g : List Rw) : stepF ps (f ++ g) = stepF ps f ++ stepF ps g := List.flatMap_append
theorem stepF_one (ps : List Pr) (x : Rw) : stepF ps [x] = step1 ps x := by simp [stepF]
theorem part_len {ps : List Pr} {F done todo : List Rw} {x : Rw} {d d2 : List Str} (e : F = done ++ x :: todo) (e2 : x.2.drop 1 = d ++ d2) : (stepF ps done ++ part1 ps x d).length ≤ (stepF ps F).length := by
  have a : stepF ps F = stepF ps done ++ (step1 ps x ++ stepF ps todo) := by
    rw [e, stepF_app]
    rfl
  rw [a, ← part1_all, e2, part1_app, List.length_append, List.length_append, List.length_append, List.length_append]
  omega
theorem rowD_pl (x : Rw) : Pl 3 (rowD x) := pl_tup fun d hd => by
  simp only [List.mem_cons, List.not_mem_nil, or_false] at hd
  rcases hd with rfl | rfl
  · exact pl_r 0
  · exact pl_n 1
theorem iterF_nil {ps : List Pr} {gs : List Str} {i : Nat} (h : iterF ps gs i = []) : ∀ j, i ≤ j → iterF ps gs j = [] := by
  intro j hj
  induction hj with
  | refl => exact h
  | step _ ih => show stepF ps (iterF ps gs _) = []; rw [ih]; rfl
theorem big {gs : List Str} {ps : List Pr} (nd : gs.Nodup) (h8 : gs.length ≤ 8) {i : Nat} (hi : i < gs.length / 2) : (stepF ps (iterF ps gs i)).length ≤ 4096 := by
  have a := iterF_len (ps := ps) nd h8 (i + 1)
  have b : (8 : Nat) ^ (i + 1) ≤ 8 ^ 4 := Nat.pow_le_pow_right (by decide) (by omega)
  exact Nat.le_trans a (Nat.le_trans b (by decide))
theorem kp_full_pairings (H : H60 G) : Keeps G b_full_pairings 7 sp_full_pairings := by
  rintro ds S Q ⟨⟨x, R⟩, rfl, ⟨h, hR⟩, q⟩
  dsimp only at *
  refine ss_set Kx.refl (v := .lst [rowD ([], R.gs)]) (Ev.lst (EvL.cons (Ev.tup (EvL.cons (Ev.tup EvL.nil (line1 (by simp))) (EvL.cons (Ev.get H.Roll_guards (Ev.var rfl) h) EvL.nil)) (line1 (by simp))) EvL.nil) (line1 (by simp))) fun S1 k1 => ?_
  refine ss_while H.mono (fun n r S' => ∃ i v a2 a3 a4 a5 a6, n + i = R.gs.length / 2 ∧ r = [some x, some v, a2, a3, a4, a5, a6] ∧ Ks S S' ∧ vw S' v = .lst ((iterF R.ps R.gs i).map rowD)) (R.gs.length / 2) ⟨0, _, none, none, none, none, none, rfl, rfl, k1, rfl⟩ ?_
  rintro n r S2 ⟨i, v, a2, a3, a4, a5, a6, hn, rfl, k2, hv⟩
  have hok := iterF_ok (ps := R.ps) hR.nodup i
  have hlen : ∀ y ∈ iterF R.ps R.gs i, (y.2 ≠ [] ↔ i < R.gs.length / 2) := fun y hy => by
    have := (hok y hy).len
    have e := hR.ev
    constructor
    · intro hne
      have : y.2.length ≠ 0 := fun z => hne (List.eq_nil_of_length_eq_zero z)
      omega
    · intro hi z
      rw [z] at this
      simp at this
      omega
  refine ⟨decide (¬ iterF R.ps R.gs i = []) && decide (i < R.gs.length / 2), ?_, fun S3 k3 => ⟨fun hp => ?_, fun hp => ?_⟩⟩
  · refine Ev.and (Ev.neV (Ev.var rfl) (Ev.lst EvL.nil) hv (u := .lst ((iterF R.ps R.gs i).map rowD)) (t := .lst []) rfl (by simp) (by simp) (by simp) (pl_lst fun d hd => pl_le (pl_map rowD_pl d hd) (by decide)) p6_nilL ?_) fun hne => ?_
    · rw [D.lst.injEq, List.map_eq_nil_iff]
    · cases e : iterF R.ps R.gs i with
      | nil => rw [e] at hne; simp at hne
      | cons y F =>
        rw [e] at hv
        refine Ev.conv (Ev.neT (pr := y.2 = []) (xs := y.2.map D.str) (ys := []) (Ev.ixT (xs := [rD y.1, nD y.2]) (Ev.ixV (v := rowD y) hv (Ev.var rfl) Ev.cst (by exact atI_n (n := 0))) Ev.cst rfl) (Ev.tup EvL.nil) (pl_n 5) p6_nilT (by rw [List.map_eq_nil_iff])) ?_
        have := hlen y (by rw [e]; simp)
        congr 1
        exact decide_eq_decide.mpr this
  · simp only [Bool.and_eq_true, decide_eq_true_eq] at hp
    obtain ⟨hne, hi⟩ := hp
    obtain ⟨n', rfl⟩ : ∃ n', n = n' + 1 := ⟨n - 1, by omega⟩
    refine ⟨n', rfl, ?_⟩
    have k3' : Ks S S3 := k2.trans k3
    refine ss_new (S0 := S) k3' EvL.nil (line1 (by simp)) fun B l kB hl => ?_
    have hvB : vw B v = .lst ((iterF R.ps R.gs i).map rowD) := vw_ks (k3.trans kB) hv (by simp)
    have hB := h.ks (k3'.trans kB)
    refine ss_for (S0 := B) H.mono rowD (iterF R.ps R.gs i) (Ks.new hl) (EvS.ofV hvB (Ev.var rfl)) (fun done todo r S' => ∃ a3 a4 a5 a6, r = [some x, some v, some (.ref l), a3, a4, a5, a6] ∧ Ks B S' ∧ S' l = some (.lst ((stepF R.ps done).map rowD))) fun g S4 k4 hg => ⟨⟨a3, a4, a5, a6, rfl, (Ks.new hl).trans k4, k4.get sup_same⟩, ?_, ?_⟩
    · rintro r S5 ⟨a3, a4, a5, a6, rfl, k5, hl5⟩
      refine ⟨hg S5 k5, ss_set (S0 := S5) Kx.refl (Ev.var rfl) fun S6 k6 => st_nil ⟨i + 1, .ref l, some (.ref l), a3, a4, a5, a6, by omega, rfl, ((k3'.trans kB).trans k5).trans k6, vw_lst' (k6.get hl5)⟩⟩
    · rintro done y todo r S5 ed ⟨a3, a4, a5, a6, rfl, k5, hl5⟩
      refine ⟨hg S5 k5, _, TgOk.two (.inl rfl), ?_⟩
      have hy := hok y (by rw [ed]; simp)
      have hyl : y.2.length ≤ 8 := by have := hy.len; have := hR.lg; omega
      have hrl : y.1.length ≤ 8 := by have := hy.row; have := hR.lg; omega
      have hsrc : Ev G (.sl false (.var 4) (.yes (.cst (.int 1))) .no) [some x, some v, some (.ref l), some (rD y.1), some (nD y.2), a5, a6] B (.tup ((y.2.drop 1).map D.str)) :=
        Ev.conv (Ev.slT (xs := y.2.map D.str) (Ev.var rfl) (EvO.yes Ev.cst) EvO.no (by rw [List.length_map]; exact line1 (by omega))) (by
          rw [List.map_drop]
          exact congrArg D.tup (cutL_from (n := 1)))
      refine ss_for (S0 := B) H.mono D.str (y.2.drop 1) k5 (EvS.ofT hsrc) (fun d _ r S' => ∃ a5 a6, r = [some x, some v, some (.ref l), some (rD y.1), some (nD y.2), a5, a6] ∧ Ks B S' ∧ S' l = some (.lst ((stepF R.ps done ++ part1 R.ps y d).map rowD))) fun g2 S6 k6 hg2 => ⟨⟨a5, a6, rfl, k5.trans k6, by rw [part1_nil, List.append_nil]; exact k6.get hl5⟩, ?_, ?_⟩
      · rintro r S7 ⟨a5, a6, rfl, k7, hl7⟩
        refine ⟨hg2 S7 k7, st_nil ⟨_, _, a5, a6, rfl, k7, ?_⟩⟩
        rw [hl7, part1_all, stepF_app, stepF_one]
      · rintro d o d2 r S7 ed2 ⟨a5, a6, rfl, k7, hl7⟩
        refine ⟨hg2 S7 k7, _, TgOk.name, ?_⟩
        obtain ⟨a, t, ey⟩ : ∃ a t, y.2 = a :: t := by
          cases e : y.2 with
          | nil => rw [e] at ed2; simp at ed2
          | cons a t => exact ⟨a, t, rfl⟩
        have hlt : (stepF R.ps done ++ part1 R.ps y d).length < sizeLine := by
          have a1 := part_len (ps := R.ps) ed ed2
          have a2 := big (ps := R.ps) hR.nodup hR.lg.2 hi
          rw [sizeLine_eq]; omega
        have hpr : Ev G (.tup (.cons false (.ix (.var 4) (.cst (.int 0))) (.cons false (.var 5) .nil))) [some x, some v, some (.ref l), some (rD y.1), some (nD y.2), some (.str o), a6] B (pD (a, o)) :=
          Ev.tup (EvL.cons (Ev.ixT (xs := y.2.map D.str) (Ev.var rfl) Ev.cst (by rw [ey]; exact atI_n (n := 0))) (EvL.cons (Ev.var rfl) EvL.nil)) (line1 (by simp))
        have hin : Ev G (.cmp .In (.tup (.cons false (.ix (.var 4) (.cst (.int 0))) (.cons false (.var 5) .nil))) (.prop "Roll" (.var 0) "pairs")) [some x, some v, some (.ref l), some (rD y.1), some (nD y.2), some (.str o), a6] B (.bl (decide ((a, o) ∈ R.ps))) :=
          Ev.inT hpr (Ev.get H.Roll_pairs (Ev.var rfl) hB) (pl_p 5) (pl_map fun _ => pl_p 4) (mem_inj pD_inj)
        refine ss_if k7 hin (fun hp S8 k8 => ?_) (fun hp S8 k8 => ?_)
        · have hp' : (a, o) ∈ R.ps := by simpa using hp
          have hval : Ev G (.tup (.cons false (.tup (.cons true (.var 3) (.cons false (.tup (.cons false (.ix (.var 4) (.cst (.int 0))) (.cons false (.var 5) .nil))) .nil))) (.cons false (.bi .tuple false (.cons false (.comp false [6] (.name 6) (.var 6) (.yes (.cmp .NotEq (.var 6) (.var 5))) (.of (.sl false (.var 4) (.yes (.cst (.int 1))) .no))) .nil)) .nil)))
              [some x, some v, some (.ref l), some (rD y.1), some (nD y.2), some (.str o), a6] B (rowD (y.1 ++ [(a, o)], t.filter fun z => decide (z ≠ o))) := by
            refine Ev.conv (Ev.tup (EvL.cons (Ev.tup (EvL.star (xs := y.1.map pD) (Ev.var rfl) rfl (EvL.cons hpr EvL.nil)) ?_) (EvL.cons (Ev.tupleL (Ev.compc (l := t) (enc := D.str) (f := D.str) (p := fun z => decide (z ≠ o)) H.mono (EvS.ofT ?_) (line1 ?_) (fun _ _ => TgOk.name) (fun z hz => EvC.yes (Ev.neS (Ev.var rfl) (Ev.var rfl))) fun z hz _ => Ev.var rfl) ?_) EvL.nil)) (line1 (by simp))) ?_
            · rw [List.length_append, List.length_map]
              exact line1 (by simp; omega)
            · have e1 : y.2.drop 1 = t := by rw [ey]; rfl
              rw [e1] at hsrc
              exact Ev.conv (Ev.slT (xs := y.2.map D.str) (Ev.var rfl) (EvO.yes Ev.cst) EvO.no (by rw [List.length_map]; exact line1 (by omega))) (by
                rw [← e1, List.map_drop]
                exact congrArg D.tup (cutL_from (n := 1)))
            · rw [ey, List.length_cons] at hyl; omega
            · rw [List.length_map]
              rw [ey, List.length_cons] at hyl
              exact line1 (Nat.le_trans (List.length_filter_le _ _) (by omega))
            · simp only [rowD, rD, nD, List.map_append, List.map_cons, List.map_nil]
          refine ss_app (k7.trans k8) rfl (k8.get hl7) (by rw [List.length_map]; exact hlt) hval fun S9 k9 => st_nil2 ⟨_, a6, rfl, ?_, ?_⟩
          · exact Kx.fresh hl ((Ks.up ((k7.trans k8).trans k9)).trans (Kx.sup (by simp)))
          · rw [sup_same, part1_add ey, if_pos hp']
            simp only [List.map_append, List.map_cons, List.map_nil, List.append_assoc]
        · have hp' : ¬ (a, o) ∈ R.ps := by simpa using hp
          refine st_nil2 ⟨_, a6, rfl, k7.trans k8, ?_⟩
          rw [part1_add ey, if_neg hp', List.append_nil]
          exact k8.get hl7
  · have e : iterF R.ps R.gs i = iterF R.ps R.gs (R.gs.length / 2) := by
      by_cases hi : i < R.gs.length / 2
      · have hF : iterF R.ps R.gs i = [] := by simpa [hi] using hp
        rw [hF, iterF_nil hF _ (by omega)]
      · rw [show i = R.gs.length / 2 by omega]
    rw [e] at hv
    have hl : (iterF R.ps R.gs (R.gs.length / 2)).length ≤ 4096 := by
      have := fullR_len (ps := R.ps) hR.nodup hR.lg.2
      unfold fullR at this
      rwa [List.length_map] at this
    refine ss_ret k3 (Ev.conv (Ev.comp (l := iterF R.ps R.gs (R.gs.length / 2)) (enc := rowD) (f := fun y => rD (srtP y.1)) H.mono (EvS.ofV hv (Ev.var rfl)) (line1 (by omega)) (fun y hy => TgOk.two (.inl rfl)) fun y hy => ?_) ?_) fun S4 k4 => q S4 ((k2.trans k3).trans k4)
    · have hr := (iterF_ok (ps := R.ps) hR.nodup _ y hy).row
      have := hR.lg
      have hz : (y.1.map pD).length ≤ sizeLine := by rw [List.length_map]; exact line1 (by omega)
      refine Ev.conv (Ev.tupleL (Ev.sortedT (xs := y.1.map pD) (Ev.var rfl) (srt_p _) hz) (by rw [sortD_len]; exact hz)) ?_
      rw [srtP_eq]
      rfl
    · unfold fullR
      rw [List.map_map]
      rfl
theorem kp_law_full (H : H60 G) : Keeps G b_law_full 9 sp_law_full := by
  rintro ds S Q ⟨⟨gs, bs⟩, rfl, ⟨h, hev, h8⟩, q⟩
  dsimp only at *
  refine ss_par2 Kx.refl (x := .lst ((pairsOf gs bs).map pD)) (y := .lst [rowD ([], gs)]) (Ev.call H.law_pairs (gs, bs) (EvL.cons (Ev.var rfl) EvL.nil) fun _ _ => h) (Ev.lst (EvL.cons (Ev.tup (EvL.cons (Ev.tup EvL.nil (line1 (by simp))) (EvL.cons (loreG rfl) EvL.nil)) (line1 (by simp))) EvL.nil) (line1 (by simp))) fun S1 k1 => ?_
  have hi2 : (((gs.map D.str).length : Int) / 2).toNat = gs.length / 2 := by rw [List.length_map]; omega
  refine ss_for (S0 := S) H.mono (fun i : Nat => D.int (0 + (i : Int) * 1)) (List.range (gs.length / 2)) k1 ?_ (fun done todo r S' => ∃ v lap a4 a5 a6 a7 a8, r = [some (loreD gs bs), lap, some (.lst ((pairsOf gs bs).map pD)), some v, a4, a5, a6, a7, a8] ∧ Ks S S' ∧ vw S' v = .lst ((iterF (pairsOf gs bs) gs done.length).map rowD))
    fun g S2 k2 hg => ⟨⟨.lst [rowD ([], gs)], none, none, none, none, none, none, rfl, k1.trans k2, rfl⟩, ?_, ?_⟩
  · refine EvS.conv (EvS.range1 (Ev.div (Ev.lenT (loreG (gs := gs) (bs := bs) rfl)) Ev.cst ⟨by decide, by decide⟩) ?_) ?_
    · rw [List.length_map]
      constructor <;> omega
    · show rangeD 0 1 (((gs.map D.str).length : Int) / 2).toNat = _
      rw [hi2]
      rfl
  · rintro r S3 ⟨v, lap, a4, a5, a6, a7, a8, rfl, k3, hv⟩
    refine ⟨hg S3 k3, ?_⟩
    rw [List.length_range] at hv
    have hl : (iterF (pairsOf gs bs) gs (gs.length / 2)).length ≤ 4096 := by
      have := fullR_len (ps := pairsOf gs bs) h.nodup h8
      unfold fullR at this
      rwa [List.length_map] at this
    refine ss_ret (S0 := S3) Kx.refl (Ev.conv (Ev.compc (l := iterF (pairsOf gs bs) gs (gs.length / 2)) (enc := rowD) (p := fun y => decide (y.2 = [])) (f := fun y => rD (srtP y.1)) H.mono (EvS.ofV hv (Ev.var rfl)) (line1 (by omega)) (fun y hy => TgOk.two (.inl rfl)) (fun y hy => EvC.yes ?_) fun y hy _ => ?_) ?_) fun S4 k4 => q S4 (k3.trans k4)
    · exact Ev.eqT (xs := y.2.map D.str) (ys := []) (Ev.var rfl) (Ev.tup EvL.nil) (pl_n 5) p6_nilT List.map_eq_nil_iff
    · have hr := (iterF_ok (ps := pairsOf gs bs) h.nodup _ y hy).row
      have hz : (y.1.map pD).length ≤ sizeLine := by rw [List.length_map]; exact line1 (by omega)
      refine Ev.conv (Ev.tupleL (Ev.sortedT (xs := y.1.map pD) (Ev.var rfl) (srt_p _) hz) (by rw [sortD_len]; exact hz)) ?_
      rw [srtP_eq]
      rfl
    · rw [List.filter_eq_self.mpr fun y hy => by simpa using iterF_last h.nodup hev y hy]
      unfold fullR
      rw [List.map_map]
      rfl
  · rintro done0 i0 todo0 r S3 ed0 ⟨v, lap0, a4, a5, a6, a7, a8, rfl, k3, hv⟩
    have hi : done0.length < gs.length / 2 := by
      have := congrArg List.length ed0
      rw [List.length_range, List.length_append, List.length_cons] at this
      omega
    refine ⟨hg S3 k3, _, TgOk.name, ?_⟩
    have hok := iterF_ok (ps := pairsOf gs bs) h.nodup done0.length
    generalize hlap : (some (D.int (0 + (i0 : Int) * 1)) : Option D) = lap
    show wSs G _ _ [some (loreD gs bs), lap, some (.lst ((pairsOf gs bs).map pD)), some v, a4, a5, a6, a7, a8] S3
    have k3' : Ks S S3 := k3
    refine ss_new (S0 := S) k3' EvL.nil (line1 (by simp)) fun B l kB hl => ?_
    have hvB : vw B v = .lst ((iterF (pairsOf gs bs) gs done0.length).map rowD) := vw_ks kB hv (by simp)
    refine ss_for (S0 := B) H.mono rowD (iterF (pairsOf gs bs) gs done0.length) (Ks.new hl) (EvS.ofV hvB (Ev.var rfl)) (fun done todo r S' => ∃ a5 a6 a7 a8, r = [some (loreD gs bs), lap, some (.lst ((pairsOf gs bs).map pD)), some v, some (.ref l), a5, a6, a7, a8] ∧ Ks B S' ∧ S' l = some (.lst ((stepF (pairsOf gs bs) done).map rowD))) fun g S4 k4 hg => ⟨⟨a5, a6, a7, a8, rfl, (Ks.new hl).trans k4, k4.get sup_same⟩, ?_, ?_⟩
    · rintro r S5 ⟨a5, a6, a7, a8, rfl, k5, hl5⟩
      refine ⟨hg S5 k5, ss_set (S0 := S5) Kx.refl (Ev.var rfl) fun S6 k6 => st_nil ⟨.ref l, lap, some (.ref l), a5, a6, a7, a8, rfl, ((k3'.trans kB).trans k5).trans k6, by rw [List.length_append]; exact vw_lst' (k6.get hl5)⟩⟩
    · rintro done y todo r S5 ed ⟨a5, a6, a7, a8, rfl, k5, hl5⟩
      refine ⟨hg S5 k5, _, TgOk.two (.inl rfl), ?_⟩
      have hy := hok y (by rw [ed]; simp)
      have hyl : y.2.length ≤ 8 := by have := hy.len; have := h8; omega
      have hrl : y.1.length ≤ 8 := by have := hy.row; have := h8; omega
      have hsrc : Ev G (.sl false (.var 6) (.yes (.cst (.int 1))) .no) [some (loreD gs bs), lap, some (.lst ((pairsOf gs bs).map pD)), some v, some (.ref l), some (rD y.1), some (nD y.2), a7, a8] B (.tup ((y.2.drop 1).map D.str)) :=
        Ev.conv (Ev.slT (xs := y.2.map D.str) (Ev.var rfl) (EvO.yes Ev.cst) EvO.no (by rw [List.length_map]; exact line1 (by omega))) (by
          rw [List.map_drop]
          exact congrArg D.tup (cutL_from (n := 1)))
      refine ss_for (S0 := B) H.mono D.str (y.2.drop 1) k5 (EvS.ofT hsrc) (fun d _ r S' => ∃ a7 a8, r = [some (loreD gs bs), lap, some (.lst ((pairsOf gs bs).map pD)), some v, some (.ref l), some (rD y.1), some (nD y.2), a7, a8] ∧ Ks B S' ∧ S' l = some (.lst ((stepF (pairsOf gs bs) done ++ part1 (pairsOf gs bs) y d).map rowD))) fun g2 S6 k6 hg2 => ⟨⟨a7, a8, rfl, k5.trans k6, by rw [part1_nil, List.append_nil]; exact k6.get hl5⟩, ?_, ?_⟩
      · rintro r S7 ⟨a7, a8, rfl, k7, hl7⟩
        refine ⟨hg2 S7 k7, st_nil ⟨_, _, a7, a8, rfl, k7, ?_⟩⟩
        rw [hl7, part1_all, stepF_app, stepF_one]
      · rintro d o d2 r S7 ed2 ⟨a7, a8, rfl, k7, hl7⟩
        refine ⟨hg2 S7 k7, _, TgOk.name, ?_⟩
        obtain ⟨a, t, ey⟩ : ∃ a t, y.2 = a :: t := by
          cases e : y.2 with
          | nil => rw [e] at ed2; simp at ed2
          | cons a t => exact ⟨a, t, rfl⟩
        have hlt : (stepF (pairsOf gs bs) done ++ part1 (pairsOf gs bs) y d).length < sizeLine := by
          have a1 := part_len (ps := (pairsOf gs bs)) ed ed2
          have a2 := big (ps := (pairsOf gs bs)) h.nodup h8 hi
          rw [sizeLine_eq]; omega
        have hpr : Ev G (.tup (.cons false (.ix (.var 6) (.cst (.int 0))) (.cons false (.var 7) .nil))) [some (loreD gs bs), lap, some (.lst ((pairsOf gs bs).map pD)), some v, some (.ref l), some (rD y.1), some (nD y.2), some (.str o), a8] B (pD (a, o)) :=
          Ev.tup (EvL.cons (Ev.ixT (xs := y.2.map D.str) (Ev.var rfl) Ev.cst (by rw [ey]; exact atI_n (n := 0))) (EvL.cons (Ev.var rfl) EvL.nil)) (line1 (by simp))
        have hin : Ev G (.cmp .In (.tup (.cons false (.ix (.var 6) (.cst (.int 0))) (.cons false (.var 7) .nil))) (.var 2)) [some (loreD gs bs), lap, some (.lst ((pairsOf gs bs).map pD)), some v, some (.ref l), some (rD y.1), some (nD y.2), some (.str o), a8] B (.bl (decide ((a, o) ∈ (pairsOf gs bs)))) :=
          Ev.inL hpr (Ev.var rfl) (pl_p 5) (pl_map fun _ => pl_p 4) (mem_inj pD_inj)
        refine ss_if k7 hin (fun hp S8 k8 => ?_) (fun hp S8 k8 => ?_)
        · have hp' : (a, o) ∈ (pairsOf gs bs) := by simpa using hp
          have hval : Ev G (.tup (.cons false (.bin .Add false (.var 5) (.tup (.cons false (.tup (.cons false (.ix (.var 6) (.cst (.int 0))) (.cons false (.var 7) .nil))) .nil))) (.cons false (.bi .tuple false (.cons false (.comp false [8] (.name 8) (.var 8) (.yes (.cmp .NotEq (.var 8) (.var 7))) (.of (.sl false (.var 6) (.yes (.cst (.int 1))) .no))) .nil)) .nil)))
              [some (loreD gs bs), lap, some (.lst ((pairsOf gs bs).map pD)), some v, some (.ref l), some (rD y.1), some (nD y.2), some (.str o), a8] B (rowD (y.1 ++ [(a, o)], t.filter fun z => decide (z ≠ o))) := by
            refine Ev.conv (Ev.tup (EvL.cons (Ev.addT (xs := y.1.map pD) (Ev.var rfl) (Ev.tup (EvL.cons hpr EvL.nil) (line1 (by simp))) ?_) (EvL.cons (Ev.tupleL (Ev.compc (l := t) (enc := D.str) (f := D.str) (p := fun z => decide (z ≠ o)) H.mono (EvS.ofT ?_) (line1 ?_) (fun _ _ => TgOk.name) (fun z hz => EvC.yes (Ev.neS (Ev.var rfl) (Ev.var rfl))) fun z hz _ => Ev.var rfl) ?_) EvL.nil)) (line1 (by simp))) ?_
            · rw [List.length_append, List.length_map]
              exact line1 (by simp; omega)
            · have e1 : y.2.drop 1 = t := by rw [ey]; rfl
              rw [e1] at hsrc
              exact Ev.conv (Ev.slT (xs := y.2.map D.str) (Ev.var rfl) (EvO.yes Ev.cst) EvO.no (by rw [List.length_map]; exact line1 (by omega))) (by
                rw [← e1, List.map_drop]
                exact congrArg D.tup (cutL_from (n := 1)))
            · rw [ey, List.length_cons] at hyl; omega
            · rw [List.length_map]
              rw [ey, List.length_cons] at hyl
              exact line1 (Nat.le_trans (List.length_filter_le _ _) (by omega))
            · simp only [rowD, rD, nD, List.map_append, List.map_cons, List.map_nil]
          refine ss_app (k7.trans k8) rfl (k8.get hl7) (by rw [List.length_map]; exact hlt) hval fun S9 k9 => st_nil2 ⟨_, a8, rfl, ?_, ?_⟩
          · exact Kx.fresh hl ((Ks.up ((k7.trans k8).trans k9)).trans (Kx.sup (by simp)))
          · rw [sup_same, part1_add ey, if_pos hp']
            simp only [List.map_append, List.map_cons, List.map_nil, List.append_assoc]
        · have hp' : ¬ (a, o) ∈ (pairsOf gs bs) := by simpa using hp
          refine st_nil2 ⟨_, a8, rfl, k7.trans k8, ?_⟩
          rw [part1_add ey, if_neg hp', List.append_nil]
          exact k8.get hl7
end Dz60
/-! K60h: fates, what a pair may cost. -/
namespace Dz60
open PySem PySem.Spec PyProof.Rows L2 Dz
variable {G : Sg}
def encC (c : List Pr → Int) (row : List Pr) : D := .tup [.int (c row), rD row]
theorem dlt_first {i j : Int} {xs ys : List D} (h : i < j) : dlt (.tup (.int i :: xs)) (.tup (.int j :: ys)) = true := by
  show PySem.W.dataLt (.tuple (.int i :: pyAll xs)) (.tuple (.int j :: pyAll ys)) = true
  rw [PySem.W.dataLt_tuple, PySem.W.dataLt_cons (by simp [PySem.W.alike]), if_neg (by simp [PyData.eqv]; omega), PySem.W.dataLt_int]
  exact decide_eq_true h
theorem costs_sorted (F : List (List Pr)) (c : List Pr → Int) : ∃ L : List (List Pr), L.Perm F ∧ sortD (F.map (encC c)) = L.map (encC c) ∧ L.Pairwise fun a b => c a ≤ c b := by
  obtain ⟨L, p, e⟩ := sortD_map (f := encC c) F
  refine ⟨L, p, e, ?_⟩
  have h := sortD_sorted (F.map (encC c))
  rw [e, List.pairwise_map] at h
  refine h.imp fun {a b} hab => ?_
  by_cases k : c a ≤ c b
  · exact k
  · rw [show dlt (encC c b) (encC c a) = true from dlt_first (by omega)] at hab
    cases hab
theorem alike_c (c : List Pr → Int) (a b : List Pr) : alikeD (encC c a) (encC c b) := by
  show PySem.W.alike (.tuple [.int (c a), pyOf (rD a)]) (.tuple [.int (c b), pyOf (rD b)]) = true
  have h : PySem.W.alike (pyOf (rD a)) (pyOf (rD b)) = true := alike_r a b
  simp [PySem.W.alike, PySem.W.alikeAll, h]
theorem encC_pl (c : List Pr → Int) (row : List Pr) : Pl 5 (encC c row) := pl_tup fun d hd => by
  simp only [List.mem_cons, List.not_mem_nil, or_false] at hd
  rcases hd with rfl | rfl
  · exact pl_int 4
  · exact pl_r 2
theorem srt_c (c : List Pr → Int) (l : List (List Pr)) : Srt (l.map (encC c)) := ⟨pl_map (encC_pl c), fun d hd e he => by
    obtain ⟨x, _, rfl⟩ := List.mem_map.mp hd
    obtain ⟨y, _, rfl⟩ := List.mem_map.mp he
    exact alike_c c x y, .inl fun d hd => by
    obtain ⟨x, _, rfl⟩ := List.mem_map.mp hd
    exact ⟨_, _, rfl⟩⟩
theorem first_least {F L : List (List Pr)} {c : List Pr → Int} {b : List Pr} {L' : List (List Pr)} (p : L.Perm F) (h : L.Pairwise fun a b => c a ≤ c b) (e : L = b :: L') : c b = least F c := by
  have hF : F ≠ [] := fun z => by rw [z] at p; rw [e] at p; exact absurd p.length_eq (by simp)
  rw [← least_perm hF p]
  refine (least_mem (by rw [e]; simp) fun y hy => ?_).symm
  obtain ⟨x, hx, rfl⟩ := List.mem_map.mp hy
  rw [e] at hx h
  rcases List.mem_cons.mp hx with rfl | hx
  · exact Int.le_refl _
  · exact (List.pairwise_cons.mp h).1 x hx
theorem kp_costs_of (H : H60 G) : Keeps G b_costs_of 3 sp_costs_of := by
  rintro ds S Q ⟨⟨x, R, ps⟩, rfl, ⟨h, hR, hp⟩, q⟩
  dsimp only at *
  have hl := fullR_len (ps := R.ps) hR.nodup hR.lg.2
  refine ss_ret Kx.refl (Ev.sortedL (xs := (fullR R.gs R.ps).map (encC (costR R.ps ps))) (Ev.comp (l := fullR R.gs R.ps) (enc := rD) H.mono (EvS.ofL (Ev.call H.full_pairings (x, R) (EvL.cons (Ev.var rfl) EvL.nil) fun _ k => ⟨h.ks k, hR⟩)) (line1 (by omega)) (fun _ _ => TgOk.name) fun row hr => ?_) (srt_c _ _) (by rw [List.length_map]; exact line1 (by omega))) q
  obtain ⟨h1, h2⟩ := fullR_mem hR.nodup hr
  refine Ev.tup (EvL.cons (Ev.call H.cost_of ((x, R, ps), row) (EvL.cons (Ev.var rfl) (EvL.cons (Ev.var rfl) (EvL.cons (Ev.var rfl) EvL.nil))) fun _ k => ⟨h.ks k, hR, hp, h1, ?_⟩) (EvL.cons (Ev.var rfl) EvL.nil)) (line1 (by simp))
  have := hR.lg
  dsimp only
  omega
theorem kp_check_full (H : H60 G) : Keeps G b_check_full 2 sp_check_full := by
  rintro ds S Q ⟨⟨x, R, ps⟩, rfl, ⟨h, hR, hp⟩, q⟩
  dsimp only at *
  refine ss_expr Kx.refl (Ev.call H.check_prices (x, R, ps) (EvL.cons (Ev.var rfl) (EvL.cons (Ev.var rfl) EvL.nil)) fun _ k => ⟨h.ks k, hR, hp⟩) fun S1 k1 => ?_
  refine ss_ifF k1 ?_ fun S2 k2 => st_nil (q S2 (k1.trans k2))
  refine Ev.conv (Ev.eqL (pr := fullR R.gs R.ps = []) (Ev.call H.full_pairings (x, R) (EvL.cons (Ev.var rfl) EvL.nil) fun _ k => ⟨h.ks k, hR⟩) (Ev.lst EvL.nil) (pl_lst (pl_map fun _ => pl_r 3)) p6_nilL List.map_eq_nil_iff) ?_
  rw [decide_eq_false hR.full]
/-- the word of a pair -/
def wordOf (best : List (List Pr)) (p : Pr) : Str :=
  let many := (best.filter fun row => decide (p ∈ row)).length
  if many = 0 then "none" else if many = best.length then "all" else "some"
theorem wordOf_perm {b b' : List (List Pr)} (h : b.Perm b') (p : Pr) : wordOf b p = wordOf b' p := by
  unfold wordOf
  rw [(h.filter _).length_eq, h.length_eq]
theorem kp_fates (H : H60 G) : Keeps G b_fates 9 sp_fates := by
  rintro ds S Q ⟨⟨x, R, ps⟩, rfl, ⟨h, hR, hp⟩, q⟩
  dsimp only at *
  obtain ⟨L, pe, hL, hs⟩ := costs_sorted (fullR R.gs R.ps) (costR R.ps ps)
  have hl := fullR_len (ps := R.ps) hR.nodup hR.lg.2
  have hLl : L.length ≤ 4096 := by rw [pe.length_eq]; exact hl
  cases eL : L with
  | nil => rw [eL] at pe; exact absurd (List.Perm.nil_eq pe).symm hR.full
  | cons b L' =>
  have hb := first_least pe hs eL
  refine ss_expr Kx.refl (Ev.call H.check_full (x, R, ps) (EvL.cons (Ev.var rfl) (EvL.cons (Ev.var rfl) EvL.nil)) fun _ k => ⟨h.ks k, hR, hp⟩) fun S1 k1 => ?_
  refine ss_set (v := .lst (L.map (encC (costR R.ps ps)))) k1 (Ev.conv (Ev.call H.costs_of (x, R, ps) (EvL.cons (Ev.var rfl) (EvL.cons (Ev.var rfl) EvL.nil)) fun _ k => ⟨h.ks k, hR, hp⟩) (by rw [← hL]; rfl)) fun S2 k2 => ?_
  refine ss_par2n (k1.trans k2) (x := .lst ((L.filter fun row => decide (costR R.ps ps row = costR R.ps ps b)).map rD)) (Ev.compc (l := L) (enc := encC (costR R.ps ps)) H.mono (EvS.ofL (Ev.var rfl)) (line1 (by omega)) (fun row _ => TgOk.two (.inl rfl)) (fun row _ => EvC.yes (Ev.eqI (Ev.var rfl) ?_)) fun row _ _ => Ev.var rfl) fun S3 l k3 hl3 => ?_
  · exact Ev.ixT (xs := [.int (costR R.ps ps b), rD b]) (Ev.ixL (xs := L.map (encC (costR R.ps ps))) (Ev.var rfl) Ev.cst (by rw [eL]; exact atI_n (n := 0))) Ev.cst rfl
  generalize hbest : (L.filter fun row => decide (costR R.ps ps row = costR R.ps ps b)) = best
  have hbl : best.length ≤ 4096 := by rw [← hbest]; exact Nat.le_trans (List.length_filter_le _ _) hLl
  have kk : Ks S S3 := (k1.trans k2).trans k3
  have hB := h.ks kk
  refine ss_for (S0 := S3) H.mono pD R.ps (Ks.new hl3) (EvS.ofT (Ev.get H.Roll_pairs (Ev.var rfl) hB)) (fun done _ r S' => ∃ a3 a6 a7 a8, r = [some x, some (iD ps), some (.lst (L.map (encC (costR R.ps ps)))), a3, some (.lst (best.map rD)), some (.ref l), a6, a7, a8] ∧ Ks S3 S' ∧ S' l = some (.lst ((done.map (wordOf best)).map D.str)))
    fun g S4 k4 hg => ⟨⟨none, none, none, none, rfl, (Ks.new hl3).trans k4, k4.get sup_same⟩, ?_, ?_⟩
  · rintro r S5 ⟨a3, a6, a7, a8, rfl, k5, hl5⟩
    refine ⟨hg S5 k5, ss_ret (S0 := S5) Kx.refl (Ev.conv (Ev.tupleR hl5 (Ev.var rfl) (by rw [List.length_map, List.length_map]; exact line1 (by have := hR.lp; omega))) ?_) fun S6 k6 => q S6 ((kk.trans k5).trans k6)⟩
    unfold wordsOf nD
    congr 2
    refine List.map_congr_left fun p _ => ?_
    rw [← hb]
    exact wordOf_perm (by rw [← hbest]; exact pe.filter _) p
  · rintro done p todo r S5 ed ⟨a3, a6, a7, a8, rfl, k5, hl5⟩
    refine ⟨hg S5 k5, _, TgOk.name, ?_⟩
    refine ss_set (S0 := S3) k5 (v := .int ((best.filter fun row => decide (p ∈ row)).length)) (Ev.conv (Ev.lenL (Ev.compc (l := best) (enc := rD) (f := rD) (p := fun row => decide (p ∈ row)) H.mono (EvS.ofL (Ev.var rfl)) (line1 (by omega)) (fun _ _ => TgOk.name) (fun row _ => EvC.yes (Ev.inT (x := pD p) (ys := row.map pD) (Ev.var rfl) (Ev.var rfl) (pl_p 5) (pl_map fun _ => pl_p 4) (mem_inj pD_inj))) fun row _ _ => Ev.var rfl)) (by rw [List.length_map])) fun S6 k6 => ?_
    refine ss_app (S0 := S3) (v := .str (wordOf best p)) (k5.trans k6) rfl (k6.get hl5) ?_ ?_ fun S7 k7 => st_nil ⟨_, _, a7, a8, rfl, ?_, ?_⟩
    · rw [List.length_map, List.length_map]
      have := congrArg List.length ed
      rw [List.length_append, List.length_cons] at this
      have := hR.lp
      rw [sizeLine_eq]
      omega
    · refine Ev.conv (Ev.ite (Ev.eqI (Ev.var rfl) Ev.cst) (fun _ => Ev.glob H.g13) fun _ => Ev.ite (Ev.eqI (Ev.var rfl) (Ev.lenL (xs := best.map rD) (Ev.var rfl))) (fun _ => Ev.glob H.g11) fun _ => Ev.glob H.g12) ?_
      unfold wordOf
      rw [List.length_map]
      simp only [decide_eq_true_eq, Int.natCast_inj, Int.natCast_eq_zero, apply_ite D.str]
    · exact Kx.fresh hl3 ((Ks.up ((k5.trans k6).trans k7)).trans (Kx.sup (by simp)))
    · rw [sup_same]
      simp only [List.map_append, List.map_cons, List.map_nil]
theorem kp_may_cost (H : H60 G) : Keeps G b_may_cost 9 sp_may_cost := by
  rintro ds S Q ⟨⟨⟨x, R, ps⟩, p⟩, rfl, ⟨h, hR, hp, h1, h2, h3, h4⟩, q⟩
  dsimp only at *
  obtain ⟨L, pe, hL, hs⟩ := costs_sorted (fullR R.gs R.ps) (costR R.ps ps)
  have hl := fullR_len (ps := R.ps) hR.nodup hR.lg.2
  have hLl : L.length ≤ 4096 := by rw [pe.length_eq]; exact hl
  generalize hP : pairOf R.gs p = P at h4 q ⊢
  generalize hc : costR R.ps ps = c at hL hs q
  have hpair : ∀ {r : Rho}, r[0]? = some (some x) → r[2]? = some (some (.str p.1)) → r[3]? = some (some (.str p.2)) → Ev G (.call "pair_of" (.cons false (.prop "Roll" (.var 0) "guards") (.cons false (.tup (.cons false (.var 2) (.cons false (.var 3) .nil))) .nil))) r S (pD P) := fun a b d =>
    hP ▸ Ev.pair H.pair_of (EvL.cons (Ev.get H.Roll_guards (Ev.var a) h) (EvL.cons (Ev.tup (EvL.cons (Ev.var b) (EvL.cons (Ev.var d) EvL.nil)) (line1 (by simp))) EvL.nil)) h1 h2
  have hcost : ∀ {r : Rho}, r[0]? = some (some x) → r[1]? = some (some (iD ps)) → Ev G (.call "costs_of" (.cons false (.var 0) (.cons false (.var 1) .nil))) r S (.lst (L.map (encC c))) := fun a b =>
    Ev.conv (Ev.call H.costs_of (x, R, ps) (EvL.cons (Ev.var a) (EvL.cons (Ev.var b) EvL.nil)) fun _ k => ⟨h.ks k, hR, hp⟩) (by rw [← hL, ← hc]; rfl)
  refine ss_expr Kx.refl (Ev.call H.check_full (x, R, ps) (EvL.cons (Ev.var rfl) (EvL.cons (Ev.var rfl) EvL.nil)) fun _ k => ⟨h.ks k, hR, hp⟩) fun S1 k1 => ?_
  refine ss_expr k1 (Ev.call H.check_guard (x, R, p.1) (EvL.cons (Ev.var rfl) (EvL.cons (Ev.var rfl) EvL.nil)) fun _ k => ⟨h.ks k, h1⟩) fun S2 k2 => ?_
  refine ss_expr (k1.trans k2) (Ev.call H.check_guard (x, R, p.2) (EvL.cons (Ev.var rfl) (EvL.cons (Ev.var rfl) EvL.nil)) fun _ k => ⟨h.ks k, h2⟩) fun S3 k3 => ?_
  have kk3 : Ks S S3 := (k1.trans k2).trans k3
  refine ss_ifF kk3 (Ev.conv (Ev.or (Ev.eqS (Ev.var rfl) (Ev.var rfl)) fun _ => Ev.notInT (pr := P ∈ R.ps) (hpair rfl rfl rfl) (Ev.get H.Roll_pairs (Ev.var rfl) h) (pl_p 5) (pl_map fun _ => pl_p 4) (mem_inj pD_inj)) ?_) fun S4 k4 => ?_
  · rw [decide_eq_false h3, decide_eq_false fun n => n h4]
    rfl
  have kk4 : Ks S S4 := kk3.trans k4
  refine ss_set kk4 (hpair rfl rfl rfl) fun S5 k5 => ?_
  have kk5 : Ks S S5 := kk4.trans k5
  refine ss_set kk5 (Ev.compc (l := L) (enc := encC c) (f := fun row => .int (c row)) (p := fun row => decide (P ∈ row)) H.mono (EvS.ofL (hcost rfl rfl)) (line1 (by omega)) (fun row _ => TgOk.two (.inl rfl)) (fun row _ => EvC.yes (Ev.inT (x := pD P) (ys := row.map pD) (Ev.var rfl) (Ev.var rfl) (pl_p 5) (pl_map fun _ => pl_p 4) (mem_inj pD_inj))) fun row _ _ => Ev.var rfl) fun S6 k6 => ?_
  have kk6 : Ks S S6 := kk5.trans k6
  refine ss_set kk6 (Ev.compc (l := L) (enc := encC c) (f := fun row => .int (c row)) (p := fun row => decide (P ∉ row)) H.mono (EvS.ofL (hcost rfl rfl)) (line1 (by omega)) (fun row _ => TgOk.two (.inl rfl)) (fun row _ => EvC.yes (Ev.notInT (x := pD P) (ys := row.map pD) (Ev.var rfl) (Ev.var rfl) (pl_p 5) (pl_map fun _ => pl_p 4) (mem_inj pD_inj))) fun row _ _ => Ev.var rfl) fun S7 k7 => ?_
  have kk7 : Ks S S7 := kk6.trans k7
  have pe1 : (L.filter fun row => decide (P ∈ row)).Perm ((fullR R.gs R.ps).filter fun row => decide (P ∈ row)) := pe.filter _
  have pe2 : (L.filter fun row => decide (P ∉ row)).Perm ((fullR R.gs R.ps).filter fun row => decide (P ∉ row)) := pe.filter _
  have hs1 : (L.filter fun row => decide (P ∈ row)).Pairwise fun a b => c a ≤ c b := hs.filter _
  have hs2 : (L.filter fun row => decide (P ∉ row)).Pairwise fun a b => c a ≤ c b := hs.filter _
  unfold dueOf at q
  dsimp only at q
  generalize (fullR R.gs R.ps).filter (fun row => decide (P ∈ row)) = F1 at pe1 q
  generalize (fullR R.gs R.ps).filter (fun row => decide (P ∉ row)) = F2 at pe2 q
  generalize (L.filter fun row => decide (P ∈ row)) = L1 at pe1 hs1 ⊢
  generalize (L.filter fun row => decide (P ∉ row)) = L2 at pe2 hs2 ⊢
  have n1 : L1 = [] ↔ F1 = [] := ⟨fun e => by rw [e] at pe1; exact pe1.nil_eq.symm, fun e => by rw [e] at pe1; exact pe1.eq_nil⟩
  have n2 : L2 = [] ↔ F2 = [] := ⟨fun e => by rw [e] at pe2; exact pe2.nil_eq.symm, fun e => by rw [e] at pe2; exact pe2.eq_nil⟩
  refine ss_ifR kk7 (p := decide (L1 = [])) (v := .str "never") (Ev.eqL (xs := L1.map fun row => .int (c row)) (ys := []) (Ev.var rfl) (Ev.lst EvL.nil) (pl_lst (pl_map fun _ => pl_int 5)) p6_nilL List.map_eq_nil_iff) (fun _ => Ev.glob H.g10) (fun e S8 k8 => ?_) fun e S8 k8 => ?_
  · have e' : L1 = [] := by simpa using e
    have := q S8 (kk7.trans k8)
    rw [if_pos (n1.mp e')] at this
    exact this
  · have e' : ¬ L1 = [] := by simpa using e
    have kk8 : Ks S S8 := kk7.trans k8
    obtain ⟨b1, M1, e1⟩ : ∃ b M, L1 = b :: M := by
      cases z : L1 with
      | nil => exact absurd z e'
      | cons b M => exact ⟨b, M, rfl⟩
    have m1 := first_least pe1 hs1 e1
    rw [if_neg (fun z => e' (n1.mpr z))] at q
    cases e2 : L2 with
    | nil =>
      rw [if_pos (n2.mp e2)] at q
      refine ss_ret kk8 (Ev.iteT (Ev.conv (Ev.eqL (pr := True) (xs := []) (ys := []) (Ev.var rfl) (Ev.lst EvL.nil) p6_nilL p6_nilL (by simp)) (by simp)) Ev.cst) fun S9 k9 => q S9 (kk8.trans k9)
    | cons b2 M2 =>
      have m2 := first_least pe2 hs2 e2
      rw [if_neg (fun z => by rw [n2.mpr z] at e2; cases e2), ← m1, ← m2, ← hc] at q
      rw [e1, ← hc]
      refine ss_ret kk8 (Ev.iteF (Ev.conv (Ev.eqL (pr := False) (xs := (b2 :: M2).map fun row => D.int (costR R.ps ps row)) (ys := []) (Ev.var rfl) (Ev.lst EvL.nil) (pl_lst (pl_map fun _ => pl_int 5)) p6_nilL (by simp)) (by simp)) (Ev.add (Ev.sub (Ev.ixL (xs := (b2 :: M2).map fun row => D.int (costR R.ps ps row)) (Ev.var rfl) Ev.cst (by exact atI_n (n := 0))) (Ev.ixL (xs := (b1 :: M1).map fun row => D.int (costR R.ps ps row)) (Ev.var rfl) Ev.cst (by exact atI_n (n := 0)))) ?_)) fun S9 k9 => q S9 (kk8.trans k9)
      exact Ev.ixD (t := true) (kvs := (R.ps.map pD).zip (ps.map D.int)) (y := pD P) (Ev.call H.price_by (x, R, ps) (EvL.cons (Ev.var rfl) (EvL.cons (Ev.var rfl) EvL.nil)) fun _ k => ⟨h.ks k, hR, hp⟩) (Ev.var rfl) rfl (lookD_zip hp.len h4)
end Dz60
/-! K60i: the law's own fates; what a price does. -/
namespace Dz60
open PySem PySem.Spec PyProof.Rows L2 Dz
variable {G : Sg}
/-! ### mathematics -/
def best (F : List (List Pr)) (c : List Pr → Int) : List (List Pr) := F.filter fun row => decide (c row = least F c)
theorem wordsOf_eq (ps : List Pr) (F : List (List Pr)) (c : List Pr → Int) : wordsOf ps F c = ps.map (wordOf (best F c)) := rfl
theorem count_zero {α : Type} {l : List α} {p : α → Bool} : (l.filter p).length = 0 ↔ ∀ x ∈ l, p x = false := by
  rw [List.length_eq_zero_iff, List.filter_eq_nil_iff]
  simp
theorem count_all {α : Type} {l : List α} {p : α → Bool} : (l.filter p).length = l.length ↔ ∀ x ∈ l, p x = true := List.length_filter_eq_length_iff
theorem wordOf_none {b : List (List Pr)} {p : Pr} (h : ∀ row ∈ b, p ∉ row) : wordOf b p = "none" := by
  unfold wordOf
  rw [if_pos (count_zero.mpr fun x hx => by simpa using h x hx)]
theorem wordOf_all {b : List (List Pr)} {p : Pr} (hb : b ≠ []) (h : ∀ row ∈ b, p ∈ row) : wordOf b p = "all" := by
  have e : (b.filter fun row => decide (p ∈ row)).length = b.length := count_all.mpr fun x hx => by simpa using h x hx
  unfold wordOf
  rw [e, if_neg (fun z => hb (List.length_eq_zero_iff.mp z)), if_pos rfl]
theorem wordOf_some {b : List (List Pr)} {p : Pr} {r1 r2 : List Pr} (h1 : r1 ∈ b) (k1 : p ∈ r1) (h2 : r2 ∈ b) (k2 : p ∉ r2) : wordOf b p = "some" := by
  unfold wordOf
  rw [if_neg, if_neg]
  · intro e
    have := count_all.mp e r2 h2
    simp at this
    exact k2 this
  · intro e
    have := count_zero.mp e r1 h1
    simp at this
    exact this k1
theorem mem_best {F : List (List Pr)} {c : List Pr → Int} {row : List Pr} : row ∈ best F c ↔ row ∈ F ∧ c row = least F c := by
  unfold best
  rw [List.mem_filter]
  simp
theorem least_le {α : Type} {F : List α} {c : α → Int} {x : α} (h : x ∈ F) : least F c ≤ c x := (least_spec (c := c) (List.ne_nil_of_mem h)).2 _ (List.mem_map.mpr ⟨x, h, rfl⟩)
theorem least_at {α : Type} {F : List α} {c : α → Int} (h : F ≠ []) : ∃ x ∈ F, c x = least F c := by
  obtain ⟨x, hx, e⟩ := List.mem_map.mp (least_spec (c := c) h).1
  exact ⟨x, hx, e⟩
/-- the rows with the pair, and those without, as a price is put -/
theorem word_by {F : List (List Pr)} {c : List Pr → Int} {p : Pr} {m1 m2 : Int} (h1 : ∃ x ∈ F, p ∈ x ∧ c x = m1) (h1' : ∀ x ∈ F, p ∈ x → m1 ≤ c x) (h2 : ∃ x ∈ F, p ∉ x ∧ c x = m2) (h2' : ∀ x ∈ F, p ∉ x → m2 ≤ c x) :
    wordOf (best F c) p = if m1 = m2 then "some" else if m1 < m2 then "all" else "none" := by
  obtain ⟨x1, hx1, px1, e1⟩ := h1
  obtain ⟨x2, hx2, px2, e2⟩ := h2
  have hF : F ≠ [] := List.ne_nil_of_mem hx1
  obtain ⟨x, hx, ex⟩ := least_at (c := c) hF
  have a1 := least_le (c := c) hx1
  have a2 := least_le (c := c) hx2
  have hmin : least F c = min m1 m2 := by
    by_cases hp : p ∈ x
    · have := h1' x hx hp; omega
    · have := h2' x hx hp; omega
  split
  · rename_i h
    exact wordOf_some (mem_best.mpr ⟨hx1, by omega⟩) px1 (mem_best.mpr ⟨hx2, by omega⟩) px2
  · split
    · refine wordOf_all (List.ne_nil_of_mem (mem_best.mpr ⟨hx1, by omega⟩)) fun row hr => ?_
      obtain ⟨r1, r2⟩ := mem_best.mp hr
      by_cases hp : p ∈ row
      · exact hp
      · have := h2' row r1 hp; omega
    · refine wordOf_none fun row hr hp => ?_
      obtain ⟨r1, r2⟩ := mem_best.mp hr
      have := h1' row r1 hp; omega
/-- a row has no pair twice -/
theorem iterF_nodup {gs : List Str} {ps : List Pr} (nd : gs.Nodup) : ∀ i, ∀ x ∈ iterF ps gs i, x.1.Nodup ∧ ∀ p ∈ x.1, p.1 ∉ x.2
  | 0, x, h => by
    rw [show x = ([], gs) by simpa [iterF] using h]
    exact ⟨List.nodup_nil, by simp⟩
  | i + 1, y, h => by
    obtain ⟨x, hx, a, t, o, e, ho, hp, rfl⟩ := mem_stepF.mp (show y ∈ stepF ps (iterF ps gs i) from h)
    obtain ⟨h1, h2⟩ := iterF_nodup nd i x hx
    have k := iterF_ok (ps := ps) nd i x hx
    have ks := k.sub
    rw [e] at ks h2
    have nt := List.nodup_cons.mp (ks.nodup nd)
    refine ⟨?_, fun p h => ?_⟩
    · rw [List.nodup_append]
      refine ⟨h1, by simp, fun p hp q hq e => ?_⟩
      rw [List.mem_singleton] at hq
      have := h2 p hp
      rw [e, hq] at this
      simp at this
    · dsimp only at h ⊢
      rw [List.mem_append, List.mem_singleton] at h
      intro hm
      have hm' := (List.mem_filter.mp hm).1
      rcases h with h | h
      · exact h2 p h (List.mem_cons_of_mem _ hm')
      · rw [h] at hm'; exact nt.1 hm'
theorem fullR_nodup {gs : List Str} {ps : List Pr} (nd : gs.Nodup) {row : List Pr} (h : row ∈ fullR gs ps) : row.Nodup := by
  unfold fullR at h
  obtain ⟨x, hx, rfl⟩ := List.mem_map.mp h
  exact (srtP_perm _).nodup_iff.mpr (iterF_nodup nd _ x hx).1
theorem nodup_at {α : Type} : ∀ {l : List α} {i j : Nat} {a : α}, l.Nodup → l[i]? = some a → l[j]? = some a → i = j
  | [], _, _, _, _, h, _ => by simp at h
  | b :: l, 0, 0, _, _, _, _ => rfl
  | b :: l, 0, j + 1, a, nd, h, k => by
    obtain rfl : b = a := by simpa using h
    exact absurd (List.mem_of_getElem? (show l[j]? = some b by simpa using k)) (List.nodup_cons.mp nd).1
  | b :: l, i + 1, 0, a, nd, h, k => by
    obtain rfl : b = a := by simpa using k
    exact absurd (List.mem_of_getElem? (show l[i]? = some b by simpa using h)) (List.nodup_cons.mp nd).1
  | b :: l, i + 1, j + 1, a, nd, h, k => by
    rw [nodup_at (List.nodup_cons.mp nd).2 (show l[i]? = some a by simpa using h) (show l[j]? = some a by simpa using k)]
/-- the price at a place -/
theorem priceOf_at : ∀ {ps : List Pr} {prices : List Int} {i : Nat} {p : Pr}, ps.Nodup → prices.length = ps.length → ps[i]? = some p → priceOf ps prices p = prices.getD i 0
  | [], _, _, _, _, _, h => by simp at h
  | q :: ps, [], i, p, _, hl, _ => by simp at hl
  | q :: ps, z :: prices, i, p, nd, hl, h => by
    have hq := List.nodup_cons.mp nd
    unfold priceOf
    rw [List.zip_cons_cons, List.lookup_cons]
    cases i with
    | zero =>
      obtain rfl : q = p := by simpa using h
      simp
    | succ i =>
      have h' : ps[i]? = some p := by simpa using h
      have hne : (p == q) = false := beq_eq_false_iff_ne.mpr fun e => hq.1 (by rw [← e]; exact List.mem_of_getElem? h')
      rw [hne]
      have := priceOf_at (prices := prices) hq.2 (by simpa using hl) h'
      unfold priceOf at this
      rw [this]
      simp
theorem priceOf_set {ps : List Pr} {prices : List Int} {i : Nat} {P p : Pr} {x : Int} (nd : ps.Nodup) (hl : prices.length = ps.length) (hP : ps[i]? = some P) (hp : p ∈ ps) : priceOf ps (prices.set i x) p = if p = P then x else priceOf ps prices p := by
  obtain ⟨j, hj⟩ := List.getElem?_of_mem hp
  have hl2 : (prices.set i x).length = ps.length := by rw [List.length_set]; exact hl
  have hi : i < ps.length := (List.getElem?_eq_some_iff.mp hP).1
  rw [priceOf_at nd hl2 hj, priceOf_at nd hl hj]
  by_cases e : j = i
  · subst e
    rw [hP] at hj
    rw [if_pos (Option.some.inj hj).symm]
    simp [List.getD_eq_getElem?_getD, List.getElem?_set_self (show j < prices.length by omega)]
  · have : p ≠ P := fun z => e (by
      subst z
      exact nodup_at nd hj hP)
    rw [if_neg this]
    simp [List.getD_eq_getElem?_getD, List.getElem?_set_ne (Ne.symm e)]
theorem costR_set {ps : List Pr} {prices : List Int} {i : Nat} {P : Pr} {x z : Int} (nd : ps.Nodup) (hl : prices.length = ps.length) (hP : ps[i]? = some P) (hz : prices[i]? = some z) : ∀ {row : List Pr}, row.Nodup → (∀ p ∈ row, p ∈ ps) →
    costR ps (prices.set i x) row = costR ps prices row + (if P ∈ row then x - z else 0)
  | [], _, _ => by simp [costR]
  | p :: row, hn, hm => by
    have hn2 := List.nodup_cons.mp hn
    have ih := costR_set (x := x) nd hl hP hz hn2.2 fun q hq => hm q (List.mem_cons_of_mem _ hq)
    unfold costR at ih ⊢
    rw [List.map_cons, List.map_cons, List.sum_cons, List.sum_cons, ih, priceOf_set nd hl hP (hm p (List.mem_cons_self ..))]
    by_cases e : p = P
    · subst e
      rw [if_pos rfl, if_neg hn2.1, if_pos (List.mem_cons_self ..), priceOf_at nd hl hP, List.getD_eq_getElem?_getD, hz]
      simp only [Option.getD_some]
      omega
    · rw [if_neg e]
      by_cases k : P ∈ row
      · rw [if_pos k, if_pos (List.mem_cons_of_mem _ k)]; omega
      · rw [if_neg k, if_neg (fun w => by
          rcases List.mem_cons.mp w with w | w
          · exact e w.symm
          · exact k w)]
        omega
end Dz60
/-! K60j: the law's look at fates and at a pair. -/
namespace Dz60
open PySem PySem.Spec PyProof.Rows L2 Dz
variable {G : Sg}
theorem zip_maps {α : Type} {f g : α → D} : ∀ l : List α, zipD (l.map f) (l.map g) = l.map fun x => D.utup [f x, g x]
  | [] => rfl
  | x :: l => by
    show D.utup [f x, g x] :: zipD (l.map f) (l.map g) = _
    rw [zip_maps l]; rfl
theorem kp_law_words (H : H60 G) : Keeps G b_law_words 10 sp_law_words := by
  rintro ds S Q ⟨⟨⟨gs, bs⟩, prices⟩, rfl, ⟨hW, hp⟩, q⟩
  dsimp only at *
  rw [wordsOf_eq] at q
  have hR := hW.good
  have nd : gs.Nodup := hR.nodup
  have h8 : gs.length ≤ 8 := hR.lg.2
  have hpl : prices.length = bs.length := by rw [hp.len]; exact pairsOf_len
  have hF : fullR gs (pairsOf gs bs) ≠ [] := hR.full
  have hl := fullR_len (ps := pairsOf gs bs) nd h8
  have hlp : (pairsOf gs bs).length ≤ 200 := hR.lp
  have hm := fun {row : List Pr} (h : row ∈ fullR gs (pairsOf gs bs)) => fullR_mem (ps := pairsOf gs bs) nd h
  generalize hc : costR (pairsOf gs bs) prices = c at q
  generalize hFF : fullR gs (pairsOf gs bs) = F at *
  refine ss_set (v := .lst (F.map fun row => .int (c row))) Kx.refl (Ev.comp (l := F) (enc := rD) H.mono (EvS.ofL (Ev.var rfl)) (line1 (by omega)) (fun _ _ => TgOk.name) fun row hr => hc ▸ Ev.call H.law_cost (((gs, bs), prices), row) (EvL.cons (Ev.var rfl) (EvL.cons (Ev.var rfl) (EvL.cons (Ev.var rfl) EvL.nil))) fun _ _ => ⟨hW.ok, hpl, (hm hr).1, by have := (hm hr).2; dsimp only; omega⟩) fun S1 k1 => ?_
  have hmin := least_spec (c := c) hF
  refine ss_par2n k1 (x := .lst ((best F c).map rD)) (Ev.compc (l := F) (enc := fun row => .utup [rD row, .int (c row)]) (p := fun row => decide (c row = least F c)) H.mono (EvS.conv (EvS.zipL (xs := F.map rD) (ys := F.map fun row => .int (c row)) (Ev.var rfl) (Ev.var rfl)) (zip_maps F)) (line1 (by omega)) (fun row _ => TgOk.two (.inr rfl)) (fun row _ => EvC.yes (Ev.eqI (Ev.var rfl) (Ev.min1 (l := F.map c) (Ev.conv (v := .lst (F.map fun row => .int (c row))) (Ev.var rfl) (by rw [List.map_map]; rfl)) hmin.1 hmin.2))) fun row _ _ => Ev.var rfl) fun S2 l k2 hl2 => ?_
  have hbl : (best F c).length ≤ 4096 := Nat.le_trans (List.length_filter_le _ _) hl
  generalize best F c = bst at hbl q ⊢
  have kk : Ks S S2 := k1.trans k2
  refine ss_for (S0 := S2) H.mono pD (pairsOf gs bs) (Ks.new hl2) (EvS.ofL (Ev.call H.law_pairs (gs, bs) (EvL.cons (Ev.var rfl) EvL.nil) fun _ _ => hW.ok)) (fun done _ r S' => ∃ a4 a7 a8 a9, r = [some (loreD gs bs), some (iD prices), some (.lst (F.map rD)), some (.lst (F.map fun row => .int (c row))), a4, some (.lst (bst.map rD)), some (.ref l), a7, a8, a9] ∧ Ks S2 S' ∧ S' l = some (.lst ((done.map (wordOf bst)).map D.str)))
    fun g S4 k4 hg => ⟨⟨none, none, none, none, rfl, (Ks.new hl2).trans k4, k4.get sup_same⟩, ?_, ?_⟩
  · rintro r S5 ⟨a3, a6, a7, a8, rfl, k5, hl5⟩
    exact ⟨hg S5 k5, ss_ret (S0 := S5) Kx.refl (Ev.tupleR hl5 (Ev.var rfl) (by rw [List.length_map, List.length_map]; exact line1 (by omega))) fun S6 k6 => q S6 ((kk.trans k5).trans k6)⟩
  · rintro done p todo r S5 ed ⟨a3, a6, a7, a8, rfl, k5, hl5⟩
    refine ⟨hg S5 k5, _, TgOk.name, ?_⟩
    refine ss_set (S0 := S2) k5 (v := .int ((bst.filter fun row => decide (p ∈ row)).length)) (Ev.conv (Ev.lenL (Ev.compc (l := bst) (enc := rD) (f := rD) (p := fun row => decide (p ∈ row)) H.mono (EvS.ofL (Ev.var rfl)) (line1 (by omega)) (fun _ _ => TgOk.name) (fun row _ => EvC.yes (Ev.inT (x := pD p) (ys := row.map pD) (Ev.var rfl) (Ev.var rfl) (pl_p 5) (pl_map fun _ => pl_p 4) (mem_inj pD_inj))) fun row _ _ => Ev.var rfl)) (by rw [List.length_map])) fun S6 k6 => ?_
    refine ss_app (S0 := S2) (v := .str (wordOf bst p)) (k5.trans k6) rfl (k6.get hl5) ?_ ?_ fun S7 k7 => st_nil ⟨_, _, a7, a8, rfl, ?_, ?_⟩
    · rw [List.length_map, List.length_map]
      have := congrArg List.length ed
      rw [List.length_append, List.length_cons] at this
      rw [sizeLine_eq]
      omega
    · refine Ev.conv (Ev.ite (Ev.eqI (Ev.var rfl) Ev.cst) (fun _ => Ev.cst (c := .str "none")) fun _ => Ev.ite (Ev.eqI (Ev.var rfl) (Ev.lenL (xs := bst.map rD) (Ev.var rfl))) (fun _ => Ev.cst (c := .str "all")) fun _ => Ev.cst (c := .str "some")) ?_
      unfold wordOf
      rw [List.length_map]
      simp only [decide_eq_true_eq, Int.natCast_inj, Int.natCast_eq_zero, apply_ite D.str, Cst.d]
    · exact Kx.fresh hl2 ((Ks.up ((k5.trans k6).trans k7)).trans (Kx.sup (by simp)))
    · rw [sup_same]
      simp only [List.map_append, List.map_cons, List.map_nil]
theorem word_small (b : List (List Pr)) (p : Pr) : Shn 18 (.str (wordOf b p)) := by
  unfold wordOf
  dsimp only
  split
  · exact (Shn.str (x := "none") (by decide +kernel)).mono (by decide +kernel)
  · split
    · exact (Shn.str (x := "all") (by decide +kernel)).mono (by decide +kernel)
    · exact (Shn.str (x := "some") (by decide +kernel)).mono (by decide +kernel)
theorem words_small {ps : List Pr} {b : List (List Pr)} (h : ps.length ≤ 200) : Shn 10000 (nD (ps.map (wordOf b))) := by
  refine (Shn.tup (n := 18) fun d hd => ?_).mono ?_
  · rw [List.map_map] at hd
    obtain ⟨p, _, rfl⟩ := List.mem_map.mp hd
    exact word_small b p
  · rw [List.length_map, List.length_map]; omega
theorem price_rng {ps : List Pr} {prices : List Int} (h : ∀ z ∈ prices, 0 ≤ z ∧ z ≤ 999) (p : Pr) : 0 ≤ priceOf ps prices p ∧ priceOf ps prices p ≤ 999 := by
  unfold priceOf
  cases e : (ps.zip prices).lookup p with
  | none => simp
  | some z =>
    have hm : ∀ {l : List (Pr × Int)}, l.lookup p = some z → ∃ q, (q, z) ∈ l := by
      intro l
      induction l with
      | nil => intro h; cases h
      | cons a l ih =>
        intro h
        rw [List.lookup_cons] at h
        split at h
        · cases h; exact ⟨a.1, by simp⟩
        · obtain ⟨q, hq⟩ := ih h; exact ⟨q, by simp [hq]⟩
    obtain ⟨q, hq⟩ := hm e
    exact h z (List.of_mem_zip hq).2
theorem cost_rng {ps : List Pr} {prices : List Int} (h : ∀ z ∈ prices, 0 ≤ z ∧ z ≤ 999) : ∀ row : List Pr, 0 ≤ costR ps prices row ∧ costR ps prices row ≤ 999 * row.length
  | [] => by simp [costR]
  | p :: row => by
    have h1 := price_rng (ps := ps) h p
    have h2 := cost_rng (ps := ps) h row
    unfold costR at h2 ⊢
    rw [List.map_cons, List.sum_cons, List.length_cons]
    push_cast
    omega
theorem kp_law_is_pair_right (H : H60 G) : Keeps G b_law_is_pair_right 13 sp_law_is_pair_right := by
  rintro ds S Q ⟨⟨⟨⟨gs, bs⟩, prices⟩, x, i⟩, rfl, ⟨hx, hW, hp, hi⟩, q⟩
  dsimp only at *
  have hR := hW.good
  have nd : gs.Nodup := hR.nodup
  have h8 : gs.length ≤ 8 := hR.lg.2
  have hpl : prices.length = bs.length := by rw [hp.len]; exact pairsOf_len
  have hpl2 : prices.length = (pairsOf gs bs).length := hp.len
  have hlp : (pairsOf gs bs).length ≤ 200 := hR.lp
  have hl := fullR_len (ps := pairsOf gs bs) nd h8
  have pnd : (pairsOf gs bs).Nodup := hR.pn
  have hm := fun {row : List Pr} (h : row ∈ fullR gs (pairsOf gs bs)) => fullR_mem (ps := pairsOf gs bs) nd h
  have hmn := fun {row : List Pr} (h : row ∈ fullR gs (pairsOf gs bs)) => fullR_nodup (ps := pairsOf gs bs) nd h
  have hF : fullR gs (pairsOf gs bs) ≠ [] := hR.full
  obtain ⟨P, hP⟩ : ∃ P, (pairsOf gs bs)[i]? = some P := ⟨_, List.getElem?_eq_getElem (by omega)⟩
  obtain ⟨z, hz⟩ : ∃ z, prices[i]? = some z := ⟨_, List.getElem?_eq_getElem hi⟩
  have hPm : P ∈ pairsOf gs bs := List.mem_of_getElem? hP
  have hPe := pairsOf_ends hW.ok.bonds P hPm
  have hPi := pairOf_id hW.ok.bonds P hPm
  have hzr := hp.rng z (List.mem_of_getElem? hz)
  have hpz : priceOf (pairsOf gs bs) prices P = z := by rw [priceOf_at pnd hpl2 hP, List.getD_eq_getElem?_getD, hz]; rfl
  have hcr := fun row => cost_rng (ps := pairsOf gs bs) hp.rng row
  -- the fates, by prices
  have hfate : ∀ {r : Rho} {e : E} {prices' : List Int}, PricesOk (rollOf gs bs) prices' → r[1]? = some (some x) → r[4]? = some (some (.int (i : Nat))) → Ev G e r S (iD prices') →
      Ev G (.ix (.call "fates" (.cons false (.var 1) (.cons false e .nil))) (.var 4)) r S (.str (wordOf (best (fullR gs (pairsOf gs bs)) (costR (pairsOf gs bs) prices')) P)) := fun {r e prices'} h1 h2 h3 h4 =>
    Ev.ixT (xs := ((pairsOf gs bs).map (wordOf (best (fullR gs (pairsOf gs bs)) (costR (pairsOf gs bs) prices')))).map D.str) (Ev.call H.fates (x, rollOf gs bs, prices') (EvL.cons (Ev.var h2) (EvL.cons h4 EvL.nil)) fun _ k => ⟨hx.ks k, hR, h1⟩) (Ev.var h3) (by
      rw [atI_n, List.getElem?_map, List.getElem?_map, hP]; rfl)
  have hset : ∀ {n : Int} {row : List Pr}, row ∈ fullR gs (pairsOf gs bs) → costR (pairsOf gs bs) (prices.set i n) row = costR (pairsOf gs bs) prices row + (if P ∈ row then n - z else 0) := fun {n row} h => costR_set pnd hpl2 hP hz (hmn h) (hm h).1
  have hpr' : ∀ {n : Int}, 0 ≤ n → n ≤ 999 → PricesOk (rollOf gs bs) (prices.set i n) := fun {n} h1 h2 => ⟨by rw [List.length_set]; exact hp.len, fun w hw => by
    rcases List.mem_or_eq_of_mem_set hw with h | h
    · exact hp.rng w h
    · rw [h]; exact ⟨h1, h2⟩⟩
  have hcost : ∀ {r : Rho} {row : List Pr}, row ∈ fullR gs (pairsOf gs bs) → r[0]? = some (some (loreD gs bs)) → r[2]? = some (some (iD prices)) → r[12]? = some (some (rD row)) → Ev G (.call "_law_cost" (.cons false (.var 0) (.cons false (.var 2) (.cons false (.var 12) .nil)))) r S (.int (costR (pairsOf gs bs) prices row)) := fun {r row} h a b d =>
    Ev.call H.law_cost (((gs, bs), prices), row) (EvL.cons (Ev.var a) (EvL.cons (Ev.var b) (EvL.cons (Ev.var d) EvL.nil))) fun _ _ => ⟨hW.ok, hpl, (hm h).1, by have := (hm h).2; dsimp only; omega⟩
  have hmay : ∀ {r : Rho}, r[1]? = some (some x) → r[2]? = some (some (iD prices)) → r[5]? = some (some (pD P)) →
      Ev G (.callk "may_cost" .nil ["roll", "prices", "one", "other"] (.cons false (.var 1) (.cons false (.var 2) (.cons false (.ix (.var 5) (.cst (.int 1))) (.cons false (.ix (.var 5) (.cst (.int 0))) .nil))))) r S (dueOf (fullR gs (pairsOf gs bs)) (costR (pairsOf gs bs) prices) P z) := fun {r} a b d => by
    have e := pairOf_swp hPe.1 hPe.2.1 hPe.2.2
    rw [hPi] at e
    refine Ev.conv (Ev.callk H.may_cost ((x, rollOf gs bs, prices), swp P) EvL.nil (EvL.cons (Ev.var a) (EvL.cons (Ev.var b) (EvL.cons (Ev.ixT (xs := [.str P.1, .str P.2]) (Ev.var d) Ev.cst rfl) (EvL.cons (Ev.ixT (xs := [.str P.1, .str P.2]) (Ev.var d) Ev.cst rfl) EvL.nil)))) rfl fun _ k => ⟨hx.ks k, hR, hp, hPe.2.1, hPe.1, hPe.2.2.symm, ?_⟩) ?_
    · show pairOf gs (swp P) ∈ pairsOf gs bs
      rw [e]; exact hPm
    · show dueOf (fullR gs (pairsOf gs bs)) (costR (pairsOf gs bs) prices) (pairOf gs (swp P)) (priceOf (pairsOf gs bs) prices (pairOf gs (swp P))) = _
      rw [e, hpz]
  have hmay2 : ∀ {r : Rho}, r[1]? = some (some x) → r[2]? = some (some (iD prices)) → r[5]? = some (some (pD P)) →
      Ev G (.call "may_cost" (.cons false (.var 1) (.cons false (.var 2) (.cons false (.ix (.var 5) (.cst (.int 0))) (.cons false (.ix (.var 5) (.cst (.int 1))) .nil))))) r S (dueOf (fullR gs (pairsOf gs bs)) (costR (pairsOf gs bs) prices) P z) := fun {r} a b d => by
    refine Ev.conv (Ev.call H.may_cost ((x, rollOf gs bs, prices), P) (EvL.cons (Ev.var a) (EvL.cons (Ev.var b) (EvL.cons (Ev.ixT (xs := [.str P.1, .str P.2]) (Ev.var d) Ev.cst rfl) (EvL.cons (Ev.ixT (xs := [.str P.1, .str P.2]) (Ev.var d) Ev.cst rfl) EvL.nil)))) fun _ k => ⟨hx.ks k, hR, hp, hPe.1, hPe.2.1, hPe.2.2, ?_⟩) ?_
    · show pairOf gs P ∈ pairsOf gs bs
      rw [hPi]; exact hPm
    · show dueOf (fullR gs (pairsOf gs bs)) (costR (pairsOf gs bs) prices) (pairOf gs P) (priceOf (pairsOf gs bs) prices (pairOf gs P)) = _
      rw [hPi, hpz]
  -- the walk
  refine ss_set (v := pD P) Kx.refl (Ev.ixL (xs := (pairsOf gs bs).map pD) (Ev.call H.law_pairs (gs, bs) (EvL.cons (Ev.var rfl) EvL.nil) fun _ _ => hW.ok) (Ev.var rfl) (by rw [atI_n, List.getElem?_map, hP]; rfl)) fun S1 k1 => ?_
  generalize hFF : fullR gs (pairsOf gs bs) = F at *
  generalize hcc : costR (pairsOf gs bs) prices = c at *
  refine ss_set (v := .lst ((F.filter fun row => decide (P ∈ row)).map fun row => .int (c row - z))) k1 (Ev.compc (l := F) (enc := rD) (p := fun row => decide (P ∈ row)) H.mono (EvS.ofL (Ev.var rfl)) (line1 (by omega)) (fun _ _ => TgOk.name) (fun row _ => EvC.yes (Ev.inT (x := pD P) (ys := row.map pD) (Ev.var rfl) (Ev.var rfl) (pl_p 5) (pl_map fun _ => pl_p 4) (mem_inj pD_inj)))
    fun row hr _ => Ev.sub (hcost hr rfl rfl rfl) (Ev.ixT (xs := prices.map D.int) (Ev.var rfl) (Ev.var rfl) (by rw [atI_n, List.getElem?_map, hz]; rfl))) fun S2 k2 => ?_
  refine ss_set (v := .lst ((F.filter fun row => decide (P ∉ row)).map fun row => .int (c row))) (k1.trans k2) (Ev.compc (l := F) (enc := rD) (p := fun row => decide (P ∉ row)) H.mono (EvS.ofL (Ev.var rfl)) (line1 (by omega)) (fun _ _ => TgOk.name) (fun row _ => EvC.yes (Ev.notInT (x := pD P) (ys := row.map pD) (Ev.var rfl) (Ev.var rfl) (pl_p 5) (pl_map fun _ => pl_p 4) (mem_inj pD_inj)))
    fun row hr _ => hcost hr rfl rfl rfl) fun S3 k3 => ?_
  have kk3 : Ks S S3 := (k1.trans k2).trans k3
  have mF1 : ∀ {row}, row ∈ F.filter (fun row => decide (P ∈ row)) ↔ row ∈ F ∧ P ∈ row := fun {row} => by rw [List.mem_filter]; simp
  have mF2 : ∀ {row}, row ∈ F.filter (fun row => decide (P ∉ row)) ↔ row ∈ F ∧ P ∉ row := fun {row} => by rw [List.mem_filter]; simp
  have hdv : dueOf F c P z = if F.filter (fun row => decide (P ∈ row)) = [] then .str "never" else if F.filter (fun row => decide (P ∉ row)) = [] then .non else .int (least (F.filter fun row => decide (P ∉ row)) c - least (F.filter fun row => decide (P ∈ row)) c + z) := rfl
  generalize F.filter (fun row => decide (P ∈ row)) = F1 at *
  generalize F.filter (fun row => decide (P ∉ row)) = F2 at *
  -- due
  have hdue : Ev G (.ite (.cmp .Eq (.var 6) (.lst false .nil)) (.cst (.str "never")) (.ite (.cmp .Eq (.var 7) (.lst false .nil)) (.cst .non) (.bin .Sub false (.bi .min1 false (.cons false (.var 7) .nil)) (.bi .min1 false (.cons false (.var 6) .nil)))))
      [some (loreD gs bs), some x, some (iD prices), some (.lst (F.map rD)), some (.int (i : Nat)), some (pD P), some (.lst (F1.map fun row => .int (c row - z))), some (.lst (F2.map fun row => .int (c row))), none, none, none, none, none] S (dueOf F c P z) := by
    rw [hdv]
    by_cases e1 : F1 = []
    · rw [if_pos e1, e1]
      exact Ev.iteT (Ev.conv (Ev.eqL (pr := True) (xs := []) (ys := []) (Ev.var rfl) (Ev.lst EvL.nil) p6_nilL p6_nilL (by simp)) (by simp)) Ev.cst
    · rw [if_neg e1]
      refine Ev.iteF (Ev.conv (Ev.eqL (pr := F1 = []) (xs := F1.map fun row => .int (c row - z)) (ys := []) (Ev.var rfl) (Ev.lst EvL.nil) (pl_lst (pl_map fun _ => pl_int 5)) p6_nilL List.map_eq_nil_iff) (by simp [e1])) ?_
      by_cases e2 : F2 = []
      · rw [if_pos e2, e2]
        exact Ev.iteT (Ev.conv (Ev.eqL (pr := True) (xs := []) (ys := []) (Ev.var rfl) (Ev.lst EvL.nil) p6_nilL p6_nilL (by simp)) (by simp)) Ev.cst
      · rw [if_neg e2]
        have s1 := least_spec (c := c) e1
        have s2 := least_spec (c := c) e2
        obtain ⟨x1, hx1, ex1⟩ := List.mem_map.mp s1.1
        refine Ev.iteF (Ev.conv (Ev.eqL (pr := F2 = []) (xs := F2.map fun row => .int (c row)) (ys := []) (Ev.var rfl) (Ev.lst EvL.nil) (pl_lst (pl_map fun _ => pl_int 5)) p6_nilL List.map_eq_nil_iff) (by simp [e2])) (Ev.conv (Ev.sub (Ev.min1 (l := F2.map c) (Ev.conv (v := .lst (F2.map fun row => .int (c row))) (Ev.var rfl) (by rw [List.map_map]; rfl)) s2.1 s2.2) (Ev.min1 (l := F1.map fun row => c row - z) (m := least F1 c - z) (Ev.conv (v := .lst (F1.map fun row => .int (c row - z))) (Ev.var rfl) (by rw [List.map_map]; rfl)) (List.mem_map.mpr ⟨x1, hx1, by omega⟩) fun y hy => ?_)) ?_)
        · obtain ⟨w, hw, rfl⟩ := List.mem_map.mp hy
          have := s1.2 (c w) (List.mem_map.mpr ⟨w, hw, rfl⟩)
          omega
        · congr 1
          omega
  have hcases : (F1 = [] ∧ dueOf F c P z = .str "never") ∨ (F1 ≠ [] ∧ F2 = [] ∧ dueOf F c P z = .non) ∨ (F1 ≠ [] ∧ F2 ≠ [] ∧ dueOf F c P z = .int (least F2 c - least F1 c + z)) := by
    by_cases e1 : F1 = []
    · exact .inl ⟨e1, by rw [hdv, if_pos e1]⟩
    · by_cases e2 : F2 = []
      · exact .inr (.inl ⟨e1, e2, by rw [hdv, if_neg e1, if_pos e2]⟩)
      · exact .inr (.inr ⟨e1, e2, by rw [hdv, if_neg e1, if_neg e2]⟩)
  have hint : ∀ {F' : List (List Pr)}, (∀ row ∈ F', row ∈ F) → F' ≠ [] → 0 ≤ least F' c ∧ least F' c ≤ 4000 := fun {F'} h hne => by
    obtain ⟨w, hw, e⟩ := least_at (c := c) hne
    have h1 := hcr w
    have h2 := (hm (h w hw)).2
    rw [← e]
    omega
  have hshow : (∀ p, dueOf F c P z ≠ .ref p) ∧ P6 (dueOf F c P z) ∧ Shn 1921 (dueOf F c P z) ∧ ∀ S, vw S (dueOf F c P z) = dueOf F c P z := by
    rcases hcases with ⟨_, e⟩ | ⟨_, _, e⟩ | ⟨e1, e2, e⟩ <;> rw [e]
    · exact ⟨by simp, pl_str 6, (Shn.str (x := "never") (by decide +kernel)).mono (by decide +kernel), fun _ => rfl⟩
    · exact ⟨by simp, pl_non 6, Shn.non.mono (by decide), fun _ => rfl⟩
    · have a1 := hint (fun row h => (mF1.mp h).1) e1
      have a2 := hint (fun row h => (mF2.mp h).1) e2
      exact ⟨by simp, pl_int 6, Shn.int (Nat.lt_of_lt_of_le (log_lt_of (m := 30) (by omega) (by decide)) (by decide)), fun _ => rfl⟩
  refine ss_set kk3 hdue fun S4 k4 => ?_
  have kk4 : Ks S S4 := kk3.trans k4
  refine ss_set kk4 (hmay rfl rfl rfl) fun S5 k5 => ?_
  have kk5 : Ks S S5 := kk4.trans k5
  refine ss_ifF kk5 (Ev.conv (Ev.or (Ev.reprSame (Ev.var rfl) (Ev.var rfl) (hshow.2.2.2 _) (hshow.2.2.2 _) hshow.1 hshow.2.1 hshow.2.2.1) fun _ => Ev.reprSame (hmay2 rfl rfl rfl) (Ev.var rfl) (hshow.2.2.2 _) (hshow.2.2.2 _) hshow.1 hshow.2.1 hshow.2.2.1) rfl) fun S6 k6 => ?_
  have kk6 : Ks S S6 := kk5.trans k6
  rcases hcases with ⟨e1, e⟩ | ⟨e1, e2, e⟩ | ⟨e1, e2, e⟩ <;> rw [e]
  · refine ss_ifR kk6 (p := true) (v := .bl true) (Ev.conv (Ev.or (p := false) (Ev.conv (Ev.isNon (Ev.var rfl) Ev.cst) (by simp)) fun _ => Ev.eqS (Ev.var rfl) Ev.cst) (by simp)) (fun _ => ?_) (fun _ S7 k7 => q S7 (kk6.trans k7)) fun h => by cases h
    refine Ev.conv (Ev.eqS (hfate hp rfl rfl (Ev.var rfl)) (Ev.iteF (Ev.conv (Ev.isNon (Ev.var rfl) Ev.cst) (by simp)) Ev.cst)) ?_
    rw [hcc, wordOf_none fun row hr hP => ?_]
    · simp
    · have : row ∈ F1 := mF1.mpr ⟨(mem_best.mp hr).1, hP⟩
      rw [e1] at this
      cases this
  · refine ss_ifR kk6 (p := true) (v := .bl true) (Ev.conv (Ev.or (p := true) (q := false) (Ev.conv (Ev.isNon (Ev.var rfl) Ev.cst) (by simp)) fun h => by cases h) (by simp)) (fun _ => ?_) (fun _ S7 k7 => q S7 (kk6.trans k7)) fun h => by cases h
    refine Ev.conv (Ev.eqS (hfate hp rfl rfl (Ev.var rfl)) (Ev.iteT (Ev.conv (Ev.isNon (Ev.var rfl) Ev.cst) (by simp)) Ev.cst)) ?_
    rw [hcc, wordOf_all (fun z => ?_) fun row hr => ?_]
    · simp
    · obtain ⟨w, hw, ew⟩ := least_at (c := c) hF
      have : w ∈ best F c := mem_best.mpr ⟨hw, ew⟩
      rw [z] at this
      cases this
    · by_cases hP : P ∈ row
      · exact hP
      · have : row ∈ F2 := mF2.mpr ⟨(mem_best.mp hr).1, hP⟩
        rw [e2] at this
        cases this
  · generalize hd : least F2 c - least F1 c + z = d
    refine ss_ifF kk6 (Ev.conv (Ev.or (p := false) (q := false) (Ev.conv (Ev.isNon (x := .int d) (Ev.var rfl) Ev.cst) (by simp)) fun _ => Ev.conv (Ev.eqV (pr := False) (x := .int d) (y := .str "never") (u := .int d) (t := .str "never") (Ev.var rfl) (Ev.cst (c := .str "never")) rfl rfl (by simp) (by simp) (by simp) (pl_int 6) (pl_str 6) (by simp)) (by simp)) (by simp)) fun S7 k7 => ?_
    have kk7 : Ks S S7 := kk6.trans k7
    refine ss_for (S0 := S) H.mono (fun p : Int × Str => D.tup [.int p.1, .str p.2]) [(d, "some"), (d + 1, "none"), (d - 1, "all")] kk7 (EvS.ofT (Ev.tup (EvL.cons (Ev.tup (EvL.cons (Ev.var rfl) (EvL.cons Ev.cst EvL.nil)) (line1 (by simp))) (EvL.cons (Ev.tup (EvL.cons (Ev.add (Ev.var rfl) Ev.cst) (EvL.cons Ev.cst EvL.nil)) (line1 (by simp))) (EvL.cons (Ev.tup (EvL.cons (Ev.sub (Ev.var rfl) Ev.cst) (EvL.cons Ev.cst EvL.nil)) (line1 (by simp))) EvL.nil))) (line1 (by simp))))
      (fun _ _ r S' => ∃ a10 a11 a12, r = [some (loreD gs bs), some x, some (iD prices), some (.lst (F.map rD)), some (.int (i : Nat)), some (pD P), some (.lst (F1.map fun row => .int (c row - z))), some (.lst (F2.map fun row => .int (c row))), some (.int d), some (.int d), a10, a11, a12] ∧ Ks S S') fun g S8 k8 hg => ⟨⟨none, none, none, rfl, kk7.trans k8⟩, ?_, ?_⟩
    · rintro r S9 ⟨a10, a11, a12, rfl, k9⟩
      exact ⟨hg S9 k9, ss_ret k9 Ev.cst fun S10 k10 => q S10 (k9.trans k10)⟩
    · rintro done ⟨n, w⟩ todo r S9 ed ⟨a10, a11, a12, rfl, k9⟩
      refine ⟨hg S9 k9, _, TgOk.two (.inl rfl), ?_⟩
      refine ss_if k9 (Ev.cmp2 (p := decide (0 ≤ n)) (q := decide (n ≤ 999)) Ev.cst (Ev.var rfl) Ev.cst (fun _ _ _ q => ⟨_, _, rfl, rfl, q⟩) fun _ _ _ q => ⟨_, _, rfl, rfl, q⟩) (fun hn S10 k10 => ?_) fun hn S10 k10 => st_nil2 ⟨_, _, a12, rfl, k9.trans k10⟩
      have hn0 : 0 ≤ n ∧ n ≤ 999 := by simpa using hn
      refine ss_ifF (k9.trans k10) ?_ fun S11 k11 => st_nil2 ⟨_, _, a12, rfl, (k9.trans k10).trans k11⟩
      have hz1 : prices.length ≤ sizeLine := line1 (by omega)
      have hpe : Ev G (.bin .Add false (.bin .Add false (.sl false (.var 2) .no (.yes (.var 4))) (.tup (.cons false (.bi .int false (.cons false (.var 10) .nil)) .nil))) (.sl false (.var 2) (.yes (.bin .Add false (.var 4) (.cst (.int 1)))) .no))
          [some (loreD gs bs), some x, some (iD prices), some (.lst (F.map rD)), some (.int (i : Nat)), some (pD P), some (.lst (F1.map fun row => .int (c row - z))), some (.lst (F2.map fun row => .int (c row))), some (.int d), some (.int d), some (.int n), some (.str w), a12] S (iD (prices.set i n)) := by
        refine Ev.conv (Ev.addT (Ev.addT (Ev.slT (xs := prices.map D.int) (Ev.var rfl) EvO.no (EvO.yes (Ev.var rfl)) (by rw [List.length_map]; exact hz1)) (Ev.tup (EvL.cons (Ev.intI (Ev.var rfl)) EvL.nil) (line1 (by simp))) ?_) (Ev.slT (xs := prices.map D.int) (Ev.var rfl) (EvO.yes (Ev.add (Ev.var rfl) Ev.cst)) EvO.no (by rw [List.length_map]; exact hz1)) ?_) ?_
        · rw [cutL_to, List.length_append, List.length_take, List.length_map]
          exact line1 (by simp; omega)
        · rw [cutL_to, show ((i : Int) + 1) = ((i + 1 : Nat) : Int) by omega, cutL_from, List.length_append, List.length_append, List.length_take, List.length_drop, List.length_map]
          exact line1 (by simp; omega)
        · rw [cutL_to, show ((i : Int) + 1) = ((i + 1 : Nat) : Int) by omega, cutL_from]
          unfold iD
          rw [List.set_eq_take_append_cons_drop, if_pos hi, List.map_append, List.map_cons, List.map_take, List.map_drop, List.append_assoc]
          rfl
      refine Ev.conv (Ev.neS (hfate (hpr' hn0.1 hn0.2) rfl rfl hpe) (Ev.var rfl)) ?_
      have hw : wordOf (best F (costR (pairsOf gs bs) (prices.set i n))) P = w := by
        obtain ⟨x1, hx1, ex1⟩ := least_at (c := c) e1
        obtain ⟨x2, hx2, ex2⟩ := least_at (c := c) e2
        have m1 := mF1.mp hx1
        have m2 := mF2.mp hx2
        rw [word_by (m1 := least F1 c + (n - z)) (m2 := least F2 c) ⟨x1, m1.1, m1.2, by rw [hset m1.1, if_pos m1.2, ex1]⟩ (fun y hy hPy => ?_) ⟨x2, m2.1, m2.2, by rw [hset m2.1, if_neg m2.2, ex2, Int.add_zero]⟩ (fun y hy hPy => ?_)]
        · have hmem : (n, w) ∈ [(d, ("some" : Str)), (d + 1, "none"), (d - 1, "all")] := by rw [ed]; simp
          simp only [List.mem_cons, Prod.mk.injEq, List.not_mem_nil, or_false] at hmem
          rcases hmem with ⟨rfl, rfl⟩ | ⟨rfl, rfl⟩ | ⟨rfl, rfl⟩
          · rw [if_pos (by omega)]
          · rw [if_neg (by omega), if_neg (by omega)]
          · rw [if_neg (by omega), if_pos (by omega)]
        · rw [hset hy, if_pos hPy]
          have := least_le (c := c) (mF1.mpr ⟨hy, hPy⟩)
          omega
        · rw [hset hy, if_neg hPy]
          have := least_le (c := c) (mF2.mpr ⟨hy, hPy⟩)
          omega
      rw [hw]
      simp
end Dz60
/-! K60n: whole rolls, the law. -/
namespace Dz60
open PySem PySem.Spec PyProof.Rows L2 Dz
variable {G : Sg}
theorem args1 (hG : MonoG' G) {c : E} {r : Rho} {S : Sto} {Q : List D → Sto → Prop} (h : wE G c r S fun z S2 => Q [z] S2) : wEs G (.cons false c .nil) r S Q := by
  rw [wEs]
  refine wE_mono hG c _ _ _ _ (fun z S2 q => ?_) h
  rw [if_neg Bool.false_ne_true, wEs]
  exact q
theorem args2 (hG : MonoG' G) {a c : E} {r : Rho} {S S0 : Sto} {x : D} {Q : List D → Sto → Prop} (k : Ks S0 S) (ha : Ev G a r S0 x) (h : ∀ S1, Ks S S1 → wE G c r S1 fun z S2 => Q [x, z] S2) : wEs G (.cons false a (.cons false c .nil)) r S Q := by
  rw [wEs]
  refine ha S k _ fun S1 k1 => ?_
  rw [if_neg Bool.false_ne_true]
  exact args1 hG (h S1 k1)
theorem args3 (hG : MonoG' G) {a b c : E} {r : Rho} {S S0 : Sto} {x y : D} {Q : List D → Sto → Prop} (k : Ks S0 S) (ha : Ev G a r S0 x) (hb : Ev G b r S0 y) (h : ∀ S1, Ks S S1 → wE G c r S1 fun z S2 => Q [x, y, z] S2) : wEs G (.cons false a (.cons false b (.cons false c .nil))) r S Q := by
  rw [wEs]
  refine ha S k _ fun S1 k1 => ?_
  rw [if_neg Bool.false_ne_true]
  exact args2 hG (k.trans k1) hb fun S2 k2 => h S2 (k1.trans k2)
def pairsUp : List Str → List Pr
  | a :: b :: t => (a, b) :: pairsUp t
  | _ => []
theorem pairsUp_flat : ∀ (os : List Str), os.length % 2 = 0 → ((pairsUp os).flatMap fun p => [p.1, p.2]) = os
  | [], _ => rfl
  | [a], h => by simp at h
  | a :: b :: t, h => by
    unfold pairsUp
    rw [List.flatMap_cons, pairsUp_flat t (by simp at h; omega)]
    rfl
def pairAt (os : List Str) (j : Nat) : Pr := (os.getD (2 * j) "", os.getD (2 * j + 1) "")
theorem pairsUp_mem : ∀ (os : List Str) {p : Pr}, p ∈ pairsUp os → ∃ j, 2 * j + 1 < os.length ∧ p = pairAt os j
  | [], _, h => by simp [pairsUp] at h
  | [a], _, h => by simp [pairsUp] at h
  | a :: b :: t, p, h => by
    unfold pairsUp at h
    rcases List.mem_cons.mp h with rfl | h
    · exact ⟨0, by simp, rfl⟩
    · obtain ⟨j, h1, rfl⟩ := pairsUp_mem t h
      refine ⟨j + 1, by simp; omega, ?_⟩
      unfold pairAt
      rw [show 2 * (j + 1) = 2 * j + 1 + 1 by omega, List.getD_cons_succ, List.getD_cons_succ, List.getD_cons_succ, List.getD_cons_succ]
theorem BondsOk.perm {gs : List Str} {bs bs' : List Pr} (h : BondsOk gs bs) (p : bs'.Perm bs) : BondsOk gs bs' := by
  refine ⟨fun q hq => h.ends q (p.mem_iff.mp hq), ?_⟩
  refine (p.pairwise_iff fun {a b} hab => ⟨hab.1.symm, fun e => hab.2 ?_⟩).mpr h.diff
  rw [e]; rfl
theorem kp_law_whole_roll (H : H60 G) : Keeps G b_law_whole_roll 7 sp_law_whole_roll := by
  rintro ds S Q ⟨p, m, n, rfl, hp, hm, hm4, q⟩
  refine ss_setE ?_
  rw [wE]
  refine ⟨_, H.law_roll, ?_⟩
  refine args3 (S0 := S) (x := .ref p) (y := .int (2 * m : Nat)) H.mono Kx.refl (Ev.var rfl) (Ev.conv (Ev.mul Ev.cst (Ev.var rfl) (by
    have a := log_lt_of (i := 2) (m := 10) (by decide) (by decide)
    have b := log_lt_of (i := (m : Int)) (m := 10) (by omega) (by decide)
    show (2 : Int).natAbs.log2 + (m : Int).natAbs.log2 < 1000000
    omega)) (by push_cast; rfl)) fun S1 k1 => ?_
  refine call_at (S0 := S1) H.law_of Kx.refl (EvL.cons (Ev.var rfl) (EvL.cons (Ev.lst (EvL.cons Ev.cst (EvL.cons Ev.cst (EvL.cons Ev.cst EvL.nil))) (line1 (by simp))) EvL.nil)) fun S2 k2 => ⟨p, _, n + 150, rfl, (hp.ks (k1.trans k2)).less (by omega), by simp, by simp, fun y S3 hy hp3 k3 => ?_⟩
  obtain ⟨b, rfl, hb⟩ : ∃ b : Nat, y = .int (b : Nat) ∧ b ≤ 25 := by
    simp only [List.mem_cons, List.not_mem_nil, or_false] at hy
    rcases hy with rfl | rfl | rfl
    · exact ⟨4, rfl, by decide⟩
    · exact ⟨10, rfl, by decide⟩
    · exact ⟨25, rfl, by decide⟩
  refine ⟨p, 2 * m, b, n + 60, rfl, hp3.less (by omega), by omega, by omega, by omega, fun gs bs S4 hL hgl hbl hp4 k4 => ?_⟩
  have kS4 : Kx [p] S S4 := ((Ks.up (k1.trans k2)).trans k3).trans k4
  refine st_cons ?_
  rw [wS]
  refine some_at (S0 := S4) (m := 2 * m) (k' := n + 50) H.law_some Kx.refl (Ev.var rfl) (loreG rfl) (Ev.conv (v := .int ((2 : Int) * m)) (Ev.mul Ev.cst (Ev.var rfl) (by
    have a := log_lt_of (i := 2) (m := 10) (by decide) (by decide)
    have b := log_lt_of (i := (m : Int)) (m := 10) (by omega) (by decide)
    show (2 : Int).natAbs.log2 + (m : Int).natAbs.log2 < 1000000
    omega)) (by push_cast; rfl)) (hp4.less (by omega)) (xs := gs.map D.str) rfl (by rw [List.length_map]; omega) (by rw [List.length_map]; omega) fun S5 t ys zs ht hft hp5 hperm hyl k5 => ?_
  obtain ⟨os, rest, pm, rfl, rfl⟩ := perm_map2 hperm
  rw [List.length_map] at hyl
  have hrest : rest = [] := by
    have := pm.length_eq
    rw [List.length_append] at this
    exact List.eq_nil_of_length_eq_zero (by omega)
  subst hrest
  rw [List.append_nil] at pm
  rw [wE]
  refine EvL.cons (loreB (gs := gs) (bs := bs) rfl) EvL.nil S5 (Kx.refl (S := S5)) _ fun S6 k6 => ?_
  refine ⟨bs.map pD, rfl, st_finLo (by rw [List.length_map]; exact line1 (by omega)) fun f hf => ?_⟩
  have ht6 := k6.get ht
  have htf : t ≠ f := ne_new ht6 hf
  have hp6 := hp5.ks k6
  have hpf : p ≠ f := hp6.ne hf
  have hpt : p ≠ t := by
    obtain ⟨xs0, e0⟩ := hp4.some
    exact ne_new e0 hft
  have kS6 : Kx [p] S S6 := (kS4.trans k5).trans (Ks.up k6)
  have fS : S f = none := by
    cases e : S f with
    | none => rfl
    | some u => rw [kS6.getN e (by simpa using Ne.symm hpf)] at hf; cases hf
  have htn : t ∉ [p] := by simpa using Ne.symm hpt
  have hos : ∀ j, 2 * j + 1 < os.length → os[2 * j]? = some (pairAt os j).1 ∧ os[2 * j + 1]? = some (pairAt os j).2 := fun j hj => by
    unfold pairAt
    rw [List.getD_eq_getElem?_getD, List.getD_eq_getElem?_getD, List.getElem?_eq_getElem (by omega), List.getElem?_eq_getElem hj]
    exact ⟨rfl, rfl⟩
  refine ss_forF H.mono (fun i : Nat => D.int (0 + (i : Int) * 2)) (List.range m) (EvS.conv (EvS.range3 (i := 0) (j := 2 * m) (k := 2) Ev.cst (Ev.mul Ev.cst (Ev.var rfl) (by
    have a := log_lt_of (i := 2) (m := 10) (by decide) (by decide)
    have b := log_lt_of (i := (m : Int)) (m := 10) (by omega) (by decide)
    show (2 : Int).natAbs.log2 + (m : Int).natAbs.log2 < 1000000
    omega)) Ev.cst ⟨by decide, by decide⟩ ⟨by omega, by omega⟩ ⟨by decide, by decide⟩) (by
      unfold rangeD
      rw [show ((2 * (m : Int) - 0 + 2 - 1) / 2).toNat = m by omega]))
    (fun done _ r S' => ∃ a3 a6 bs', r = [some (.ref p), some (.int m), some (loreD gs bs), a3, some (.ref t), some (.ref f), a6] ∧ S' f = some (.lst (bs'.map pD)) ∧ S' t = some (.lst (os.map D.str)) ∧ PotAt S' p (n + 50) ∧ Kx [p] S S' ∧ BondsOk gs bs' ∧ bs'.length ≤ bs.length + done.length ∧ ∀ j, j < done.length → pairAt os j ∈ bs' ∨ swp (pairAt os j) ∈ bs')
    (fun S7 k7 => ⟨none, none, bs, rfl, k7.get sup_same, k7.get (by rw [sup_ne htf]; exact ht6), (hp6.ks (Ks.new hf)).ks k7, (kS6.trans (Kx.new hf)).trans (Ks.up k7), hL.bonds, by simp, by simp⟩) ?_ ?_
  · rintro r S7 ⟨a3, a6, bs', rfl, hf7, ht7, hp7, k7, hB, hbl', hall⟩
    rw [List.length_range] at hbl' hall
    refine ss_retE (dict_lore (gs := gs) H.mono ?_)
    refine Ev.use (S := S7) (loreG (bs := bs) rfl) Kx.refl fun S8 k8 => ⟨rfl, ?_⟩
    rw [wE]
    refine args1 H.mono ?_
    refine some_at (S0 := S8) (m := bs'.length) (k' := n) H.law_some Kx.refl (Ev.var rfl) (Ev.var rfl) (Ev.conv (Ev.lenV (Ev.var rfl) (vw_lst' (k8.get hf7))) (by rw [List.length_map])) ((hp7.ks k8).less (by omega)) (xs := bs'.map pD) (by unfold itemsD; rw [vw_lst' (k8.get hf7)]) (by rw [List.length_map]; exact Nat.le_refl _) (by rw [List.length_map]; omega) fun S9 u ys zs hu hfu hp9 hperm9 hyl9 k9 => ?_
    obtain ⟨b2, rest2, pm2, rfl, rfl⟩ := perm_map2 hperm9
    rw [List.length_map] at hyl9
    have hrest2 : rest2 = [] := by
      have := pm2.length_eq
      rw [List.length_append] at this
      exact List.eq_nil_of_length_eq_zero (by omega)
    subst hrest2
    rw [List.append_nil] at pm2
    refine ⟨_, by unfold seqD; rw [vw_lst' hu], by rw [List.length_map]; exact line1 (by omega), b2, rfl, ?_⟩
    refine q gs b2 S9 ⟨hL.names, hL.nodup, hB.perm pm2, hL.lg, by omega⟩ hgl ⟨pairsUp os, ?_, fun w hw => ?_⟩ hp9 ((k7.trans (Ks.up k8)).trans k9)
    · rw [pairsUp_flat os (by omega)]
      exact pm
    · obtain ⟨j, hj, rfl⟩ := pairsUp_mem os hw
      exact (hall j (by omega)).imp pm2.mem_iff.mpr pm2.mem_iff.mpr
  · rintro done i todo r S7 ed ⟨a3, a6, bs', rfl, hf7, ht7, hp7, k7, hB, hbl', hall⟩
    have hi : i = done.length ∧ i < m := by
      have e1 : (List.range m)[done.length]? = some i := by rw [ed]; simp
      rw [List.getElem?_eq_some_iff] at e1
      obtain ⟨h1, h2⟩ := e1
      rw [List.getElem_range] at h2
      rw [List.length_range] at h1
      omega
    refine ⟨_, TgOk.name, ?_⟩
    obtain ⟨o1, o2⟩ := hos i (by omega)
    have hbm : (pairAt os i).1 ∈ gs ∧ (pairAt os i).2 ∈ gs := ⟨pm.mem_iff.mp (List.mem_of_getElem? o1), pm.mem_iff.mp (List.mem_of_getElem? o2)⟩
    have hbn : (pairAt os i).1 ≠ (pairAt os i).2 := fun e => by
      rw [e] at o1
      have := nodup_at (pm.nodup_iff.mpr hL.nodup) o1 o2
      omega
    obtain ⟨w, hw⟩ : ∃ w, w = pairAt os i := ⟨_, rfl⟩
    rw [← hw] at o1 o2 hbm hbn
    refine ss_set (S0 := S7) (v := pD w) Kx.refl (Ev.tup (EvL.cons (Ev.ixR ht7 (Ev.var rfl) (Ev.var rfl) (by
      rw [show (0 + (i : Int) * 2) = ((2 * i : Nat) : Int) by omega, atI_n, List.getElem?_map, o1]; rfl)) (EvL.cons (Ev.ixR ht7 (Ev.var rfl) (Ev.add (Ev.var rfl) Ev.cst) (by
      rw [show (0 + (i : Int) * 2 + 1) = ((2 * i + 1 : Nat) : Int) by omega, atI_n, List.getElem?_map, o2]; rfl)) EvL.nil)) (line1 (by simp))) fun S8 k8 => ?_
    have hf8 := k8.get hf7
    have h1 : (if w ∉ bs' ∧ swp w ∉ bs' then [w] else []).length ≤ 1 := by split <;> simp
    refine ss_ext (S0 := S8) Kx.refl rfl hf8 (new_bond (b := w) rfl rfl hf8) ?_ fun S9 k9 => st_nil ⟨_, _, bs' ++ (if w ∉ bs' ∧ swp w ∉ bs' then [w] else []), rfl, by rw [sup_same, List.map_append], ?_, ?_, ?_, ?_, ?_, fun j hj => ?_⟩
    · rw [List.length_map, List.length_map]
      exact line1 (by omega)
    · rw [sup_ne htf]; exact k9.get (k8.get ht7)
    · obtain ⟨c1, c2, c3, e, r⟩ := (hp7.ks k8).ks k9
      exact ⟨c1, c2, c3, by rw [sup_ne hpf]; exact e, r⟩
    · intro o u ho e
      have : o ≠ f := fun z => by rw [z, fS] at e; cases e
      rw [sup_ne this]
      exact k9.get (k8.get (k7.getN e ho))
    · split
      · rename_i hc
        exact hB.add ⟨hbm.1, hbm.2, hbn⟩ hc.1 hc.2
      · rw [List.append_nil]; exact hB
    · rw [List.length_append, List.length_append, List.length_singleton]; omega
    · rw [List.length_append, List.length_singleton] at hj
      by_cases e : j < done.length
      · exact (hall j e).imp (fun h => by simp [h]) fun h => by simp [h]
      · have : j = i := by omega
        rw [this, ← hw]
        by_cases c1 : w ∈ bs'
        · exact .inl (by simp [c1])
        · by_cases c2 : swp w ∈ bs'
          · exact .inr (by simp [c2])
          · exact .inl (by simp [c1, c2])
theorem kp_law_right (H : H60 G) : Keeps G b_law_right 7 sp_law_right := by
  rintro ds S Q ⟨p, n, rfl, hp, q⟩
  refine ss_setE ?_
  rw [wE]
  refine ⟨_, H.law_whole_roll, args2 (S0 := S) H.mono Kx.refl (Ev.var rfl) fun S1 k1 => ?_⟩
  rw [wE]
  refine Ev.use (S := S1) Ev.cst Kx.refl fun S2 k2 => take_at (S0 := S2) (n := 4) (m := n + 900) H.law_take Kx.refl (Ev.var rfl) Ev.cst ((hp.ks (k1.trans k2)).less (by omega)) ⟨by decide, by decide⟩ fun t S3 t0 t1 hp3 k3 => ?_
  have kS3 : Kx [p] S S3 := (Ks.up (k1.trans k2)).trans k3
  have et : (1 + t) = ((t.toNat + 1 : Nat) : Int) := by omega
  refine st_add (i := 1) (j := t) ?_
  rw [et]
  refine ⟨p, t.toNat + 1, n + 700, rfl, hp3.less (by omega), by omega, by omega, fun gs bs S4 hL hgl hPf hp4 k4 => ?_⟩
  have kS4 : Kx [p] S S4 := kS3.trans k4
  have hg8 : gs.length ≤ 8 := by omega
  have hev : gs.length % 2 = 0 := by omega
  have hGood := good_of hL hg8 hev hPf
  have hW : Whole gs bs := ⟨hL, hGood⟩
  have hlb := hL.lb
  refine st_cons ?_
  rw [wS, wE, wEs]
  refine mk_at (S0 := S4) (vs := [.str (textOf gs bs)]) H.Roll_init Kx.refl (EvL.cons (Ev.call H.law_text (gs, bs) (EvL.cons (Ev.var rfl) EvL.nil) fun _ _ => hL) EvL.nil) fun S5 x k5 hx => ⟨x, gs, bs, rfl, sup_same, hL, fun S6 hx6 k6 => ⟨rfl, ?_⟩⟩
  have hR6 : IsRoll S6 (.ref x) (rollOf gs bs) := vw_ins' hx6
  have hpx : p ≠ x := (hp4.ks k5).ne hx
  have fS : S x = none := by
    cases e : S x with
    | none => rfl
    | some u => rw [k5.get (kS4.getN e (by simpa using Ne.symm hpx))] at hx; cases hx
  have kS6 : Kx [p] S S6 := fun o u ho e => by
    have : o ≠ x := fun z => by rw [z, fS] at e; cases e
    refine k6.getN ?_ (by simpa using this)
    rw [sup_ne this]
    exact k5.get (kS4.getN e ho)
  have hp6 : PotAt S6 p (n + 700) := by
    obtain ⟨c1, c2, c3, e, r⟩ := hp4.ks k5
    exact ⟨c1, c2, c3, k6.getN (by rw [sup_ne hpx]; exact e) (by simpa using hpx), r⟩
  rw [if_neg Bool.false_ne_true, wEs]
  refine call_at (S0 := S6) H.law_prices Kx.refl (EvL.cons (Ev.var rfl) (EvL.cons (Ev.var rfl) EvL.nil)) fun S7 k7 => ⟨p, gs, bs, n + 450, rfl, (hp6.ks k7).less (by omega), hlb, fun prices S8 hpl hpr hp8 k8 => ?_⟩
  have hR8 : IsRoll S8 (.ref x) (rollOf gs bs) := vw_ins' (k8.getN (k7.get hx6) (by simpa using Ne.symm hpx))
  have kS8 : Kx [p] S S8 := (kS6.trans (Ks.up k7)).trans k8
  have hPO : PricesOk (rollOf gs bs) prices := ⟨by rw [hpl]; exact pairsOf_len.symm, hpr⟩
  have hpl200 : prices.length ≤ 200 := by omega
  dsimp only
  rw [if_neg Bool.false_ne_true]
  refine args1 H.mono (Ev.use (S := S8) (Ev.call H.law_full (gs, bs) (EvL.cons (Ev.var rfl) EvL.nil) fun _ _ => ⟨hL, hev, hg8⟩) Kx.refl fun S9 k9 => ⟨line1 (by simp), ?_⟩)
  simp only [wTg, wTgs]
  refine ⟨_, .inl rfl, rfl, _, _, rfl, _, _, rfl, _, _, rfl, rfl, ?_⟩
  show wSs G _ _ [some (.ref p), some (loreD gs bs), none, some (.ref x), some (iD prices), some (.lst ((fullR gs (pairsOf gs bs)).map rD)), none] S9
  have hR9 := hR8.ks k9
  have hp9 := hp8.ks k9
  have kS9 : Kx [p] S S9 := kS8.trans (Ks.up k9)
  have hwl : (pairsOf gs bs).length ≤ 200 := by rw [pairsOf_len]; exact hlb
  refine ss_ifF (S0 := S9) Kx.refl (Ev.reprSameT (n := 10000) (xs := (wordsOf (pairsOf gs bs) (fullR gs (pairsOf gs bs)) (costR (pairsOf gs bs) prices)).map D.str) (Ev.callk H.fates (.ref x, rollOf gs bs, prices) EvL.nil (EvL.cons (Ev.var rfl) (EvL.cons (Ev.var rfl) EvL.nil)) rfl fun _ k => ⟨hR9.ks k, hGood, hPO⟩)
    (Ev.call H.law_words ((gs, bs), prices) (EvL.cons (Ev.var rfl) (EvL.cons (Ev.var rfl) (EvL.cons (Ev.var rfl) EvL.nil))) fun _ _ => ⟨hW, hPO⟩) (pl_n 5) (words_small hwl) (by decide)) fun S10 k10 => ?_
  refine ss_setE ?_
  have hrng : rangeD 0 1 ((prices.map D.int).length : Int).toNat = (List.range prices.length).map fun i => D.int (i : Nat) := by
    unfold rangeD
    rw [List.length_map, Int.toNat_natCast]
    exact List.map_congr_left fun i _ => by congr 1; omega
  refine some_at (S0 := S10) (m := min 5 prices.length) (k' := n + 400) H.law_some Kx.refl (Ev.var rfl) (Ev.conv (Ev.lr1 (Ev.lenT (xs := prices.map D.int) (Ev.var rfl)) ⟨by omega, by rw [List.length_map]; omega⟩ (by rw [List.length_map]; omega) (by rw [List.length_map]; exact line1 (by omega))) (congrArg D.lst hrng)) (Ev.conv (Ev.min2 Ev.cst (Ev.lenT (xs := prices.map D.int) (Ev.var rfl))) (by
      rw [List.length_map]
      congr 1
      show min (5 : Int) (prices.length : Int) = _
      omega)) ((hp9.ks k10).less (by omega)) (xs := (List.range prices.length).map fun i => D.int (i : Nat)) rfl (by rw [List.length_map, List.length_range]; omega) (by rw [List.length_map, List.length_range]; omega) fun S11 u ys zs hu hfu hp11 hperm hyl k11 => ?_
  obtain ⟨ats, rest, pm, rfl, rfl⟩ := perm_map2 hperm
  have hats : ∀ i ∈ ats, i < prices.length := fun i hi => List.mem_range.mp (pm.mem_iff.mp (by simp [hi]))
  have hR11 : IsRoll S11 (.ref x) (rollOf gs bs) := vw_ins' (k11.getN ((k9.trans k10).get (k8.getN (k7.get hx6) (by simpa using Ne.symm hpx))) (by simpa using Ne.symm hpx))
  rw [List.length_map] at hyl
  refine ss_ret (S0 := S11) (v := .bl true) Kx.refl (Ev.conv (Ev.all_ (l := ats.map fun _ => true) (Ev.conv (Ev.comp (l := ats) (enc := fun i : Nat => D.int (i : Nat)) (f := fun _ => .bl true) H.mono (EvS.ofR hu (Ev.var rfl)) (line1 (by omega)) (fun _ _ => TgOk.name) fun i hi => Ev.call H.law_is_pair_right (((gs, bs), prices), .ref x, i) (EvL.cons (Ev.var rfl) (EvL.cons (Ev.var rfl) (EvL.cons (Ev.var rfl) (EvL.cons (Ev.var rfl) (EvL.cons (Ev.var rfl) EvL.nil))))) fun _ k => ⟨hR11.ks k, hW, hPO, hats i hi⟩) (by rw [List.map_map]; rfl))) (by simp)) fun S12 k12 => ?_
  exact q S12 ((hp11.ks k12).less (by omega)) (((kS9.trans (Ks.up k10)).trans k11).trans (Ks.up k12))
theorem kp_law (H : H60 G) : Keeps G b_law 4 sp_law := by
  rintro ds S Q ⟨ns, rfl, hl, hb, q⟩
  refine st_cons ?_
  rw [wS, wSrc]
  refine call_at (S0 := S) H.law_cells Kx.refl (EvL.cons (Ev.var rfl) (EvL.cons Ev.cst EvL.nil)) fun S1 k1 => ⟨_, _, rfl, by rw [List.length_map]; exact hl, fun m S2 hm k2 => ?_⟩
  have er : rangeD 0 1 m = (List.range m).map fun i => D.int (i : Nat) := by
    unfold rangeD
    exact List.map_congr_left fun i _ => by congr 1; omega
  rw [er]
  show wFor _ _ _ _ _ _
  refine wFor_list (for_step_mono H.mono _ _) (fun i : Nat => D.int (i : Nat)) (fun _ _ r S' => ∃ a1 a2 a3, r = [some (.fls (ns.map D.int)), a1, a2, a3]) (List.range m) (fun r S' ⟨a1, a2, a3, e⟩ => ⟨trivial, ?_⟩) (fun done i todo r S' ed ⟨a1, a2, a3, e⟩ => ⟨trivial, ?_⟩) (List.range m) [] _ S2 rfl ⟨none, none, none, rfl⟩
  · subst e
    exact ss_ret (S0 := S') Kx.refl Ev.cst fun S3 k3 => q S3
  · subst e
    have hi : i < m := List.mem_range.mp (by rw [ed]; simp)
    rw [wTg]
    refine ss_setE (call_at (S0 := S') H.law_pot Kx.refl (EvL.cons (Ev.var rfl) (EvL.cons (Ev.var rfl) EvL.nil)) fun S3 k3 => ⟨ns, i, rfl, hl, by omega, hb, fun S4 p hp hpot k4 => ?_⟩)
    refine st_cons ?_
    rw [wS, wE, wE]
    refine args1 H.mono ?_
    refine comp_eff (l := List.range 4) (enc := fun i : Nat => D.int (0 + (i : Int) * 1)) (r1 := fun j => [some (.fls (ns.map D.int)), some (.int i), some (.ref p), some (D.int (0 + (j : Int) * 1))]) H.mono (EvS.range1 (i := 4) Ev.cst ⟨by decide, by decide⟩) (line1 (by simp)) (fun j _ => TgOk.name) (fun done acc S' => acc = (done.map fun _ => D.bl true) ∧ PotAt S' p (100000 - 1000 * done.length)) (fun S5 k5 => ⟨rfl, hpot.ks k5⟩) ?_ ?_
    · rintro done2 j todo2 acc S5 ed2 ⟨rfl, hp5⟩
      have hd : done2.length < 4 := by
        have := congrArg List.length ed2
        rw [List.length_append, List.length_cons, List.length_range] at this
        omega
      refine call_at (S0 := S5) H.law_right Kx.refl (EvL.cons (Ev.var rfl) EvL.nil) fun S6 k6 => ⟨p, 100000 - 1000 * (done2.length + 1), rfl, (hp5.ks k6).less (by omega), fun S7 hp7 k7 => ⟨by rw [List.map_append]; rfl, by rw [List.length_append]; exact hp7⟩⟩
    · rintro acc S5 ⟨rfl, hp5⟩ _
      refine st_finL (line1 (by simp)) ⟨_, [true, true, true, true], rfl, rfl, ?_⟩
      refine ⟨true, rfl, false, rfl, ?_⟩
      rw [if_neg Bool.false_ne_true]
      exact st_nil2 ⟨_, _, _, rfl⟩
end Dz60
/-! K60x: promises are monotone, and say how many arguments there are. -/
namespace Dz60
open PySem PySem.Spec PyProof.Rows L2 Dz
theorem mo_Reader_init : MonoSp sp_Reader_init := fun ds S Q Q' h ⟨p, e, h1, q⟩ => ⟨p, e, h1, fun S' l1 l2 a b c d => h _ _ (q S' l1 l2 a b c d)⟩
theorem mo_Reader_takes : MonoSp sp_Reader_takes := fun ds S Q Q' h ⟨p, l1, l2, gs, bs, line, e, h1, q⟩ => ⟨p, l1, l2, gs, bs, line, e, h1, q.imp (fun ⟨x, e1, e2, q⟩ => ⟨x, e1, e2, fun S' a b => h _ _ (q S' a b)⟩) fun ⟨x, e1, e2, q⟩ => ⟨x, e1, e2, fun S' a b => h _ _ (q S' a b)⟩⟩
theorem mo_Reader_takes_guard : MonoSp sp_Reader_takes_guard := fun ds S Q Q' h ⟨p, l1, l2, gs, bs, x, e, h1, h2, q⟩ => ⟨p, l1, l2, gs, bs, x, e, h1, h2, fun S' a b => h _ _ (q S' a b)⟩
theorem mo_Reader_takes_bond : MonoSp sp_Reader_takes_bond := fun ds S Q Q' h ⟨p, l1, l2, gs, bs, x, e, h1, h2, q⟩ => ⟨p, l1, l2, gs, bs, x, e, h1, h2, fun S' a b => h _ _ (q S' a b)⟩
theorem mo_Roll_init : MonoSp sp_Roll_init := fun ds S Q Q' h ⟨p, gs, bs, e, h1, h2, q⟩ => ⟨p, gs, bs, e, h1, h2, fun S' a b => h _ _ (q S' a b)⟩
theorem mo_law_word : MonoSp sp_law_word := fun ds S Q Q' h ⟨p, n, e, h1, q⟩ => ⟨p, n, e, h1, fun x S' a b c => h _ _ (q x S' a b c)⟩
theorem mo_law_of : MonoSp sp_law_of := fun ds S Q Q' h ⟨p, xs, n, e, h1, h2, h3, q⟩ => ⟨p, xs, n, e, h1, h2, h3, fun y S' a b c => h _ _ (q y S' a b c)⟩
theorem mo_law_roll : MonoSp sp_law_roll := fun ds S Q Q' h ⟨p, m, b, n, e, h1, h2, h3, h4, q⟩ => ⟨p, m, b, n, e, h1, h2, h3, h4, fun gs bs S' a1 a2 a3 a4 a5 => h _ _ (q gs bs S' a1 a2 a3 a4 a5)⟩
theorem mo_law_prices : MonoSp sp_law_prices := fun ds S Q Q' h ⟨p, gs, bs, n, e, h1, h2, q⟩ => ⟨p, gs, bs, n, e, h1, h2, fun ps S' a1 a2 a3 a4 => h _ _ (q ps S' a1 a2 a3 a4)⟩
theorem mo_law_cells : MonoSp sp_law_cells := fun ds S Q Q' h ⟨xs, m, e, h1, q⟩ => ⟨xs, m, e, h1, fun n S' a b => h _ _ (q n S' a b)⟩
theorem mo_law_pot : MonoSp sp_law_pot := fun ds S Q Q' h ⟨ns, i, e, h1, h2, h3, q⟩ => ⟨ns, i, e, h1, h2, h3, fun S' p a b c => h _ _ (q S' p a b c)⟩
theorem mo_law_whole_roll : MonoSp sp_law_whole_roll := fun ds S Q Q' h ⟨p, m, n, e, h1, h2, h3, q⟩ => ⟨p, m, n, e, h1, h2, h3, fun gs bs S' a1 a2 a3 a4 a5 => h _ _ (q gs bs S' a1 a2 a3 a4 a5)⟩
theorem mo_law_right : MonoSp sp_law_right := fun ds S Q Q' h ⟨p, n, e, h1, q⟩ => ⟨p, n, e, h1, fun S' a b => h _ _ (q S' a b)⟩
theorem mo_law : MonoSp sp_law := fun ds S Q Q' h ⟨ns, e, h1, h2, q⟩ => ⟨ns, e, h1, h2, fun S' => h _ _ (q S')⟩
theorem mo_pair_of : MonoSp spPair := fun ds S Q Q' h ⟨gs, a, b, i, j, h1, h2, h3, h4, h5, h6, q⟩ => ⟨gs, a, b, i, j, h1, h2, h3, h4, h5, h6, h _ _ q⟩
theorem le_Reader_init : ∀ ds S Q, sp_Reader_init ds S Q → ds.length = 1 := fun ds S Q ⟨p, e, _⟩ => by rw [e]; rfl
theorem le_Reader_takes : ∀ ds S Q, sp_Reader_takes ds S Q → ds.length = 2 := fun ds S Q ⟨p, l1, l2, gs, bs, line, e, _⟩ => by rw [e]; rfl
theorem le_Reader_takes_guard : ∀ ds S Q, sp_Reader_takes_guard ds S Q → ds.length = 2 := fun ds S Q ⟨p, l1, l2, gs, bs, line, e, _⟩ => by rw [e]; rfl
theorem le_Reader_takes_bond : ∀ ds S Q, sp_Reader_takes_bond ds S Q → ds.length = 2 := fun ds S Q ⟨p, l1, l2, gs, bs, line, e, _⟩ => by rw [e]; rfl
theorem le_Roll_init : ∀ ds S Q, sp_Roll_init ds S Q → ds.length = 2 := fun ds S Q ⟨p, gs, bs, e, _⟩ => by rw [e]; rfl
theorem le_law_word : ∀ ds S Q, sp_law_word ds S Q → ds.length = 1 := fun ds S Q ⟨p, n, e, _⟩ => by rw [e]; rfl
theorem le_law_of : ∀ ds S Q, sp_law_of ds S Q → ds.length = 2 := fun ds S Q ⟨p, xs, n, e, _⟩ => by rw [e]; rfl
theorem le_law_roll : ∀ ds S Q, sp_law_roll ds S Q → ds.length = 3 := fun ds S Q ⟨p, m, b, n, e, _⟩ => by rw [e]; rfl
theorem le_law_prices : ∀ ds S Q, sp_law_prices ds S Q → ds.length = 2 := fun ds S Q ⟨p, m, b, n, e, _⟩ => by rw [e]; rfl
theorem le_law_cells : ∀ ds S Q, sp_law_cells ds S Q → ds.length = 2 := fun ds S Q ⟨xs, m, e, _⟩ => by rw [e]; rfl
theorem le_law_pot : ∀ ds S Q, sp_law_pot ds S Q → ds.length = 2 := fun ds S Q ⟨ns, i, e, _⟩ => by rw [e]; rfl
theorem le_law_whole_roll : ∀ ds S Q, sp_law_whole_roll ds S Q → ds.length = 2 := fun ds S Q ⟨p, m, n, e, _⟩ => by rw [e]; rfl
theorem le_law_right : ∀ ds S Q, sp_law_right ds S Q → ds.length = 1 := fun ds S Q ⟨p, n, e, _⟩ => by rw [e]; rfl
theorem le_law : ∀ ds S Q, sp_law ds S Q → ds.length = 1 := fun ds S Q ⟨ns, e, _⟩ => by rw [e]; rfl
end Dz60
/-! k60: the texts and the look at them. -/
namespace Dz60
open PySem PySem.Spec PyProof.Rows L2 Dz
def kc (N : List Str) (kn : List (Str × Str)) : Ck := { N := N, kn := kn, flds := [("Reader", "own_guards"), ("Reader", "own_bonds"), ("Roll", "own_text"), ("Roll", "own_guards"), ("Roll", "own_bonds"), ("Roll", "own_pairs")], cs := ["Roll"], fk := [("fates", ["roll", "prices"]), ("may_cost", ["roll", "prices", "one", "other"])] }
theorem sc_is_integer : C8.scC N_is_integer p_is_integer (C8.fnScope t_is_integer) = true := by decide +kernel
theorem ck_is_integer : ckSs (kc N_is_integer k_is_integer) b_is_integer (C8.fnScope t_is_integer) (C8.fnBody t_is_integer) = true := by decide +kernel
theorem sc_is_between : C8.scC N_is_between p_is_between (C8.fnScope t_is_between) = true := by decide +kernel
theorem ck_is_between : ckSs (kc N_is_between k_is_between) b_is_between (C8.fnScope t_is_between) (C8.fnBody t_is_between) = true := by decide +kernel
theorem sc_is_name : C8.scC N_is_name p_is_name (C8.fnScope t_is_name) = true := by decide +kernel
theorem ck_is_name : ckSs (kc N_is_name k_is_name) b_is_name (C8.fnScope t_is_name) (C8.fnBody t_is_name) = true := by decide +kernel
theorem sc_Reader_init : C8.scC N_Reader_init p_Reader_init (C8.fnScope t_Reader_init) = true := by decide +kernel
theorem ck_Reader_init : ckSs (kc N_Reader_init k_Reader_init) b_Reader_init (C8.fnScope t_Reader_init) (C8.fnBody t_Reader_init) = true := by decide +kernel
theorem sc_Reader_takes : C8.scC N_Reader_takes p_Reader_takes (C8.fnScope t_Reader_takes) = true := by decide +kernel
theorem ck_Reader_takes : ckSs (kc N_Reader_takes k_Reader_takes) b_Reader_takes (C8.fnScope t_Reader_takes) (C8.fnBody t_Reader_takes) = true := by decide +kernel
theorem sc_Reader_takes_guard : C8.scC N_Reader_takes_guard p_Reader_takes_guard (C8.fnScope t_Reader_takes_guard) = true := by decide +kernel
theorem ck_Reader_takes_guard : ckSs (kc N_Reader_takes_guard k_Reader_takes_guard) b_Reader_takes_guard (C8.fnScope t_Reader_takes_guard) (C8.fnBody t_Reader_takes_guard) = true := by decide +kernel
theorem sc_Reader_takes_bond : C8.scC N_Reader_takes_bond p_Reader_takes_bond (C8.fnScope t_Reader_takes_bond) = true := by decide +kernel
theorem ck_Reader_takes_bond : ckSs (kc N_Reader_takes_bond k_Reader_takes_bond) b_Reader_takes_bond (C8.fnScope t_Reader_takes_bond) (C8.fnBody t_Reader_takes_bond) = true := by decide +kernel
theorem sc_Reader_found : C8.scC N_Reader_found p_Reader_found (C8.fnScope t_Reader_found) = true := by decide +kernel
theorem ck_Reader_found : ckSs (kc N_Reader_found k_Reader_found) b_Reader_found (C8.fnScope t_Reader_found) (C8.fnBody t_Reader_found) = true := by decide +kernel
theorem sc_is_bond_of : C8.scC N_is_bond_of p_is_bond_of (C8.fnScope t_is_bond_of) = true := by decide +kernel
theorem ck_is_bond_of : ckSs (kc N_is_bond_of k_is_bond_of) b_is_bond_of (C8.fnScope t_is_bond_of) (C8.fnBody t_is_bond_of) = true := by decide +kernel
theorem sc_Roll_init : C8.scC N_Roll_init p_Roll_init (C8.fnScope t_Roll_init) = true := by decide +kernel
theorem ck_Roll_init : ckSs (kc N_Roll_init k_Roll_init) b_Roll_init (C8.fnScope t_Roll_init) (C8.fnBody t_Roll_init) = true := by decide +kernel
theorem sc_Roll_guards : C8.scC N_Roll_guards p_Roll_guards (C8.fnScope t_Roll_guards) = true := by decide +kernel
theorem ck_Roll_guards : ckSs (kc N_Roll_guards k_Roll_guards) b_Roll_guards (C8.fnScope t_Roll_guards) (C8.fnBody t_Roll_guards) = true := by decide +kernel
theorem sc_Roll_bonds : C8.scC N_Roll_bonds p_Roll_bonds (C8.fnScope t_Roll_bonds) = true := by decide +kernel
theorem ck_Roll_bonds : ckSs (kc N_Roll_bonds k_Roll_bonds) b_Roll_bonds (C8.fnScope t_Roll_bonds) (C8.fnBody t_Roll_bonds) = true := by decide +kernel
theorem sc_Roll_pairs : C8.scC N_Roll_pairs p_Roll_pairs (C8.fnScope t_Roll_pairs) = true := by decide +kernel
theorem ck_Roll_pairs : ckSs (kc N_Roll_pairs k_Roll_pairs) b_Roll_pairs (C8.fnScope t_Roll_pairs) (C8.fnBody t_Roll_pairs) = true := by decide +kernel
theorem sc_pair_of : C8.scC N_pair_of p_pair_of (C8.fnScope t_pair_of) = true := by decide +kernel
theorem ck_pair_of : pairB t_pair_of = true := by decide +kernel
theorem sc_check_roll : C8.scC N_check_roll p_check_roll (C8.fnScope t_check_roll) = true := by decide +kernel
theorem ck_check_roll : ckSs (kc N_check_roll k_check_roll) b_check_roll (C8.fnScope t_check_roll) (C8.fnBody t_check_roll) = true := by decide +kernel
theorem sc_check_guard : C8.scC N_check_guard p_check_guard (C8.fnScope t_check_guard) = true := by decide +kernel
theorem ck_check_guard : ckSs (kc N_check_guard k_check_guard) b_check_guard (C8.fnScope t_check_guard) (C8.fnBody t_check_guard) = true := by decide +kernel
theorem sc_are_prices_of : C8.scC N_are_prices_of p_are_prices_of (C8.fnScope t_are_prices_of) = true := by decide +kernel
theorem ck_are_prices_of : ckSs (kc N_are_prices_of k_are_prices_of) b_are_prices_of (C8.fnScope t_are_prices_of) (C8.fnBody t_are_prices_of) = true := by decide +kernel
theorem sc_check_prices : C8.scC N_check_prices p_check_prices (C8.fnScope t_check_prices) = true := by decide +kernel
theorem ck_check_prices : ckSs (kc N_check_prices k_check_prices) b_check_prices (C8.fnScope t_check_prices) (C8.fnBody t_check_prices) = true := by decide +kernel
theorem sc_price_by : C8.scC N_price_by p_price_by (C8.fnScope t_price_by) = true := by decide +kernel
theorem ck_price_by : ckSs (kc N_price_by k_price_by) b_price_by (C8.fnScope t_price_by) (C8.fnBody t_price_by) = true := by decide +kernel
theorem sc_cost_of : C8.scC N_cost_of p_cost_of (C8.fnScope t_cost_of) = true := by decide +kernel
theorem ck_cost_of : ckSs (kc N_cost_of k_cost_of) b_cost_of (C8.fnScope t_cost_of) (C8.fnBody t_cost_of) = true := by decide +kernel
theorem sc_full_pairings : C8.scC N_full_pairings p_full_pairings (C8.fnScope t_full_pairings) = true := by decide +kernel
theorem ck_full_pairings : ckSs (kc N_full_pairings k_full_pairings) b_full_pairings (C8.fnScope t_full_pairings) (C8.fnBody t_full_pairings) = true := by decide +kernel
theorem sc_costs_of : C8.scC N_costs_of p_costs_of (C8.fnScope t_costs_of) = true := by decide +kernel
theorem ck_costs_of : ckSs (kc N_costs_of k_costs_of) b_costs_of (C8.fnScope t_costs_of) (C8.fnBody t_costs_of) = true := by decide +kernel
theorem sc_check_full : C8.scC N_check_full p_check_full (C8.fnScope t_check_full) = true := by decide +kernel
theorem ck_check_full : ckSs (kc N_check_full k_check_full) b_check_full (C8.fnScope t_check_full) (C8.fnBody t_check_full) = true := by decide +kernel
theorem sc_fates : C8.scC N_fates p_fates (C8.fnScope t_fates) = true := by decide +kernel
theorem ck_fates : ckSs (kc N_fates k_fates) b_fates (C8.fnScope t_fates) (C8.fnBody t_fates) = true := by decide +kernel
theorem sc_may_cost : C8.scC N_may_cost p_may_cost (C8.fnScope t_may_cost) = true := by decide +kernel
theorem ck_may_cost : ckSs (kc N_may_cost k_may_cost) b_may_cost (C8.fnScope t_may_cost) (C8.fnBody t_may_cost) = true := by decide +kernel
theorem sc_law_take : C8.scC N_law_take p_law_take (C8.fnScope t_law_take) = true := by decide +kernel
theorem ck_law_take : ckSs (kc N_law_take k_law_take) b_law_take (C8.fnScope t_law_take) (C8.fnBody t_law_take) = true := by decide +kernel
theorem sc_law_some : C8.scC N_law_some p_law_some (C8.fnScope t_law_some) = true := by decide +kernel
theorem ck_law_some : ckSs (kc N_law_some k_law_some) b_law_some (C8.fnScope t_law_some) (C8.fnBody t_law_some) = true := by decide +kernel
theorem sc_law_word : C8.scC N_law_word p_law_word (C8.fnScope t_law_word) = true := by decide +kernel
theorem ck_law_word : ckSs (kc N_law_word k_law_word) b_law_word (C8.fnScope t_law_word) (C8.fnBody t_law_word) = true := by decide +kernel
theorem sc_law_roll : C8.scC N_law_roll p_law_roll (C8.fnScope t_law_roll) = true := by decide +kernel
theorem ck_law_roll : ckSs (kc N_law_roll k_law_roll) b_law_roll (C8.fnScope t_law_roll) (C8.fnBody t_law_roll) = true := by decide +kernel
theorem sc_law_of : C8.scC N_law_of p_law_of (C8.fnScope t_law_of) = true := by decide +kernel
theorem ck_law_of : ckSs (kc N_law_of k_law_of) b_law_of (C8.fnScope t_law_of) (C8.fnBody t_law_of) = true := by decide +kernel
theorem sc_law_pair : C8.scC N_law_pair p_law_pair (C8.fnScope t_law_pair) = true := by decide +kernel
theorem ck_law_pair : ckSs (kc N_law_pair k_law_pair) b_law_pair (C8.fnScope t_law_pair) (C8.fnBody t_law_pair) = true := by decide +kernel
theorem sc_law_pairs : C8.scC N_law_pairs p_law_pairs (C8.fnScope t_law_pairs) = true := by decide +kernel
theorem ck_law_pairs : ckSs (kc N_law_pairs k_law_pairs) b_law_pairs (C8.fnScope t_law_pairs) (C8.fnBody t_law_pairs) = true := by decide +kernel
theorem sc_law_price : C8.scC N_law_price p_law_price (C8.fnScope t_law_price) = true := by decide +kernel
theorem ck_law_price : ckSs (kc N_law_price k_law_price) b_law_price (C8.fnScope t_law_price) (C8.fnBody t_law_price) = true := by decide +kernel
theorem sc_law_cost : C8.scC N_law_cost p_law_cost (C8.fnScope t_law_cost) = true := by decide +kernel
theorem ck_law_cost : ckSs (kc N_law_cost k_law_cost) b_law_cost (C8.fnScope t_law_cost) (C8.fnBody t_law_cost) = true := by decide +kernel
theorem sc_law_text : C8.scC N_law_text p_law_text (C8.fnScope t_law_text) = true := by decide +kernel
theorem ck_law_text : ckSs (kc N_law_text k_law_text) b_law_text (C8.fnScope t_law_text) (C8.fnBody t_law_text) = true := by decide +kernel
theorem sc_law_prices : C8.scC N_law_prices p_law_prices (C8.fnScope t_law_prices) = true := by decide +kernel
theorem ck_law_prices : ckSs (kc N_law_prices k_law_prices) b_law_prices (C8.fnScope t_law_prices) (C8.fnBody t_law_prices) = true := by decide +kernel
theorem sc_law_full : C8.scC N_law_full p_law_full (C8.fnScope t_law_full) = true := by decide +kernel
theorem ck_law_full : ckSs (kc N_law_full k_law_full) b_law_full (C8.fnScope t_law_full) (C8.fnBody t_law_full) = true := by decide +kernel
theorem sc_law_cells : C8.scC N_law_cells p_law_cells (C8.fnScope t_law_cells) = true := by decide +kernel
theorem ck_law_cells : ckSs (kc N_law_cells k_law_cells) b_law_cells (C8.fnScope t_law_cells) (C8.fnBody t_law_cells) = true := by decide +kernel
theorem sc_law_pot : C8.scC N_law_pot p_law_pot (C8.fnScope t_law_pot) = true := by decide +kernel
theorem ck_law_pot : ckSs (kc N_law_pot k_law_pot) b_law_pot (C8.fnScope t_law_pot) (C8.fnBody t_law_pot) = true := by decide +kernel
theorem sc_law_whole_roll : C8.scC N_law_whole_roll p_law_whole_roll (C8.fnScope t_law_whole_roll) = true := by decide +kernel
theorem ck_law_whole_roll : ckSs (kc N_law_whole_roll k_law_whole_roll) b_law_whole_roll (C8.fnScope t_law_whole_roll) (C8.fnBody t_law_whole_roll) = true := by decide +kernel
theorem sc_law_words : C8.scC N_law_words p_law_words (C8.fnScope t_law_words) = true := by decide +kernel
theorem ck_law_words : ckSs (kc N_law_words k_law_words) b_law_words (C8.fnScope t_law_words) (C8.fnBody t_law_words) = true := by decide +kernel
theorem sc_law_is_pair_right : C8.scC N_law_is_pair_right p_law_is_pair_right (C8.fnScope t_law_is_pair_right) = true := by decide +kernel
theorem ck_law_is_pair_right : ckSs (kc N_law_is_pair_right k_law_is_pair_right) b_law_is_pair_right (C8.fnScope t_law_is_pair_right) (C8.fnBody t_law_is_pair_right) = true := by decide +kernel
theorem sc_law_right : C8.scC N_law_right p_law_right (C8.fnScope t_law_right) = true := by decide +kernel
theorem ck_law_right : ckSs (kc N_law_right k_law_right) b_law_right (C8.fnScope t_law_right) (C8.fnBody t_law_right) = true := by decide +kernel
theorem sc_law : C8.scC N_law p_law (C8.fnScope t_law) = true := by decide +kernel
theorem ck_law : ckSs (kc N_law k_law) b_law (C8.fnScope t_law) (C8.fnBody t_law) = true := by decide +kernel
end Dz60
/-! Dz34: the law's own call, from its promise by data. -/
namespace Dz
open PySem PySem.Spec PyProof.Rows L2

/-- no list among the written things -/
theorem noList_at : ∀ {K : PySem.W.Frag} {a : Addr} {o : Obj}, noLists K = true → K.lookup a = some o → o.cls ≠ .type "list"
  | [], _, _, _, h => by cases h
  | (b, u) :: K, a, o, hn, h => by
    unfold noLists at hn
    rw [List.all_cons, Bool.and_eq_true] at hn
    rw [List.lookup_cons] at h
    split at h
    · cases h
      intro e
      have := hn.1
      rw [e] at this
      simp at this
    · exact noList_at (K := K) hn.2 h
theorem rp_ints {cl : CL} {S : Sto} {T H : Hp} : ∀ ns : List Int, RpL cl S T H (ns.map D.int) (ns.map V.int)
  | [] => .nil
  | n :: ns => .cons (.int n) (rp_ints ns)
section
variable {P : Program} {w : World} {K : PySem.W.Frag} {mg mb : Str → Option Value} {cl : CL} {k : Nat} {fa a : Addr} {fd : FuncData} {x : Str} {sp : DSp} {s₁ : Shared} {vs : List Value} {ns : List Int} {cs : List (Addr × Addr)}
/-- what is tracked at the law's call: the script and the tables -/
def H0 (cs : List (Addr × Addr)) (a : Addr) (vs : List Value) (ns : List Int) : Hp := fun b =>
  if b = a then some (.frz { cls := .type "list", data := .seq vs.toArray } (.lst (ns.map V.int))) else if b ∈ cs.map (·.2) then some (.tbl #[]) else none
theorem H0_a : H0 cs a vs ns a = some (.frz { cls := .type "list", data := .seq vs.toArray } (.lst (ns.map V.int))) := if_pos rfl
theorem H0_t {b : Addr} (n : b ≠ a) (h : b ∈ cs.map (·.2)) : H0 cs a vs ns b = some (.tbl #[]) := (if_neg n).trans (if_pos h)
theorem H0_n {b : Addr} (n : b ≠ a) (h : b ∉ cs.map (·.2)) : H0 cs a vs ns b = none := (if_neg n).trans (if_neg h)
theorem law_callD (KX : K.In s₁.heap) (kl : noLists K = true) (hns : s₁.heap.Ns mainGlobals mg) (hb : s₁.heap.Ns builtinsNs mb) (hbb : ∀ x : Str, x ≠ "__name__" → mb x = bootBuiltins x) (hlim : s₁.heap.NoLimit) (hg : s₁.gens = #[])
    (hT : ∀ p ∈ cs, s₁.heap.get? p.2 = some { cls := .none, data := .fields #[] }) (nT : ∀ p ∈ cs, K.lookup p.2 = none) (C : ∀ p ∈ cs, PySem.W.CodeHd s₁.heap p.1 p.2)
    (hbm : ∃ (bm : Addr) (ob : Obj), mg "__builtins__" = some (.ref bm) ∧ bm ≠ builtinsNs ∧ s₁.heap.get? bm = some ob ∧ ob.cls = .type "module" ∧ ob.dict = some builtinsNs ∧ ob.data = .plain)
    (ha : s₁.heap.get? a = some { cls := .type "list", data := .seq vs.toArray }) (hi : IntsAre vs ns) (hl : ns.length ≤ sizeLine) (hr : Room k callerA) (hct : ∀ p ∈ cl.tabs, p.1 ∈ cs.map (·.2))
    (F : ∀ base : Heap, K.In base → base.Ns mainGlobals mg → (∀ p ∈ cs, LamX.TabB base mg p.1 p.2) → FnD P w K mg base cl k fa fd [x] sp) (hbind : ∀ (s : Shared) (u : Value), BindsTo s fd ⟨[u], []⟩ [(x, u)])
    (hsp : ∀ Q : DK, (∀ S', Q (.bl true) S') → sp [.fls (ns.map D.int)] (fun _ => none) Q) :
    codeAny (model P w) callerA (.call (.ref fa) ⟨[.ref a], []⟩) (fun r s' => r = .ok (.ret (.bool true)) ∧ OldK s₁.heap s'.heap ∧ s'.os = s₁.os ∧ AllBare s'.gens) s₁ := by
  have rv := vals_ints hi
  have tabAt : ∀ {b : Addr}, b ∈ cs.map (·.2) → s₁.heap.get? b = some { cls := .none, data := .fields #[] } := fun {b} h => by
    obtain ⟨p, hp, e⟩ := List.mem_map.mp h
    exact e ▸ hT p hp
  have aNot : a ∉ cs.map (·.2) := fun z => by
    have q := (tabAt z).symm.trans ha
    simp at q
  have aK : K.lookup a = none := by
    cases e : K.lookup a with
    | none => rfl
    | some o =>
      have q := (KX a o e).symm.trans ha
      exact absurd (by rw [Option.some.inj q]) (noList_at kl e)
  generalize hH : H0 cs a vs ns = H
  have Ha : H a = some (.frz { cls := .type "list", data := .seq vs.toArray } (.lst (ns.map V.int))) := by rw [← hH]; exact H0_a
  have Ht : ∀ {b : Addr}, b ∈ cs.map (·.2) → H b = some (.tbl #[]) := fun {b} h => by
    rw [← hH]
    exact H0_t (fun z => aNot (z ▸ h)) h
  have Hn : ∀ {b : Addr}, b ≠ a → b ∉ cs.map (·.2) → H b = none := fun {b} n h => by rw [← hH]; exact H0_n n h
  have inb : ∀ {b : Addr} {o : Obj}, s₁.heap.get? b = some o → H b = none → (hidT s₁.heap H).get? b = some o := fun e n => hidT_get e n
  -- what is neither a list nor a table is not tracked
  have out : ∀ {b : Addr} {o : Obj}, s₁.heap.get? b = some o → (∀ us n, o.data ≠ .seq us n) → o.data ≠ .fields #[] → H b = none := fun {b o} e h1 h2 => by
    refine Hn (fun z => ?_) fun z => ?_
    · have q := ha.symm.trans (z ▸ e)
      exact h1 _ _ (by rw [← Option.some.inj q])
    · have q := (tabAt z).symm.trans e
      exact h2 (by rw [← Option.some.inj q])
  have spaces : ∀ {b : Addr} {m : Str → Option Value}, s₁.heap.Ns b m → (hidT s₁.heap H).Ns b m := fun {b m} ⟨o, es, ep, e, d, r⟩ =>
    ⟨o, es, ep, inb e (out e (fun us n z => by rw [d] at z; cases z) fun z => by rw [d] at z; cases z), d, r⟩
  have hKb : K.In (hidT s₁.heap H) := fun b o e => inb (KX b o e) (Hn (fun z => by rw [z, aK] at e; cases e) fun z => by
    obtain ⟨p, hp, ep⟩ := List.mem_map.mp z
    rw [← ep, nT p hp] at e
    cases e)
  have TB : ∀ p ∈ cs, LamX.TabB (hidT s₁.heap H) mg p.1 p.2 := fun p hp => by
    have hTp := hT p hp
    refine ⟨?_, ?_, fun z => ?_⟩
    · obtain ⟨o, us, file, tf, flags, tg, inF, text, tt, e1, r1, r2, r3, r⟩ := C p hp
      refine ⟨o, us, file, tf, flags, tg, inF, text, tt, inb e1 (out e1 (fun vs n z => by rw [r2] at z; cases z) fun z => ?_), r1, r2, r3, r⟩
      rw [r2] at z
      cases z
      simp at r3
    · obtain ⟨bm, ob, b1, b2, b3, b4, b5, b6⟩ := hbm
      have nG : bm ≠ mainGlobals := fun q => by
        obtain ⟨o, es, ep, e, hd, _⟩ := hns
        rw [q, e] at b3
        cases b3
        rw [hd] at b6
        cases b6
      have nP : bm ≠ p.2 := fun q => by
        rw [q, hTp] at b3
        cases b3
        cases b6
      exact ⟨bm, ob, b1, b2, nG, nP, inb b3 (out b3 (fun vs n z => by rw [b6] at z; cases z) fun z => by rw [b6] at z; cases z), b4, b5, b6⟩
    · obtain ⟨o, es, ep, e, hd, _⟩ := hns
      rw [z, hTp] at e
      cases e
      cases hd
  have hok : HOk P w H s₁.heap := fun b u z => by
    by_cases e1 : b = a
    · subst e1
      rw [Ha] at z
      cases z
      exact ⟨ha, by rw [List.length_map]; exact hl, vs, _, rv, ha⟩
    · by_cases e2 : b ∈ cs.map (·.2)
      · rw [Ht e2] at z
        cases z
        exact tabAt e2
      · rw [Hn e1 e2] at z
        cases z
  have e0 : Env0 P w K mg (hidT s₁.heap H) callerA [] s₁ H :=
    ⟨rfl, ⟨hKb, spaces hns, ⟨mb, spaces hb, hbb⟩, let ⟨mc, h1, h2⟩ := hlim; ⟨mc, spaces h1, h2⟩⟩, fun b o e => of_hidT e, Nat.le_of_eq (hidT_size _ _), trivial, fun b hb => absurd (show b ∈ ([] : List Addr) from hb) (by simp), hok, .of_eq hg⟩
  have sm : Sm cl (fun _ => none) (fun _ => none) H := by
    refine ⟨fun p hp => ⟨⟨rfl, rfl⟩, #[], Ht (hct p hp), ?_, fun pos cv h => by cases h⟩, fun b o e => absurd e (by simp), fun b u e => absurd e (by simp)⟩
    exact trivial
  have rp : RpL cl (fun _ => none) (fun _ => none) H [.fls (ns.map D.int)] [.ref a] := .cons (.fls (.inr ⟨_, Ha⟩) ⟨rfl, rfl⟩ (rp_ints ns)) .nil
  refine codeAny_mono ((F _ hKb (spaces hns) TB).run callerA [] s₁ H ⟨[.ref a], []⟩ [.ref a] [.ref a] _ _ _ (fun v _ => v = .bl true) hr rfl e0 (hbind s₁ (.ref a)) (.cons rfl .nil) sm rp (hsp _ fun S' v H2 _ _ r => by cases r; rfl)) fun r s' h => ?_
  cases r with
  | error e => exact h.elim
  | ok fl =>
    cases fl with
    | next => exact False.elim h
    | brk => exact False.elim h
    | cont => exact False.elim h
    | ret u =>
      obtain ⟨v, H', os, bare, un, hok', r', q⟩ := h
      have q' : v = .bl true := q
      subst q'
      obtain rfl : u = Value.bool true := r'
      have keep : ∀ b o, b ∉ cs.map (·.2) → s₁.heap.get? b = some o → s'.heap.get? b = some o := fun b o nb e => by
        by_cases z : b = a
        · subst z
          have z2 := un.frzs _ _ _ Ha
          obtain ⟨e2, _⟩ := hok' _ _ z2
          rw [ha] at e
          cases e
          exact e2
        · exact un.keep b o e (Hn z nb) (by intro y; exact absurd (show b ∈ ([] : List Addr) from y) (by simp)) (by simp)
      have grown : ∀ p ∈ cs, ∃ more : Array Value, s'.heap.get? p.2 = some { cls := .none, data := .fields more } := fun p hp => by
        obtain ⟨more, z⟩ := un.tbls p.2 #[] (Ht (List.mem_map.mpr ⟨p, hp, rfl⟩))
        exact ⟨_, hok' p.2 _ z⟩
      refine ⟨rfl, ⟨fun b o e => ?_, fun b o e => ?_⟩, os, bare⟩
      · by_cases hb : b ∈ cs.map (·.2)
        · obtain ⟨p, hp, ep⟩ := List.mem_map.mp hb
          obtain ⟨more, hm⟩ := grown p hp
          rw [← ep] at e ⊢
          rw [hT p hp] at e
          cases e
          exact .inr (.inl ⟨((C p hp).tab (hT p hp)).isCodeTable, rfl, #[], more, rfl, by rw [Array.empty_append]; exact hm⟩)
        · exact .inl (keep b o hb e)
      · by_cases hb : b ∈ cs.map (·.2)
        · obtain ⟨p, hp, ep⟩ := List.mem_map.mp hb
          obtain ⟨more, hm⟩ := grown p hp
          rw [← ep]
          exact ⟨_, hm⟩
        · exact ⟨o, keep b o hb e⟩
end
/-- what is known of the law's promise, at the head's heap h -/
def LawAtD (l : PySem.W.OpenLaw) (w : World) (K : PySem.W.Frag) (k n : Nat) (x : Str) (mg : Str → Option Value) (fa : Addr) (h : Heap) : Prop :=
  ∃ (fd : FuncData) (cs : List (Addr × Addr)) (cl : CL) (sp : DSp), noLists K = true ∧ (∀ p ∈ cs, h.get? p.2 = some { cls := .none, data := .fields #[] }) ∧ (∀ p ∈ cs, K.lookup p.2 = none) ∧ (∀ p ∈ cs, PySem.W.CodeHd h p.1 p.2) ∧ (∀ p ∈ cl.tabs, p.1 ∈ cs.map (·.2)) ∧
    (∀ (s : Shared) (u : Value), BindsTo s fd ⟨[u], []⟩ [(x, u)]) ∧
    (∀ (ns : List Int), ns.length ≤ n → (∀ z ∈ ns, Builtin.Int.intBits z ≤ 1048576) → ∀ Q : DK, (∀ S', Q (.bl true) S') → sp [.fls (ns.map D.int)] (fun _ => none) Q) ∧
    ∀ base : Heap, K.In base → base.Ns mainGlobals mg → (∀ p ∈ cs, LamX.TabB base mg p.1 p.2) → FnD l.prog w K mg base cl k fa fd [x] sp
theorem walk_D {l : PySem.W.OpenLaw} {n k : Nat} {q : Program} {loose : List Str} {XP : (Str → Option Value) → Heap → Prop} {YP : World → Heap → Prop} {d : DefRec} {K : Params → PySem.W.Frag} {x : Str}
    (hn : l.most = some n) (hn2 : n ≤ sizeLine) (hdf : d.params.defaults = []) (hr : Room k callerA) (hY : ∀ (w : World) (h : Heap), YP w h → (K w.params).In h)
    (F : ∀ (w : World) (mg : Str → Option Value) (fa : Addr) (h : Heap), YP w h → (K w.params).In h → h.Ns mainGlobals mg → mg d.name = some (.ref fa) → LawAtD l w (K w.params) k n x mg fa h) :
    PySem.W.WalkO q loose XP YP l.row.toRowW d [] (fun f vs => PySem.call f vs) := by
  refine Att.attach_callB hn hdf fun w s₀ s₁ mg mb fa o pm cd doc a vs ns G Y ho hd hcd hmg hobj hints hlen hbits hg => ?_
  have KX := hY w _ Y
  obtain ⟨fd, cs, cl, sp, kl, hT, nT, C, hct, hb, hsp, hF⟩ := F w mg fa _ Y KX G.T.g hmg
  exact law_callD KX kl G.T.g G.T.b G.T.builtins G.T.nolimit hg hT nT C G.T.bmain hobj hints (Nat.le_trans hlen hn2) hr hct hF hb (hsp ns hlen hbits)
end Dz
/-! Dz35: from what the top has written to what stands around. -/
namespace Dz
open PySem PySem.Spec PyProof.Rows L2

/-- arguments by place and by name, no default -/
def BindOk (x qual : Str) (st : Stmt) (ps : List Str) : Prop := ∀ (K : PySem.W.Frag) (kV doc pm cdv ct : Value) (an : Option Addr), BindD K (PySem.W.fnOf x qual (C8.fnArgs st) (C8.fnBody st) (C8.fnScope st) .none kV doc pm an cdv ct) ps
def argsB (a : Arguments) (ps : List Str) : Bool := match a with
  | ⟨[], l, none, [], [], none, []⟩ => decide (l.map (·.arg) = ps)
  | _ => false
section
variable {x qual : Str} {st : Stmt} {p1 p2 p3 p4 p5 : Str}
theorem args_of {a : Arguments} {ps : List Str} (h : argsB a ps = true) : ∃ l, a = ⟨[], l, none, [], [], none, []⟩ ∧ l.map (·.arg) = ps := by
  unfold argsB at h
  split at h
  · exact ⟨_, rfl, by simpa using h⟩
  · cases h
theorem ex0 {l : List Value} (h : l.length = 0) : l = [] := by
  match l, h with
  | [], _ => exact rfl
theorem ex1 {l : List Value} (h : l.length = 1) : ∃ a1, l = [a1] := by
  match l, h with
  | [a1], _ => exact ⟨a1, rfl⟩
theorem ex2 {l : List Value} (h : l.length = 2) : ∃ a1 a2, l = [a1, a2] := by
  match l, h with
  | [a1, a2], _ => exact ⟨a1, a2, rfl⟩
theorem ex3 {l : List Value} (h : l.length = 3) : ∃ a1 a2 a3, l = [a1, a2, a3] := by
  match l, h with
  | [a1, a2, a3], _ => exact ⟨a1, a2, a3, rfl⟩
theorem ex4 {l : List Value} (h : l.length = 4) : ∃ a1 a2 a3 a4, l = [a1, a2, a3, a4] := by
  match l, h with
  | [a1, a2, a3, a4], _ => exact ⟨a1, a2, a3, a4, rfl⟩
theorem ex5 {l : List Value} (h : l.length = 5) : ∃ a1 a2 a3 a4 a5, l = [a1, a2, a3, a4, a5] := by
  match l, h with
  | [a1, a2, a3, a4, a5], _ => exact ⟨a1, a2, a3, a4, a5, rfl⟩
theorem us1 {us ws : List Value} (h : (us ++ ws).length = 1) : (∃ a1, us = [] ∧ ws = [a1]) ∨ (∃ a1, us = [a1] ∧ ws = []) := by
  rw [List.length_append] at h
  have hc : (us.length = 0 ∧ ws.length = 1) ∨ (us.length = 1 ∧ ws.length = 0) := by omega
  rcases hc with ⟨h1, h2⟩ | ⟨h1, h2⟩
  · obtain rfl := ex0 h1
    obtain ⟨a1, rfl⟩ := ex1 h2
    exact .inl ⟨a1, rfl, rfl⟩
  · obtain ⟨a1, rfl⟩ := ex1 h1
    obtain rfl := ex0 h2
    exact .inr (⟨a1, rfl, rfl⟩)
theorem us2 {us ws : List Value} (h : (us ++ ws).length = 2) : (∃ a1 a2, us = [] ∧ ws = [a1, a2]) ∨ (∃ a1 a2, us = [a1] ∧ ws = [a2]) ∨ (∃ a1 a2, us = [a1, a2] ∧ ws = []) := by
  rw [List.length_append] at h
  have hc : (us.length = 0 ∧ ws.length = 2) ∨ (us.length = 1 ∧ ws.length = 1) ∨ (us.length = 2 ∧ ws.length = 0) := by omega
  rcases hc with ⟨h1, h2⟩ | ⟨h1, h2⟩ | ⟨h1, h2⟩
  · obtain rfl := ex0 h1
    obtain ⟨a1, a2, rfl⟩ := ex2 h2
    exact .inl ⟨a1, a2, rfl, rfl⟩
  · obtain ⟨a1, rfl⟩ := ex1 h1
    obtain ⟨a2, rfl⟩ := ex1 h2
    exact .inr (.inl ⟨a1, a2, rfl, rfl⟩)
  · obtain ⟨a1, a2, rfl⟩ := ex2 h1
    obtain rfl := ex0 h2
    exact .inr (.inr (⟨a1, a2, rfl, rfl⟩))
theorem us3 {us ws : List Value} (h : (us ++ ws).length = 3) : (∃ a1 a2 a3, us = [] ∧ ws = [a1, a2, a3]) ∨ (∃ a1 a2 a3, us = [a1] ∧ ws = [a2, a3]) ∨ (∃ a1 a2 a3, us = [a1, a2] ∧ ws = [a3]) ∨ (∃ a1 a2 a3, us = [a1, a2, a3] ∧ ws = []) := by
  rw [List.length_append] at h
  have hc : (us.length = 0 ∧ ws.length = 3) ∨ (us.length = 1 ∧ ws.length = 2) ∨ (us.length = 2 ∧ ws.length = 1) ∨ (us.length = 3 ∧ ws.length = 0) := by omega
  rcases hc with ⟨h1, h2⟩ | ⟨h1, h2⟩ | ⟨h1, h2⟩ | ⟨h1, h2⟩
  · obtain rfl := ex0 h1
    obtain ⟨a1, a2, a3, rfl⟩ := ex3 h2
    exact .inl ⟨a1, a2, a3, rfl, rfl⟩
  · obtain ⟨a1, rfl⟩ := ex1 h1
    obtain ⟨a2, a3, rfl⟩ := ex2 h2
    exact .inr (.inl ⟨a1, a2, a3, rfl, rfl⟩)
  · obtain ⟨a1, a2, rfl⟩ := ex2 h1
    obtain ⟨a3, rfl⟩ := ex1 h2
    exact .inr (.inr (.inl ⟨a1, a2, a3, rfl, rfl⟩))
  · obtain ⟨a1, a2, a3, rfl⟩ := ex3 h1
    obtain rfl := ex0 h2
    exact .inr (.inr (.inr (⟨a1, a2, a3, rfl, rfl⟩)))
theorem us4 {us ws : List Value} (h : (us ++ ws).length = 4) : (∃ a1 a2 a3 a4, us = [] ∧ ws = [a1, a2, a3, a4]) ∨ (∃ a1 a2 a3 a4, us = [a1] ∧ ws = [a2, a3, a4]) ∨ (∃ a1 a2 a3 a4, us = [a1, a2] ∧ ws = [a3, a4]) ∨ (∃ a1 a2 a3 a4, us = [a1, a2, a3] ∧ ws = [a4]) ∨ (∃ a1 a2 a3 a4, us = [a1, a2, a3, a4] ∧ ws = []) := by
  rw [List.length_append] at h
  have hc : (us.length = 0 ∧ ws.length = 4) ∨ (us.length = 1 ∧ ws.length = 3) ∨ (us.length = 2 ∧ ws.length = 2) ∨ (us.length = 3 ∧ ws.length = 1) ∨ (us.length = 4 ∧ ws.length = 0) := by omega
  rcases hc with ⟨h1, h2⟩ | ⟨h1, h2⟩ | ⟨h1, h2⟩ | ⟨h1, h2⟩ | ⟨h1, h2⟩
  · obtain rfl := ex0 h1
    obtain ⟨a1, a2, a3, a4, rfl⟩ := ex4 h2
    exact .inl ⟨a1, a2, a3, a4, rfl, rfl⟩
  · obtain ⟨a1, rfl⟩ := ex1 h1
    obtain ⟨a2, a3, a4, rfl⟩ := ex3 h2
    exact .inr (.inl ⟨a1, a2, a3, a4, rfl, rfl⟩)
  · obtain ⟨a1, a2, rfl⟩ := ex2 h1
    obtain ⟨a3, a4, rfl⟩ := ex2 h2
    exact .inr (.inr (.inl ⟨a1, a2, a3, a4, rfl, rfl⟩))
  · obtain ⟨a1, a2, a3, rfl⟩ := ex3 h1
    obtain ⟨a4, rfl⟩ := ex1 h2
    exact .inr (.inr (.inr (.inl ⟨a1, a2, a3, a4, rfl, rfl⟩)))
  · obtain ⟨a1, a2, a3, a4, rfl⟩ := ex4 h1
    obtain rfl := ex0 h2
    exact .inr (.inr (.inr (.inr (⟨a1, a2, a3, a4, rfl, rfl⟩))))
theorem us5 {us ws : List Value} (h : (us ++ ws).length = 5) : (∃ a1 a2 a3 a4 a5, us = [] ∧ ws = [a1, a2, a3, a4, a5]) ∨ (∃ a1 a2 a3 a4 a5, us = [a1] ∧ ws = [a2, a3, a4, a5]) ∨ (∃ a1 a2 a3 a4 a5, us = [a1, a2] ∧ ws = [a3, a4, a5]) ∨ (∃ a1 a2 a3 a4 a5, us = [a1, a2, a3] ∧ ws = [a4, a5]) ∨ (∃ a1 a2 a3 a4 a5, us = [a1, a2, a3, a4] ∧ ws = [a5]) ∨ (∃ a1 a2 a3 a4 a5, us = [a1, a2, a3, a4, a5] ∧ ws = []) := by
  rw [List.length_append] at h
  have hc : (us.length = 0 ∧ ws.length = 5) ∨ (us.length = 1 ∧ ws.length = 4) ∨ (us.length = 2 ∧ ws.length = 3) ∨ (us.length = 3 ∧ ws.length = 2) ∨ (us.length = 4 ∧ ws.length = 1) ∨ (us.length = 5 ∧ ws.length = 0) := by omega
  rcases hc with ⟨h1, h2⟩ | ⟨h1, h2⟩ | ⟨h1, h2⟩ | ⟨h1, h2⟩ | ⟨h1, h2⟩ | ⟨h1, h2⟩
  · obtain rfl := ex0 h1
    obtain ⟨a1, a2, a3, a4, a5, rfl⟩ := ex5 h2
    exact .inl ⟨a1, a2, a3, a4, a5, rfl, rfl⟩
  · obtain ⟨a1, rfl⟩ := ex1 h1
    obtain ⟨a2, a3, a4, a5, rfl⟩ := ex4 h2
    exact .inr (.inl ⟨a1, a2, a3, a4, a5, rfl, rfl⟩)
  · obtain ⟨a1, a2, rfl⟩ := ex2 h1
    obtain ⟨a3, a4, a5, rfl⟩ := ex3 h2
    exact .inr (.inr (.inl ⟨a1, a2, a3, a4, a5, rfl, rfl⟩))
  · obtain ⟨a1, a2, a3, rfl⟩ := ex3 h1
    obtain ⟨a4, a5, rfl⟩ := ex2 h2
    exact .inr (.inr (.inr (.inl ⟨a1, a2, a3, a4, a5, rfl, rfl⟩)))
  · obtain ⟨a1, a2, a3, a4, rfl⟩ := ex4 h1
    obtain ⟨a5, rfl⟩ := ex1 h2
    exact .inr (.inr (.inr (.inr (.inl ⟨a1, a2, a3, a4, a5, rfl, rfl⟩))))
  · obtain ⟨a1, a2, a3, a4, a5, rfl⟩ := ex5 h1
    obtain rfl := ex0 h2
    exact .inr (.inr (.inr (.inr (.inr (⟨a1, a2, a3, a4, a5, rfl, rfl⟩)))))

end
/-- a def that the top has written, under its name -/
structure FnK (K : PySem.W.Frag) (mg : Str → Option Value) (x : Str) (st : Stmt) : Prop where
  ex : ∃ (f : Addr) (oc : Value) (od : Option Addr) (kV doc pm : Value) (an : Option Addr) (cdv ct : Value) (osl : Array (Option Value)), mg x = some (.ref f) ∧
    K.lookup f = some ⟨oc, od, .func (PySem.W.fnOf x x (C8.fnArgs st) (C8.fnBody st) (C8.fnScope st) .none kV doc pm an cdv ct), osl⟩ ∧ PySem.W.codeIn K cdv x = true ∧ PySem.W.keepIn K (.ref f) = true
/-- .. its code object known -/
structure FnKc (K : PySem.W.Frag) (mg : Str → Option Value) (x : Str) (st : Stmt) (c : Addr) : Prop where
  ex : ∃ (f : Addr) (oc : Value) (od : Option Addr) (kV doc pm : Value) (an : Option Addr) (ct : Value) (osl : Array (Option Value)), mg x = some (.ref f) ∧
    K.lookup f = some ⟨oc, od, .func (PySem.W.fnOf x x (C8.fnArgs st) (C8.fnBody st) (C8.fnScope st) .none kV doc pm an (.ref c) ct), osl⟩ ∧ PySem.W.codeIn K (.ref c) x = true ∧ PySem.W.keepIn K (.ref f) = true
/-- a method -/
structure MtK (K : PySem.W.Frag) (C : Addr) (m qual : Str) (st : Stmt) : Prop where
  ex : ∃ (f : Addr) (oc : Value) (od : Option Addr) (kV doc pm : Value) (an : Option Addr) (cdv ct : Value) (osl : Array (Option Value)), PySem.W.findIn K (.ref C) m = some (some (.ref f)) ∧ PySem.W.isFn K (.ref f) = true ∧
    K.lookup f = some ⟨oc, od, .func (PySem.W.fnOf m qual (C8.fnArgs st) (C8.fnBody st) (C8.fnScope st) .none kV doc pm an cdv ct), osl⟩ ∧ PySem.W.codeIn K cdv qual = true ∧ PySem.W.keepIn K (.ref f) = true
/-- a property -/
structure PrK (K : PySem.W.Frag) (C : Addr) (m qual : Str) (st : Stmt) : Prop where
  ex : ∃ (q f : Addr) (oc : Value) (od : Option Addr) (kV doc pm : Value) (an : Option Addr) (cdv ct : Value) (osl : Array (Option Value)) (rest : List Value), PySem.W.findIn K (.ref C) m = some (some (.ref q)) ∧ PySem.W.specialIn K (.ref q) "__get__" = some (some (.builtin "property.__get__")) ∧
    PySem.W.takesIn K (.ref q) = some true ∧ PySem.W.recIn K q "property" = some (.ref f :: rest) ∧
    K.lookup f = some ⟨oc, od, .func (PySem.W.fnOf m qual (C8.fnArgs st) (C8.fnBody st) (C8.fnScope st) .none kV doc pm an cdv ct), osl⟩ ∧ PySem.W.codeIn K cdv qual = true
theorem fnK_of {K : PySem.W.Frag} {mg : Str → Option Value} {h : Heap} {x : Str} {st : Stmt} {f : Addr} {oc kV doc pm cdv ct : Value} {od an : Option Addr} {osl : Array (Option Value)} (X : K.In h) (G : h.Ns mainGlobals mg) (a : PySem.W.nsIn K mainGlobals x = some (some (.ref f)))
    (l : K.lookup f = some ⟨oc, od, .func (PySem.W.fnOf x x (C8.fnArgs st) (C8.fnBody st) (C8.fnScope st) .none kV doc pm an cdv ct), osl⟩) (c : PySem.W.codeIn K cdv x = true) (k : PySem.W.keepIn K (.ref f) = true) : FnK K mg x st :=
  ⟨f, oc, od, kV, doc, pm, an, cdv, ct, osl, PySem.W.mg_of X G a, l, c, k⟩
theorem fnKc_of {K : PySem.W.Frag} {mg : Str → Option Value} {h : Heap} {x : Str} {st : Stmt} {f c : Addr} {oc kV doc pm ct : Value} {od an : Option Addr} {osl : Array (Option Value)} (X : K.In h) (G : h.Ns mainGlobals mg) (a : PySem.W.nsIn K mainGlobals x = some (some (.ref f)))
    (l : K.lookup f = some ⟨oc, od, .func (PySem.W.fnOf x x (C8.fnArgs st) (C8.fnBody st) (C8.fnScope st) .none kV doc pm an (.ref c) ct), osl⟩) (cc : PySem.W.codeIn K (.ref c) x = true) (k : PySem.W.keepIn K (.ref f) = true) : FnKc K mg x st c :=
  ⟨f, oc, od, kV, doc, pm, an, ct, osl, PySem.W.mg_of X G a, l, cc, k⟩
theorem mtK_of {K : PySem.W.Frag} {C : Addr} {m qual : Str} {st : Stmt} {f : Addr} {oc kV doc pm cdv ct : Value} {od an : Option Addr} {osl : Array (Option Value)} (a : PySem.W.findIn K (.ref C) m = some (some (.ref f))) (i : PySem.W.isFn K (.ref f) = true)
    (l : K.lookup f = some ⟨oc, od, .func (PySem.W.fnOf m qual (C8.fnArgs st) (C8.fnBody st) (C8.fnScope st) .none kV doc pm an cdv ct), osl⟩) (c : PySem.W.codeIn K cdv qual = true) (k : PySem.W.keepIn K (.ref f) = true) : MtK K C m qual st :=
  ⟨f, oc, od, kV, doc, pm, an, cdv, ct, osl, a, i, l, c, k⟩
theorem prK_of {K : PySem.W.Frag} {C : Addr} {m qual : Str} {st : Stmt} {q f : Addr} {oc kV doc pm cdv ct : Value} {od an : Option Addr} {osl : Array (Option Value)} {rest : List Value} (a : PySem.W.findIn K (.ref C) m = some (some (.ref q))) (g : PySem.W.specialIn K (.ref q) "__get__" = some (some (.builtin "property.__get__")))
    (t : PySem.W.takesIn K (.ref q) = some true) (r : PySem.W.recIn K q "property" = some (.ref f :: rest)) (l : K.lookup f = some ⟨oc, od, .func (PySem.W.fnOf m qual (C8.fnArgs st) (C8.fnBody st) (C8.fnScope st) .none kV doc pm an cdv ct), osl⟩) (c : PySem.W.codeIn K cdv qual = true) : PrK K C m qual st :=
  ⟨q, f, oc, od, kV, doc, pm, an, cdv, ct, osl, rest, a, g, t, r, l, c⟩
section
variable {P : Program} {w : World} {K : PySem.W.Frag} {mg : Str → Option Value} {base : Heap} {cl : CL} {k j : Nat} {sp : DSp} {x m qual c : Str} {ps : List Str} {st : Stmt} {C : Addr}
theorem FnK.at (h : FnK K mg x st) (B : BindOk x x st ps) (F : ∀ (f : Addr) (fd : FuncData), C8.Fun K x x st f fd → FnD P w K mg base cl k f fd ps sp) : FnAt P w K mg base cl k x sp ps := by
  obtain ⟨f, oc, od, kV, doc, pm, an, cdv, ct, osl, a, l, c, kp⟩ := h.ex
  exact ⟨f, _, F f _ ⟨oc, od, .none, kV, doc, pm, an, cdv, ct, osl, rfl, l, c⟩, a, kp, B K kV doc pm cdv ct an⟩
theorem MtK.at (h : MtK K C m qual st) (hc : cl.c c = some C) (hC : Cls K C) (B : BindOk m qual st ps) (F : ∀ (f : Addr) (fd : FuncData), C8.Fun K m qual st f fd → FnD P w K mg base cl k f fd ps sp) : MtAt P w K mg base cl k c m sp := by
  obtain ⟨f, oc, od, kV, doc, pm, an, cdv, ct, osl, a, i, l, cc, kp⟩ := h.ex
  exact ⟨C, f, _, ps, hc, F f _ ⟨oc, od, .none, kV, doc, pm, an, cdv, ct, osl, rfl, l, cc⟩, hC, ⟨a, i, kp⟩, B K kV doc pm cdv ct an⟩
theorem PrK.at (h : PrK K C m qual st) (hc : cl.c c = some C) (hC : Cls K C) (B : BindOk m qual st ps) (F : ∀ (f : Addr) (fd : FuncData), C8.Fun K m qual st f fd → FnD P w K mg base cl k f fd ps sp) : PrAt P w K mg base cl k c m sp := by
  obtain ⟨q, f, oc, od, kV, doc, pm, an, cdv, ct, osl, rest, a, g, t, r, l, cc⟩ := h.ex
  exact ⟨C, q, f, _, ps, hc, F f _ ⟨oc, od, .none, kV, doc, pm, an, cdv, ct, osl, rfl, l, cc⟩, hC, ⟨a, g, t, rest, r⟩, B K kV doc pm cdv ct an⟩
/-- a class's __init__, the class made by its name -/
theorem MtK.mkAt (h : MtK K C "__init__" qual st) (hc : cl.c c = some C) (hm : mg c = some (.ref C)) (mk : PySem.W.makesIn K C = true) (kp : PySem.W.keepIn K (.ref C) = true) (B : BindOk "__init__" qual st ps) (F : ∀ (f : Addr) (fd : FuncData), C8.Fun K "__init__" qual st f fd → FnD P w K mg base cl k f fd ps sp) : MkAt P w K mg base cl k c sp := by
  obtain ⟨f, oc, od, kV, doc, pm, an, cdv, ct, osl, a, i, l, cc, _⟩ := h.ex
  exact ⟨C, f, _, ps, hc, F f _ ⟨oc, od, .none, kV, doc, pm, an, cdv, ct, osl, rfl, l, cc⟩, hm, ⟨mk, a, i, kp⟩, B K kV doc pm cdv ct an⟩
theorem FnAt.up (h : FnAt P w K mg base cl j x sp ps) (hj : j ≤ k) : FnAt P w K mg base cl k x sp ps := let ⟨f, fd, F, r⟩ := h.ex; ⟨f, fd, F.up hj, r⟩
theorem MtAt.up (h : MtAt P w K mg base cl j c m sp) (hj : j ≤ k) : MtAt P w K mg base cl k c m sp := let ⟨C, f, fd, ps, e, F, r⟩ := h.ex; ⟨C, f, fd, ps, e, F.up hj, r⟩
theorem PrAt.up (h : PrAt P w K mg base cl j c m sp) (hj : j ≤ k) : PrAt P w K mg base cl k c m sp := let ⟨C, q, f, fd, ps, e, F, r⟩ := h.ex; ⟨C, q, f, fd, ps, e, F.up hj, r⟩
theorem MkAt.up (h : MkAt P w K mg base cl j c sp) (hj : j ≤ k) : MkAt P w K mg base cl k c sp := let ⟨C, f, fd, ps, e, F, r⟩ := h.ex; ⟨C, f, fd, ps, e, F.up hj, r⟩
variable {G : Sg} {fk : List (Str × List Str)}
theorem kn_fn (A : FnAt P w K mg base cl j x sp ps) (hj : j ≤ k) (hs : G.fn x = some sp) (hfk : ∀ ps', fk.lookup x = some ps' → ps' = ps) (h1 : G.mt "" x = none) (h2 : G.pr "" x = none) : KnAt P w K mg base cl k G fk ("", x) where
  fn _ sp' h := by
    obtain rfl : sp = sp' := Option.some.inj (hs.symm.trans h)
    exact ⟨ps, A.up hj, hfk⟩
  mk0 e := absurd (show ("" : Str) = "new" from e) (by decide +kernel)
  mt sp' h := by rw [h1] at h; cases h
  pr sp' h := by rw [h2] at h; cases h
theorem kn_mk (A : MkAt P w K mg base cl j c sp) (hj : j ≤ k) (hs : G.mk0 c = some sp) (h1 : G.mt "new" c = none) (h2 : G.pr "new" c = none) : KnAt P w K mg base cl k G fk ("new", c) where
  fn e := absurd (show ("new" : Str) = "" from e) (by decide +kernel)
  mk0 _ sp' h := by
    obtain rfl : sp = sp' := Option.some.inj (hs.symm.trans h)
    exact A.up hj
  mt sp' h := by rw [h1] at h; cases h
  pr sp' h := by rw [h2] at h; cases h
theorem kn_mt (A : MtAt P w K mg base cl j c m sp) (hj : j ≤ k) (hs : G.mt c m = some sp) (h1 : ¬ c = "") (h2 : ¬ c = "new") (h3 : G.pr c m = none) : KnAt P w K mg base cl k G fk (c, m) where
  fn e := absurd e h1
  mk0 e := absurd e h2
  mt sp' h := by
    obtain rfl : sp = sp' := Option.some.inj (hs.symm.trans h)
    exact A.up hj
  pr sp' h := by rw [h3] at h; cases h
theorem kn_pr (A : PrAt P w K mg base cl j c m sp) (hj : j ≤ k) (hs : G.pr c m = some sp) (h1 : ¬ c = "") (h2 : ¬ c = "new") (h3 : G.mt c m = none) : KnAt P w K mg base cl k G fk (c, m) where
  fn e := absurd e h1
  mk0 e := absurd e h2
  mt sp' h := by rw [h3] at h; cases h
  pr sp' h := by
    obtain rfl : sp = sp' := Option.some.inj (hs.symm.trans h)
    exact A.up hj
end
/-! ### looking up in a written table -/
theorem look_at {β : Type} : ∀ {l : List (Str × β)} {k : Str} {i : Nat} {b : β}, (l.map (·.1)).idxOf k = i → l[i]? = some (k, b) → l.lookup k = some b
  | [], _, _, _, _, h => by simp at h
  | (a, c) :: l, k, i, b, e, h => by
    rw [List.lookup_cons]
    rw [List.map_cons, List.idxOf_cons] at e
    by_cases z : a = k
    · subst z
      rw [beq_self_eq_true] at e ⊢
      simp only [cond_true] at e
      subst e
      simp at h
      simp [h]
    · have z1 : (a == k) = false := beq_eq_false_iff_ne.mpr z
      have z2 : (k == a) = false := beq_eq_false_iff_ne.mpr (Ne.symm z)
      rw [z1] at e
      rw [z2]
      simp only [cond_false] at e
      subst e
      exact look_at (l := l) rfl (by simpa using h)
theorem look_no {β : Type} {l : List (Str × β)} {k : Str} (h : (l.map (·.1)).contains k = false) : l.lookup k = none := by
  induction l with
  | nil => rfl
  | cons a l ih =>
    rw [List.map_cons, List.contains_cons, Bool.or_eq_false_iff] at h
    rw [List.lookup_cons, h.1]
    exact ih h.2
theorem look_mem {β : Type} {k : Str} {b : β} : ∀ {l : List (Str × β)}, l.lookup k = some b → (k, b) ∈ l
  | [], h => by cases h
  | (a, c) :: l, h => by
    rw [List.lookup_cons] at h
    split at h
    · rename_i e
      cases h
      rw [eq_of_beq e]
      simp
    · exact List.mem_cons_of_mem _ (look_mem h)
end Dz
/-! k60: what stands around; all promises joined (printed by asm.py). -/
namespace Dz60
open PySem PySem.Spec PyProof.Rows L2 Dz
noncomputable def fnT : List (Str × DSp) := [(("is_integer" : Str), sp_is_integer), (("is_between" : Str), sp_is_between), (("is_name" : Str), sp_is_name), (("is_bond_of" : Str), sp_is_bond_of), (("pair_of" : Str), spPair), (("check_roll" : Str), sp_check_roll), (("check_guard" : Str), sp_check_guard), (("are_prices_of" : Str), sp_are_prices_of), (("check_prices" : Str), sp_check_prices), (("price_by" : Str), sp_price_by), (("cost_of" : Str), sp_cost_of), (("full_pairings" : Str), sp_full_pairings), (("costs_of" : Str), sp_costs_of), (("check_full" : Str), sp_check_full), (("fates" : Str), sp_fates), (("may_cost" : Str), sp_may_cost), (("_law_take" : Str), takeSp), (("_law_some" : Str), someSp), (("_law_word" : Str), sp_law_word), (("_law_roll" : Str), sp_law_roll), (("_law_of" : Str), sp_law_of), (("_law_pair" : Str), sp_law_pair), (("_law_pairs" : Str), sp_law_pairs), (("_law_price" : Str), sp_law_price), (("_law_cost" : Str), sp_law_cost), (("_law_text" : Str), sp_law_text), (("_law_prices" : Str), sp_law_prices), (("_law_full" : Str), sp_law_full), (("_law_cells" : Str), sp_law_cells), (("_law_pot" : Str), sp_law_pot), (("_law_whole_roll" : Str), sp_law_whole_roll), (("_law_words" : Str), sp_law_words), (("_law_is_pair_right" : Str), sp_law_is_pair_right), (("_law_right" : Str), sp_law_right)]
noncomputable def mkT : List (Str × DSp) := [(("Reader" : Str), sp_Reader_init), (("Roll" : Str), sp_Roll_init)]
noncomputable def methT_Reader : List (Str × DSp) := [(("takes" : Str), sp_Reader_takes), (("takes_guard" : Str), sp_Reader_takes_guard), (("takes_bond" : Str), sp_Reader_takes_bond)]
noncomputable def propT_Reader : List (Str × DSp) := [(("found" : Str), sp_Reader_found)]
noncomputable def methT_Roll : List (Str × DSp) := []
noncomputable def propT_Roll : List (Str × DSp) := [(("guards" : Str), (getSp fun R => nD R.gs)), (("bonds" : Str), (getSp fun R => rD R.bs)), (("pairs" : Str), (getSp fun R => rD R.ps))]
noncomputable def glT : List (Str × D) := [(("LETTERS" : Str), .str "abcdefghijklmnopqrstuvwxyz"), (("FIGURES" : Str), .str "0123456789"), (("MOST_SIGNS" : Str), .int 8), (("MOST_GUARDS_rolls" : Str), .int 24), (("MOST_BONDS" : Str), .int 200), (("GUARD" : Str), .str "guard"), (("BOND" : Str), .str "bond"), (("MOST_GUARDS_cheap" : Str), .int 10), (("MOST_PRICE" : Str), .int 999), (("NEVER" : Str), .str "never"), (("ALL" : Str), .str "all"), (("SOME" : Str), .str "some"), (("NONE" : Str), .str "none")]
noncomputable def G60 (cc : Str → Option Addr) : Sg := { cl := cc, gl := fun x => glT.lookup x, fn := fun x => fnT.lookup x, mk0 := fun x => mkT.lookup x, mt := fun c m => if c = "Reader" then methT_Reader.lookup m else if c = "Roll" then methT_Roll.lookup m else none, pr := fun c m => if c = "Reader" then propT_Reader.lookup m else if c = "Roll" then propT_Roll.lookup m else none }
variable {cc : Str → Option Addr}
theorem mt_none {c m : Str} (h0 : ¬ c = "Reader") (h1 : ¬ c = "Roll") : (G60 cc).mt c m = none := by
  show (if c = "Reader" then methT_Reader.lookup m else if c = "Roll" then methT_Roll.lookup m else none) = none
  rw [if_neg h0, if_neg h1]
theorem mt_Reader {m : Str} : (G60 cc).mt "Reader" m = methT_Reader.lookup m := by
  show (if ("Reader" : Str) = "Reader" then methT_Reader.lookup m else if ("Reader" : Str) = "Roll" then methT_Roll.lookup m else none) = _
  rw [if_pos rfl]
theorem mt_Roll {m : Str} : (G60 cc).mt "Roll" m = methT_Roll.lookup m := by
  show (if ("Roll" : Str) = "Reader" then methT_Reader.lookup m else if ("Roll" : Str) = "Roll" then methT_Roll.lookup m else none) = _
  rw [if_neg (show ¬ (("Roll" : Str) = "Reader") by decide +kernel), if_pos rfl]
theorem pr_none {c m : Str} (h0 : ¬ c = "Reader") (h1 : ¬ c = "Roll") : (G60 cc).pr c m = none := by
  show (if c = "Reader" then propT_Reader.lookup m else if c = "Roll" then propT_Roll.lookup m else none) = none
  rw [if_neg h0, if_neg h1]
theorem pr_Reader {m : Str} : (G60 cc).pr "Reader" m = propT_Reader.lookup m := by
  show (if ("Reader" : Str) = "Reader" then propT_Reader.lookup m else if ("Reader" : Str) = "Roll" then propT_Roll.lookup m else none) = _
  rw [if_pos rfl]
theorem pr_Roll {m : Str} : (G60 cc).pr "Roll" m = propT_Roll.lookup m := by
  show (if ("Roll" : Str) = "Reader" then propT_Reader.lookup m else if ("Roll" : Str) = "Roll" then propT_Roll.lookup m else none) = _
  rw [if_neg (show ¬ (("Roll" : Str) = "Reader") by decide +kernel), if_pos rfl]
theorem mono_fnT : ∀ p ∈ fnT, MonoSp p.2 := List.forall_mem_cons.mpr ⟨pureSp_mono, List.forall_mem_cons.mpr ⟨pureSp_mono, List.forall_mem_cons.mpr ⟨pureSp_mono, List.forall_mem_cons.mpr ⟨pureSp_mono, List.forall_mem_cons.mpr ⟨mo_pair_of, List.forall_mem_cons.mpr ⟨pureSp_mono, List.forall_mem_cons.mpr ⟨pureSp_mono, List.forall_mem_cons.mpr ⟨pureSp_mono, List.forall_mem_cons.mpr ⟨pureSp_mono, List.forall_mem_cons.mpr ⟨pureSp_mono, List.forall_mem_cons.mpr ⟨pureSp_mono, List.forall_mem_cons.mpr ⟨pureSp_mono, List.forall_mem_cons.mpr ⟨pureSp_mono, List.forall_mem_cons.mpr ⟨pureSp_mono, List.forall_mem_cons.mpr ⟨pureSp_mono, List.forall_mem_cons.mpr ⟨pureSp_mono, List.forall_mem_cons.mpr ⟨takeSp_mono, List.forall_mem_cons.mpr ⟨someSp_mono, List.forall_mem_cons.mpr ⟨mo_law_word, List.forall_mem_cons.mpr ⟨mo_law_roll, List.forall_mem_cons.mpr ⟨mo_law_of, List.forall_mem_cons.mpr ⟨pureSp_mono, List.forall_mem_cons.mpr ⟨pureSp_mono, List.forall_mem_cons.mpr ⟨pureSp_mono, List.forall_mem_cons.mpr ⟨pureSp_mono, List.forall_mem_cons.mpr ⟨pureSp_mono, List.forall_mem_cons.mpr ⟨mo_law_prices, List.forall_mem_cons.mpr ⟨pureSp_mono, List.forall_mem_cons.mpr ⟨mo_law_cells, List.forall_mem_cons.mpr ⟨mo_law_pot, List.forall_mem_cons.mpr ⟨mo_law_whole_roll, List.forall_mem_cons.mpr ⟨pureSp_mono, List.forall_mem_cons.mpr ⟨pureSp_mono, List.forall_mem_cons.mpr ⟨mo_law_right, by simp⟩⟩⟩⟩⟩⟩⟩⟩⟩⟩⟩⟩⟩⟩⟩⟩⟩⟩⟩⟩⟩⟩⟩⟩⟩⟩⟩⟩⟩⟩⟩⟩⟩⟩
theorem mono_mkT : ∀ p ∈ mkT, MonoSp p.2 := List.forall_mem_cons.mpr ⟨mo_Reader_init, List.forall_mem_cons.mpr ⟨mo_Roll_init, by simp⟩⟩
theorem mono_methT_Reader : ∀ p ∈ methT_Reader, MonoSp p.2 := List.forall_mem_cons.mpr ⟨mo_Reader_takes, List.forall_mem_cons.mpr ⟨mo_Reader_takes_guard, List.forall_mem_cons.mpr ⟨mo_Reader_takes_bond, by simp⟩⟩⟩
theorem mono_methT_Roll : ∀ p ∈ methT_Roll, MonoSp p.2 := by intro p hp; cases hp
theorem mono_propT_Reader : ∀ p ∈ propT_Reader, MonoSp p.2 := List.forall_mem_cons.mpr ⟨pureSp_mono, by simp⟩
theorem mono_propT_Roll : ∀ p ∈ propT_Roll, MonoSp p.2 := List.forall_mem_cons.mpr ⟨pureSp_mono, List.forall_mem_cons.mpr ⟨pureSp_mono, List.forall_mem_cons.mpr ⟨pureSp_mono, by simp⟩⟩⟩
theorem mono60 : MonoG' (G60 cc) where
  fn f sp h := mono_fnT _ (look_mem h)
  mk0 f sp h := mono_mkT _ (look_mem h)
  mt c f sp h := by
    by_cases e0 : c = "Reader"
    · subst e0; rw [mt_Reader] at h; exact mono_methT_Reader _ (look_mem h)
    by_cases e1 : c = "Roll"
    · subst e1; rw [mt_Roll] at h; exact mono_methT_Roll _ (look_mem h)
    rw [mt_none e0 e1] at h; cases h
  pr c f sp h := by
    by_cases e0 : c = "Reader"
    · subst e0; rw [pr_Reader] at h; exact mono_propT_Reader _ (look_mem h)
    by_cases e1 : c = "Roll"
    · subst e1; rw [pr_Roll] at h; exact mono_propT_Roll _ (look_mem h)
    rw [pr_none e0 e1] at h; cases h
theorem h60 (cc : Str → Option Addr) : H60 (G60 cc) where
  mono := mono60
  g1 := look_at (i := 0) (by decide +kernel) rfl
  g2 := look_at (i := 1) (by decide +kernel) rfl
  g3 := look_at (i := 2) (by decide +kernel) rfl
  g4 := look_at (i := 3) (by decide +kernel) rfl
  g5 := look_at (i := 4) (by decide +kernel) rfl
  g6 := look_at (i := 5) (by decide +kernel) rfl
  g7 := look_at (i := 6) (by decide +kernel) rfl
  g8 := look_at (i := 7) (by decide +kernel) rfl
  g9 := look_at (i := 8) (by decide +kernel) rfl
  g10 := look_at (i := 9) (by decide +kernel) rfl
  g11 := look_at (i := 10) (by decide +kernel) rfl
  g12 := look_at (i := 11) (by decide +kernel) rfl
  g13 := look_at (i := 12) (by decide +kernel) rfl
  is_integer := look_at (i := 0) (by decide +kernel) rfl
  is_between := look_at (i := 1) (by decide +kernel) rfl
  is_name := look_at (i := 2) (by decide +kernel) rfl
  Reader_init := look_at (i := 0) (by decide +kernel) rfl
  Reader_takes := by rw [mt_Reader]; exact look_at (i := 0) (by decide +kernel) rfl
  Reader_takes_guard := by rw [mt_Reader]; exact look_at (i := 1) (by decide +kernel) rfl
  Reader_takes_bond := by rw [mt_Reader]; exact look_at (i := 2) (by decide +kernel) rfl
  Reader_found := by rw [pr_Reader]; exact look_at (i := 0) (by decide +kernel) rfl
  is_bond_of := look_at (i := 3) (by decide +kernel) rfl
  Roll_init := look_at (i := 1) (by decide +kernel) rfl
  Roll_guards := by rw [pr_Roll]; exact look_at (i := 0) (by decide +kernel) rfl
  Roll_bonds := by rw [pr_Roll]; exact look_at (i := 1) (by decide +kernel) rfl
  Roll_pairs := by rw [pr_Roll]; exact look_at (i := 2) (by decide +kernel) rfl
  pair_of := look_at (i := 4) (by decide +kernel) rfl
  check_roll := look_at (i := 5) (by decide +kernel) rfl
  check_guard := look_at (i := 6) (by decide +kernel) rfl
  are_prices_of := look_at (i := 7) (by decide +kernel) rfl
  check_prices := look_at (i := 8) (by decide +kernel) rfl
  price_by := look_at (i := 9) (by decide +kernel) rfl
  cost_of := look_at (i := 10) (by decide +kernel) rfl
  full_pairings := look_at (i := 11) (by decide +kernel) rfl
  costs_of := look_at (i := 12) (by decide +kernel) rfl
  check_full := look_at (i := 13) (by decide +kernel) rfl
  fates := look_at (i := 14) (by decide +kernel) rfl
  may_cost := look_at (i := 15) (by decide +kernel) rfl
  law_take := look_at (i := 16) (by decide +kernel) rfl
  law_some := look_at (i := 17) (by decide +kernel) rfl
  law_word := look_at (i := 18) (by decide +kernel) rfl
  law_roll := look_at (i := 19) (by decide +kernel) rfl
  law_of := look_at (i := 20) (by decide +kernel) rfl
  law_pair := look_at (i := 21) (by decide +kernel) rfl
  law_pairs := look_at (i := 22) (by decide +kernel) rfl
  law_price := look_at (i := 23) (by decide +kernel) rfl
  law_cost := look_at (i := 24) (by decide +kernel) rfl
  law_text := look_at (i := 25) (by decide +kernel) rfl
  law_prices := look_at (i := 26) (by decide +kernel) rfl
  law_full := look_at (i := 27) (by decide +kernel) rfl
  law_cells := look_at (i := 28) (by decide +kernel) rfl
  law_pot := look_at (i := 29) (by decide +kernel) rfl
  law_whole_roll := look_at (i := 30) (by decide +kernel) rfl
  law_words := look_at (i := 31) (by decide +kernel) rfl
  law_is_pair_right := look_at (i := 32) (by decide +kernel) rfl
  law_right := look_at (i := 33) (by decide +kernel) rfl
theorem bd_is_integer : BindOk "is_integer" "is_integer" t_is_integer p_is_integer := by
  obtain ⟨l, e, hl⟩ := args_of (show argsB (C8.fnArgs t_is_integer) p_is_integer = true by decide +kernel)
  intro K kV doc pm cdv ct an s us ws ks _ hn hk
  rw [e]
  match l, hl with
  | [⟨x1, _, _⟩], hl =>
    have hl2 : [x1] = p_is_integer := hl
    simp only [p_is_integer, List.cons.injEq, and_true] at hl2
    obtain rfl := hl2
    subst hk
    rcases us1 (show (us ++ ws).length = 1 from hn) with ⟨a1, rfl, rfl⟩ | ⟨a1, rfl, rfl⟩
    · exact .of_eq (by kernel_rfl)
    · exact .of_eq (by kernel_rfl)
theorem bd_is_between : BindOk "is_between" "is_between" t_is_between p_is_between := by
  obtain ⟨l, e, hl⟩ := args_of (show argsB (C8.fnArgs t_is_between) p_is_between = true by decide +kernel)
  intro K kV doc pm cdv ct an s us ws ks _ hn hk
  rw [e]
  match l, hl with
  | [⟨x1, _, _⟩, ⟨x2, _, _⟩, ⟨x3, _, _⟩], hl =>
    have hl2 : [x1, x2, x3] = p_is_between := hl
    simp only [p_is_between, List.cons.injEq, and_true] at hl2
    obtain ⟨rfl, rfl, rfl⟩ := hl2
    subst hk
    rcases us3 (show (us ++ ws).length = 3 from hn) with ⟨a1, a2, a3, rfl, rfl⟩ | ⟨a1, a2, a3, rfl, rfl⟩ | ⟨a1, a2, a3, rfl, rfl⟩ | ⟨a1, a2, a3, rfl, rfl⟩
    · exact .of_eq (by kernel_rfl)
    · exact .of_eq (by kernel_rfl)
    · exact .of_eq (by kernel_rfl)
    · exact .of_eq (by kernel_rfl)
theorem bd_is_name : BindOk "is_name" "is_name" t_is_name p_is_name := by
  obtain ⟨l, e, hl⟩ := args_of (show argsB (C8.fnArgs t_is_name) p_is_name = true by decide +kernel)
  intro K kV doc pm cdv ct an s us ws ks _ hn hk
  rw [e]
  match l, hl with
  | [⟨x1, _, _⟩], hl =>
    have hl2 : [x1] = p_is_name := hl
    simp only [p_is_name, List.cons.injEq, and_true] at hl2
    obtain rfl := hl2
    subst hk
    rcases us1 (show (us ++ ws).length = 1 from hn) with ⟨a1, rfl, rfl⟩ | ⟨a1, rfl, rfl⟩
    · exact .of_eq (by kernel_rfl)
    · exact .of_eq (by kernel_rfl)
theorem bd_Reader_init : BindOk "__init__" "Reader.__init__" t_Reader_init p_Reader_init := by
  obtain ⟨l, e, hl⟩ := args_of (show argsB (C8.fnArgs t_Reader_init) p_Reader_init = true by decide +kernel)
  intro K kV doc pm cdv ct an s us ws ks _ hn hk
  rw [e]
  match l, hl with
  | [⟨x1, _, _⟩], hl =>
    have hl2 : [x1] = p_Reader_init := hl
    simp only [p_Reader_init, List.cons.injEq, and_true] at hl2
    obtain rfl := hl2
    subst hk
    rcases us1 (show (us ++ ws).length = 1 from hn) with ⟨a1, rfl, rfl⟩ | ⟨a1, rfl, rfl⟩
    · exact .of_eq (by kernel_rfl)
    · exact .of_eq (by kernel_rfl)
theorem bd_Reader_takes : BindOk "takes" "Reader.takes" t_Reader_takes p_Reader_takes := by
  obtain ⟨l, e, hl⟩ := args_of (show argsB (C8.fnArgs t_Reader_takes) p_Reader_takes = true by decide +kernel)
  intro K kV doc pm cdv ct an s us ws ks _ hn hk
  rw [e]
  match l, hl with
  | [⟨x1, _, _⟩, ⟨x2, _, _⟩], hl =>
    have hl2 : [x1, x2] = p_Reader_takes := hl
    simp only [p_Reader_takes, List.cons.injEq, and_true] at hl2
    obtain ⟨rfl, rfl⟩ := hl2
    subst hk
    rcases us2 (show (us ++ ws).length = 2 from hn) with ⟨a1, a2, rfl, rfl⟩ | ⟨a1, a2, rfl, rfl⟩ | ⟨a1, a2, rfl, rfl⟩
    · exact .of_eq (by kernel_rfl)
    · exact .of_eq (by kernel_rfl)
    · exact .of_eq (by kernel_rfl)
theorem bd_Reader_takes_guard : BindOk "takes_guard" "Reader.takes_guard" t_Reader_takes_guard p_Reader_takes_guard := by
  obtain ⟨l, e, hl⟩ := args_of (show argsB (C8.fnArgs t_Reader_takes_guard) p_Reader_takes_guard = true by decide +kernel)
  intro K kV doc pm cdv ct an s us ws ks _ hn hk
  rw [e]
  match l, hl with
  | [⟨x1, _, _⟩, ⟨x2, _, _⟩], hl =>
    have hl2 : [x1, x2] = p_Reader_takes_guard := hl
    simp only [p_Reader_takes_guard, List.cons.injEq, and_true] at hl2
    obtain ⟨rfl, rfl⟩ := hl2
    subst hk
    rcases us2 (show (us ++ ws).length = 2 from hn) with ⟨a1, a2, rfl, rfl⟩ | ⟨a1, a2, rfl, rfl⟩ | ⟨a1, a2, rfl, rfl⟩
    · exact .of_eq (by kernel_rfl)
    · exact .of_eq (by kernel_rfl)
    · exact .of_eq (by kernel_rfl)
theorem bd_Reader_takes_bond : BindOk "takes_bond" "Reader.takes_bond" t_Reader_takes_bond p_Reader_takes_bond := by
  obtain ⟨l, e, hl⟩ := args_of (show argsB (C8.fnArgs t_Reader_takes_bond) p_Reader_takes_bond = true by decide +kernel)
  intro K kV doc pm cdv ct an s us ws ks _ hn hk
  rw [e]
  match l, hl with
  | [⟨x1, _, _⟩, ⟨x2, _, _⟩], hl =>
    have hl2 : [x1, x2] = p_Reader_takes_bond := hl
    simp only [p_Reader_takes_bond, List.cons.injEq, and_true] at hl2
    obtain ⟨rfl, rfl⟩ := hl2
    subst hk
    rcases us2 (show (us ++ ws).length = 2 from hn) with ⟨a1, a2, rfl, rfl⟩ | ⟨a1, a2, rfl, rfl⟩ | ⟨a1, a2, rfl, rfl⟩
    · exact .of_eq (by kernel_rfl)
    · exact .of_eq (by kernel_rfl)
    · exact .of_eq (by kernel_rfl)
theorem bd_Reader_found : BindOk "found" "Reader.found" t_Reader_found p_Reader_found := by
  obtain ⟨l, e, hl⟩ := args_of (show argsB (C8.fnArgs t_Reader_found) p_Reader_found = true by decide +kernel)
  intro K kV doc pm cdv ct an s us ws ks _ hn hk
  rw [e]
  match l, hl with
  | [⟨x1, _, _⟩], hl =>
    have hl2 : [x1] = p_Reader_found := hl
    simp only [p_Reader_found, List.cons.injEq, and_true] at hl2
    obtain rfl := hl2
    subst hk
    rcases us1 (show (us ++ ws).length = 1 from hn) with ⟨a1, rfl, rfl⟩ | ⟨a1, rfl, rfl⟩
    · exact .of_eq (by kernel_rfl)
    · exact .of_eq (by kernel_rfl)
theorem bd_is_bond_of : BindOk "is_bond_of" "is_bond_of" t_is_bond_of p_is_bond_of := by
  obtain ⟨l, e, hl⟩ := args_of (show argsB (C8.fnArgs t_is_bond_of) p_is_bond_of = true by decide +kernel)
  intro K kV doc pm cdv ct an s us ws ks _ hn hk
  rw [e]
  match l, hl with
  | [⟨x1, _, _⟩, ⟨x2, _, _⟩], hl =>
    have hl2 : [x1, x2] = p_is_bond_of := hl
    simp only [p_is_bond_of, List.cons.injEq, and_true] at hl2
    obtain ⟨rfl, rfl⟩ := hl2
    subst hk
    rcases us2 (show (us ++ ws).length = 2 from hn) with ⟨a1, a2, rfl, rfl⟩ | ⟨a1, a2, rfl, rfl⟩ | ⟨a1, a2, rfl, rfl⟩
    · exact .of_eq (by kernel_rfl)
    · exact .of_eq (by kernel_rfl)
    · exact .of_eq (by kernel_rfl)
theorem bd_Roll_init : BindOk "__init__" "Roll.__init__" t_Roll_init p_Roll_init := by
  obtain ⟨l, e, hl⟩ := args_of (show argsB (C8.fnArgs t_Roll_init) p_Roll_init = true by decide +kernel)
  intro K kV doc pm cdv ct an s us ws ks _ hn hk
  rw [e]
  match l, hl with
  | [⟨x1, _, _⟩, ⟨x2, _, _⟩], hl =>
    have hl2 : [x1, x2] = p_Roll_init := hl
    simp only [p_Roll_init, List.cons.injEq, and_true] at hl2
    obtain ⟨rfl, rfl⟩ := hl2
    subst hk
    rcases us2 (show (us ++ ws).length = 2 from hn) with ⟨a1, a2, rfl, rfl⟩ | ⟨a1, a2, rfl, rfl⟩ | ⟨a1, a2, rfl, rfl⟩
    · exact .of_eq (by kernel_rfl)
    · exact .of_eq (by kernel_rfl)
    · exact .of_eq (by kernel_rfl)
theorem bd_Roll_guards : BindOk "guards" "Roll.guards" t_Roll_guards p_Roll_guards := by
  obtain ⟨l, e, hl⟩ := args_of (show argsB (C8.fnArgs t_Roll_guards) p_Roll_guards = true by decide +kernel)
  intro K kV doc pm cdv ct an s us ws ks _ hn hk
  rw [e]
  match l, hl with
  | [⟨x1, _, _⟩], hl =>
    have hl2 : [x1] = p_Roll_guards := hl
    simp only [p_Roll_guards, List.cons.injEq, and_true] at hl2
    obtain rfl := hl2
    subst hk
    rcases us1 (show (us ++ ws).length = 1 from hn) with ⟨a1, rfl, rfl⟩ | ⟨a1, rfl, rfl⟩
    · exact .of_eq (by kernel_rfl)
    · exact .of_eq (by kernel_rfl)
theorem bd_Roll_bonds : BindOk "bonds" "Roll.bonds" t_Roll_bonds p_Roll_bonds := by
  obtain ⟨l, e, hl⟩ := args_of (show argsB (C8.fnArgs t_Roll_bonds) p_Roll_bonds = true by decide +kernel)
  intro K kV doc pm cdv ct an s us ws ks _ hn hk
  rw [e]
  match l, hl with
  | [⟨x1, _, _⟩], hl =>
    have hl2 : [x1] = p_Roll_bonds := hl
    simp only [p_Roll_bonds, List.cons.injEq, and_true] at hl2
    obtain rfl := hl2
    subst hk
    rcases us1 (show (us ++ ws).length = 1 from hn) with ⟨a1, rfl, rfl⟩ | ⟨a1, rfl, rfl⟩
    · exact .of_eq (by kernel_rfl)
    · exact .of_eq (by kernel_rfl)
theorem bd_Roll_pairs : BindOk "pairs" "Roll.pairs" t_Roll_pairs p_Roll_pairs := by
  obtain ⟨l, e, hl⟩ := args_of (show argsB (C8.fnArgs t_Roll_pairs) p_Roll_pairs = true by decide +kernel)
  intro K kV doc pm cdv ct an s us ws ks _ hn hk
  rw [e]
  match l, hl with
  | [⟨x1, _, _⟩], hl =>
    have hl2 : [x1] = p_Roll_pairs := hl
    simp only [p_Roll_pairs, List.cons.injEq, and_true] at hl2
    obtain rfl := hl2
    subst hk
    rcases us1 (show (us ++ ws).length = 1 from hn) with ⟨a1, rfl, rfl⟩ | ⟨a1, rfl, rfl⟩
    · exact .of_eq (by kernel_rfl)
    · exact .of_eq (by kernel_rfl)
theorem bd_pair_of : BindOk "pair_of" "pair_of" t_pair_of p_pair_of := by
  obtain ⟨l, e, hl⟩ := args_of (show argsB (C8.fnArgs t_pair_of) p_pair_of = true by decide +kernel)
  intro K kV doc pm cdv ct an s us ws ks _ hn hk
  rw [e]
  match l, hl with
  | [⟨x1, _, _⟩, ⟨x2, _, _⟩], hl =>
    have hl2 : [x1, x2] = p_pair_of := hl
    simp only [p_pair_of, List.cons.injEq, and_true] at hl2
    obtain ⟨rfl, rfl⟩ := hl2
    subst hk
    rcases us2 (show (us ++ ws).length = 2 from hn) with ⟨a1, a2, rfl, rfl⟩ | ⟨a1, a2, rfl, rfl⟩ | ⟨a1, a2, rfl, rfl⟩
    · exact .of_eq (by kernel_rfl)
    · exact .of_eq (by kernel_rfl)
    · exact .of_eq (by kernel_rfl)
theorem bd_check_roll : BindOk "check_roll" "check_roll" t_check_roll p_check_roll := by
  obtain ⟨l, e, hl⟩ := args_of (show argsB (C8.fnArgs t_check_roll) p_check_roll = true by decide +kernel)
  intro K kV doc pm cdv ct an s us ws ks _ hn hk
  rw [e]
  match l, hl with
  | [⟨x1, _, _⟩], hl =>
    have hl2 : [x1] = p_check_roll := hl
    simp only [p_check_roll, List.cons.injEq, and_true] at hl2
    obtain rfl := hl2
    subst hk
    rcases us1 (show (us ++ ws).length = 1 from hn) with ⟨a1, rfl, rfl⟩ | ⟨a1, rfl, rfl⟩
    · exact .of_eq (by kernel_rfl)
    · exact .of_eq (by kernel_rfl)
theorem bd_check_guard : BindOk "check_guard" "check_guard" t_check_guard p_check_guard := by
  obtain ⟨l, e, hl⟩ := args_of (show argsB (C8.fnArgs t_check_guard) p_check_guard = true by decide +kernel)
  intro K kV doc pm cdv ct an s us ws ks _ hn hk
  rw [e]
  match l, hl with
  | [⟨x1, _, _⟩, ⟨x2, _, _⟩], hl =>
    have hl2 : [x1, x2] = p_check_guard := hl
    simp only [p_check_guard, List.cons.injEq, and_true] at hl2
    obtain ⟨rfl, rfl⟩ := hl2
    subst hk
    rcases us2 (show (us ++ ws).length = 2 from hn) with ⟨a1, a2, rfl, rfl⟩ | ⟨a1, a2, rfl, rfl⟩ | ⟨a1, a2, rfl, rfl⟩
    · exact .of_eq (by kernel_rfl)
    · exact .of_eq (by kernel_rfl)
    · exact .of_eq (by kernel_rfl)
theorem bd_are_prices_of : BindOk "are_prices_of" "are_prices_of" t_are_prices_of p_are_prices_of := by
  obtain ⟨l, e, hl⟩ := args_of (show argsB (C8.fnArgs t_are_prices_of) p_are_prices_of = true by decide +kernel)
  intro K kV doc pm cdv ct an s us ws ks _ hn hk
  rw [e]
  match l, hl with
  | [⟨x1, _, _⟩, ⟨x2, _, _⟩], hl =>
    have hl2 : [x1, x2] = p_are_prices_of := hl
    simp only [p_are_prices_of, List.cons.injEq, and_true] at hl2
    obtain ⟨rfl, rfl⟩ := hl2
    subst hk
    rcases us2 (show (us ++ ws).length = 2 from hn) with ⟨a1, a2, rfl, rfl⟩ | ⟨a1, a2, rfl, rfl⟩ | ⟨a1, a2, rfl, rfl⟩
    · exact .of_eq (by kernel_rfl)
    · exact .of_eq (by kernel_rfl)
    · exact .of_eq (by kernel_rfl)
theorem bd_check_prices : BindOk "check_prices" "check_prices" t_check_prices p_check_prices := by
  obtain ⟨l, e, hl⟩ := args_of (show argsB (C8.fnArgs t_check_prices) p_check_prices = true by decide +kernel)
  intro K kV doc pm cdv ct an s us ws ks _ hn hk
  rw [e]
  match l, hl with
  | [⟨x1, _, _⟩, ⟨x2, _, _⟩], hl =>
    have hl2 : [x1, x2] = p_check_prices := hl
    simp only [p_check_prices, List.cons.injEq, and_true] at hl2
    obtain ⟨rfl, rfl⟩ := hl2
    subst hk
    rcases us2 (show (us ++ ws).length = 2 from hn) with ⟨a1, a2, rfl, rfl⟩ | ⟨a1, a2, rfl, rfl⟩ | ⟨a1, a2, rfl, rfl⟩
    · exact .of_eq (by kernel_rfl)
    · exact .of_eq (by kernel_rfl)
    · exact .of_eq (by kernel_rfl)
theorem bd_price_by : BindOk "price_by" "price_by" t_price_by p_price_by := by
  obtain ⟨l, e, hl⟩ := args_of (show argsB (C8.fnArgs t_price_by) p_price_by = true by decide +kernel)
  intro K kV doc pm cdv ct an s us ws ks _ hn hk
  rw [e]
  match l, hl with
  | [⟨x1, _, _⟩, ⟨x2, _, _⟩], hl =>
    have hl2 : [x1, x2] = p_price_by := hl
    simp only [p_price_by, List.cons.injEq, and_true] at hl2
    obtain ⟨rfl, rfl⟩ := hl2
    subst hk
    rcases us2 (show (us ++ ws).length = 2 from hn) with ⟨a1, a2, rfl, rfl⟩ | ⟨a1, a2, rfl, rfl⟩ | ⟨a1, a2, rfl, rfl⟩
    · exact .of_eq (by kernel_rfl)
    · exact .of_eq (by kernel_rfl)
    · exact .of_eq (by kernel_rfl)
theorem bd_cost_of : BindOk "cost_of" "cost_of" t_cost_of p_cost_of := by
  obtain ⟨l, e, hl⟩ := args_of (show argsB (C8.fnArgs t_cost_of) p_cost_of = true by decide +kernel)
  intro K kV doc pm cdv ct an s us ws ks _ hn hk
  rw [e]
  match l, hl with
  | [⟨x1, _, _⟩, ⟨x2, _, _⟩, ⟨x3, _, _⟩], hl =>
    have hl2 : [x1, x2, x3] = p_cost_of := hl
    simp only [p_cost_of, List.cons.injEq, and_true] at hl2
    obtain ⟨rfl, rfl, rfl⟩ := hl2
    subst hk
    rcases us3 (show (us ++ ws).length = 3 from hn) with ⟨a1, a2, a3, rfl, rfl⟩ | ⟨a1, a2, a3, rfl, rfl⟩ | ⟨a1, a2, a3, rfl, rfl⟩ | ⟨a1, a2, a3, rfl, rfl⟩
    · exact .of_eq (by kernel_rfl)
    · exact .of_eq (by kernel_rfl)
    · exact .of_eq (by kernel_rfl)
    · exact .of_eq (by kernel_rfl)
theorem bd_full_pairings : BindOk "full_pairings" "full_pairings" t_full_pairings p_full_pairings := by
  obtain ⟨l, e, hl⟩ := args_of (show argsB (C8.fnArgs t_full_pairings) p_full_pairings = true by decide +kernel)
  intro K kV doc pm cdv ct an s us ws ks _ hn hk
  rw [e]
  match l, hl with
  | [⟨x1, _, _⟩], hl =>
    have hl2 : [x1] = p_full_pairings := hl
    simp only [p_full_pairings, List.cons.injEq, and_true] at hl2
    obtain rfl := hl2
    subst hk
    rcases us1 (show (us ++ ws).length = 1 from hn) with ⟨a1, rfl, rfl⟩ | ⟨a1, rfl, rfl⟩
    · exact .of_eq (by kernel_rfl)
    · exact .of_eq (by kernel_rfl)
theorem bd_costs_of : BindOk "costs_of" "costs_of" t_costs_of p_costs_of := by
  obtain ⟨l, e, hl⟩ := args_of (show argsB (C8.fnArgs t_costs_of) p_costs_of = true by decide +kernel)
  intro K kV doc pm cdv ct an s us ws ks _ hn hk
  rw [e]
  match l, hl with
  | [⟨x1, _, _⟩, ⟨x2, _, _⟩], hl =>
    have hl2 : [x1, x2] = p_costs_of := hl
    simp only [p_costs_of, List.cons.injEq, and_true] at hl2
    obtain ⟨rfl, rfl⟩ := hl2
    subst hk
    rcases us2 (show (us ++ ws).length = 2 from hn) with ⟨a1, a2, rfl, rfl⟩ | ⟨a1, a2, rfl, rfl⟩ | ⟨a1, a2, rfl, rfl⟩
    · exact .of_eq (by kernel_rfl)
    · exact .of_eq (by kernel_rfl)
    · exact .of_eq (by kernel_rfl)
theorem bd_check_full : BindOk "check_full" "check_full" t_check_full p_check_full := by
  obtain ⟨l, e, hl⟩ := args_of (show argsB (C8.fnArgs t_check_full) p_check_full = true by decide +kernel)
  intro K kV doc pm cdv ct an s us ws ks _ hn hk
  rw [e]
  match l, hl with
  | [⟨x1, _, _⟩, ⟨x2, _, _⟩], hl =>
    have hl2 : [x1, x2] = p_check_full := hl
    simp only [p_check_full, List.cons.injEq, and_true] at hl2
    obtain ⟨rfl, rfl⟩ := hl2
    subst hk
    rcases us2 (show (us ++ ws).length = 2 from hn) with ⟨a1, a2, rfl, rfl⟩ | ⟨a1, a2, rfl, rfl⟩ | ⟨a1, a2, rfl, rfl⟩
    · exact .of_eq (by kernel_rfl)
    · exact .of_eq (by kernel_rfl)
    · exact .of_eq (by kernel_rfl)
theorem bd_fates : BindOk "fates" "fates" t_fates p_fates := by
  obtain ⟨l, e, hl⟩ := args_of (show argsB (C8.fnArgs t_fates) p_fates = true by decide +kernel)
  intro K kV doc pm cdv ct an s us ws ks _ hn hk
  rw [e]
  match l, hl with
  | [⟨x1, _, _⟩, ⟨x2, _, _⟩], hl =>
    have hl2 : [x1, x2] = p_fates := hl
    simp only [p_fates, List.cons.injEq, and_true] at hl2
    obtain ⟨rfl, rfl⟩ := hl2
    subst hk
    rcases us2 (show (us ++ ws).length = 2 from hn) with ⟨a1, a2, rfl, rfl⟩ | ⟨a1, a2, rfl, rfl⟩ | ⟨a1, a2, rfl, rfl⟩
    · exact .of_eq (by kernel_rfl)
    · exact .of_eq (by kernel_rfl)
    · exact .of_eq (by kernel_rfl)
theorem bd_may_cost : BindOk "may_cost" "may_cost" t_may_cost p_may_cost := by
  obtain ⟨l, e, hl⟩ := args_of (show argsB (C8.fnArgs t_may_cost) p_may_cost = true by decide +kernel)
  intro K kV doc pm cdv ct an s us ws ks _ hn hk
  rw [e]
  match l, hl with
  | [⟨x1, _, _⟩, ⟨x2, _, _⟩, ⟨x3, _, _⟩, ⟨x4, _, _⟩], hl =>
    have hl2 : [x1, x2, x3, x4] = p_may_cost := hl
    simp only [p_may_cost, List.cons.injEq, and_true] at hl2
    obtain ⟨rfl, rfl, rfl, rfl⟩ := hl2
    subst hk
    rcases us4 (show (us ++ ws).length = 4 from hn) with ⟨a1, a2, a3, a4, rfl, rfl⟩ | ⟨a1, a2, a3, a4, rfl, rfl⟩ | ⟨a1, a2, a3, a4, rfl, rfl⟩ | ⟨a1, a2, a3, a4, rfl, rfl⟩ | ⟨a1, a2, a3, a4, rfl, rfl⟩
    · exact .of_eq (by kernel_rfl)
    · exact .of_eq (by kernel_rfl)
    · exact .of_eq (by kernel_rfl)
    · exact .of_eq (by kernel_rfl)
    · exact .of_eq (by kernel_rfl)
theorem bd_law_take : BindOk "_law_take" "_law_take" t_law_take p_law_take := by
  obtain ⟨l, e, hl⟩ := args_of (show argsB (C8.fnArgs t_law_take) p_law_take = true by decide +kernel)
  intro K kV doc pm cdv ct an s us ws ks _ hn hk
  rw [e]
  match l, hl with
  | [⟨x1, _, _⟩, ⟨x2, _, _⟩], hl =>
    have hl2 : [x1, x2] = p_law_take := hl
    simp only [p_law_take, List.cons.injEq, and_true] at hl2
    obtain ⟨rfl, rfl⟩ := hl2
    subst hk
    rcases us2 (show (us ++ ws).length = 2 from hn) with ⟨a1, a2, rfl, rfl⟩ | ⟨a1, a2, rfl, rfl⟩ | ⟨a1, a2, rfl, rfl⟩
    · exact .of_eq (by kernel_rfl)
    · exact .of_eq (by kernel_rfl)
    · exact .of_eq (by kernel_rfl)
theorem bd_law_some : BindOk "_law_some" "_law_some" t_law_some p_law_some := by
  obtain ⟨l, e, hl⟩ := args_of (show argsB (C8.fnArgs t_law_some) p_law_some = true by decide +kernel)
  intro K kV doc pm cdv ct an s us ws ks _ hn hk
  rw [e]
  match l, hl with
  | [⟨x1, _, _⟩, ⟨x2, _, _⟩, ⟨x3, _, _⟩], hl =>
    have hl2 : [x1, x2, x3] = p_law_some := hl
    simp only [p_law_some, List.cons.injEq, and_true] at hl2
    obtain ⟨rfl, rfl, rfl⟩ := hl2
    subst hk
    rcases us3 (show (us ++ ws).length = 3 from hn) with ⟨a1, a2, a3, rfl, rfl⟩ | ⟨a1, a2, a3, rfl, rfl⟩ | ⟨a1, a2, a3, rfl, rfl⟩ | ⟨a1, a2, a3, rfl, rfl⟩
    · exact .of_eq (by kernel_rfl)
    · exact .of_eq (by kernel_rfl)
    · exact .of_eq (by kernel_rfl)
    · exact .of_eq (by kernel_rfl)
theorem bd_law_word : BindOk "_law_word" "_law_word" t_law_word p_law_word := by
  obtain ⟨l, e, hl⟩ := args_of (show argsB (C8.fnArgs t_law_word) p_law_word = true by decide +kernel)
  intro K kV doc pm cdv ct an s us ws ks _ hn hk
  rw [e]
  match l, hl with
  | [⟨x1, _, _⟩], hl =>
    have hl2 : [x1] = p_law_word := hl
    simp only [p_law_word, List.cons.injEq, and_true] at hl2
    obtain rfl := hl2
    subst hk
    rcases us1 (show (us ++ ws).length = 1 from hn) with ⟨a1, rfl, rfl⟩ | ⟨a1, rfl, rfl⟩
    · exact .of_eq (by kernel_rfl)
    · exact .of_eq (by kernel_rfl)
theorem bd_law_roll : BindOk "_law_roll" "_law_roll" t_law_roll p_law_roll := by
  obtain ⟨l, e, hl⟩ := args_of (show argsB (C8.fnArgs t_law_roll) p_law_roll = true by decide +kernel)
  intro K kV doc pm cdv ct an s us ws ks _ hn hk
  rw [e]
  match l, hl with
  | [⟨x1, _, _⟩, ⟨x2, _, _⟩, ⟨x3, _, _⟩], hl =>
    have hl2 : [x1, x2, x3] = p_law_roll := hl
    simp only [p_law_roll, List.cons.injEq, and_true] at hl2
    obtain ⟨rfl, rfl, rfl⟩ := hl2
    subst hk
    rcases us3 (show (us ++ ws).length = 3 from hn) with ⟨a1, a2, a3, rfl, rfl⟩ | ⟨a1, a2, a3, rfl, rfl⟩ | ⟨a1, a2, a3, rfl, rfl⟩ | ⟨a1, a2, a3, rfl, rfl⟩
    · exact .of_eq (by kernel_rfl)
    · exact .of_eq (by kernel_rfl)
    · exact .of_eq (by kernel_rfl)
    · exact .of_eq (by kernel_rfl)
theorem bd_law_of : BindOk "_law_of" "_law_of" t_law_of p_law_of := by
  obtain ⟨l, e, hl⟩ := args_of (show argsB (C8.fnArgs t_law_of) p_law_of = true by decide +kernel)
  intro K kV doc pm cdv ct an s us ws ks _ hn hk
  rw [e]
  match l, hl with
  | [⟨x1, _, _⟩, ⟨x2, _, _⟩], hl =>
    have hl2 : [x1, x2] = p_law_of := hl
    simp only [p_law_of, List.cons.injEq, and_true] at hl2
    obtain ⟨rfl, rfl⟩ := hl2
    subst hk
    rcases us2 (show (us ++ ws).length = 2 from hn) with ⟨a1, a2, rfl, rfl⟩ | ⟨a1, a2, rfl, rfl⟩ | ⟨a1, a2, rfl, rfl⟩
    · exact .of_eq (by kernel_rfl)
    · exact .of_eq (by kernel_rfl)
    · exact .of_eq (by kernel_rfl)
theorem bd_law_pair : BindOk "_law_pair" "_law_pair" t_law_pair p_law_pair := by
  obtain ⟨l, e, hl⟩ := args_of (show argsB (C8.fnArgs t_law_pair) p_law_pair = true by decide +kernel)
  intro K kV doc pm cdv ct an s us ws ks _ hn hk
  rw [e]
  match l, hl with
  | [⟨x1, _, _⟩, ⟨x2, _, _⟩, ⟨x3, _, _⟩], hl =>
    have hl2 : [x1, x2, x3] = p_law_pair := hl
    simp only [p_law_pair, List.cons.injEq, and_true] at hl2
    obtain ⟨rfl, rfl, rfl⟩ := hl2
    subst hk
    rcases us3 (show (us ++ ws).length = 3 from hn) with ⟨a1, a2, a3, rfl, rfl⟩ | ⟨a1, a2, a3, rfl, rfl⟩ | ⟨a1, a2, a3, rfl, rfl⟩ | ⟨a1, a2, a3, rfl, rfl⟩
    · exact .of_eq (by kernel_rfl)
    · exact .of_eq (by kernel_rfl)
    · exact .of_eq (by kernel_rfl)
    · exact .of_eq (by kernel_rfl)
theorem bd_law_pairs : BindOk "_law_pairs" "_law_pairs" t_law_pairs p_law_pairs := by
  obtain ⟨l, e, hl⟩ := args_of (show argsB (C8.fnArgs t_law_pairs) p_law_pairs = true by decide +kernel)
  intro K kV doc pm cdv ct an s us ws ks _ hn hk
  rw [e]
  match l, hl with
  | [⟨x1, _, _⟩], hl =>
    have hl2 : [x1] = p_law_pairs := hl
    simp only [p_law_pairs, List.cons.injEq, and_true] at hl2
    obtain rfl := hl2
    subst hk
    rcases us1 (show (us ++ ws).length = 1 from hn) with ⟨a1, rfl, rfl⟩ | ⟨a1, rfl, rfl⟩
    · exact .of_eq (by kernel_rfl)
    · exact .of_eq (by kernel_rfl)
theorem bd_law_price : BindOk "_law_price" "_law_price" t_law_price p_law_price := by
  obtain ⟨l, e, hl⟩ := args_of (show argsB (C8.fnArgs t_law_price) p_law_price = true by decide +kernel)
  intro K kV doc pm cdv ct an s us ws ks _ hn hk
  rw [e]
  match l, hl with
  | [⟨x1, _, _⟩, ⟨x2, _, _⟩], hl =>
    have hl2 : [x1, x2] = p_law_price := hl
    simp only [p_law_price, List.cons.injEq, and_true] at hl2
    obtain ⟨rfl, rfl⟩ := hl2
    subst hk
    rcases us2 (show (us ++ ws).length = 2 from hn) with ⟨a1, a2, rfl, rfl⟩ | ⟨a1, a2, rfl, rfl⟩ | ⟨a1, a2, rfl, rfl⟩
    · exact .of_eq (by kernel_rfl)
    · exact .of_eq (by kernel_rfl)
    · exact .of_eq (by kernel_rfl)
theorem bd_law_cost : BindOk "_law_cost" "_law_cost" t_law_cost p_law_cost := by
  obtain ⟨l, e, hl⟩ := args_of (show argsB (C8.fnArgs t_law_cost) p_law_cost = true by decide +kernel)
  intro K kV doc pm cdv ct an s us ws ks _ hn hk
  rw [e]
  match l, hl with
  | [⟨x1, _, _⟩, ⟨x2, _, _⟩, ⟨x3, _, _⟩], hl =>
    have hl2 : [x1, x2, x3] = p_law_cost := hl
    simp only [p_law_cost, List.cons.injEq, and_true] at hl2
    obtain ⟨rfl, rfl, rfl⟩ := hl2
    subst hk
    rcases us3 (show (us ++ ws).length = 3 from hn) with ⟨a1, a2, a3, rfl, rfl⟩ | ⟨a1, a2, a3, rfl, rfl⟩ | ⟨a1, a2, a3, rfl, rfl⟩ | ⟨a1, a2, a3, rfl, rfl⟩
    · exact .of_eq (by kernel_rfl)
    · exact .of_eq (by kernel_rfl)
    · exact .of_eq (by kernel_rfl)
    · exact .of_eq (by kernel_rfl)
theorem bd_law_text : BindOk "_law_text" "_law_text" t_law_text p_law_text := by
  obtain ⟨l, e, hl⟩ := args_of (show argsB (C8.fnArgs t_law_text) p_law_text = true by decide +kernel)
  intro K kV doc pm cdv ct an s us ws ks _ hn hk
  rw [e]
  match l, hl with
  | [⟨x1, _, _⟩], hl =>
    have hl2 : [x1] = p_law_text := hl
    simp only [p_law_text, List.cons.injEq, and_true] at hl2
    obtain rfl := hl2
    subst hk
    rcases us1 (show (us ++ ws).length = 1 from hn) with ⟨a1, rfl, rfl⟩ | ⟨a1, rfl, rfl⟩
    · exact .of_eq (by kernel_rfl)
    · exact .of_eq (by kernel_rfl)
theorem bd_law_prices : BindOk "_law_prices" "_law_prices" t_law_prices p_law_prices := by
  obtain ⟨l, e, hl⟩ := args_of (show argsB (C8.fnArgs t_law_prices) p_law_prices = true by decide +kernel)
  intro K kV doc pm cdv ct an s us ws ks _ hn hk
  rw [e]
  match l, hl with
  | [⟨x1, _, _⟩, ⟨x2, _, _⟩], hl =>
    have hl2 : [x1, x2] = p_law_prices := hl
    simp only [p_law_prices, List.cons.injEq, and_true] at hl2
    obtain ⟨rfl, rfl⟩ := hl2
    subst hk
    rcases us2 (show (us ++ ws).length = 2 from hn) with ⟨a1, a2, rfl, rfl⟩ | ⟨a1, a2, rfl, rfl⟩ | ⟨a1, a2, rfl, rfl⟩
    · exact .of_eq (by kernel_rfl)
    · exact .of_eq (by kernel_rfl)
    · exact .of_eq (by kernel_rfl)
theorem bd_law_full : BindOk "_law_full" "_law_full" t_law_full p_law_full := by
  obtain ⟨l, e, hl⟩ := args_of (show argsB (C8.fnArgs t_law_full) p_law_full = true by decide +kernel)
  intro K kV doc pm cdv ct an s us ws ks _ hn hk
  rw [e]
  match l, hl with
  | [⟨x1, _, _⟩], hl =>
    have hl2 : [x1] = p_law_full := hl
    simp only [p_law_full, List.cons.injEq, and_true] at hl2
    obtain rfl := hl2
    subst hk
    rcases us1 (show (us ++ ws).length = 1 from hn) with ⟨a1, rfl, rfl⟩ | ⟨a1, rfl, rfl⟩
    · exact .of_eq (by kernel_rfl)
    · exact .of_eq (by kernel_rfl)
theorem bd_law_cells : BindOk "_law_cells" "_law_cells" t_law_cells p_law_cells := by
  obtain ⟨l, e, hl⟩ := args_of (show argsB (C8.fnArgs t_law_cells) p_law_cells = true by decide +kernel)
  intro K kV doc pm cdv ct an s us ws ks _ hn hk
  rw [e]
  match l, hl with
  | [⟨x1, _, _⟩, ⟨x2, _, _⟩], hl =>
    have hl2 : [x1, x2] = p_law_cells := hl
    simp only [p_law_cells, List.cons.injEq, and_true] at hl2
    obtain ⟨rfl, rfl⟩ := hl2
    subst hk
    rcases us2 (show (us ++ ws).length = 2 from hn) with ⟨a1, a2, rfl, rfl⟩ | ⟨a1, a2, rfl, rfl⟩ | ⟨a1, a2, rfl, rfl⟩
    · exact .of_eq (by kernel_rfl)
    · exact .of_eq (by kernel_rfl)
    · exact .of_eq (by kernel_rfl)
theorem bd_law_pot : BindOk "_law_pot" "_law_pot" t_law_pot p_law_pot := by
  obtain ⟨l, e, hl⟩ := args_of (show argsB (C8.fnArgs t_law_pot) p_law_pot = true by decide +kernel)
  intro K kV doc pm cdv ct an s us ws ks _ hn hk
  rw [e]
  match l, hl with
  | [⟨x1, _, _⟩, ⟨x2, _, _⟩], hl =>
    have hl2 : [x1, x2] = p_law_pot := hl
    simp only [p_law_pot, List.cons.injEq, and_true] at hl2
    obtain ⟨rfl, rfl⟩ := hl2
    subst hk
    rcases us2 (show (us ++ ws).length = 2 from hn) with ⟨a1, a2, rfl, rfl⟩ | ⟨a1, a2, rfl, rfl⟩ | ⟨a1, a2, rfl, rfl⟩
    · exact .of_eq (by kernel_rfl)
    · exact .of_eq (by kernel_rfl)
    · exact .of_eq (by kernel_rfl)
theorem bd_law_whole_roll : BindOk "_law_whole_roll" "_law_whole_roll" t_law_whole_roll p_law_whole_roll := by
  obtain ⟨l, e, hl⟩ := args_of (show argsB (C8.fnArgs t_law_whole_roll) p_law_whole_roll = true by decide +kernel)
  intro K kV doc pm cdv ct an s us ws ks _ hn hk
  rw [e]
  match l, hl with
  | [⟨x1, _, _⟩, ⟨x2, _, _⟩], hl =>
    have hl2 : [x1, x2] = p_law_whole_roll := hl
    simp only [p_law_whole_roll, List.cons.injEq, and_true] at hl2
    obtain ⟨rfl, rfl⟩ := hl2
    subst hk
    rcases us2 (show (us ++ ws).length = 2 from hn) with ⟨a1, a2, rfl, rfl⟩ | ⟨a1, a2, rfl, rfl⟩ | ⟨a1, a2, rfl, rfl⟩
    · exact .of_eq (by kernel_rfl)
    · exact .of_eq (by kernel_rfl)
    · exact .of_eq (by kernel_rfl)
theorem bd_law_words : BindOk "_law_words" "_law_words" t_law_words p_law_words := by
  obtain ⟨l, e, hl⟩ := args_of (show argsB (C8.fnArgs t_law_words) p_law_words = true by decide +kernel)
  intro K kV doc pm cdv ct an s us ws ks _ hn hk
  rw [e]
  match l, hl with
  | [⟨x1, _, _⟩, ⟨x2, _, _⟩, ⟨x3, _, _⟩], hl =>
    have hl2 : [x1, x2, x3] = p_law_words := hl
    simp only [p_law_words, List.cons.injEq, and_true] at hl2
    obtain ⟨rfl, rfl, rfl⟩ := hl2
    subst hk
    rcases us3 (show (us ++ ws).length = 3 from hn) with ⟨a1, a2, a3, rfl, rfl⟩ | ⟨a1, a2, a3, rfl, rfl⟩ | ⟨a1, a2, a3, rfl, rfl⟩ | ⟨a1, a2, a3, rfl, rfl⟩
    · exact .of_eq (by kernel_rfl)
    · exact .of_eq (by kernel_rfl)
    · exact .of_eq (by kernel_rfl)
    · exact .of_eq (by kernel_rfl)
theorem bd_law_is_pair_right : BindOk "_law_is_pair_right" "_law_is_pair_right" t_law_is_pair_right p_law_is_pair_right := by
  obtain ⟨l, e, hl⟩ := args_of (show argsB (C8.fnArgs t_law_is_pair_right) p_law_is_pair_right = true by decide +kernel)
  intro K kV doc pm cdv ct an s us ws ks _ hn hk
  rw [e]
  match l, hl with
  | [⟨x1, _, _⟩, ⟨x2, _, _⟩, ⟨x3, _, _⟩, ⟨x4, _, _⟩, ⟨x5, _, _⟩], hl =>
    have hl2 : [x1, x2, x3, x4, x5] = p_law_is_pair_right := hl
    simp only [p_law_is_pair_right, List.cons.injEq, and_true] at hl2
    obtain ⟨rfl, rfl, rfl, rfl, rfl⟩ := hl2
    subst hk
    rcases us5 (show (us ++ ws).length = 5 from hn) with ⟨a1, a2, a3, a4, a5, rfl, rfl⟩ | ⟨a1, a2, a3, a4, a5, rfl, rfl⟩ | ⟨a1, a2, a3, a4, a5, rfl, rfl⟩ | ⟨a1, a2, a3, a4, a5, rfl, rfl⟩ | ⟨a1, a2, a3, a4, a5, rfl, rfl⟩ | ⟨a1, a2, a3, a4, a5, rfl, rfl⟩
    · exact .of_eq (by kernel_rfl)
    · exact .of_eq (by kernel_rfl)
    · exact .of_eq (by kernel_rfl)
    · exact .of_eq (by kernel_rfl)
    · exact .of_eq (by kernel_rfl)
    · exact .of_eq (by kernel_rfl)
theorem bd_law_right : BindOk "_law_right" "_law_right" t_law_right p_law_right := by
  obtain ⟨l, e, hl⟩ := args_of (show argsB (C8.fnArgs t_law_right) p_law_right = true by decide +kernel)
  intro K kV doc pm cdv ct an s us ws ks _ hn hk
  rw [e]
  match l, hl with
  | [⟨x1, _, _⟩], hl =>
    have hl2 : [x1] = p_law_right := hl
    simp only [p_law_right, List.cons.injEq, and_true] at hl2
    obtain rfl := hl2
    subst hk
    rcases us1 (show (us ++ ws).length = 1 from hn) with ⟨a1, rfl, rfl⟩ | ⟨a1, rfl, rfl⟩
    · exact .of_eq (by kernel_rfl)
    · exact .of_eq (by kernel_rfl)
theorem bd_law : BindOk "law" "law" t_law p_law := by
  obtain ⟨l, e, hl⟩ := args_of (show argsB (C8.fnArgs t_law) p_law = true by decide +kernel)
  intro K kV doc pm cdv ct an s us ws ks _ hn hk
  rw [e]
  match l, hl with
  | [⟨x1, _, _⟩], hl =>
    have hl2 : [x1] = p_law := hl
    simp only [p_law, List.cons.injEq, and_true] at hl2
    obtain rfl := hl2
    subst hk
    rcases us1 (show (us ++ ws).length = 1 from hn) with ⟨a1, rfl, rfl⟩ | ⟨a1, rfl, rfl⟩
    · exact .of_eq (by kernel_rfl)
    · exact .of_eq (by kernel_rfl)
section
variable {P : Program} {w : World} {K : PySem.W.Frag} {mg : Str → Option Value} {base : Heap} {cl : CL}
abbrev fk0 : List (Str × List Str) := (kc [] []).fk
abbrev fl0 : List (Str × Str) := (kc [] []).flds
abbrev cs0 : List Str := (kc [] []).cs
theorem F_is_integer {k : Nat} {f : Addr} {fd : FuncData} (T : TxAt K mg cl (G60 cc) fl0 cs0) (hs : cl.hs = (tupleKind (mixKind P w)).hash) (kn : ∀ p ∈ k_is_integer, KnAt P w K mg base cl k (G60 cc) fk0 p) (F : C8.Fun K "is_integer" "is_integer" t_is_integer f fd) : FnD P w K mg base cl (k + 2) f fd p_is_integer sp_is_integer :=
  fnD_of (Kc := kc N_is_integer k_is_integer) F sc_is_integer hs (gAt_of T kn) ck_is_integer (pureSp_len fun _ => rfl) pureSp_mono (fun ds S Q h => kp_is_integer ds S Q h)
theorem F_is_between {k : Nat} {f : Addr} {fd : FuncData} (T : TxAt K mg cl (G60 cc) fl0 cs0) (hs : cl.hs = (tupleKind (mixKind P w)).hash) (kn : ∀ p ∈ k_is_between, KnAt P w K mg base cl k (G60 cc) fk0 p) (F : C8.Fun K "is_between" "is_between" t_is_between f fd) : FnD P w K mg base cl (k + 2) f fd p_is_between sp_is_between :=
  fnD_of (Kc := kc N_is_between k_is_between) F sc_is_between hs (gAt_of T kn) ck_is_between (pureSp_len fun _ => rfl) pureSp_mono (fun ds S Q h => (kp_is_between (h60 cc)) ds S Q h)
theorem F_is_name {k : Nat} {f : Addr} {fd : FuncData} (T : TxAt K mg cl (G60 cc) fl0 cs0) (hs : cl.hs = (tupleKind (mixKind P w)).hash) (kn : ∀ p ∈ k_is_name, KnAt P w K mg base cl k (G60 cc) fk0 p) (F : C8.Fun K "is_name" "is_name" t_is_name f fd) : FnD P w K mg base cl (k + 2) f fd p_is_name sp_is_name :=
  fnD_of (Kc := kc N_is_name k_is_name) F sc_is_name hs (gAt_of T kn) ck_is_name (pureSp_len fun _ => rfl) pureSp_mono (fun ds S Q h => (kp_is_name (h60 cc)) ds S Q h)
theorem F_Reader_init {k : Nat} {f : Addr} {fd : FuncData} (T : TxAt K mg cl (G60 cc) fl0 cs0) (hs : cl.hs = (tupleKind (mixKind P w)).hash) (kn : ∀ p ∈ k_Reader_init, KnAt P w K mg base cl k (G60 cc) fk0 p) (F : C8.Fun K "__init__" "Reader.__init__" t_Reader_init f fd) : FnD P w K mg base cl (k + 2) f fd p_Reader_init sp_Reader_init :=
  fnD_of (Kc := kc N_Reader_init k_Reader_init) F sc_Reader_init hs (gAt_of T kn) ck_Reader_init le_Reader_init mo_Reader_init (fun ds S Q h => kp_Reader_init ds S Q h)
theorem F_Reader_takes {k : Nat} {f : Addr} {fd : FuncData} (T : TxAt K mg cl (G60 cc) fl0 cs0) (hs : cl.hs = (tupleKind (mixKind P w)).hash) (kn : ∀ p ∈ k_Reader_takes, KnAt P w K mg base cl k (G60 cc) fk0 p) (F : C8.Fun K "takes" "Reader.takes" t_Reader_takes f fd) : FnD P w K mg base cl (k + 2) f fd p_Reader_takes sp_Reader_takes :=
  fnD_of (Kc := kc N_Reader_takes k_Reader_takes) F sc_Reader_takes hs (gAt_of T kn) ck_Reader_takes le_Reader_takes mo_Reader_takes (fun ds S Q h => (kp_Reader_takes (h60 cc)) ds S Q h)
theorem F_Reader_takes_guard {k : Nat} {f : Addr} {fd : FuncData} (T : TxAt K mg cl (G60 cc) fl0 cs0) (hs : cl.hs = (tupleKind (mixKind P w)).hash) (kn : ∀ p ∈ k_Reader_takes_guard, KnAt P w K mg base cl k (G60 cc) fk0 p) (F : C8.Fun K "takes_guard" "Reader.takes_guard" t_Reader_takes_guard f fd) : FnD P w K mg base cl (k + 2) f fd p_Reader_takes_guard sp_Reader_takes_guard :=
  fnD_of (Kc := kc N_Reader_takes_guard k_Reader_takes_guard) F sc_Reader_takes_guard hs (gAt_of T kn) ck_Reader_takes_guard le_Reader_takes_guard mo_Reader_takes_guard (fun ds S Q h => (kp_Reader_takes_guard (h60 cc)) ds S Q h)
theorem F_Reader_takes_bond {k : Nat} {f : Addr} {fd : FuncData} (T : TxAt K mg cl (G60 cc) fl0 cs0) (hs : cl.hs = (tupleKind (mixKind P w)).hash) (kn : ∀ p ∈ k_Reader_takes_bond, KnAt P w K mg base cl k (G60 cc) fk0 p) (F : C8.Fun K "takes_bond" "Reader.takes_bond" t_Reader_takes_bond f fd) : FnD P w K mg base cl (k + 2) f fd p_Reader_takes_bond sp_Reader_takes_bond :=
  fnD_of (Kc := kc N_Reader_takes_bond k_Reader_takes_bond) F sc_Reader_takes_bond hs (gAt_of T kn) ck_Reader_takes_bond le_Reader_takes_bond mo_Reader_takes_bond (fun ds S Q h => (kp_Reader_takes_bond (h60 cc)) ds S Q h)
theorem F_Reader_found {k : Nat} {f : Addr} {fd : FuncData} (T : TxAt K mg cl (G60 cc) fl0 cs0) (hs : cl.hs = (tupleKind (mixKind P w)).hash) (kn : ∀ p ∈ k_Reader_found, KnAt P w K mg base cl k (G60 cc) fk0 p) (F : C8.Fun K "found" "Reader.found" t_Reader_found f fd) : FnD P w K mg base cl (k + 2) f fd p_Reader_found sp_Reader_found :=
  fnD_of (Kc := kc N_Reader_found k_Reader_found) F sc_Reader_found hs (gAt_of T kn) ck_Reader_found (pureSp_len fun _ => rfl) pureSp_mono (fun ds S Q h => kp_Reader_found ds S Q h)
theorem F_is_bond_of {k : Nat} {f : Addr} {fd : FuncData} (T : TxAt K mg cl (G60 cc) fl0 cs0) (hs : cl.hs = (tupleKind (mixKind P w)).hash) (kn : ∀ p ∈ k_is_bond_of, KnAt P w K mg base cl k (G60 cc) fk0 p) (F : C8.Fun K "is_bond_of" "is_bond_of" t_is_bond_of f fd) : FnD P w K mg base cl (k + 2) f fd p_is_bond_of sp_is_bond_of :=
  fnD_of (Kc := kc N_is_bond_of k_is_bond_of) F sc_is_bond_of hs (gAt_of T kn) ck_is_bond_of (pureSp_len fun _ => rfl) pureSp_mono (fun ds S Q h => (kp_is_bond_of (h60 cc)) ds S Q h)
theorem F_Roll_init {k : Nat} {f : Addr} {fd : FuncData} (T : TxAt K mg cl (G60 cc) fl0 cs0) (hs : cl.hs = (tupleKind (mixKind P w)).hash) (kn : ∀ p ∈ k_Roll_init, KnAt P w K mg base cl k (G60 cc) fk0 p) (F : C8.Fun K "__init__" "Roll.__init__" t_Roll_init f fd) : FnD P w K mg base cl (k + 2) f fd p_Roll_init sp_Roll_init :=
  fnD_of (Kc := kc N_Roll_init k_Roll_init) F sc_Roll_init hs (gAt_of T kn) ck_Roll_init le_Roll_init mo_Roll_init (fun ds S Q h => (kp_Roll_init (h60 cc)) ds S Q h)
theorem F_Roll_guards {k : Nat} {f : Addr} {fd : FuncData} (T : TxAt K mg cl (G60 cc) fl0 cs0) (hs : cl.hs = (tupleKind (mixKind P w)).hash) (kn : ∀ p ∈ k_Roll_guards, KnAt P w K mg base cl k (G60 cc) fk0 p) (F : C8.Fun K "guards" "Roll.guards" t_Roll_guards f fd) : FnD P w K mg base cl (k + 2) f fd p_Roll_guards (getSp fun R => nD R.gs) :=
  fnD_of (Kc := kc N_Roll_guards k_Roll_guards) F sc_Roll_guards hs (gAt_of T kn) ck_Roll_guards (pureSp_len fun _ => rfl) pureSp_mono (fun ds S Q h => kp_Roll_guards ds S Q h)
theorem F_Roll_bonds {k : Nat} {f : Addr} {fd : FuncData} (T : TxAt K mg cl (G60 cc) fl0 cs0) (hs : cl.hs = (tupleKind (mixKind P w)).hash) (kn : ∀ p ∈ k_Roll_bonds, KnAt P w K mg base cl k (G60 cc) fk0 p) (F : C8.Fun K "bonds" "Roll.bonds" t_Roll_bonds f fd) : FnD P w K mg base cl (k + 2) f fd p_Roll_bonds (getSp fun R => rD R.bs) :=
  fnD_of (Kc := kc N_Roll_bonds k_Roll_bonds) F sc_Roll_bonds hs (gAt_of T kn) ck_Roll_bonds (pureSp_len fun _ => rfl) pureSp_mono (fun ds S Q h => kp_Roll_bonds ds S Q h)
theorem F_Roll_pairs {k : Nat} {f : Addr} {fd : FuncData} (T : TxAt K mg cl (G60 cc) fl0 cs0) (hs : cl.hs = (tupleKind (mixKind P w)).hash) (kn : ∀ p ∈ k_Roll_pairs, KnAt P w K mg base cl k (G60 cc) fk0 p) (F : C8.Fun K "pairs" "Roll.pairs" t_Roll_pairs f fd) : FnD P w K mg base cl (k + 2) f fd p_Roll_pairs (getSp fun R => rD R.ps) :=
  fnD_of (Kc := kc N_Roll_pairs k_Roll_pairs) F sc_Roll_pairs hs (gAt_of T kn) ck_Roll_pairs (pureSp_len fun _ => rfl) pureSp_mono (fun ds S Q h => kp_Roll_pairs ds S Q h)
theorem F_check_roll {k : Nat} {f : Addr} {fd : FuncData} (T : TxAt K mg cl (G60 cc) fl0 cs0) (hs : cl.hs = (tupleKind (mixKind P w)).hash) (kn : ∀ p ∈ k_check_roll, KnAt P w K mg base cl k (G60 cc) fk0 p) (F : C8.Fun K "check_roll" "check_roll" t_check_roll f fd) : FnD P w K mg base cl (k + 2) f fd p_check_roll sp_check_roll :=
  fnD_of (Kc := kc N_check_roll k_check_roll) F sc_check_roll hs (gAt_of T kn) ck_check_roll (pureSp_len fun _ => rfl) pureSp_mono (fun ds S Q h => kp_check_roll ds S Q h)
theorem F_check_guard {k : Nat} {f : Addr} {fd : FuncData} (T : TxAt K mg cl (G60 cc) fl0 cs0) (hs : cl.hs = (tupleKind (mixKind P w)).hash) (kn : ∀ p ∈ k_check_guard, KnAt P w K mg base cl k (G60 cc) fk0 p) (F : C8.Fun K "check_guard" "check_guard" t_check_guard f fd) : FnD P w K mg base cl (k + 2) f fd p_check_guard sp_check_guard :=
  fnD_of (Kc := kc N_check_guard k_check_guard) F sc_check_guard hs (gAt_of T kn) ck_check_guard (pureSp_len fun _ => rfl) pureSp_mono (fun ds S Q h => (kp_check_guard (h60 cc)) ds S Q h)
theorem F_are_prices_of {k : Nat} {f : Addr} {fd : FuncData} (T : TxAt K mg cl (G60 cc) fl0 cs0) (hs : cl.hs = (tupleKind (mixKind P w)).hash) (kn : ∀ p ∈ k_are_prices_of, KnAt P w K mg base cl k (G60 cc) fk0 p) (F : C8.Fun K "are_prices_of" "are_prices_of" t_are_prices_of f fd) : FnD P w K mg base cl (k + 2) f fd p_are_prices_of sp_are_prices_of :=
  fnD_of (Kc := kc N_are_prices_of k_are_prices_of) F sc_are_prices_of hs (gAt_of T kn) ck_are_prices_of (pureSp_len fun _ => rfl) pureSp_mono (fun ds S Q h => (kp_are_prices_of (h60 cc)) ds S Q h)
theorem F_check_prices {k : Nat} {f : Addr} {fd : FuncData} (T : TxAt K mg cl (G60 cc) fl0 cs0) (hs : cl.hs = (tupleKind (mixKind P w)).hash) (kn : ∀ p ∈ k_check_prices, KnAt P w K mg base cl k (G60 cc) fk0 p) (F : C8.Fun K "check_prices" "check_prices" t_check_prices f fd) : FnD P w K mg base cl (k + 2) f fd p_check_prices sp_check_prices :=
  fnD_of (Kc := kc N_check_prices k_check_prices) F sc_check_prices hs (gAt_of T kn) ck_check_prices (pureSp_len fun _ => rfl) pureSp_mono (fun ds S Q h => (kp_check_prices (h60 cc)) ds S Q h)
theorem F_price_by {k : Nat} {f : Addr} {fd : FuncData} (T : TxAt K mg cl (G60 cc) fl0 cs0) (hs : cl.hs = (tupleKind (mixKind P w)).hash) (kn : ∀ p ∈ k_price_by, KnAt P w K mg base cl k (G60 cc) fk0 p) (F : C8.Fun K "price_by" "price_by" t_price_by f fd) : FnD P w K mg base cl (k + 2) f fd p_price_by sp_price_by :=
  fnD_of (Kc := kc N_price_by k_price_by) F sc_price_by hs (gAt_of T kn) ck_price_by (pureSp_len fun _ => rfl) pureSp_mono (fun ds S Q h => (kp_price_by (h60 cc)) ds S Q h)
theorem F_cost_of {k : Nat} {f : Addr} {fd : FuncData} (T : TxAt K mg cl (G60 cc) fl0 cs0) (hs : cl.hs = (tupleKind (mixKind P w)).hash) (kn : ∀ p ∈ k_cost_of, KnAt P w K mg base cl k (G60 cc) fk0 p) (F : C8.Fun K "cost_of" "cost_of" t_cost_of f fd) : FnD P w K mg base cl (k + 2) f fd p_cost_of sp_cost_of :=
  fnD_of (Kc := kc N_cost_of k_cost_of) F sc_cost_of hs (gAt_of T kn) ck_cost_of (pureSp_len fun _ => rfl) pureSp_mono (fun ds S Q h => (kp_cost_of (h60 cc)) ds S Q h)
theorem F_full_pairings {k : Nat} {f : Addr} {fd : FuncData} (T : TxAt K mg cl (G60 cc) fl0 cs0) (hs : cl.hs = (tupleKind (mixKind P w)).hash) (kn : ∀ p ∈ k_full_pairings, KnAt P w K mg base cl k (G60 cc) fk0 p) (F : C8.Fun K "full_pairings" "full_pairings" t_full_pairings f fd) : FnD P w K mg base cl (k + 2) f fd p_full_pairings sp_full_pairings :=
  fnD_of (Kc := kc N_full_pairings k_full_pairings) F sc_full_pairings hs (gAt_of T kn) ck_full_pairings (pureSp_len fun _ => rfl) pureSp_mono (fun ds S Q h => (kp_full_pairings (h60 cc)) ds S Q h)
theorem F_costs_of {k : Nat} {f : Addr} {fd : FuncData} (T : TxAt K mg cl (G60 cc) fl0 cs0) (hs : cl.hs = (tupleKind (mixKind P w)).hash) (kn : ∀ p ∈ k_costs_of, KnAt P w K mg base cl k (G60 cc) fk0 p) (F : C8.Fun K "costs_of" "costs_of" t_costs_of f fd) : FnD P w K mg base cl (k + 2) f fd p_costs_of sp_costs_of :=
  fnD_of (Kc := kc N_costs_of k_costs_of) F sc_costs_of hs (gAt_of T kn) ck_costs_of (pureSp_len fun _ => rfl) pureSp_mono (fun ds S Q h => (kp_costs_of (h60 cc)) ds S Q h)
theorem F_check_full {k : Nat} {f : Addr} {fd : FuncData} (T : TxAt K mg cl (G60 cc) fl0 cs0) (hs : cl.hs = (tupleKind (mixKind P w)).hash) (kn : ∀ p ∈ k_check_full, KnAt P w K mg base cl k (G60 cc) fk0 p) (F : C8.Fun K "check_full" "check_full" t_check_full f fd) : FnD P w K mg base cl (k + 2) f fd p_check_full sp_check_full :=
  fnD_of (Kc := kc N_check_full k_check_full) F sc_check_full hs (gAt_of T kn) ck_check_full (pureSp_len fun _ => rfl) pureSp_mono (fun ds S Q h => (kp_check_full (h60 cc)) ds S Q h)
theorem F_fates {k : Nat} {f : Addr} {fd : FuncData} (T : TxAt K mg cl (G60 cc) fl0 cs0) (hs : cl.hs = (tupleKind (mixKind P w)).hash) (kn : ∀ p ∈ k_fates, KnAt P w K mg base cl k (G60 cc) fk0 p) (F : C8.Fun K "fates" "fates" t_fates f fd) : FnD P w K mg base cl (k + 2) f fd p_fates sp_fates :=
  fnD_of (Kc := kc N_fates k_fates) F sc_fates hs (gAt_of T kn) ck_fates (pureSp_len fun _ => rfl) pureSp_mono (fun ds S Q h => (kp_fates (h60 cc)) ds S Q h)
theorem F_may_cost {k : Nat} {f : Addr} {fd : FuncData} (T : TxAt K mg cl (G60 cc) fl0 cs0) (hs : cl.hs = (tupleKind (mixKind P w)).hash) (kn : ∀ p ∈ k_may_cost, KnAt P w K mg base cl k (G60 cc) fk0 p) (F : C8.Fun K "may_cost" "may_cost" t_may_cost f fd) : FnD P w K mg base cl (k + 2) f fd p_may_cost sp_may_cost :=
  fnD_of (Kc := kc N_may_cost k_may_cost) F sc_may_cost hs (gAt_of T kn) ck_may_cost (pureSp_len fun _ => rfl) pureSp_mono (fun ds S Q h => (kp_may_cost (h60 cc)) ds S Q h)
theorem F_law_take {k : Nat} {f : Addr} {fd : FuncData} (T : TxAt K mg cl (G60 cc) fl0 cs0) (hs : cl.hs = (tupleKind (mixKind P w)).hash) (kn : ∀ p ∈ k_law_take, KnAt P w K mg base cl k (G60 cc) fk0 p) (F : C8.Fun K "_law_take" "_law_take" t_law_take f fd) : FnD P w K mg base cl (k + 2) f fd p_law_take takeSp :=
  fnD_of (Kc := kc N_law_take k_law_take) F sc_law_take hs (gAt_of T kn) ck_law_take takeSp_len takeSp_mono (fun ds S Q h => kp_law_take ds S Q h)
theorem F_law_some {k : Nat} {f : Addr} {fd : FuncData} (T : TxAt K mg cl (G60 cc) fl0 cs0) (hs : cl.hs = (tupleKind (mixKind P w)).hash) (kn : ∀ p ∈ k_law_some, KnAt P w K mg base cl k (G60 cc) fk0 p) (F : C8.Fun K "_law_some" "_law_some" t_law_some f fd) : FnD P w K mg base cl (k + 2) f fd p_law_some someSp :=
  fnD_of (Kc := kc N_law_some k_law_some) F sc_law_some hs (gAt_of T kn) ck_law_some someSp_len someSp_mono (fun ds S Q h => (kp_law_some (h60 cc).mono (h60 cc).law_take) ds S Q h)
theorem F_law_word {k : Nat} {f : Addr} {fd : FuncData} (T : TxAt K mg cl (G60 cc) fl0 cs0) (hs : cl.hs = (tupleKind (mixKind P w)).hash) (kn : ∀ p ∈ k_law_word, KnAt P w K mg base cl k (G60 cc) fk0 p) (F : C8.Fun K "_law_word" "_law_word" t_law_word f fd) : FnD P w K mg base cl (k + 2) f fd p_law_word sp_law_word :=
  fnD_of (Kc := kc N_law_word k_law_word) F sc_law_word hs (gAt_of T kn) ck_law_word le_law_word mo_law_word (fun ds S Q h => (kp_law_word (h60 cc)) ds S Q h)
theorem F_law_roll {k : Nat} {f : Addr} {fd : FuncData} (T : TxAt K mg cl (G60 cc) fl0 cs0) (hs : cl.hs = (tupleKind (mixKind P w)).hash) (kn : ∀ p ∈ k_law_roll, KnAt P w K mg base cl k (G60 cc) fk0 p) (F : C8.Fun K "_law_roll" "_law_roll" t_law_roll f fd) : FnD P w K mg base cl (k + 2) f fd p_law_roll sp_law_roll :=
  fnD_of (Kc := kc N_law_roll k_law_roll) F sc_law_roll hs (gAt_of T kn) ck_law_roll le_law_roll mo_law_roll (fun ds S Q h => (kp_law_roll (h60 cc)) ds S Q h)
theorem F_law_of {k : Nat} {f : Addr} {fd : FuncData} (T : TxAt K mg cl (G60 cc) fl0 cs0) (hs : cl.hs = (tupleKind (mixKind P w)).hash) (kn : ∀ p ∈ k_law_of, KnAt P w K mg base cl k (G60 cc) fk0 p) (F : C8.Fun K "_law_of" "_law_of" t_law_of f fd) : FnD P w K mg base cl (k + 2) f fd p_law_of sp_law_of :=
  fnD_of (Kc := kc N_law_of k_law_of) F sc_law_of hs (gAt_of T kn) ck_law_of le_law_of mo_law_of (fun ds S Q h => (kp_law_of (h60 cc)) ds S Q h)
theorem F_law_pair {k : Nat} {f : Addr} {fd : FuncData} (T : TxAt K mg cl (G60 cc) fl0 cs0) (hs : cl.hs = (tupleKind (mixKind P w)).hash) (kn : ∀ p ∈ k_law_pair, KnAt P w K mg base cl k (G60 cc) fk0 p) (F : C8.Fun K "_law_pair" "_law_pair" t_law_pair f fd) : FnD P w K mg base cl (k + 2) f fd p_law_pair sp_law_pair :=
  fnD_of (Kc := kc N_law_pair k_law_pair) F sc_law_pair hs (gAt_of T kn) ck_law_pair (pureSp_len fun _ => rfl) pureSp_mono (fun ds S Q h => kp_law_pair ds S Q h)
theorem F_law_pairs {k : Nat} {f : Addr} {fd : FuncData} (T : TxAt K mg cl (G60 cc) fl0 cs0) (hs : cl.hs = (tupleKind (mixKind P w)).hash) (kn : ∀ p ∈ k_law_pairs, KnAt P w K mg base cl k (G60 cc) fk0 p) (F : C8.Fun K "_law_pairs" "_law_pairs" t_law_pairs f fd) : FnD P w K mg base cl (k + 2) f fd p_law_pairs sp_law_pairs :=
  fnD_of (Kc := kc N_law_pairs k_law_pairs) F sc_law_pairs hs (gAt_of T kn) ck_law_pairs (pureSp_len fun _ => rfl) pureSp_mono (fun ds S Q h => (kp_law_pairs (h60 cc)) ds S Q h)
theorem F_law_price {k : Nat} {f : Addr} {fd : FuncData} (T : TxAt K mg cl (G60 cc) fl0 cs0) (hs : cl.hs = (tupleKind (mixKind P w)).hash) (kn : ∀ p ∈ k_law_price, KnAt P w K mg base cl k (G60 cc) fk0 p) (F : C8.Fun K "_law_price" "_law_price" t_law_price f fd) : FnD P w K mg base cl (k + 2) f fd p_law_price sp_law_price :=
  fnD_of (Kc := kc N_law_price k_law_price) F sc_law_price hs (gAt_of T kn) ck_law_price (pureSp_len fun _ => rfl) pureSp_mono (fun ds S Q h => (kp_law_price (h60 cc)) ds S Q h)
theorem F_law_cost {k : Nat} {f : Addr} {fd : FuncData} (T : TxAt K mg cl (G60 cc) fl0 cs0) (hs : cl.hs = (tupleKind (mixKind P w)).hash) (kn : ∀ p ∈ k_law_cost, KnAt P w K mg base cl k (G60 cc) fk0 p) (F : C8.Fun K "_law_cost" "_law_cost" t_law_cost f fd) : FnD P w K mg base cl (k + 2) f fd p_law_cost sp_law_cost :=
  fnD_of (Kc := kc N_law_cost k_law_cost) F sc_law_cost hs (gAt_of T kn) ck_law_cost (pureSp_len fun _ => rfl) pureSp_mono (fun ds S Q h => (kp_law_cost (h60 cc)) ds S Q h)
theorem F_law_text {k : Nat} {f : Addr} {fd : FuncData} (T : TxAt K mg cl (G60 cc) fl0 cs0) (hs : cl.hs = (tupleKind (mixKind P w)).hash) (kn : ∀ p ∈ k_law_text, KnAt P w K mg base cl k (G60 cc) fk0 p) (F : C8.Fun K "_law_text" "_law_text" t_law_text f fd) : FnD P w K mg base cl (k + 2) f fd p_law_text sp_law_text :=
  fnD_of (Kc := kc N_law_text k_law_text) F sc_law_text hs (gAt_of T kn) ck_law_text (pureSp_len fun _ => rfl) pureSp_mono (fun ds S Q h => (kp_law_text (h60 cc)) ds S Q h)
theorem F_law_prices {k : Nat} {f : Addr} {fd : FuncData} (T : TxAt K mg cl (G60 cc) fl0 cs0) (hs : cl.hs = (tupleKind (mixKind P w)).hash) (kn : ∀ p ∈ k_law_prices, KnAt P w K mg base cl k (G60 cc) fk0 p) (F : C8.Fun K "_law_prices" "_law_prices" t_law_prices f fd) : FnD P w K mg base cl (k + 2) f fd p_law_prices sp_law_prices :=
  fnD_of (Kc := kc N_law_prices k_law_prices) F sc_law_prices hs (gAt_of T kn) ck_law_prices le_law_prices mo_law_prices (fun ds S Q h => (kp_law_prices (h60 cc)) ds S Q h)
theorem F_law_full {k : Nat} {f : Addr} {fd : FuncData} (T : TxAt K mg cl (G60 cc) fl0 cs0) (hs : cl.hs = (tupleKind (mixKind P w)).hash) (kn : ∀ p ∈ k_law_full, KnAt P w K mg base cl k (G60 cc) fk0 p) (F : C8.Fun K "_law_full" "_law_full" t_law_full f fd) : FnD P w K mg base cl (k + 2) f fd p_law_full sp_law_full :=
  fnD_of (Kc := kc N_law_full k_law_full) F sc_law_full hs (gAt_of T kn) ck_law_full (pureSp_len fun _ => rfl) pureSp_mono (fun ds S Q h => (kp_law_full (h60 cc)) ds S Q h)
theorem F_law_cells {k : Nat} {f : Addr} {fd : FuncData} (T : TxAt K mg cl (G60 cc) fl0 cs0) (hs : cl.hs = (tupleKind (mixKind P w)).hash) (kn : ∀ p ∈ k_law_cells, KnAt P w K mg base cl k (G60 cc) fk0 p) (F : C8.Fun K "_law_cells" "_law_cells" t_law_cells f fd) : FnD P w K mg base cl (k + 2) f fd p_law_cells sp_law_cells :=
  fnD_of (Kc := kc N_law_cells k_law_cells) F sc_law_cells hs (gAt_of T kn) ck_law_cells le_law_cells mo_law_cells (fun ds S Q h => kp_law_cells ds S Q h)
theorem F_law_pot {k : Nat} {f : Addr} {fd : FuncData} (T : TxAt K mg cl (G60 cc) fl0 cs0) (hs : cl.hs = (tupleKind (mixKind P w)).hash) (kn : ∀ p ∈ k_law_pot, KnAt P w K mg base cl k (G60 cc) fk0 p) (F : C8.Fun K "_law_pot" "_law_pot" t_law_pot f fd) : FnD P w K mg base cl (k + 2) f fd p_law_pot sp_law_pot :=
  fnD_of (Kc := kc N_law_pot k_law_pot) F sc_law_pot hs (gAt_of T kn) ck_law_pot le_law_pot mo_law_pot (fun ds S Q h => kp_law_pot ds S Q h)
theorem F_law_whole_roll {k : Nat} {f : Addr} {fd : FuncData} (T : TxAt K mg cl (G60 cc) fl0 cs0) (hs : cl.hs = (tupleKind (mixKind P w)).hash) (kn : ∀ p ∈ k_law_whole_roll, KnAt P w K mg base cl k (G60 cc) fk0 p) (F : C8.Fun K "_law_whole_roll" "_law_whole_roll" t_law_whole_roll f fd) : FnD P w K mg base cl (k + 2) f fd p_law_whole_roll sp_law_whole_roll :=
  fnD_of (Kc := kc N_law_whole_roll k_law_whole_roll) F sc_law_whole_roll hs (gAt_of T kn) ck_law_whole_roll le_law_whole_roll mo_law_whole_roll (fun ds S Q h => (kp_law_whole_roll (h60 cc)) ds S Q h)
theorem F_law_words {k : Nat} {f : Addr} {fd : FuncData} (T : TxAt K mg cl (G60 cc) fl0 cs0) (hs : cl.hs = (tupleKind (mixKind P w)).hash) (kn : ∀ p ∈ k_law_words, KnAt P w K mg base cl k (G60 cc) fk0 p) (F : C8.Fun K "_law_words" "_law_words" t_law_words f fd) : FnD P w K mg base cl (k + 2) f fd p_law_words sp_law_words :=
  fnD_of (Kc := kc N_law_words k_law_words) F sc_law_words hs (gAt_of T kn) ck_law_words (pureSp_len fun _ => rfl) pureSp_mono (fun ds S Q h => (kp_law_words (h60 cc)) ds S Q h)
theorem F_law_is_pair_right {k : Nat} {f : Addr} {fd : FuncData} (T : TxAt K mg cl (G60 cc) fl0 cs0) (hs : cl.hs = (tupleKind (mixKind P w)).hash) (kn : ∀ p ∈ k_law_is_pair_right, KnAt P w K mg base cl k (G60 cc) fk0 p) (F : C8.Fun K "_law_is_pair_right" "_law_is_pair_right" t_law_is_pair_right f fd) : FnD P w K mg base cl (k + 2) f fd p_law_is_pair_right sp_law_is_pair_right :=
  fnD_of (Kc := kc N_law_is_pair_right k_law_is_pair_right) F sc_law_is_pair_right hs (gAt_of T kn) ck_law_is_pair_right (pureSp_len fun _ => rfl) pureSp_mono (fun ds S Q h => (kp_law_is_pair_right (h60 cc)) ds S Q h)
theorem F_law_right {k : Nat} {f : Addr} {fd : FuncData} (T : TxAt K mg cl (G60 cc) fl0 cs0) (hs : cl.hs = (tupleKind (mixKind P w)).hash) (kn : ∀ p ∈ k_law_right, KnAt P w K mg base cl k (G60 cc) fk0 p) (F : C8.Fun K "_law_right" "_law_right" t_law_right f fd) : FnD P w K mg base cl (k + 2) f fd p_law_right sp_law_right :=
  fnD_of (Kc := kc N_law_right k_law_right) F sc_law_right hs (gAt_of T kn) ck_law_right le_law_right mo_law_right (fun ds S Q h => (kp_law_right (h60 cc)) ds S Q h)
theorem F_law {k : Nat} {f : Addr} {fd : FuncData} (T : TxAt K mg cl (G60 cc) fl0 cs0) (hs : cl.hs = (tupleKind (mixKind P w)).hash) (kn : ∀ p ∈ k_law, KnAt P w K mg base cl k (G60 cc) fk0 p) (F : C8.Fun K "law" "law" t_law f fd) : FnD P w K mg base cl (k + 2) f fd p_law sp_law :=
  fnD_of (Kc := kc N_law k_law) F sc_law hs (gAt_of T kn) ck_law le_law mo_law (fun ds S Q h => (kp_law (h60 cc)) ds S Q h)
/-- what the top has written -/
structure Wr (K : PySem.W.Frag) (mg : Str → Option Value) (CReader : Addr) (CRoll : Addr) (c Pt : Addr) : Prop where
  cl_Reader : Cls K CReader
  mg_Reader : mg "Reader" = some (.ref CReader)
  mk_Reader : PySem.W.makesIn K CReader = true
  kp_Reader : PySem.W.keepIn K (.ref CReader) = true
  cl_Roll : Cls K CRoll
  mg_Roll : mg "Roll" = some (.ref CRoll)
  mk_Roll : PySem.W.makesIn K CRoll = true
  kp_Roll : PySem.W.keepIn K (.ref CRoll) = true
  d_is_integer : FnK K mg "is_integer" t_is_integer
  d_is_between : FnK K mg "is_between" t_is_between
  d_is_name : FnK K mg "is_name" t_is_name
  d_Reader_init : MtK K CReader "__init__" "Reader.__init__" t_Reader_init
  d_Reader_takes : MtK K CReader "takes" "Reader.takes" t_Reader_takes
  d_Reader_takes_guard : MtK K CReader "takes_guard" "Reader.takes_guard" t_Reader_takes_guard
  d_Reader_takes_bond : MtK K CReader "takes_bond" "Reader.takes_bond" t_Reader_takes_bond
  d_Reader_found : PrK K CReader "found" "Reader.found" t_Reader_found
  d_is_bond_of : FnK K mg "is_bond_of" t_is_bond_of
  d_Roll_init : MtK K CRoll "__init__" "Roll.__init__" t_Roll_init
  d_Roll_guards : PrK K CRoll "guards" "Roll.guards" t_Roll_guards
  d_Roll_bonds : PrK K CRoll "bonds" "Roll.bonds" t_Roll_bonds
  d_Roll_pairs : PrK K CRoll "pairs" "Roll.pairs" t_Roll_pairs
  d_pair_of : FnKc K mg "pair_of" t_pair_of c
  d_check_roll : FnK K mg "check_roll" t_check_roll
  d_check_guard : FnK K mg "check_guard" t_check_guard
  d_are_prices_of : FnK K mg "are_prices_of" t_are_prices_of
  d_check_prices : FnK K mg "check_prices" t_check_prices
  d_price_by : FnK K mg "price_by" t_price_by
  d_cost_of : FnK K mg "cost_of" t_cost_of
  d_full_pairings : FnK K mg "full_pairings" t_full_pairings
  d_costs_of : FnK K mg "costs_of" t_costs_of
  d_check_full : FnK K mg "check_full" t_check_full
  d_fates : FnK K mg "fates" t_fates
  d_may_cost : FnK K mg "may_cost" t_may_cost
  d_law_take : FnK K mg "_law_take" t_law_take
  d_law_some : FnK K mg "_law_some" t_law_some
  d_law_word : FnK K mg "_law_word" t_law_word
  d_law_roll : FnK K mg "_law_roll" t_law_roll
  d_law_of : FnK K mg "_law_of" t_law_of
  d_law_pair : FnK K mg "_law_pair" t_law_pair
  d_law_pairs : FnK K mg "_law_pairs" t_law_pairs
  d_law_price : FnK K mg "_law_price" t_law_price
  d_law_cost : FnK K mg "_law_cost" t_law_cost
  d_law_text : FnK K mg "_law_text" t_law_text
  d_law_prices : FnK K mg "_law_prices" t_law_prices
  d_law_full : FnK K mg "_law_full" t_law_full
  d_law_cells : FnK K mg "_law_cells" t_law_cells
  d_law_pot : FnK K mg "_law_pot" t_law_pot
  d_law_whole_roll : FnK K mg "_law_whole_roll" t_law_whole_roll
  d_law_words : FnK K mg "_law_words" t_law_words
  d_law_is_pair_right : FnK K mg "_law_is_pair_right" t_law_is_pair_right
  d_law_right : FnK K mg "_law_right" t_law_right
  d_law : FnK K mg "law" t_law
  g_LETTERS : ∃ u, mg "LETTERS" = some u ∧ RelV (V.str "abcdefghijklmnopqrstuvwxyz") u
  g_FIGURES : ∃ u, mg "FIGURES" = some u ∧ RelV (V.str "0123456789") u
  g_MOST_SIGNS : ∃ u, mg "MOST_SIGNS" = some u ∧ RelV (V.int 8) u
  g_MOST_GUARDS_rolls : ∃ u, mg "MOST_GUARDS_rolls" = some u ∧ RelV (V.int 24) u
  g_MOST_BONDS : ∃ u, mg "MOST_BONDS" = some u ∧ RelV (V.int 200) u
  g_GUARD : ∃ u, mg "GUARD" = some u ∧ RelV (V.str "guard") u
  g_BOND : ∃ u, mg "BOND" = some u ∧ RelV (V.str "bond") u
  g_MOST_GUARDS_cheap : ∃ u, mg "MOST_GUARDS_cheap" = some u ∧ RelV (V.int 10) u
  g_MOST_PRICE : ∃ u, mg "MOST_PRICE" = some u ∧ RelV (V.int 999) u
  g_NEVER : ∃ u, mg "NEVER" = some u ∧ RelV (V.str "never") u
  g_ALL : ∃ u, mg "ALL" = some u ∧ RelV (V.str "all") u
  g_SOME : ∃ u, mg "SOME" = some u ∧ RelV (V.str "some") u
  g_NONE : ∃ u, mg "NONE" = some u ∧ RelV (V.str "none") u
  n_Reader_own_guards : PySem.W.findIn K (.ref CReader) "own_guards" = some none
  n_Reader_own_bonds : PySem.W.findIn K (.ref CReader) "own_bonds" = some none
  n_Roll_own_text : PySem.W.findIn K (.ref CRoll) "own_text" = some none
  n_Roll_own_guards : PySem.W.findIn K (.ref CRoll) "own_guards" = some none
  n_Roll_own_bonds : PySem.W.findIn K (.ref CRoll) "own_bonds" = some none
  n_Roll_own_pairs : PySem.W.findIn K (.ref CRoll) "own_pairs" = some none
  i_Roll : C8.InsC K CRoll
  bi : ∀ x ∈ biAll, mg x = none
def cl60 (P : Program) (w : World) (CReader CRoll Pt : Addr) : CL := { c := fun x => if x = "Reader" then some CReader else if x = "Roll" then some CRoll else none, tabs := [(Pt, "pair_of.<locals>.<lambda>")], hs := (tupleKind (mixKind P w)).hash }
section
variable {CReader : Addr} {CRoll : Addr} {c Pt : Addr}
theorem cc_Reader : (cl60 P w CReader CRoll Pt).c "Reader" = some CReader := by
  show (if ("Reader" : Str) = "Reader" then some CReader else if ("Reader" : Str) = "Roll" then some CRoll else none) = _
  rw [if_pos rfl]
theorem cc_Roll : (cl60 P w CReader CRoll Pt).c "Roll" = some CRoll := by
  show (if ("Roll" : Str) = "Reader" then some CReader else if ("Roll" : Str) = "Roll" then some CRoll else none) = _
  rw [if_neg (show ¬ (("Roll" : Str) = "Reader") by decide +kernel), if_pos rfl]
theorem tx60 (W : Wr K mg CReader CRoll c Pt) : TxAt K mg (cl60 P w CReader CRoll Pt) (G60 cc) fl0 cs0 where
  mono := mono60
  gl x d h := by
    have hm := look_mem h
    simp only [glT, List.mem_cons, Prod.mk.injEq, List.not_mem_nil, or_false] at hm
    rcases hm with ⟨rfl, rfl⟩ | ⟨rfl, rfl⟩ | ⟨rfl, rfl⟩ | ⟨rfl, rfl⟩ | ⟨rfl, rfl⟩ | ⟨rfl, rfl⟩ | ⟨rfl, rfl⟩ | ⟨rfl, rfl⟩ | ⟨rfl, rfl⟩ | ⟨rfl, rfl⟩ | ⟨rfl, rfl⟩ | ⟨rfl, rfl⟩ | ⟨rfl, rfl⟩
    · obtain ⟨u, h1, h2⟩ := W.g_LETTERS
      exact ⟨_, u, h1, h2, fun S T H => .str _ (by decide +kernel)⟩
    · obtain ⟨u, h1, h2⟩ := W.g_FIGURES
      exact ⟨_, u, h1, h2, fun S T H => .str _ (by decide +kernel)⟩
    · obtain ⟨u, h1, h2⟩ := W.g_MOST_SIGNS
      exact ⟨_, u, h1, h2, fun S T H => .int _⟩
    · obtain ⟨u, h1, h2⟩ := W.g_MOST_GUARDS_rolls
      exact ⟨_, u, h1, h2, fun S T H => .int _⟩
    · obtain ⟨u, h1, h2⟩ := W.g_MOST_BONDS
      exact ⟨_, u, h1, h2, fun S T H => .int _⟩
    · obtain ⟨u, h1, h2⟩ := W.g_GUARD
      exact ⟨_, u, h1, h2, fun S T H => .str _ (by decide +kernel)⟩
    · obtain ⟨u, h1, h2⟩ := W.g_BOND
      exact ⟨_, u, h1, h2, fun S T H => .str _ (by decide +kernel)⟩
    · obtain ⟨u, h1, h2⟩ := W.g_MOST_GUARDS_cheap
      exact ⟨_, u, h1, h2, fun S T H => .int _⟩
    · obtain ⟨u, h1, h2⟩ := W.g_MOST_PRICE
      exact ⟨_, u, h1, h2, fun S T H => .int _⟩
    · obtain ⟨u, h1, h2⟩ := W.g_NEVER
      exact ⟨_, u, h1, h2, fun S T H => .str _ (by decide +kernel)⟩
    · obtain ⟨u, h1, h2⟩ := W.g_ALL
      exact ⟨_, u, h1, h2, fun S T H => .str _ (by decide +kernel)⟩
    · obtain ⟨u, h1, h2⟩ := W.g_SOME
      exact ⟨_, u, h1, h2, fun S T H => .str _ (by decide +kernel)⟩
    · obtain ⟨u, h1, h2⟩ := W.g_NONE
      exact ⟨_, u, h1, h2, fun S T H => .str _ (by decide +kernel)⟩
  flds := List.forall_mem_cons.mpr ⟨⟨CReader, cc_Reader, W.cl_Reader, W.n_Reader_own_guards⟩, List.forall_mem_cons.mpr ⟨⟨CReader, cc_Reader, W.cl_Reader, W.n_Reader_own_bonds⟩, List.forall_mem_cons.mpr ⟨⟨CRoll, cc_Roll, W.cl_Roll, W.n_Roll_own_text⟩, List.forall_mem_cons.mpr ⟨⟨CRoll, cc_Roll, W.cl_Roll, W.n_Roll_own_guards⟩, List.forall_mem_cons.mpr ⟨⟨CRoll, cc_Roll, W.cl_Roll, W.n_Roll_own_bonds⟩, List.forall_mem_cons.mpr ⟨⟨CRoll, cc_Roll, W.cl_Roll, W.n_Roll_own_pairs⟩, by simp⟩⟩⟩⟩⟩⟩
  cs := List.forall_mem_cons.mpr ⟨⟨CRoll, W.mg_Roll, cc_Roll, W.i_Roll⟩, by simp⟩
  bi := W.bi
theorem all60 (W : Wr K mg CReader CRoll c Pt) (TB : LamX.TabB base mg c Pt) {f : Addr} {fd : FuncData} (hF : C8.Fun K "law" "law" t_law f fd) : FnD P w K mg base (cl60 P w CReader CRoll Pt) 18 f fd p_law sp_law := by
  let cc : Str → Option Addr := fun _ => none
  have T : TxAt K mg (cl60 P w CReader CRoll Pt) (G60 cc) fl0 cs0 := tx60 W
  have A_pair_of : FnAt P w K mg base (cl60 P w CReader CRoll Pt) 1 "pair_of" spPair p_pair_of := by
    obtain ⟨f, oc, od, kV, doc, pm, an, ct, osl, h1, h2, h3, h4⟩ := W.d_pair_of.ex
    exact ⟨f, _, pair_fnD ck_pair_of sc_pair_of rfl h2 h3 TB (by simp [cl60]) (fun p hp _ => by simp [cl60] at hp; rw [hp]) (W.bi _ (by decide +kernel)) (W.bi _ (by decide +kernel)), h1, h4, bd_pair_of K kV doc pm (.ref c) ct an⟩
  have kn_is_integer : ∀ p ∈ k_is_integer, KnAt P w K mg base (cl60 P w CReader CRoll Pt) 0 (G60 cc) fk0 p := by intro p hp; cases hp
  have A_is_integer : FnAt P w K mg base (cl60 P w CReader CRoll Pt) 2 "is_integer" sp_is_integer p_is_integer := W.d_is_integer.at bd_is_integer (fun f fd F => F_is_integer T rfl kn_is_integer F)
  have kn_is_name : ∀ p ∈ k_is_name, KnAt P w K mg base (cl60 P w CReader CRoll Pt) 0 (G60 cc) fk0 p := by intro p hp; cases hp
  have A_is_name : FnAt P w K mg base (cl60 P w CReader CRoll Pt) 2 "is_name" sp_is_name p_is_name := W.d_is_name.at bd_is_name (fun f fd F => F_is_name T rfl kn_is_name F)
  have kn_Reader_init : ∀ p ∈ k_Reader_init, KnAt P w K mg base (cl60 P w CReader CRoll Pt) 0 (G60 cc) fk0 p := by intro p hp; cases hp
  have A_Reader_init : MkAt P w K mg base (cl60 P w CReader CRoll Pt) 2 "Reader" sp_Reader_init := W.d_Reader_init.mkAt cc_Reader W.mg_Reader W.mk_Reader W.kp_Reader bd_Reader_init (fun f fd F => F_Reader_init T rfl kn_Reader_init F)
  have kn_Reader_found : ∀ p ∈ k_Reader_found, KnAt P w K mg base (cl60 P w CReader CRoll Pt) 0 (G60 cc) fk0 p := by intro p hp; cases hp
  have A_Reader_found : PrAt P w K mg base (cl60 P w CReader CRoll Pt) 2 "Reader" "found" sp_Reader_found := W.d_Reader_found.at cc_Reader W.cl_Reader bd_Reader_found (fun f fd F => F_Reader_found T rfl kn_Reader_found F)
  have kn_is_bond_of : ∀ p ∈ k_is_bond_of, KnAt P w K mg base (cl60 P w CReader CRoll Pt) 0 (G60 cc) fk0 p := by intro p hp; cases hp
  have A_is_bond_of : FnAt P w K mg base (cl60 P w CReader CRoll Pt) 2 "is_bond_of" sp_is_bond_of p_is_bond_of := W.d_is_bond_of.at bd_is_bond_of (fun f fd F => F_is_bond_of T rfl kn_is_bond_of F)
  have kn_Roll_guards : ∀ p ∈ k_Roll_guards, KnAt P w K mg base (cl60 P w CReader CRoll Pt) 0 (G60 cc) fk0 p := by intro p hp; cases hp
  have A_Roll_guards : PrAt P w K mg base (cl60 P w CReader CRoll Pt) 2 "Roll" "guards" (getSp fun R => nD R.gs) := W.d_Roll_guards.at cc_Roll W.cl_Roll bd_Roll_guards (fun f fd F => F_Roll_guards T rfl kn_Roll_guards F)
  have kn_Roll_bonds : ∀ p ∈ k_Roll_bonds, KnAt P w K mg base (cl60 P w CReader CRoll Pt) 0 (G60 cc) fk0 p := by intro p hp; cases hp
  have A_Roll_bonds : PrAt P w K mg base (cl60 P w CReader CRoll Pt) 2 "Roll" "bonds" (getSp fun R => rD R.bs) := W.d_Roll_bonds.at cc_Roll W.cl_Roll bd_Roll_bonds (fun f fd F => F_Roll_bonds T rfl kn_Roll_bonds F)
  have kn_Roll_pairs : ∀ p ∈ k_Roll_pairs, KnAt P w K mg base (cl60 P w CReader CRoll Pt) 0 (G60 cc) fk0 p := by intro p hp; cases hp
  have A_Roll_pairs : PrAt P w K mg base (cl60 P w CReader CRoll Pt) 2 "Roll" "pairs" (getSp fun R => rD R.ps) := W.d_Roll_pairs.at cc_Roll W.cl_Roll bd_Roll_pairs (fun f fd F => F_Roll_pairs T rfl kn_Roll_pairs F)
  have kn_check_roll : ∀ p ∈ k_check_roll, KnAt P w K mg base (cl60 P w CReader CRoll Pt) 0 (G60 cc) fk0 p := by intro p hp; cases hp
  have A_check_roll : FnAt P w K mg base (cl60 P w CReader CRoll Pt) 2 "check_roll" sp_check_roll p_check_roll := W.d_check_roll.at bd_check_roll (fun f fd F => F_check_roll T rfl kn_check_roll F)
  have kn_law_take : ∀ p ∈ k_law_take, KnAt P w K mg base (cl60 P w CReader CRoll Pt) 0 (G60 cc) fk0 p := by intro p hp; cases hp
  have A_law_take : FnAt P w K mg base (cl60 P w CReader CRoll Pt) 2 "_law_take" takeSp p_law_take := W.d_law_take.at bd_law_take (fun f fd F => F_law_take T rfl kn_law_take F)
  have kn_law_pair : ∀ p ∈ k_law_pair, KnAt P w K mg base (cl60 P w CReader CRoll Pt) 0 (G60 cc) fk0 p := by intro p hp; cases hp
  have A_law_pair : FnAt P w K mg base (cl60 P w CReader CRoll Pt) 2 "_law_pair" sp_law_pair p_law_pair := W.d_law_pair.at bd_law_pair (fun f fd F => F_law_pair T rfl kn_law_pair F)
  have kn_law_text : ∀ p ∈ k_law_text, KnAt P w K mg base (cl60 P w CReader CRoll Pt) 0 (G60 cc) fk0 p := by intro p hp; cases hp
  have A_law_text : FnAt P w K mg base (cl60 P w CReader CRoll Pt) 2 "_law_text" sp_law_text p_law_text := W.d_law_text.at bd_law_text (fun f fd F => F_law_text T rfl kn_law_text F)
  have kn_law_cells : ∀ p ∈ k_law_cells, KnAt P w K mg base (cl60 P w CReader CRoll Pt) 0 (G60 cc) fk0 p := by intro p hp; cases hp
  have A_law_cells : FnAt P w K mg base (cl60 P w CReader CRoll Pt) 2 "_law_cells" sp_law_cells p_law_cells := W.d_law_cells.at bd_law_cells (fun f fd F => F_law_cells T rfl kn_law_cells F)
  have kn_law_pot : ∀ p ∈ k_law_pot, KnAt P w K mg base (cl60 P w CReader CRoll Pt) 0 (G60 cc) fk0 p := by intro p hp; cases hp
  have A_law_pot : FnAt P w K mg base (cl60 P w CReader CRoll Pt) 2 "_law_pot" sp_law_pot p_law_pot := W.d_law_pot.at bd_law_pot (fun f fd F => F_law_pot T rfl kn_law_pot F)
  have kn_is_between : ∀ p ∈ k_is_between, KnAt P w K mg base (cl60 P w CReader CRoll Pt) 2 (G60 cc) fk0 p := List.forall_mem_cons.mpr ⟨kn_fn A_is_integer (by decide) (look_at (i := 0) (by decide +kernel) rfl) (fun ps' h => by rw [look_no (by decide +kernel)] at h; cases h) (mt_none (by decide +kernel) (by decide +kernel)) (pr_none (by decide +kernel) (by decide +kernel)), by simp⟩
  have A_is_between : FnAt P w K mg base (cl60 P w CReader CRoll Pt) 4 "is_between" sp_is_between p_is_between := W.d_is_between.at bd_is_between (fun f fd F => F_is_between T rfl kn_is_between F)
  have kn_Reader_takes_guard : ∀ p ∈ k_Reader_takes_guard, KnAt P w K mg base (cl60 P w CReader CRoll Pt) 2 (G60 cc) fk0 p := List.forall_mem_cons.mpr ⟨kn_fn A_is_name (by decide) (look_at (i := 2) (by decide +kernel) rfl) (fun ps' h => by rw [look_no (by decide +kernel)] at h; cases h) (mt_none (by decide +kernel) (by decide +kernel)) (pr_none (by decide +kernel) (by decide +kernel)), by simp⟩
  have A_Reader_takes_guard : MtAt P w K mg base (cl60 P w CReader CRoll Pt) 4 "Reader" "takes_guard" sp_Reader_takes_guard := W.d_Reader_takes_guard.at cc_Reader W.cl_Reader bd_Reader_takes_guard (fun f fd F => F_Reader_takes_guard T rfl kn_Reader_takes_guard F)
  have kn_Reader_takes_bond : ∀ p ∈ k_Reader_takes_bond, KnAt P w K mg base (cl60 P w CReader CRoll Pt) 2 (G60 cc) fk0 p := List.forall_mem_cons.mpr ⟨kn_fn A_is_bond_of (by decide) (look_at (i := 3) (by decide +kernel) rfl) (fun ps' h => by rw [look_no (by decide +kernel)] at h; cases h) (mt_none (by decide +kernel) (by decide +kernel)) (pr_none (by decide +kernel) (by decide +kernel)), by simp⟩
  have A_Reader_takes_bond : MtAt P w K mg base (cl60 P w CReader CRoll Pt) 4 "Reader" "takes_bond" sp_Reader_takes_bond := W.d_Reader_takes_bond.at cc_Reader W.cl_Reader bd_Reader_takes_bond (fun f fd F => F_Reader_takes_bond T rfl kn_Reader_takes_bond F)
  have kn_check_guard : ∀ p ∈ k_check_guard, KnAt P w K mg base (cl60 P w CReader CRoll Pt) 2 (G60 cc) fk0 p := List.forall_mem_cons.mpr ⟨kn_pr A_Roll_guards (by decide) (pr_Roll.trans (look_at (i := 0) (by decide +kernel) rfl)) (by decide +kernel) (by decide +kernel) (mt_Roll.trans (look_no (by decide +kernel))), by simp⟩
  have A_check_guard : FnAt P w K mg base (cl60 P w CReader CRoll Pt) 4 "check_guard" sp_check_guard p_check_guard := W.d_check_guard.at bd_check_guard (fun f fd F => F_check_guard T rfl kn_check_guard F)
  have kn_price_by : ∀ p ∈ k_price_by, KnAt P w K mg base (cl60 P w CReader CRoll Pt) 2 (G60 cc) fk0 p := List.forall_mem_cons.mpr ⟨kn_pr A_Roll_pairs (by decide) (pr_Roll.trans (look_at (i := 2) (by decide +kernel) rfl)) (by decide +kernel) (by decide +kernel) (mt_Roll.trans (look_no (by decide +kernel))), by simp⟩
  have A_price_by : FnAt P w K mg base (cl60 P w CReader CRoll Pt) 4 "price_by" sp_price_by p_price_by := W.d_price_by.at bd_price_by (fun f fd F => F_price_by T rfl kn_price_by F)
  have kn_full_pairings : ∀ p ∈ k_full_pairings, KnAt P w K mg base (cl60 P w CReader CRoll Pt) 2 (G60 cc) fk0 p := List.forall_mem_cons.mpr ⟨kn_pr A_Roll_pairs (by decide) (pr_Roll.trans (look_at (i := 2) (by decide +kernel) rfl)) (by decide +kernel) (by decide +kernel) (mt_Roll.trans (look_no (by decide +kernel))), List.forall_mem_cons.mpr ⟨kn_pr A_Roll_guards (by decide) (pr_Roll.trans (look_at (i := 0) (by decide +kernel) rfl)) (by decide +kernel) (by decide +kernel) (mt_Roll.trans (look_no (by decide +kernel))), by simp⟩⟩
  have A_full_pairings : FnAt P w K mg base (cl60 P w CReader CRoll Pt) 4 "full_pairings" sp_full_pairings p_full_pairings := W.d_full_pairings.at bd_full_pairings (fun f fd F => F_full_pairings T rfl kn_full_pairings F)
  have kn_law_some : ∀ p ∈ k_law_some, KnAt P w K mg base (cl60 P w CReader CRoll Pt) 2 (G60 cc) fk0 p := List.forall_mem_cons.mpr ⟨kn_fn A_law_take (by decide) (look_at (i := 16) (by decide +kernel) rfl) (fun ps' h => by rw [look_no (by decide +kernel)] at h; cases h) (mt_none (by decide +kernel) (by decide +kernel)) (pr_none (by decide +kernel) (by decide +kernel)), by simp⟩
  have A_law_some : FnAt P w K mg base (cl60 P w CReader CRoll Pt) 4 "_law_some" someSp p_law_some := W.d_law_some.at bd_law_some (fun f fd F => F_law_some T rfl kn_law_some F)
  have kn_law_word : ∀ p ∈ k_law_word, KnAt P w K mg base (cl60 P w CReader CRoll Pt) 2 (G60 cc) fk0 p := List.forall_mem_cons.mpr ⟨kn_fn A_law_take (by decide) (look_at (i := 16) (by decide +kernel) rfl) (fun ps' h => by rw [look_no (by decide +kernel)] at h; cases h) (mt_none (by decide +kernel) (by decide +kernel)) (pr_none (by decide +kernel) (by decide +kernel)), by simp⟩
  have A_law_word : FnAt P w K mg base (cl60 P w CReader CRoll Pt) 4 "_law_word" sp_law_word p_law_word := W.d_law_word.at bd_law_word (fun f fd F => F_law_word T rfl kn_law_word F)
  have kn_law_of : ∀ p ∈ k_law_of, KnAt P w K mg base (cl60 P w CReader CRoll Pt) 2 (G60 cc) fk0 p := List.forall_mem_cons.mpr ⟨kn_fn A_law_take (by decide) (look_at (i := 16) (by decide +kernel) rfl) (fun ps' h => by rw [look_no (by decide +kernel)] at h; cases h) (mt_none (by decide +kernel) (by decide +kernel)) (pr_none (by decide +kernel) (by decide +kernel)), by simp⟩
  have A_law_of : FnAt P w K mg base (cl60 P w CReader CRoll Pt) 4 "_law_of" sp_law_of p_law_of := W.d_law_of.at bd_law_of (fun f fd F => F_law_of T rfl kn_law_of F)
  have kn_law_pairs : ∀ p ∈ k_law_pairs, KnAt P w K mg base (cl60 P w CReader CRoll Pt) 2 (G60 cc) fk0 p := List.forall_mem_cons.mpr ⟨kn_fn A_law_pair (by decide) (look_at (i := 21) (by decide +kernel) rfl) (fun ps' h => by rw [look_no (by decide +kernel)] at h; cases h) (mt_none (by decide +kernel) (by decide +kernel)) (pr_none (by decide +kernel) (by decide +kernel)), by simp⟩
  have A_law_pairs : FnAt P w K mg base (cl60 P w CReader CRoll Pt) 4 "_law_pairs" sp_law_pairs p_law_pairs := W.d_law_pairs.at bd_law_pairs (fun f fd F => F_law_pairs T rfl kn_law_pairs F)
  have kn_Reader_takes : ∀ p ∈ k_Reader_takes, KnAt P w K mg base (cl60 P w CReader CRoll Pt) 4 (G60 cc) fk0 p := List.forall_mem_cons.mpr ⟨kn_mt A_Reader_takes_bond (by decide) (mt_Reader.trans (look_at (i := 2) (by decide +kernel) rfl)) (by decide +kernel) (by decide +kernel) (pr_Reader.trans (look_no (by decide +kernel))), List.forall_mem_cons.mpr ⟨kn_mt A_Reader_takes_guard (by decide) (mt_Reader.trans (look_at (i := 1) (by decide +kernel) rfl)) (by decide +kernel) (by decide +kernel) (pr_Reader.trans (look_no (by decide +kernel))), by simp⟩⟩
  have A_Reader_takes : MtAt P w K mg base (cl60 P w CReader CRoll Pt) 6 "Reader" "takes" sp_Reader_takes := W.d_Reader_takes.at cc_Reader W.cl_Reader bd_Reader_takes (fun f fd F => F_Reader_takes T rfl kn_Reader_takes F)
  have kn_are_prices_of : ∀ p ∈ k_are_prices_of, KnAt P w K mg base (cl60 P w CReader CRoll Pt) 4 (G60 cc) fk0 p := List.forall_mem_cons.mpr ⟨kn_fn A_is_between (by decide) (look_at (i := 1) (by decide +kernel) rfl) (fun ps' h => by rw [look_no (by decide +kernel)] at h; cases h) (mt_none (by decide +kernel) (by decide +kernel)) (pr_none (by decide +kernel) (by decide +kernel)), List.forall_mem_cons.mpr ⟨kn_pr A_Roll_pairs (by decide) (pr_Roll.trans (look_at (i := 2) (by decide +kernel) rfl)) (by decide +kernel) (by decide +kernel) (mt_Roll.trans (look_no (by decide +kernel))), by simp⟩⟩
  have A_are_prices_of : FnAt P w K mg base (cl60 P w CReader CRoll Pt) 6 "are_prices_of" sp_are_prices_of p_are_prices_of := W.d_are_prices_of.at bd_are_prices_of (fun f fd F => F_are_prices_of T rfl kn_are_prices_of F)
  have kn_cost_of : ∀ p ∈ k_cost_of, KnAt P w K mg base (cl60 P w CReader CRoll Pt) 4 (G60 cc) fk0 p := List.forall_mem_cons.mpr ⟨kn_fn A_price_by (by decide) (look_at (i := 9) (by decide +kernel) rfl) (fun ps' h => by rw [look_no (by decide +kernel)] at h; cases h) (mt_none (by decide +kernel) (by decide +kernel)) (pr_none (by decide +kernel) (by decide +kernel)), by simp⟩
  have A_cost_of : FnAt P w K mg base (cl60 P w CReader CRoll Pt) 6 "cost_of" sp_cost_of p_cost_of := W.d_cost_of.at bd_cost_of (fun f fd F => F_cost_of T rfl kn_cost_of F)
  have kn_law_roll : ∀ p ∈ k_law_roll, KnAt P w K mg base (cl60 P w CReader CRoll Pt) 4 (G60 cc) fk0 p := List.forall_mem_cons.mpr ⟨kn_fn A_law_some (by decide) (look_at (i := 17) (by decide +kernel) rfl) (fun ps' h => by rw [look_no (by decide +kernel)] at h; cases h) (mt_none (by decide +kernel) (by decide +kernel)) (pr_none (by decide +kernel) (by decide +kernel)), List.forall_mem_cons.mpr ⟨kn_fn A_law_take (by decide) (look_at (i := 16) (by decide +kernel) rfl) (fun ps' h => by rw [look_no (by decide +kernel)] at h; cases h) (mt_none (by decide +kernel) (by decide +kernel)) (pr_none (by decide +kernel) (by decide +kernel)), List.forall_mem_cons.mpr ⟨kn_fn A_law_word (by decide) (look_at (i := 18) (by decide +kernel) rfl) (fun ps' h => by rw [look_no (by decide +kernel)] at h; cases h) (mt_none (by decide +kernel) (by decide +kernel)) (pr_none (by decide +kernel) (by decide +kernel)), by simp⟩⟩⟩
  have A_law_roll : FnAt P w K mg base (cl60 P w CReader CRoll Pt) 6 "_law_roll" sp_law_roll p_law_roll := W.d_law_roll.at bd_law_roll (fun f fd F => F_law_roll T rfl kn_law_roll F)
  have kn_law_price : ∀ p ∈ k_law_price, KnAt P w K mg base (cl60 P w CReader CRoll Pt) 4 (G60 cc) fk0 p := List.forall_mem_cons.mpr ⟨kn_fn A_law_pairs (by decide) (look_at (i := 22) (by decide +kernel) rfl) (fun ps' h => by rw [look_no (by decide +kernel)] at h; cases h) (mt_none (by decide +kernel) (by decide +kernel)) (pr_none (by decide +kernel) (by decide +kernel)), by simp⟩
  have A_law_price : FnAt P w K mg base (cl60 P w CReader CRoll Pt) 6 "_law_price" sp_law_price p_law_price := W.d_law_price.at bd_law_price (fun f fd F => F_law_price T rfl kn_law_price F)
  have kn_law_prices : ∀ p ∈ k_law_prices, KnAt P w K mg base (cl60 P w CReader CRoll Pt) 4 (G60 cc) fk0 p := List.forall_mem_cons.mpr ⟨kn_fn A_law_take (by decide) (look_at (i := 16) (by decide +kernel) rfl) (fun ps' h => by rw [look_no (by decide +kernel)] at h; cases h) (mt_none (by decide +kernel) (by decide +kernel)) (pr_none (by decide +kernel) (by decide +kernel)), List.forall_mem_cons.mpr ⟨kn_fn A_law_of (by decide) (look_at (i := 20) (by decide +kernel) rfl) (fun ps' h => by rw [look_no (by decide +kernel)] at h; cases h) (mt_none (by decide +kernel) (by decide +kernel)) (pr_none (by decide +kernel) (by decide +kernel)), by simp⟩⟩
  have A_law_prices : FnAt P w K mg base (cl60 P w CReader CRoll Pt) 6 "_law_prices" sp_law_prices p_law_prices := W.d_law_prices.at bd_law_prices (fun f fd F => F_law_prices T rfl kn_law_prices F)
  have kn_law_full : ∀ p ∈ k_law_full, KnAt P w K mg base (cl60 P w CReader CRoll Pt) 4 (G60 cc) fk0 p := List.forall_mem_cons.mpr ⟨kn_fn A_law_pairs (by decide) (look_at (i := 22) (by decide +kernel) rfl) (fun ps' h => by rw [look_no (by decide +kernel)] at h; cases h) (mt_none (by decide +kernel) (by decide +kernel)) (pr_none (by decide +kernel) (by decide +kernel)), by simp⟩
  have A_law_full : FnAt P w K mg base (cl60 P w CReader CRoll Pt) 6 "_law_full" sp_law_full p_law_full := W.d_law_full.at bd_law_full (fun f fd F => F_law_full T rfl kn_law_full F)
  have kn_Roll_init : ∀ p ∈ k_Roll_init, KnAt P w K mg base (cl60 P w CReader CRoll Pt) 6 (G60 cc) fk0 p := List.forall_mem_cons.mpr ⟨kn_fn A_pair_of (by decide) (look_at (i := 4) (by decide +kernel) rfl) (fun ps' h => by rw [look_no (by decide +kernel)] at h; cases h) (mt_none (by decide +kernel) (by decide +kernel)) (pr_none (by decide +kernel) (by decide +kernel)), List.forall_mem_cons.mpr ⟨kn_pr A_Reader_found (by decide) (pr_Reader.trans (look_at (i := 0) (by decide +kernel) rfl)) (by decide +kernel) (by decide +kernel) (mt_Reader.trans (look_no (by decide +kernel))), List.forall_mem_cons.mpr ⟨kn_mt A_Reader_takes (by decide) (mt_Reader.trans (look_at (i := 0) (by decide +kernel) rfl)) (by decide +kernel) (by decide +kernel) (pr_Reader.trans (look_no (by decide +kernel))), List.forall_mem_cons.mpr ⟨kn_mk A_Reader_init (by decide) (look_at (i := 0) (by decide +kernel) rfl) (mt_none (by decide +kernel) (by decide +kernel)) (pr_none (by decide +kernel) (by decide +kernel)), by simp⟩⟩⟩⟩
  have A_Roll_init : MkAt P w K mg base (cl60 P w CReader CRoll Pt) 8 "Roll" sp_Roll_init := W.d_Roll_init.mkAt cc_Roll W.mg_Roll W.mk_Roll W.kp_Roll bd_Roll_init (fun f fd F => F_Roll_init T rfl kn_Roll_init F)
  have kn_check_prices : ∀ p ∈ k_check_prices, KnAt P w K mg base (cl60 P w CReader CRoll Pt) 6 (G60 cc) fk0 p := List.forall_mem_cons.mpr ⟨kn_fn A_are_prices_of (by decide) (look_at (i := 7) (by decide +kernel) rfl) (fun ps' h => by rw [look_no (by decide +kernel)] at h; cases h) (mt_none (by decide +kernel) (by decide +kernel)) (pr_none (by decide +kernel) (by decide +kernel)), List.forall_mem_cons.mpr ⟨kn_pr A_Roll_guards (by decide) (pr_Roll.trans (look_at (i := 0) (by decide +kernel) rfl)) (by decide +kernel) (by decide +kernel) (mt_Roll.trans (look_no (by decide +kernel))), List.forall_mem_cons.mpr ⟨kn_fn A_check_roll (by decide) (look_at (i := 5) (by decide +kernel) rfl) (fun ps' h => by rw [look_no (by decide +kernel)] at h; cases h) (mt_none (by decide +kernel) (by decide +kernel)) (pr_none (by decide +kernel) (by decide +kernel)), by simp⟩⟩⟩
  have A_check_prices : FnAt P w K mg base (cl60 P w CReader CRoll Pt) 8 "check_prices" sp_check_prices p_check_prices := W.d_check_prices.at bd_check_prices (fun f fd F => F_check_prices T rfl kn_check_prices F)
  have kn_costs_of : ∀ p ∈ k_costs_of, KnAt P w K mg base (cl60 P w CReader CRoll Pt) 6 (G60 cc) fk0 p := List.forall_mem_cons.mpr ⟨kn_fn A_cost_of (by decide) (look_at (i := 10) (by decide +kernel) rfl) (fun ps' h => by rw [look_no (by decide +kernel)] at h; cases h) (mt_none (by decide +kernel) (by decide +kernel)) (pr_none (by decide +kernel) (by decide +kernel)), List.forall_mem_cons.mpr ⟨kn_fn A_full_pairings (by decide) (look_at (i := 11) (by decide +kernel) rfl) (fun ps' h => by rw [look_no (by decide +kernel)] at h; cases h) (mt_none (by decide +kernel) (by decide +kernel)) (pr_none (by decide +kernel) (by decide +kernel)), by simp⟩⟩
  have A_costs_of : FnAt P w K mg base (cl60 P w CReader CRoll Pt) 8 "costs_of" sp_costs_of p_costs_of := W.d_costs_of.at bd_costs_of (fun f fd F => F_costs_of T rfl kn_costs_of F)
  have kn_law_cost : ∀ p ∈ k_law_cost, KnAt P w K mg base (cl60 P w CReader CRoll Pt) 6 (G60 cc) fk0 p := List.forall_mem_cons.mpr ⟨kn_fn A_law_price (by decide) (look_at (i := 23) (by decide +kernel) rfl) (fun ps' h => by rw [look_no (by decide +kernel)] at h; cases h) (mt_none (by decide +kernel) (by decide +kernel)) (pr_none (by decide +kernel) (by decide +kernel)), by simp⟩
  have A_law_cost : FnAt P w K mg base (cl60 P w CReader CRoll Pt) 8 "_law_cost" sp_law_cost p_law_cost := W.d_law_cost.at bd_law_cost (fun f fd F => F_law_cost T rfl kn_law_cost F)
  have kn_law_whole_roll : ∀ p ∈ k_law_whole_roll, KnAt P w K mg base (cl60 P w CReader CRoll Pt) 6 (G60 cc) fk0 p := List.forall_mem_cons.mpr ⟨kn_fn A_law_some (by decide) (look_at (i := 17) (by decide +kernel) rfl) (fun ps' h => by rw [look_no (by decide +kernel)] at h; cases h) (mt_none (by decide +kernel) (by decide +kernel)) (pr_none (by decide +kernel) (by decide +kernel)), List.forall_mem_cons.mpr ⟨kn_fn A_law_roll (by decide) (look_at (i := 19) (by decide +kernel) rfl) (fun ps' h => by rw [look_no (by decide +kernel)] at h; cases h) (mt_none (by decide +kernel) (by decide +kernel)) (pr_none (by decide +kernel) (by decide +kernel)), List.forall_mem_cons.mpr ⟨kn_fn A_law_of (by decide) (look_at (i := 20) (by decide +kernel) rfl) (fun ps' h => by rw [look_no (by decide +kernel)] at h; cases h) (mt_none (by decide +kernel) (by decide +kernel)) (pr_none (by decide +kernel) (by decide +kernel)), by simp⟩⟩⟩
  have A_law_whole_roll : FnAt P w K mg base (cl60 P w CReader CRoll Pt) 8 "_law_whole_roll" sp_law_whole_roll p_law_whole_roll := W.d_law_whole_roll.at bd_law_whole_roll (fun f fd F => F_law_whole_roll T rfl kn_law_whole_roll F)
  have kn_check_full : ∀ p ∈ k_check_full, KnAt P w K mg base (cl60 P w CReader CRoll Pt) 8 (G60 cc) fk0 p := List.forall_mem_cons.mpr ⟨kn_fn A_full_pairings (by decide) (look_at (i := 11) (by decide +kernel) rfl) (fun ps' h => by rw [look_no (by decide +kernel)] at h; cases h) (mt_none (by decide +kernel) (by decide +kernel)) (pr_none (by decide +kernel) (by decide +kernel)), List.forall_mem_cons.mpr ⟨kn_fn A_check_prices (by decide) (look_at (i := 8) (by decide +kernel) rfl) (fun ps' h => by rw [look_no (by decide +kernel)] at h; cases h) (mt_none (by decide +kernel) (by decide +kernel)) (pr_none (by decide +kernel) (by decide +kernel)), by simp⟩⟩
  have A_check_full : FnAt P w K mg base (cl60 P w CReader CRoll Pt) 10 "check_full" sp_check_full p_check_full := W.d_check_full.at bd_check_full (fun f fd F => F_check_full T rfl kn_check_full F)
  have kn_law_words : ∀ p ∈ k_law_words, KnAt P w K mg base (cl60 P w CReader CRoll Pt) 8 (G60 cc) fk0 p := List.forall_mem_cons.mpr ⟨kn_fn A_law_pairs (by decide) (look_at (i := 22) (by decide +kernel) rfl) (fun ps' h => by rw [look_no (by decide +kernel)] at h; cases h) (mt_none (by decide +kernel) (by decide +kernel)) (pr_none (by decide +kernel) (by decide +kernel)), List.forall_mem_cons.mpr ⟨kn_fn A_law_cost (by decide) (look_at (i := 24) (by decide +kernel) rfl) (fun ps' h => by rw [look_no (by decide +kernel)] at h; cases h) (mt_none (by decide +kernel) (by decide +kernel)) (pr_none (by decide +kernel) (by decide +kernel)), by simp⟩⟩
  have A_law_words : FnAt P w K mg base (cl60 P w CReader CRoll Pt) 10 "_law_words" sp_law_words p_law_words := W.d_law_words.at bd_law_words (fun f fd F => F_law_words T rfl kn_law_words F)
  have kn_fates : ∀ p ∈ k_fates, KnAt P w K mg base (cl60 P w CReader CRoll Pt) 10 (G60 cc) fk0 p := List.forall_mem_cons.mpr ⟨kn_pr A_Roll_pairs (by decide) (pr_Roll.trans (look_at (i := 2) (by decide +kernel) rfl)) (by decide +kernel) (by decide +kernel) (mt_Roll.trans (look_no (by decide +kernel))), List.forall_mem_cons.mpr ⟨kn_fn A_costs_of (by decide) (look_at (i := 12) (by decide +kernel) rfl) (fun ps' h => by rw [look_no (by decide +kernel)] at h; cases h) (mt_none (by decide +kernel) (by decide +kernel)) (pr_none (by decide +kernel) (by decide +kernel)), List.forall_mem_cons.mpr ⟨kn_fn A_check_full (by decide) (look_at (i := 13) (by decide +kernel) rfl) (fun ps' h => by rw [look_no (by decide +kernel)] at h; cases h) (mt_none (by decide +kernel) (by decide +kernel)) (pr_none (by decide +kernel) (by decide +kernel)), by simp⟩⟩⟩
  have A_fates : FnAt P w K mg base (cl60 P w CReader CRoll Pt) 12 "fates" sp_fates p_fates := W.d_fates.at bd_fates (fun f fd F => F_fates T rfl kn_fates F)
  have kn_may_cost : ∀ p ∈ k_may_cost, KnAt P w K mg base (cl60 P w CReader CRoll Pt) 10 (G60 cc) fk0 p := List.forall_mem_cons.mpr ⟨kn_fn A_price_by (by decide) (look_at (i := 9) (by decide +kernel) rfl) (fun ps' h => by rw [look_no (by decide +kernel)] at h; cases h) (mt_none (by decide +kernel) (by decide +kernel)) (pr_none (by decide +kernel) (by decide +kernel)), List.forall_mem_cons.mpr ⟨kn_fn A_costs_of (by decide) (look_at (i := 12) (by decide +kernel) rfl) (fun ps' h => by rw [look_no (by decide +kernel)] at h; cases h) (mt_none (by decide +kernel) (by decide +kernel)) (pr_none (by decide +kernel) (by decide +kernel)), List.forall_mem_cons.mpr ⟨kn_fn A_pair_of (by decide) (look_at (i := 4) (by decide +kernel) rfl) (fun ps' h => by rw [look_no (by decide +kernel)] at h; cases h) (mt_none (by decide +kernel) (by decide +kernel)) (pr_none (by decide +kernel) (by decide +kernel)), List.forall_mem_cons.mpr ⟨kn_pr A_Roll_guards (by decide) (pr_Roll.trans (look_at (i := 0) (by decide +kernel) rfl)) (by decide +kernel) (by decide +kernel) (mt_Roll.trans (look_no (by decide +kernel))), List.forall_mem_cons.mpr ⟨kn_pr A_Roll_pairs (by decide) (pr_Roll.trans (look_at (i := 2) (by decide +kernel) rfl)) (by decide +kernel) (by decide +kernel) (mt_Roll.trans (look_no (by decide +kernel))), List.forall_mem_cons.mpr ⟨kn_fn A_check_guard (by decide) (look_at (i := 6) (by decide +kernel) rfl) (fun ps' h => by rw [look_no (by decide +kernel)] at h; cases h) (mt_none (by decide +kernel) (by decide +kernel)) (pr_none (by decide +kernel) (by decide +kernel)), List.forall_mem_cons.mpr ⟨kn_fn A_check_full (by decide) (look_at (i := 13) (by decide +kernel) rfl) (fun ps' h => by rw [look_no (by decide +kernel)] at h; cases h) (mt_none (by decide +kernel) (by decide +kernel)) (pr_none (by decide +kernel) (by decide +kernel)), by simp⟩⟩⟩⟩⟩⟩⟩
  have A_may_cost : FnAt P w K mg base (cl60 P w CReader CRoll Pt) 12 "may_cost" sp_may_cost p_may_cost := W.d_may_cost.at bd_may_cost (fun f fd F => F_may_cost T rfl kn_may_cost F)
  have kn_law_is_pair_right : ∀ p ∈ k_law_is_pair_right, KnAt P w K mg base (cl60 P w CReader CRoll Pt) 12 (G60 cc) fk0 p := List.forall_mem_cons.mpr ⟨kn_fn A_fates (by decide) (look_at (i := 14) (by decide +kernel) rfl) (fun ps' h => by rw [look_at (i := 0) (by decide +kernel) rfl] at h; cases h; rfl) (mt_none (by decide +kernel) (by decide +kernel)) (pr_none (by decide +kernel) (by decide +kernel)), List.forall_mem_cons.mpr ⟨kn_fn A_may_cost (by decide) (look_at (i := 15) (by decide +kernel) rfl) (fun ps' h => by rw [look_at (i := 1) (by decide +kernel) rfl] at h; cases h; rfl) (mt_none (by decide +kernel) (by decide +kernel)) (pr_none (by decide +kernel) (by decide +kernel)), List.forall_mem_cons.mpr ⟨kn_fn A_law_cost (by decide) (look_at (i := 24) (by decide +kernel) rfl) (fun ps' h => by rw [look_no (by decide +kernel)] at h; cases h) (mt_none (by decide +kernel) (by decide +kernel)) (pr_none (by decide +kernel) (by decide +kernel)), List.forall_mem_cons.mpr ⟨kn_fn A_law_pairs (by decide) (look_at (i := 22) (by decide +kernel) rfl) (fun ps' h => by rw [look_no (by decide +kernel)] at h; cases h) (mt_none (by decide +kernel) (by decide +kernel)) (pr_none (by decide +kernel) (by decide +kernel)), by simp⟩⟩⟩⟩
  have A_law_is_pair_right : FnAt P w K mg base (cl60 P w CReader CRoll Pt) 14 "_law_is_pair_right" sp_law_is_pair_right p_law_is_pair_right := W.d_law_is_pair_right.at bd_law_is_pair_right (fun f fd F => F_law_is_pair_right T rfl kn_law_is_pair_right F)
  have kn_law_right : ∀ p ∈ k_law_right, KnAt P w K mg base (cl60 P w CReader CRoll Pt) 14 (G60 cc) fk0 p := List.forall_mem_cons.mpr ⟨kn_fn A_law_is_pair_right (by decide) (look_at (i := 32) (by decide +kernel) rfl) (fun ps' h => by rw [look_no (by decide +kernel)] at h; cases h) (mt_none (by decide +kernel) (by decide +kernel)) (pr_none (by decide +kernel) (by decide +kernel)), List.forall_mem_cons.mpr ⟨kn_fn A_law_some (by decide) (look_at (i := 17) (by decide +kernel) rfl) (fun ps' h => by rw [look_no (by decide +kernel)] at h; cases h) (mt_none (by decide +kernel) (by decide +kernel)) (pr_none (by decide +kernel) (by decide +kernel)), List.forall_mem_cons.mpr ⟨kn_fn A_fates (by decide) (look_at (i := 14) (by decide +kernel) rfl) (fun ps' h => by rw [look_at (i := 0) (by decide +kernel) rfl] at h; cases h; rfl) (mt_none (by decide +kernel) (by decide +kernel)) (pr_none (by decide +kernel) (by decide +kernel)), List.forall_mem_cons.mpr ⟨kn_fn A_law_words (by decide) (look_at (i := 31) (by decide +kernel) rfl) (fun ps' h => by rw [look_no (by decide +kernel)] at h; cases h) (mt_none (by decide +kernel) (by decide +kernel)) (pr_none (by decide +kernel) (by decide +kernel)), List.forall_mem_cons.mpr ⟨kn_fn A_law_full (by decide) (look_at (i := 27) (by decide +kernel) rfl) (fun ps' h => by rw [look_no (by decide +kernel)] at h; cases h) (mt_none (by decide +kernel) (by decide +kernel)) (pr_none (by decide +kernel) (by decide +kernel)), List.forall_mem_cons.mpr ⟨kn_fn A_law_prices (by decide) (look_at (i := 26) (by decide +kernel) rfl) (fun ps' h => by rw [look_no (by decide +kernel)] at h; cases h) (mt_none (by decide +kernel) (by decide +kernel)) (pr_none (by decide +kernel) (by decide +kernel)), List.forall_mem_cons.mpr ⟨kn_mk A_Roll_init (by decide) (look_at (i := 1) (by decide +kernel) rfl) (mt_none (by decide +kernel) (by decide +kernel)) (pr_none (by decide +kernel) (by decide +kernel)), List.forall_mem_cons.mpr ⟨kn_fn A_law_text (by decide) (look_at (i := 25) (by decide +kernel) rfl) (fun ps' h => by rw [look_no (by decide +kernel)] at h; cases h) (mt_none (by decide +kernel) (by decide +kernel)) (pr_none (by decide +kernel) (by decide +kernel)), List.forall_mem_cons.mpr ⟨kn_fn A_law_whole_roll (by decide) (look_at (i := 30) (by decide +kernel) rfl) (fun ps' h => by rw [look_no (by decide +kernel)] at h; cases h) (mt_none (by decide +kernel) (by decide +kernel)) (pr_none (by decide +kernel) (by decide +kernel)), List.forall_mem_cons.mpr ⟨kn_fn A_law_take (by decide) (look_at (i := 16) (by decide +kernel) rfl) (fun ps' h => by rw [look_no (by decide +kernel)] at h; cases h) (mt_none (by decide +kernel) (by decide +kernel)) (pr_none (by decide +kernel) (by decide +kernel)), by simp⟩⟩⟩⟩⟩⟩⟩⟩⟩⟩
  have A_law_right : FnAt P w K mg base (cl60 P w CReader CRoll Pt) 16 "_law_right" sp_law_right p_law_right := W.d_law_right.at bd_law_right (fun f fd F => F_law_right T rfl kn_law_right F)
  have kn_law : ∀ p ∈ k_law, KnAt P w K mg base (cl60 P w CReader CRoll Pt) 16 (G60 cc) fk0 p := List.forall_mem_cons.mpr ⟨kn_fn A_law_cells (by decide) (look_at (i := 28) (by decide +kernel) rfl) (fun ps' h => by rw [look_no (by decide +kernel)] at h; cases h) (mt_none (by decide +kernel) (by decide +kernel)) (pr_none (by decide +kernel) (by decide +kernel)), List.forall_mem_cons.mpr ⟨kn_fn A_law_right (by decide) (look_at (i := 33) (by decide +kernel) rfl) (fun ps' h => by rw [look_no (by decide +kernel)] at h; cases h) (mt_none (by decide +kernel) (by decide +kernel)) (pr_none (by decide +kernel) (by decide +kernel)), List.forall_mem_cons.mpr ⟨kn_fn A_law_pot (by decide) (look_at (i := 29) (by decide +kernel) rfl) (fun ps' h => by rw [look_no (by decide +kernel)] at h; cases h) (mt_none (by decide +kernel) (by decide +kernel)) (pr_none (by decide +kernel) (by decide +kernel)), by simp⟩⟩⟩
  exact F_law T rfl kn_law hF
theorem end60 {l : PySem.W.OpenLaw} {h : Heap} {fa : Addr} (hfa : mg "law" = some (.ref fa)) (W : Wr K mg CReader CRoll c Pt) (kl : noLists K = true) (hP : h.get? Pt = some { cls := .none, data := .fields #[] }) (nP : K.lookup Pt = none) (hc : PySem.W.CodeHd h c Pt) : LawAtD l w K 18 63 "script" mg fa h := by
  obtain ⟨f, oc, od, kV, doc, pm, an, cdv, ct, osl, a, lk, cd, kp⟩ := W.d_law.ex
  obtain rfl : f = fa := by rw [a] at hfa; cases hfa; rfl
  refine ⟨_, [(c, Pt)], cl60 l.prog w CReader CRoll Pt, sp_law, kl, ?_, ?_, ?_, ?_, ?_, fun ns h1 h2 Q q => ⟨ns, rfl, h1, h2, q⟩, fun base _ _ TB => all60 W (TB (c, Pt) (by simp)) ⟨oc, od, .none, kV, doc, pm, an, cdv, ct, osl, rfl, lk, cd⟩⟩
  · intro p hp; rw [List.mem_singleton.mp hp]; exact hP
  · intro p hp; rw [List.mem_singleton.mp hp]; exact nP
  · intro p hp; rw [List.mem_singleton.mp hp]; exact hc
  · intro p hp
    simp [cl60] at hp
    rw [hp]
    simp
  · intro s u
    exact bd_law [] kV doc pm cdv ct an s [u] [] [] (fun a o e => by cases e) rfl rfl
end
end
end Dz60
/-! Dz36: what the head has shown, as what stands around; the law's walk. -/
namespace Dz
open PySem PySem.Spec PyProof.Rows L2

section
variable {K : PySem.W.Frag} {h : Heap} {mg : Str → Option Value} {x c m qual : Str} {st : Stmt}
theorem fn_of (X : K.In h) (G : h.Ns mainGlobals mg) (e : fnV K ((At.fn x).ad K) = (DefM.mk (.fn x) x x st).val) (k : (DefM.mk (.fn x) x x st).ok K = true) : FnK K mg x st := by
  unfold DefM.ok at k
  simp only [Bool.and_eq_true] at k
  obtain ⟨k0, ⟨⟨k1, k2⟩, k3⟩, k4⟩ := k
  obtain ⟨oc, od, osl, kV, doc, pm, an, cdv, ct, lk, cd⟩ := cod_of (d := DefM.mk (.fn x) x x st) e k0
  exact fnK_of X G (refB_ok k1) lk cd k2
theorem mt_of (e : fnV K ((At.me c m).ad K) = (DefM.mk (.me c m) m qual st).val) (k : (DefM.mk (.me c m) m qual st).ok K = true) : MtK K (He.ga K c) m qual st := by
  unfold DefM.ok at k
  simp only [Bool.and_eq_true] at k
  obtain ⟨k0, ⟨⟨k1, k2⟩, k3⟩, k4⟩ := k
  obtain ⟨oc, od, osl, kV, doc, pm, an, cdv, ct, lk, cd⟩ := cod_of (d := DefM.mk (.me c m) m qual st) e k0
  exact mtK_of (refB_ok k1) k2 lk cd k3
theorem pr_of (e : fnV K ((At.pr c m).ad K) = (DefM.mk (.pr c m) m qual st).val) (k : (DefM.mk (.pr c m) m qual st).ok K = true) : PrK K (He.ga K c) m qual st := by
  unfold DefM.ok at k
  simp only [Bool.and_eq_true] at k
  obtain ⟨k0, ⟨⟨⟨k1, k2⟩, k3⟩, k4⟩, k5⟩ := k
  obtain ⟨oc, od, osl, kV, doc, pm, an, cdv, ct, lk, cd⟩ := cod_of (d := DefM.mk (.pr c m) m qual st) e k0
  obtain ⟨rest, hr⟩ : ∃ rest, PySem.W.recIn K (He.ma K (He.ga K c) m) "property" = some (.ref (prA K c m) :: rest) := by
    split at k4
    · rename_i f r hr
      rw [hr, beq_iff_eq.mp k4]
      exact ⟨_, rfl⟩
    · cases k4
  exact prK_of (refB_ok k1) (He.eqO_ok k2) (of_decide_eq_true k3) hr lk cd
end
theorem ins_of {K : PySem.W.Frag} {x : Str} (cl : Cls K (He.ga K x)) (h : (Fc.ins x).ok K = true) : C8.InsC K (He.ga K x) := by
  have h' := h
  unfold Fc.ok at h'
  simp only [Bool.and_eq_true, decide_eq_true_eq] at h'
  obtain ⟨⟨⟨⟨h1, h2⟩, h3⟩, h4⟩, h5⟩ := h'
  exact ⟨cl, He.eqO_ok h1, He.eqO_ok h2, h3, h4, h5⟩
theorem fnc_of {K : PySem.W.Frag} {h : Heap} {mg : Str → Option Value} {x : Str} {st : Stmt} (X : K.In h) (G : h.Ns mainGlobals mg) (e : fnV K ((At.fn x).ad K) = (DefM.mk (.fn x) x x st).val) (k : (DefM.mk (.fn x) x x st).ok K = true) (c : isCo K x = true) : FnKc K mg x st (coA K x) := by
  unfold DefM.ok at k
  simp only [Bool.and_eq_true] at k
  obtain ⟨k0, ⟨⟨k1, k2⟩, k3⟩, k4⟩ := k
  obtain ⟨oc, od, osl, kV, doc, pm, an, cdv, ct, lk, cd⟩ := cod_of (d := DefM.mk (.fn x) x x st) e k0
  have lk' : K.lookup (He.ga K x) = _ := lk
  have e2 : cdv = .ref (coA K x) := by
    unfold isCo at c
    unfold coA
    rw [lk'] at c ⊢
    dsimp only [PySem.W.fnOf] at c ⊢
    cases cdv with
    | ref a => rfl
    | _ => cases c
  rw [e2] at lk cd
  exact fnKc_of X G (refB_ok k1) lk cd k2
theorem walk_DE {l : PySem.W.OpenLaw} {n k : Nat} {q : Program} {loose : List Str} {XP : (Str → Option Value) → Heap → Prop} {YP : World → Heap → Prop} {d : DefRec} {x : Str}
    (hn : l.most = some n) (hn2 : n ≤ sizeLine) (hdf : d.params.defaults = []) (hr : Room k callerA)
    (F : ∀ (w : World) (mg : Str → Option Value) (fa : Addr) (h : Heap), YP w h → h.Ns mainGlobals mg → mg d.name = some (.ref fa) → ∃ K : PySem.W.Frag, K.In h ∧ LawAtD l w K k n x mg fa h) :
    PySem.W.WalkO q loose XP YP l.row.toRowW d [] (fun f vs => PySem.call f vs) := by
  refine Att.attach_callB hn hdf fun w s₀ s₁ mg mb fa o pm cd doc a vs ns G Y ho hd hcd hmg hobj hints hlen hbits hg => ?_
  obtain ⟨K, KX, fd, cs, cl, sp, kl, hT, nT, C, hct, hb, hsp, hF⟩ := F w mg fa _ Y G.T.g hmg
  exact law_callD KX kl G.T.g G.T.b G.T.builtins G.T.nolimit hg hT nT C G.T.bmain hobj hints (Nat.le_trans hlen hn2) hr hct hF hb (hsp ns hlen hbits)
end Dz
/-! k60: the end (printed by asm.py). -/
namespace Dz60
open PySem PySem.Spec PyProof.Rows L2 Dz
section
variable {K : PySem.W.Frag} {h : Heap} {mg : Str → Option Value}
theorem wr (X : K.In h) (G : h.Ns mainGlobals mg) (c : SaysM h K fc fn ["pair_of"]) : Wr K mg (He.ga K "Reader") (He.ga K "Roll") (coA K "pair_of") (tbA K "pair_of") := by
  have f0 := c.fn (DefM.mk (.fn "is_integer") "is_integer" "is_integer" t_is_integer) (List.mem_of_getElem? (i := 0) rfl)
  have f1 := c.fn (DefM.mk (.fn "is_between") "is_between" "is_between" t_is_between) (List.mem_of_getElem? (i := 1) rfl)
  have f2 := c.fn (DefM.mk (.fn "is_name") "is_name" "is_name" t_is_name) (List.mem_of_getElem? (i := 2) rfl)
  have f3 := c.fn (DefM.mk (.me "Reader" "__init__") "__init__" "Reader.__init__" t_Reader_init) (List.mem_of_getElem? (i := 3) rfl)
  have f4 := c.fn (DefM.mk (.me "Reader" "takes") "takes" "Reader.takes" t_Reader_takes) (List.mem_of_getElem? (i := 4) rfl)
  have f5 := c.fn (DefM.mk (.me "Reader" "takes_guard") "takes_guard" "Reader.takes_guard" t_Reader_takes_guard) (List.mem_of_getElem? (i := 5) rfl)
  have f6 := c.fn (DefM.mk (.me "Reader" "takes_bond") "takes_bond" "Reader.takes_bond" t_Reader_takes_bond) (List.mem_of_getElem? (i := 6) rfl)
  have f7 := c.fn (DefM.mk (.pr "Reader" "found") "found" "Reader.found" t_Reader_found) (List.mem_of_getElem? (i := 7) rfl)
  have f8 := c.fn (DefM.mk (.fn "is_bond_of") "is_bond_of" "is_bond_of" t_is_bond_of) (List.mem_of_getElem? (i := 8) rfl)
  have f9 := c.fn (DefM.mk (.me "Roll" "__init__") "__init__" "Roll.__init__" t_Roll_init) (List.mem_of_getElem? (i := 9) rfl)
  have f10 := c.fn (DefM.mk (.pr "Roll" "guards") "guards" "Roll.guards" t_Roll_guards) (List.mem_of_getElem? (i := 10) rfl)
  have f11 := c.fn (DefM.mk (.pr "Roll" "bonds") "bonds" "Roll.bonds" t_Roll_bonds) (List.mem_of_getElem? (i := 11) rfl)
  have f12 := c.fn (DefM.mk (.pr "Roll" "pairs") "pairs" "Roll.pairs" t_Roll_pairs) (List.mem_of_getElem? (i := 12) rfl)
  have f13 := c.fn (DefM.mk (.fn "pair_of") "pair_of" "pair_of" t_pair_of) (List.mem_of_getElem? (i := 13) rfl)
  have f14 := c.fn (DefM.mk (.fn "check_roll") "check_roll" "check_roll" t_check_roll) (List.mem_of_getElem? (i := 14) rfl)
  have f15 := c.fn (DefM.mk (.fn "check_guard") "check_guard" "check_guard" t_check_guard) (List.mem_of_getElem? (i := 15) rfl)
  have f16 := c.fn (DefM.mk (.fn "are_prices_of") "are_prices_of" "are_prices_of" t_are_prices_of) (List.mem_of_getElem? (i := 16) rfl)
  have f17 := c.fn (DefM.mk (.fn "check_prices") "check_prices" "check_prices" t_check_prices) (List.mem_of_getElem? (i := 17) rfl)
  have f18 := c.fn (DefM.mk (.fn "price_by") "price_by" "price_by" t_price_by) (List.mem_of_getElem? (i := 18) rfl)
  have f19 := c.fn (DefM.mk (.fn "cost_of") "cost_of" "cost_of" t_cost_of) (List.mem_of_getElem? (i := 19) rfl)
  have f20 := c.fn (DefM.mk (.fn "full_pairings") "full_pairings" "full_pairings" t_full_pairings) (List.mem_of_getElem? (i := 20) rfl)
  have f21 := c.fn (DefM.mk (.fn "costs_of") "costs_of" "costs_of" t_costs_of) (List.mem_of_getElem? (i := 21) rfl)
  have f22 := c.fn (DefM.mk (.fn "check_full") "check_full" "check_full" t_check_full) (List.mem_of_getElem? (i := 22) rfl)
  have f23 := c.fn (DefM.mk (.fn "fates") "fates" "fates" t_fates) (List.mem_of_getElem? (i := 23) rfl)
  have f24 := c.fn (DefM.mk (.fn "may_cost") "may_cost" "may_cost" t_may_cost) (List.mem_of_getElem? (i := 24) rfl)
  have f25 := c.fn (DefM.mk (.fn "_law_take") "_law_take" "_law_take" t_law_take) (List.mem_of_getElem? (i := 25) rfl)
  have f26 := c.fn (DefM.mk (.fn "_law_some") "_law_some" "_law_some" t_law_some) (List.mem_of_getElem? (i := 26) rfl)
  have f27 := c.fn (DefM.mk (.fn "_law_word") "_law_word" "_law_word" t_law_word) (List.mem_of_getElem? (i := 27) rfl)
  have f28 := c.fn (DefM.mk (.fn "_law_roll") "_law_roll" "_law_roll" t_law_roll) (List.mem_of_getElem? (i := 28) rfl)
  have f29 := c.fn (DefM.mk (.fn "_law_of") "_law_of" "_law_of" t_law_of) (List.mem_of_getElem? (i := 29) rfl)
  have f30 := c.fn (DefM.mk (.fn "_law_pair") "_law_pair" "_law_pair" t_law_pair) (List.mem_of_getElem? (i := 30) rfl)
  have f31 := c.fn (DefM.mk (.fn "_law_pairs") "_law_pairs" "_law_pairs" t_law_pairs) (List.mem_of_getElem? (i := 31) rfl)
  have f32 := c.fn (DefM.mk (.fn "_law_price") "_law_price" "_law_price" t_law_price) (List.mem_of_getElem? (i := 32) rfl)
  have f33 := c.fn (DefM.mk (.fn "_law_cost") "_law_cost" "_law_cost" t_law_cost) (List.mem_of_getElem? (i := 33) rfl)
  have f34 := c.fn (DefM.mk (.fn "_law_text") "_law_text" "_law_text" t_law_text) (List.mem_of_getElem? (i := 34) rfl)
  have f35 := c.fn (DefM.mk (.fn "_law_prices") "_law_prices" "_law_prices" t_law_prices) (List.mem_of_getElem? (i := 35) rfl)
  have f36 := c.fn (DefM.mk (.fn "_law_full") "_law_full" "_law_full" t_law_full) (List.mem_of_getElem? (i := 36) rfl)
  have f37 := c.fn (DefM.mk (.fn "_law_cells") "_law_cells" "_law_cells" t_law_cells) (List.mem_of_getElem? (i := 37) rfl)
  have f38 := c.fn (DefM.mk (.fn "_law_pot") "_law_pot" "_law_pot" t_law_pot) (List.mem_of_getElem? (i := 38) rfl)
  have f39 := c.fn (DefM.mk (.fn "_law_whole_roll") "_law_whole_roll" "_law_whole_roll" t_law_whole_roll) (List.mem_of_getElem? (i := 39) rfl)
  have f40 := c.fn (DefM.mk (.fn "_law_words") "_law_words" "_law_words" t_law_words) (List.mem_of_getElem? (i := 40) rfl)
  have f41 := c.fn (DefM.mk (.fn "_law_is_pair_right") "_law_is_pair_right" "_law_is_pair_right" t_law_is_pair_right) (List.mem_of_getElem? (i := 41) rfl)
  have f42 := c.fn (DefM.mk (.fn "_law_right") "_law_right" "_law_right" t_law_right) (List.mem_of_getElem? (i := 42) rfl)
  have f43 := c.fn (DefM.mk (.fn "law") "law" "law" t_law) (List.mem_of_getElem? (i := 43) rfl)
  have c0 := c.fc (.cls "Reader") (List.mem_of_getElem? (i := 0) rfl)
  have c1 := c.fc (.mkr "Reader") (List.mem_of_getElem? (i := 1) rfl)
  have c2 := c.fc (.cls "Roll") (List.mem_of_getElem? (i := 2) rfl)
  have c3 := c.fc (.mkr "Roll") (List.mem_of_getElem? (i := 3) rfl)
  have c4 := c.fc (.str "LETTERS" "abcdefghijklmnopqrstuvwxyz") (List.mem_of_getElem? (i := 4) rfl)
  have c5 := c.fc (.str "FIGURES" "0123456789") (List.mem_of_getElem? (i := 5) rfl)
  have c6 := c.fc (.int "MOST_SIGNS" 8) (List.mem_of_getElem? (i := 6) rfl)
  have c7 := c.fc (.int "MOST_GUARDS_rolls" 24) (List.mem_of_getElem? (i := 7) rfl)
  have c8 := c.fc (.int "MOST_BONDS" 200) (List.mem_of_getElem? (i := 8) rfl)
  have c9 := c.fc (.str "GUARD" "guard") (List.mem_of_getElem? (i := 9) rfl)
  have c10 := c.fc (.str "BOND" "bond") (List.mem_of_getElem? (i := 10) rfl)
  have c11 := c.fc (.int "MOST_GUARDS_cheap" 10) (List.mem_of_getElem? (i := 11) rfl)
  have c12 := c.fc (.int "MOST_PRICE" 999) (List.mem_of_getElem? (i := 12) rfl)
  have c13 := c.fc (.str "NEVER" "never") (List.mem_of_getElem? (i := 13) rfl)
  have c14 := c.fc (.str "ALL" "all") (List.mem_of_getElem? (i := 14) rfl)
  have c15 := c.fc (.str "SOME" "some") (List.mem_of_getElem? (i := 15) rfl)
  have c16 := c.fc (.str "NONE" "none") (List.mem_of_getElem? (i := 16) rfl)
  have c17 := c.fc (.noat "Reader" "own_guards") (List.mem_of_getElem? (i := 17) rfl)
  have c18 := c.fc (.noat "Reader" "own_bonds") (List.mem_of_getElem? (i := 18) rfl)
  have c19 := c.fc (.noat "Roll" "own_text") (List.mem_of_getElem? (i := 19) rfl)
  have c20 := c.fc (.noat "Roll" "own_guards") (List.mem_of_getElem? (i := 20) rfl)
  have c21 := c.fc (.noat "Roll" "own_bonds") (List.mem_of_getElem? (i := 21) rfl)
  have c22 := c.fc (.noat "Roll" "own_pairs") (List.mem_of_getElem? (i := 22) rfl)
  have c23 := c.fc (.ins "Roll") (List.mem_of_getElem? (i := 23) rfl)
  have c24 := c.fc (.free "len") (List.mem_of_getElem? (i := 24) rfl)
  have c25 := c.fc (.free "abs") (List.mem_of_getElem? (i := 25) rfl)
  have c26 := c.fc (.free "int") (List.mem_of_getElem? (i := 26) rfl)
  have c27 := c.fc (.free "str") (List.mem_of_getElem? (i := 27) rfl)
  have c28 := c.fc (.free "repr") (List.mem_of_getElem? (i := 28) rfl)
  have c29 := c.fc (.free "min") (List.mem_of_getElem? (i := 29) rfl)
  have c30 := c.fc (.free "max") (List.mem_of_getElem? (i := 30) rfl)
  have c31 := c.fc (.free "sum") (List.mem_of_getElem? (i := 31) rfl)
  have c32 := c.fc (.free "any") (List.mem_of_getElem? (i := 32) rfl)
  have c33 := c.fc (.free "all") (List.mem_of_getElem? (i := 33) rfl)
  have c34 := c.fc (.free "tuple") (List.mem_of_getElem? (i := 34) rfl)
  have c35 := c.fc (.free "list") (List.mem_of_getElem? (i := 35) rfl)
  have c36 := c.fc (.free "sorted") (List.mem_of_getElem? (i := 36) rfl)
  have c37 := c.fc (.free "isinstance") (List.mem_of_getElem? (i := 37) rfl)
  have c38 := c.fc (.free "range") (List.mem_of_getElem? (i := 38) rfl)
  have c39 := c.fc (.free "enumerate") (List.mem_of_getElem? (i := 39) rfl)
  have c40 := c.fc (.free "zip") (List.mem_of_getElem? (i := 40) rfl)
  have c41 := c.fc (.free "bool") (List.mem_of_getElem? (i := 41) rfl)
  have c42 := c.fc (.free "dict") (List.mem_of_getElem? (i := 42) rfl)
  have tb := c.tb "pair_of" (by simp)
  refine Wr.mk (He.cls_ok (He.ba c0).2)
    (He.glo_ok X G (He.ba c0).1)
    (He.ba c1).1
    (He.ba c1).2
    (He.cls_ok (He.ba c2).2)
    (He.glo_ok X G (He.ba c2).1)
    (He.ba c3).1
    (He.ba c3).2
    (fn_of X G f0.2 f0.1)
    (fn_of X G f1.2 f1.1)
    (fn_of X G f2.2 f2.1)
    (mt_of f3.2 f3.1)
    (mt_of f4.2 f4.1)
    (mt_of f5.2 f5.1)
    (mt_of f6.2 f6.1)
    (pr_of f7.2 f7.1)
    (fn_of X G f8.2 f8.1)
    (mt_of f9.2 f9.1)
    (pr_of f10.2 f10.1)
    (pr_of f11.2 f11.1)
    (pr_of f12.2 f12.1)
    (fnc_of X G f13.2 f13.1 tb.co)
    (fn_of X G f14.2 f14.1)
    (fn_of X G f15.2 f15.1)
    (fn_of X G f16.2 f16.1)
    (fn_of X G f17.2 f17.1)
    (fn_of X G f18.2 f18.1)
    (fn_of X G f19.2 f19.1)
    (fn_of X G f20.2 f20.1)
    (fn_of X G f21.2 f21.1)
    (fn_of X G f22.2 f22.1)
    (fn_of X G f23.2 f23.1)
    (fn_of X G f24.2 f24.1)
    (fn_of X G f25.2 f25.1)
    (fn_of X G f26.2 f26.1)
    (fn_of X G f27.2 f27.1)
    (fn_of X G f28.2 f28.1)
    (fn_of X G f29.2 f29.1)
    (fn_of X G f30.2 f30.1)
    (fn_of X G f31.2 f31.1)
    (fn_of X G f32.2 f32.1)
    (fn_of X G f33.2 f33.1)
    (fn_of X G f34.2 f34.1)
    (fn_of X G f35.2 f35.1)
    (fn_of X G f36.2 f36.1)
    (fn_of X G f37.2 f37.1)
    (fn_of X G f38.2 f38.1)
    (fn_of X G f39.2 f39.1)
    (fn_of X G f40.2 f40.1)
    (fn_of X G f41.2 f41.1)
    (fn_of X G f42.2 f42.1)
    (fn_of X G f43.2 f43.1)
    (let ⟨t, e⟩ := He.str_ok X G c4; ⟨_, e, t, rfl⟩)
    (let ⟨t, e⟩ := He.str_ok X G c5; ⟨_, e, t, rfl⟩)
    (let ⟨t, e⟩ := He.int_ok X G c6; ⟨_, e, t, rfl⟩)
    (let ⟨t, e⟩ := He.int_ok X G c7; ⟨_, e, t, rfl⟩)
    (let ⟨t, e⟩ := He.int_ok X G c8; ⟨_, e, t, rfl⟩)
    (let ⟨t, e⟩ := He.str_ok X G c9; ⟨_, e, t, rfl⟩)
    (let ⟨t, e⟩ := He.str_ok X G c10; ⟨_, e, t, rfl⟩)
    (let ⟨t, e⟩ := He.int_ok X G c11; ⟨_, e, t, rfl⟩)
    (let ⟨t, e⟩ := He.int_ok X G c12; ⟨_, e, t, rfl⟩)
    (let ⟨t, e⟩ := He.str_ok X G c13; ⟨_, e, t, rfl⟩)
    (let ⟨t, e⟩ := He.str_ok X G c14; ⟨_, e, t, rfl⟩)
    (let ⟨t, e⟩ := He.str_ok X G c15; ⟨_, e, t, rfl⟩)
    (let ⟨t, e⟩ := He.str_ok X G c16; ⟨_, e, t, rfl⟩)
    (He.noat_ok c17)
    (He.noat_ok c18)
    (He.noat_ok c19)
    (He.noat_ok c20)
    (He.noat_ok c21)
    (He.noat_ok c22)
    (ins_of (He.cls_ok (He.ba c2).2) c23)
    (List.forall_mem_cons.mpr ⟨He.free_ok X G c24, List.forall_mem_cons.mpr ⟨He.free_ok X G c25, List.forall_mem_cons.mpr ⟨He.free_ok X G c26, List.forall_mem_cons.mpr ⟨He.free_ok X G c27, List.forall_mem_cons.mpr ⟨He.free_ok X G c28, List.forall_mem_cons.mpr ⟨He.free_ok X G c29, List.forall_mem_cons.mpr ⟨He.free_ok X G c30, List.forall_mem_cons.mpr ⟨He.free_ok X G c31, List.forall_mem_cons.mpr ⟨He.free_ok X G c32, List.forall_mem_cons.mpr ⟨He.free_ok X G c33, List.forall_mem_cons.mpr ⟨He.free_ok X G c34, List.forall_mem_cons.mpr ⟨He.free_ok X G c35, List.forall_mem_cons.mpr ⟨He.free_ok X G c36, List.forall_mem_cons.mpr ⟨He.free_ok X G c37, List.forall_mem_cons.mpr ⟨He.free_ok X G c38, List.forall_mem_cons.mpr ⟨He.free_ok X G c39, List.forall_mem_cons.mpr ⟨He.free_ok X G c40, List.forall_mem_cons.mpr ⟨He.free_ok X G c41, List.forall_mem_cons.mpr ⟨He.free_ok X G c42, by simp⟩⟩⟩⟩⟩⟩⟩⟩⟩⟩⟩⟩⟩⟩⟩⟩⟩⟩⟩)
end
end Dz60
open PySem PySem.W PySem.Calls PyProof.Rows
set_option maxHeartbeats 0 in
theorem PySem.Challenge.cw_pairedwatch_k60_whole_fates_and_what_a_p_holds : PySem.Challenge.rw_pairedwatch_k60_whole_fates_and_what_a_p.Holds := by
  w_on; o_law
  refine HandSHeadRun.head_any (r := OpenLaw.row PySem.Challenge.rw_pairedwatch_k60_whole_fates_and_what_a_p) (q := view (OpenLaw.row PySem.Challenge.rw_pairedwatch_k60_whole_fates_and_what_a_p).prog [75]) (H := Dz60.hk) (ob := Dz60.ob) (M := 8000) (loose := Dz60.lo) (d := HandSHeadRun.topDef (OpenLaw.row PySem.Challenge.rw_pairedwatch_k60_whole_fates_and_what_a_p).prog 75) (kwd := []) Dz60.ob_eq
    (by kernel_rfl) (fun s => by kernel_rfl) Dz60.run (by kernel_rfl) (by kernel_rfl) (by kernel_rfl) (by rfl) (by first | assumption | decide +kernel) (by decide +kernel) ⟨rfl, rfl, rfl, rfl, rfl, by decide +kernel⟩ ?hw ?hc
  case hw => w_witness2
  case hc =>
    refine Dz.walk_DE (l := PySem.Challenge.rw_pairedwatch_k60_whole_fates_and_what_a_p) (n := 63) (k := 18) (x := "script") rfl (by decide) (by kernel_rfl) ⟨rfl, by decide, by decide⟩ ?F
    intro w mg fa h Y G hmg0
    obtain ⟨K, KX, c⟩ := Y
    have hmg : mg ("law" : PySem.Str) = some (.ref fa) := by
      have e : (HandSHeadRun.topDef (OpenLaw.row PySem.Challenge.rw_pairedwatch_k60_whole_fates_and_what_a_p).prog 75).name = ("law" : PySem.Str) := by kernel_rfl
      rw [← e]
      exact hmg0
    have tb := c.tb "pair_of" (by simp)
    exact ⟨K, KX, Dz60.end60 hmg (Dz60.wr KX G c) c.nl tb.get tb.no (PySem.W.codeHd_of_K KX tb.hd)⟩
