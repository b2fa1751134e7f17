import PyProof.Rows.All
import Wide.All
import OpenK.AllK
import Wide.FinOn
import HandS.HeadHook2
import HandS.HeadHook3
import HandS.HeadHook4
import KE.KSuperObj
import KE.KStateDown
import HandS.ForMost
import HandS.WordsExc
import HandS.Defaults
import HandS.Head0
import HandS.Head1
import HandS.Head2
import HandS.HeadEnd
import HandS.HeadHook1
import HandS.HeadWalk
import HandS.IsInst
import HandS.Deep
import HandS.DictComp
import HandS.TryMany
import HandS.ExcOwn
import HandS.Nested
import PyProof.NeKinds
import HandS.TupAny
import HandS.TupSets
import HandS.Strs
import HandS.SetKeys
import KE.KeyNested
import KE.SortData
import KE.DataCmp
import HandS.Zip
import HandS.Codes
import KE.KSuper
import HandS.ExcSuper
import KE.GoesEnum
import HandS.MakeKwOnly
import HandS.Style
import PySem.Challenge.RW_groundturns_k78_texts_of_machines
set_option Elab.async false
set_option linter.all false
set_option maxRecDepth 100000
set_option maxHeartbeats 4000000
namespace G
open PySem PySem.Spec PyProof.Rows L2
/-! ### a head that tells methods with super() too -/
/-- a function without its closure -/
abbrev FnC : Type := Option (Str × Str × Arguments × FuncBody × Scope × Addr × Addr)
def fnC (K : PySem.W.Frag) (p : Str × Option Str) : FnC := match K.lookup (He.fAd K p) with
  | some ⟨_, _, .func fd, _⟩ => some (fd.name, fd.qualname, fd.params, fd.body, fd.scope, fd.globals, fd.builtins)
  | _ => none
def cellB (K : PySem.W.Frag) (c : Addr) (v : Value) : Bool := match K.lookup c with
  | some ⟨_, _, .cell (some u), _⟩ => decide (u = v)
  | _ => false
def fileB (K : PySem.W.Frag) (cv : Value) (file : Str) : Bool := match cv with
  | .ref cc => (match K.lookup cc with
    | some ⟨_, _, .fields vs, _⟩ => (match vs.toList with
      | _ :: _ :: .str f _ :: _ => decide (f = file)
      | _ => false)
    | _ => false)
  | _ => false
/-- its closure: the class alone; its code's file -/
def clB (K : PySem.W.Frag) (p : Str × Option Str) (q file : Str) : Bool := match K.lookup (He.fAd K p) with
  | some ⟨_, _, .func fd, _⟩ => PySem.W.codeIn K fd.code q && decide (fd.defaults = .none) && decide (fd.kwdefaults = .none) && fileB K fd.code file && (match fd.closure with
    | [(x, c)] => decide (x = ("__class__" : Str)) && cellB K c (.ref (He.ga K p.1))
    | _ => false)
  | _ => false
/-- the class c over the class d -/
def supB (K : PySem.W.Frag) (c d : Str) : Bool := (match PySem.W.clsIn K (He.ga K c) with
    | some cd => decide (cd.mro = [.ref (He.ga K c), .ref (He.ga K d), .type "object"])
    | _ => false) && decide (PySem.W.nsIn K cStatics "thirdparty.any" = some none)
  && decide (PySem.W.alongIn K "__init__" [.ref (He.ga K d), .type "object"] = some (some (.ref (He.ma K (He.ga K d) "__init__")))) && PySem.W.isFn K (.ref (He.ma K (He.ga K d) "__init__"))
/-- the fragment: what hangs from the globals, and the statics' dict -/
def frY (g : Addr → Option Obj) (n : Nat) : PySem.W.Frag := match g cStatics with
  | some o => (cStatics, o) :: He.frT g (He.asD g n)
  | none => He.frT g (He.asD g n)
theorem frY_in {h : Heap} {n : Nat} : (frY h.get? n).In h := by
  unfold frY
  cases e : h.get? cStatics with
  | none => exact He.frT_in
  | some o =>
    intro a u hu
    show h.get? a = some u
    have hu : (if (a == cStatics) = true then some o else (He.frT h.get? (He.asD h.get? n)).lookup a) = some u := by
      rw [List.lookup_cons] at hu
      cases q : a == cStatics with
      | true => rw [q] at hu; exact hu
      | false => rw [q] at hu; exact hu
    by_cases q : (a == cStatics) = true
    · rw [if_pos q] at hu
      rw [eq_of_beq q, e]
      exact hu
    · rw [if_neg q] at hu
      exact He.frT_in a u hu
abbrev AlY : Type := He.AlD × Bool × List FnC
def tabY (g : Addr → Option Obj) (tf : List He.Defn) (K : PySem.W.Frag) : Bool := tf.all fun p => PySem.W.codeHdIn K (He.cT K p).1 (He.cT K p).2 && ((K.lookup (He.cT K p).2).isNone && (match g (He.cT K p).2 with
  | some o => He.emptyTab o
  | none => false))
def obsY (n : Nat) (fa : List He.Fa) (fn : List He.DefD) (tf : List He.Defn) (ex : PySem.W.Frag → Bool) (cs : List (Str × Option Str)) (g : Addr → Option Obj) : AlY :=
  (He.obsD fa fn (frY g n), ex (frY g n) && tabY g tf (frY g n), cs.map (fnC (frY g n)))
structure SaysY (fa : List He.Fa) (fn : List He.DefD) (tf : List He.Defn) (ex : PySem.W.Frag → Bool) (cs : List (Str × Option Str)) (cv : List FnC) (h : Heap) (K : PySem.W.Frag) : Prop where
  d : He.SaysD fa fn K
  more : ex K = true
  hd : ∀ p ∈ tf, PySem.W.codeHdIn K (He.cT K p).1 (He.cT K p).2 = true
  out : ∀ p ∈ tf, K.lookup (He.cT K p).2 = none
  empty : ∀ p ∈ tf, h.get? (He.cT K p).2 = some { cls := .none, data := .fields #[] }
  clo : cs.map (fnC K) = cv
theorem saysY_of {n : Nat} {fa : List He.Fa} {fn : List He.DefD} {tf : List He.Defn} {ex : PySem.W.Frag → Bool} {cs : List (Str × Option Str)} {cv : List FnC} {h : Heap} (e : obsY n fa fn tf ex cs h.get? = (He.valD fn, true, cv)) : SaysY fa fn tf ex cs cv h (frY h.get? n) := by
  have e1 : He.obsD fa fn (frY h.get? n) = He.valD fn := congrArg (fun z : AlY => z.1) e
  have e2 : (ex (frY h.get? n) && tabY h.get? tf (frY h.get? n)) = true := congrArg (fun z : AlY => z.2.1) e
  have e3 : cs.map (fnC (frY h.get? n)) = cv := congrArg (fun z : AlY => z.2.2) e
  obtain ⟨h1, h2⟩ := Bool.and_eq_true_iff.mp e2
  have key : ∀ p ∈ tf, PySem.W.codeHdIn (frY h.get? n) (He.cT (frY h.get? n) p).1 (He.cT (frY h.get? n) p).2 = true ∧ (frY h.get? n).lookup (He.cT (frY h.get? n) p).2 = none ∧ ∃ o, h.get? (He.cT (frY h.get? n) p).2 = some o ∧ He.emptyTab o = true := fun p hp => by
    obtain ⟨h3, h4⟩ := Bool.and_eq_true_iff.mp (List.all_eq_true.mp h2 p hp)
    obtain ⟨h4, h5⟩ := Bool.and_eq_true_iff.mp h4
    refine ⟨h3, Option.isNone_iff_eq_none.mp h4, ?_⟩
    cases q : h.get? (He.cT (frY h.get? n) p).2 with
    | none => rw [q] at h5; cases h5
    | some o => rw [q] at h5; exact ⟨o, rfl, h5⟩
  exact ⟨e1, h1, fun p hp => (key p hp).1, fun p hp => (key p hp).2.1, fun p hp => by
    obtain ⟨_, _, o, q, z⟩ := key p hp
    rw [q, He.emptyTab_eq z], e3⟩
def hookY (n : Nat) (fa : List He.Fa) (fn : List He.DefD) (tf : List He.Defn) (ex : PySem.W.Frag → Bool) (cs : List (Str × Option Str)) (cv : List FnC) : PySem.W.Hook where
  α := AlY
  obs := fun s => obsY n fa fn tf ex cs s.heap.get?
  val := fun _ => (He.valD fn, true, cv)
  says := fun _ h => ∃ K : PySem.W.Frag, K.In h ∧ SaysY fa fn tf ex cs cv h K
  of := fun _ _ e => ⟨_, frY_in, saysY_of e⟩
  keeps := fun _ _ _ ⟨K, hK, c⟩ k => ⟨K, PySem.W.Frag.In.keeps hK k, ⟨c.d, c.more, c.hd, c.out, fun p hp => k _ _ (c.empty p hp), c.clo⟩⟩
theorem obsY_eq {n : Nat} {fa : List He.Fa} {fn : List He.DefD} {tf : List He.Defn} {ex : PySem.W.Frag → Bool} {cs : List (Str × Option Str)} {cv : List FnC} {g : Addr → Option Obj} {s : Shared} (h : ∀ a, g a = s.heap.get? a) :
    obsY n fa fn tf ex cs g = (hookY n fa fn tf ex cs cv).obs s := by
  have e : g = s.heap.get? := funext h
  rw [e] <;> rfl
end G

set_option Elab.async false
set_option linter.all false
set_option maxRecDepth 100000
set_option maxHeartbeats 4000000
namespace G
open PySem PySem.Spec PyProof.Rows L2
def top (i : Nat) : Stmt := PySem.Challenge.pw_groundturns_k78_texts_of_machines.main.body.getD i (.Pass ⟨0, 0, 0, 0⟩)
abbrev s__wall : Stmt := top 0
abbrev s_BadText___init__ : Stmt := inClass (top 5) 0
abbrev s_is_int : Stmt := top 10
abbrev s_within : Stmt := top 11
abbrev s_is_row : Stmt := top 12
abbrev s_is_low_name : Stmt := top 13
abbrev s_is_ascending : Stmt := top 14
abbrev s_is_signature : Stmt := top 18
abbrev s_need_signature : Stmt := top 19
abbrev s_is_move : Stmt := top 23
abbrev s_is_any_machine : Stmt := top 24
abbrev s_is_small_machine : Stmt := top 25
abbrev s_is_machine : Stmt := top 26
abbrev s_need_machine : Stmt := top 27
abbrev s_words_in : Stmt := top 31
abbrev s_is_numeral : Stmt := top 32
abbrev s_Reader___init__ : Stmt := inClass (top 33) 0
abbrev s_Reader_word : Stmt := inClass (top 33) 1
abbrev s_Reader_stop : Stmt := inClass (top 33) 2
abbrev s_Reader_mark : Stmt := inClass (top 33) 3
abbrev s_Reader_goes_on : Stmt := inClass (top 33) 4
abbrev s_Reader_numeral : Stmt := inClass (top 33) 5
abbrev s_Reader_end : Stmt := inClass (top 33) 6
abbrev s_Reader_due : Stmt := inClass (top 33) 7
abbrev s_TreeReader___init__ : Stmt := inClass (top 35) 0
abbrev s_TreeReader_symbol : Stmt := inClass (top 35) 1
abbrev s_TreeReader_tree : Stmt := inClass (top 35) 2
abbrev s_TreeReader_closed : Stmt := inClass (top 35) 3
abbrev s_TreeReader_rule : Stmt := inClass (top 35) 4
abbrev s_written_move : Stmt := top 37
abbrev s_written_machine : Stmt := top 38
abbrev s_write_machine : Stmt := top 39
abbrev s_MachineReader_states : Stmt := inClass (top 40) 0
abbrev s_MachineReader_move : Stmt := inClass (top 40) 1
abbrev s_MachineReader_machine : Stmt := inClass (top 40) 2
abbrev s_read_machine : Stmt := top 41
abbrev s__law_jug : Stmt := top 43
abbrev s__law_take : Stmt := top 44
abbrev s__law_same : Stmt := top 45
abbrev s__law_signature : Stmt := top 46
abbrev s__law_machine : Stmt := top 47
abbrev s__law_machine_text : Stmt := top 48
abbrev s__law_words : Stmt := top 49
abbrev s__law_loose : Stmt := top 50
abbrev s__law_mixed : Stmt := top 51
abbrev s__law_word : Stmt := top 52
abbrev s_law : Stmt := top 53
abbrev d__wall : He.DefD := ⟨("_wall", none), "_wall", "_wall", defArgs s__wall, defBody s__wall, defScope s__wall, [], []⟩
abbrev d_is_int : He.DefD := ⟨("is_int", none), "is_int", "is_int", defArgs s_is_int, defBody s_is_int, defScope s_is_int, [], []⟩
abbrev d_within : He.DefD := ⟨("within", none), "within", "within", defArgs s_within, defBody s_within, defScope s_within, [], []⟩
abbrev d_is_row : He.DefD := ⟨("is_row", none), "is_row", "is_row", defArgs s_is_row, defBody s_is_row, defScope s_is_row, [], []⟩
abbrev d_is_low_name : He.DefD := ⟨("is_low_name", none), "is_low_name", "is_low_name", defArgs s_is_low_name, defBody s_is_low_name, defScope s_is_low_name, [], []⟩
abbrev d_is_ascending : He.DefD := ⟨("is_ascending", none), "is_ascending", "is_ascending", defArgs s_is_ascending, defBody s_is_ascending, defScope s_is_ascending, [], []⟩
abbrev d_is_signature : He.DefD := ⟨("is_signature", none), "is_signature", "is_signature", defArgs s_is_signature, defBody s_is_signature, defScope s_is_signature, [], []⟩
abbrev d_need_signature : He.DefD := ⟨("need_signature", none), "need_signature", "need_signature", defArgs s_need_signature, defBody s_need_signature, defScope s_need_signature, [], []⟩
abbrev d_is_move : He.DefD := ⟨("is_move", none), "is_move", "is_move", defArgs s_is_move, defBody s_is_move, defScope s_is_move, [], []⟩
abbrev d_is_any_machine : He.DefD := ⟨("is_any_machine", none), "is_any_machine", "is_any_machine", defArgs s_is_any_machine, defBody s_is_any_machine, defScope s_is_any_machine, [], []⟩
abbrev d_is_small_machine : He.DefD := ⟨("is_small_machine", none), "is_small_machine", "is_small_machine", defArgs s_is_small_machine, defBody s_is_small_machine, defScope s_is_small_machine, [], []⟩
abbrev d_is_machine : He.DefD := ⟨("is_machine", none), "is_machine", "is_machine", defArgs s_is_machine, defBody s_is_machine, defScope s_is_machine, [], []⟩
abbrev d_need_machine : He.DefD := ⟨("need_machine", none), "need_machine", "need_machine", defArgs s_need_machine, defBody s_need_machine, defScope s_need_machine, [], []⟩
abbrev d_words_in : He.DefD := ⟨("words_in", none), "words_in", "words_in", defArgs s_words_in, defBody s_words_in, defScope s_words_in, [], []⟩
abbrev d_is_numeral : He.DefD := ⟨("is_numeral", none), "is_numeral", "is_numeral", defArgs s_is_numeral, defBody s_is_numeral, defScope s_is_numeral, [], []⟩
abbrev d_Reader___init__ : He.DefD := ⟨("Reader", some "__init__"), "__init__", "Reader.__init__", defArgs s_Reader___init__, defBody s_Reader___init__, defScope s_Reader___init__, [], []⟩
abbrev d_Reader_word : He.DefD := ⟨("Reader", some "word"), "word", "Reader.word", defArgs s_Reader_word, defBody s_Reader_word, defScope s_Reader_word, [], []⟩
abbrev d_Reader_stop : He.DefD := ⟨("Reader", some "stop"), "stop", "Reader.stop", defArgs s_Reader_stop, defBody s_Reader_stop, defScope s_Reader_stop, [], []⟩
abbrev d_Reader_mark : He.DefD := ⟨("Reader", some "mark"), "mark", "Reader.mark", defArgs s_Reader_mark, defBody s_Reader_mark, defScope s_Reader_mark, [], []⟩
abbrev d_Reader_goes_on : He.DefD := ⟨("Reader", some "goes_on"), "goes_on", "Reader.goes_on", defArgs s_Reader_goes_on, defBody s_Reader_goes_on, defScope s_Reader_goes_on, [], []⟩
abbrev d_Reader_numeral : He.DefD := ⟨("Reader", some "numeral"), "numeral", "Reader.numeral", defArgs s_Reader_numeral, defBody s_Reader_numeral, defScope s_Reader_numeral, [], []⟩
abbrev d_Reader_end : He.DefD := ⟨("Reader", some "end"), "end", "Reader.end", defArgs s_Reader_end, defBody s_Reader_end, defScope s_Reader_end, [], []⟩
abbrev d_Reader_due : He.DefD := ⟨("Reader", some "due"), "due", "Reader.due", defArgs s_Reader_due, defBody s_Reader_due, defScope s_Reader_due, [], []⟩
abbrev d_TreeReader_symbol : He.DefD := ⟨("TreeReader", some "symbol"), "symbol", "TreeReader.symbol", defArgs s_TreeReader_symbol, defBody s_TreeReader_symbol, defScope s_TreeReader_symbol, [], []⟩
abbrev d_TreeReader_tree : He.DefD := ⟨("TreeReader", some "tree"), "tree", "TreeReader.tree", defArgs s_TreeReader_tree, defBody s_TreeReader_tree, defScope s_TreeReader_tree, [], []⟩
abbrev d_TreeReader_closed : He.DefD := ⟨("TreeReader", some "closed"), "closed", "TreeReader.closed", defArgs s_TreeReader_closed, defBody s_TreeReader_closed, defScope s_TreeReader_closed, [], []⟩
abbrev d_TreeReader_rule : He.DefD := ⟨("TreeReader", some "rule"), "rule", "TreeReader.rule", defArgs s_TreeReader_rule, defBody s_TreeReader_rule, defScope s_TreeReader_rule, [], []⟩
abbrev d_written_move : He.DefD := ⟨("written_move", none), "written_move", "written_move", defArgs s_written_move, defBody s_written_move, defScope s_written_move, [], []⟩
abbrev d_written_machine : He.DefD := ⟨("written_machine", none), "written_machine", "written_machine", defArgs s_written_machine, defBody s_written_machine, defScope s_written_machine, [], []⟩
abbrev d_write_machine : He.DefD := ⟨("write_machine", none), "write_machine", "write_machine", defArgs s_write_machine, defBody s_write_machine, defScope s_write_machine, [], []⟩
abbrev d_MachineReader_states : He.DefD := ⟨("MachineReader", some "states"), "states", "MachineReader.states", defArgs s_MachineReader_states, defBody s_MachineReader_states, defScope s_MachineReader_states, [], []⟩
abbrev d_MachineReader_move : He.DefD := ⟨("MachineReader", some "move"), "move", "MachineReader.move", defArgs s_MachineReader_move, defBody s_MachineReader_move, defScope s_MachineReader_move, [], []⟩
abbrev d_MachineReader_machine : He.DefD := ⟨("MachineReader", some "machine"), "machine", "MachineReader.machine", defArgs s_MachineReader_machine, defBody s_MachineReader_machine, defScope s_MachineReader_machine, [], []⟩
abbrev d_read_machine : He.DefD := ⟨("read_machine", none), "read_machine", "read_machine", defArgs s_read_machine, defBody s_read_machine, defScope s_read_machine, [], []⟩
abbrev d__law_jug : He.DefD := ⟨("_law_jug", none), "_law_jug", "_law_jug", defArgs s__law_jug, defBody s__law_jug, defScope s__law_jug, [], []⟩
abbrev d__law_take : He.DefD := ⟨("_law_take", none), "_law_take", "_law_take", defArgs s__law_take, defBody s__law_take, defScope s__law_take, [], []⟩
abbrev d__law_same : He.DefD := ⟨("_law_same", none), "_law_same", "_law_same", defArgs s__law_same, defBody s__law_same, defScope s__law_same, [], []⟩
abbrev d__law_signature : He.DefD := ⟨("_law_signature", none), "_law_signature", "_law_signature", defArgs s__law_signature, defBody s__law_signature, defScope s__law_signature, [], []⟩
abbrev d__law_machine : He.DefD := ⟨("_law_machine", none), "_law_machine", "_law_machine", defArgs s__law_machine, defBody s__law_machine, defScope s__law_machine, [], []⟩
abbrev d__law_machine_text : He.DefD := ⟨("_law_machine_text", none), "_law_machine_text", "_law_machine_text", defArgs s__law_machine_text, defBody s__law_machine_text, defScope s__law_machine_text, [], []⟩
abbrev d__law_words : He.DefD := ⟨("_law_words", none), "_law_words", "_law_words", defArgs s__law_words, defBody s__law_words, defScope s__law_words, [], []⟩
abbrev d__law_loose : He.DefD := ⟨("_law_loose", none), "_law_loose", "_law_loose", defArgs s__law_loose, defBody s__law_loose, defScope s__law_loose, [], []⟩
abbrev d__law_mixed : He.DefD := ⟨("_law_mixed", none), "_law_mixed", "_law_mixed", defArgs s__law_mixed, defBody s__law_mixed, defScope s__law_mixed, [], []⟩
abbrev d__law_word : He.DefD := ⟨("_law_word", none), "_law_word", "_law_word", defArgs s__law_word, defBody s__law_word, defScope s__law_word, [], []⟩
abbrev d_law : He.DefD := ⟨("law", none), "law", "law", defArgs s_law, defBody s_law, defScope s_law, [], []⟩
abbrev d_TreeReader_word : He.DefD := ⟨("TreeReader", some "word"), "word", "Reader.word", defArgs s_Reader_word, defBody s_Reader_word, defScope s_Reader_word, [], []⟩
abbrev d_TreeReader_stop : He.DefD := ⟨("TreeReader", some "stop"), "stop", "Reader.stop", defArgs s_Reader_stop, defBody s_Reader_stop, defScope s_Reader_stop, [], []⟩
abbrev d_TreeReader_mark : He.DefD := ⟨("TreeReader", some "mark"), "mark", "Reader.mark", defArgs s_Reader_mark, defBody s_Reader_mark, defScope s_Reader_mark, [], []⟩
abbrev d_TreeReader_goes_on : He.DefD := ⟨("TreeReader", some "goes_on"), "goes_on", "Reader.goes_on", defArgs s_Reader_goes_on, defBody s_Reader_goes_on, defScope s_Reader_goes_on, [], []⟩
abbrev d_TreeReader_numeral : He.DefD := ⟨("TreeReader", some "numeral"), "numeral", "Reader.numeral", defArgs s_Reader_numeral, defBody s_Reader_numeral, defScope s_Reader_numeral, [], []⟩
abbrev d_TreeReader_end : He.DefD := ⟨("TreeReader", some "end"), "end", "Reader.end", defArgs s_Reader_end, defBody s_Reader_end, defScope s_Reader_end, [], []⟩
abbrev d_TreeReader_due : He.DefD := ⟨("TreeReader", some "due"), "due", "Reader.due", defArgs s_Reader_due, defBody s_Reader_due, defScope s_Reader_due, [], []⟩
abbrev d_MachineReader_symbol : He.DefD := ⟨("MachineReader", some "symbol"), "symbol", "TreeReader.symbol", defArgs s_TreeReader_symbol, defBody s_TreeReader_symbol, defScope s_TreeReader_symbol, [], []⟩
abbrev d_MachineReader_tree : He.DefD := ⟨("MachineReader", some "tree"), "tree", "TreeReader.tree", defArgs s_TreeReader_tree, defBody s_TreeReader_tree, defScope s_TreeReader_tree, [], []⟩
abbrev d_MachineReader_closed : He.DefD := ⟨("MachineReader", some "closed"), "closed", "TreeReader.closed", defArgs s_TreeReader_closed, defBody s_TreeReader_closed, defScope s_TreeReader_closed, [], []⟩
abbrev d_MachineReader_rule : He.DefD := ⟨("MachineReader", some "rule"), "rule", "TreeReader.rule", defArgs s_TreeReader_rule, defBody s_TreeReader_rule, defScope s_TreeReader_rule, [], []⟩
abbrev d_MachineReader_word : He.DefD := ⟨("MachineReader", some "word"), "word", "Reader.word", defArgs s_Reader_word, defBody s_Reader_word, defScope s_Reader_word, [], []⟩
abbrev d_MachineReader_stop : He.DefD := ⟨("MachineReader", some "stop"), "stop", "Reader.stop", defArgs s_Reader_stop, defBody s_Reader_stop, defScope s_Reader_stop, [], []⟩
abbrev d_MachineReader_mark : He.DefD := ⟨("MachineReader", some "mark"), "mark", "Reader.mark", defArgs s_Reader_mark, defBody s_Reader_mark, defScope s_Reader_mark, [], []⟩
abbrev d_MachineReader_goes_on : He.DefD := ⟨("MachineReader", some "goes_on"), "goes_on", "Reader.goes_on", defArgs s_Reader_goes_on, defBody s_Reader_goes_on, defScope s_Reader_goes_on, [], []⟩
abbrev d_MachineReader_numeral : He.DefD := ⟨("MachineReader", some "numeral"), "numeral", "Reader.numeral", defArgs s_Reader_numeral, defBody s_Reader_numeral, defScope s_Reader_numeral, [], []⟩
abbrev d_MachineReader_end : He.DefD := ⟨("MachineReader", some "end"), "end", "Reader.end", defArgs s_Reader_end, defBody s_Reader_end, defScope s_Reader_end, [], []⟩
abbrev d_MachineReader_due : He.DefD := ⟨("MachineReader", some "due"), "due", "Reader.due", defArgs s_Reader_due, defBody s_Reader_due, defScope s_Reader_due, [], []⟩
def fn0 : List He.DefD := [d__wall, d_is_int, d_within, d_is_row, d_is_low_name, d_is_ascending, d_is_signature, d_need_signature, d_is_move, d_is_any_machine, d_is_small_machine, d_is_machine, d_need_machine, d_words_in, d_is_numeral, d_Reader___init__, d_Reader_word, d_Reader_stop, d_Reader_mark, d_Reader_goes_on]
def fn1 : List He.DefD := [d_Reader_numeral, d_Reader_end, d_Reader_due, d_TreeReader_symbol, d_TreeReader_tree, d_TreeReader_closed, d_TreeReader_rule, d_written_move, d_written_machine, d_write_machine, d_MachineReader_states, d_MachineReader_move, d_MachineReader_machine, d_read_machine, d__law_jug, d__law_take, d__law_same, d__law_signature, d__law_machine, d__law_machine_text]
def fn2 : List He.DefD := [d__law_words, d__law_loose, d__law_mixed, d__law_word, d_law, d_TreeReader_word, d_TreeReader_stop, d_TreeReader_mark, d_TreeReader_goes_on, d_TreeReader_numeral, d_TreeReader_end, d_TreeReader_due, d_MachineReader_symbol, d_MachineReader_tree, d_MachineReader_closed, d_MachineReader_rule, d_MachineReader_word, d_MachineReader_stop, d_MachineReader_mark, d_MachineReader_goes_on]
def fn3 : List He.DefD := [d_MachineReader_numeral, d_MachineReader_end, d_MachineReader_due]
def fn : List He.DefD := fn0 ++ (fn1 ++ (fn2 ++ (fn3)))
def fa0 : List He.Fa := [.glo "_wall", .glo "is_int", .glo "within", .glo "is_row", .glo "is_low_name", .glo "is_ascending", .glo "is_signature", .glo "need_signature", .glo "is_move", .glo "is_any_machine", .glo "is_small_machine", .glo "is_machine", .glo "need_machine", .glo "words_in", .glo "is_numeral", .glo "written_move", .glo "written_machine", .glo "write_machine", .glo "read_machine", .glo "_law_jug", .glo "_law_take", .glo "_law_same", .glo "_law_signature", .glo "_law_machine", .glo "_law_machine_text", .glo "_law_words", .glo "_law_loose", .glo "_law_mixed", .glo "_law_word", .glo "law"]
def fa1 : List He.Fa := [.glo "GroundError", .glo "BadSignature", .glo "BadMachine", .glo "BadText", .glo "Reader", .glo "TreeReader", .glo "MachineReader", .free "ValueError", .free "abs", .free "all", .free "bool", .free "enumerate", .free "int", .free "isinstance", .free "len", .free "list", .free "min", .free "range", .free "set", .free "sorted", .free "str", .free "super", .free "tuple", .free "zip", .str "SMALL_LETTERS" "abcdefghijklmnopqrstuvwxyz", .str "DIGITS" "0123456789", .int "LONGEST_NAME" 10, .int "MOST_SYMBOLS" 12, .int "MOST_ARITY" 2, .int "MOST_STATES" 300]
def fa2 : List He.Fa := [.int "MOST_MOVES" 5000, .str "RUNS" "abcdefghijklmnopqrstuvwxyz0123456789", .str "BLANKS" " \n", .exc "GroundError", .exc "BadSignature", .exc "BadMachine", .cls "Reader", .meth "Reader" "word", .meth "Reader" "stop", .meth "Reader" "mark", .meth "Reader" "goes_on", .meth "Reader" "numeral", .meth "Reader" "end", .meth "Reader" "due", .noat "Reader" "text", .noat "Reader" "words", .noat "Reader" "at", .mkr "Reader", .cls "TreeReader", .meth "TreeReader" "symbol", .meth "TreeReader" "tree", .meth "TreeReader" "closed", .meth "TreeReader" "rule", .meth "TreeReader" "word", .meth "TreeReader" "stop", .meth "TreeReader" "mark", .meth "TreeReader" "goes_on", .meth "TreeReader" "numeral", .meth "TreeReader" "end", .meth "TreeReader" "due"]
def fa3 : List He.Fa := [.noat "TreeReader" "signature", .noat "TreeReader" "symbols", .noat "TreeReader" "at", .noat "TreeReader" "text", .noat "TreeReader" "words", .mkr "TreeReader", .cls "MachineReader", .meth "MachineReader" "states", .meth "MachineReader" "move", .meth "MachineReader" "machine", .meth "MachineReader" "symbol", .meth "MachineReader" "tree", .meth "MachineReader" "closed", .meth "MachineReader" "rule", .meth "MachineReader" "word", .meth "MachineReader" "stop", .meth "MachineReader" "mark", .meth "MachineReader" "goes_on", .meth "MachineReader" "numeral", .meth "MachineReader" "end", .meth "MachineReader" "due", .noat "MachineReader" "signature", .noat "MachineReader" "symbols", .noat "MachineReader" "at", .noat "MachineReader" "text", .noat "MachineReader" "words", .mkr "MachineReader", .exm "GroundError" "GroundError" true, .exm "GroundError" "BadSignature" false, .exm "GroundError" "BadMachine" false]
def fa4 : List He.Fa := [.exm "GroundError" "BadText" false, .exm "BadSignature" "GroundError" true, .exm "BadSignature" "BadSignature" true, .exm "BadSignature" "BadMachine" false, .exm "BadSignature" "BadText" false, .exm "BadMachine" "GroundError" true, .exm "BadMachine" "BadSignature" false, .exm "BadMachine" "BadMachine" true, .exm "BadMachine" "BadText" false, .exm "BadText" "GroundError" true, .exm "BadText" "BadSignature" false, .exm "BadText" "BadMachine" false, .exm "BadText" "BadText" true]
def fa : List He.Fa := fa0 ++ (fa1 ++ (fa2 ++ (fa3 ++ (fa4))))
def la0 : List PySem.Str := ["_wall", "GroundError", "BadSignature", "BadMachine", "BadText", "SMALL_LETTERS", "DIGITS", "LONGEST_NAME", "is_int", "within", "is_row", "is_low_name", "is_ascending", "MOST_SYMBOLS", "MOST_ARITY", "is_signature", "need_signature", "MOST_STATES", "MOST_MOVES", "is_move", "is_any_machine", "is_small_machine", "is_machine", "need_machine", "RUNS", "BLANKS", "words_in", "is_numeral", "Reader", "TreeReader"]
def la1 : List PySem.Str := ["written_move", "written_machine", "write_machine", "MachineReader", "read_machine", "_law_jug", "_law_take", "_law_same", "_law_signature", "_law_machine", "_law_machine_text", "_law_words", "_law_loose", "_law_mixed", "_law_word"]
abbrev la : List PySem.Str := la0 ++ (la1)
abbrev R : PySem.W.OpenRow := PySem.W.OpenLaw.row PySem.Challenge.rw_groundturns_k78_texts_of_machines
def lawAt : Nat := 53
/-- the class c over d over e -/
def supB3 (K : PySem.W.Frag) (c d e : Str) : Bool := (match PySem.W.clsIn K (He.ga K c) with
    | some cd => decide (cd.mro = [.ref (He.ga K c), .ref (He.ga K d), .ref (He.ga K e), .type "object"])
    | _ => false) && decide (PySem.W.nsIn K cStatics "thirdparty.any" = some none)
  && decide (PySem.W.alongIn K "__init__" [.ref (He.ga K e), .type "object"] = some (some (.ref (He.ma K (He.ga K e) "__init__")))) && PySem.W.isFn K (.ref (He.ma K (He.ga K e) "__init__"))
  && decide (He.ma K (He.ga K c) "__init__" = He.ma K (He.ga K d) "__init__") && decide (He.ga K c ≠ He.ga K d)
def exB (K : PySem.W.Frag) : Bool := clB K ("TreeReader", some "__init__") "TreeReader.__init__" "/claim/cut.py" && supB3 K "MachineReader" "TreeReader" "Reader"
def csY : List (Str × Option Str) := [("TreeReader", some "__init__")]
def cvY : List FnC := [some ("__init__", "TreeReader.__init__", defArgs s_TreeReader___init__, .stmts (defBody s_TreeReader___init__), defScope s_TreeReader___init__, mainGlobals, builtinsNs)]
/-- what the top has written -/
structure Tx (K : PySem.W.Frag) (mg : Str → Option Value) : Prop where
  c : He.SaysD fa fn K
  h : ∃ h : Heap, K.In h ∧ h.Ns mainGlobals mg
  more : exB K = true
  clo : csY.map (fnC K) = cvY
section
variable {K : PySem.W.Frag} {mg : Str → Option Value}
theorem Tx.g__wall (T : Tx K mg) : mg "_wall" = some (.ref (He.ga K "_wall")) := by
  obtain ⟨h, X, N⟩ := T.h
  exact He.glo_ok X N (T.c.fact 0 (f := .glo "_wall") rfl)
theorem Tx.g_is_int (T : Tx K mg) : mg "is_int" = some (.ref (He.ga K "is_int")) := by
  obtain ⟨h, X, N⟩ := T.h
  exact He.glo_ok X N (T.c.fact 1 (f := .glo "is_int") rfl)
theorem Tx.g_within (T : Tx K mg) : mg "within" = some (.ref (He.ga K "within")) := by
  obtain ⟨h, X, N⟩ := T.h
  exact He.glo_ok X N (T.c.fact 2 (f := .glo "within") rfl)
theorem Tx.g_is_row (T : Tx K mg) : mg "is_row" = some (.ref (He.ga K "is_row")) := by
  obtain ⟨h, X, N⟩ := T.h
  exact He.glo_ok X N (T.c.fact 3 (f := .glo "is_row") rfl)
theorem Tx.g_is_low_name (T : Tx K mg) : mg "is_low_name" = some (.ref (He.ga K "is_low_name")) := by
  obtain ⟨h, X, N⟩ := T.h
  exact He.glo_ok X N (T.c.fact 4 (f := .glo "is_low_name") rfl)
theorem Tx.g_is_ascending (T : Tx K mg) : mg "is_ascending" = some (.ref (He.ga K "is_ascending")) := by
  obtain ⟨h, X, N⟩ := T.h
  exact He.glo_ok X N (T.c.fact 5 (f := .glo "is_ascending") rfl)
theorem Tx.g_is_signature (T : Tx K mg) : mg "is_signature" = some (.ref (He.ga K "is_signature")) := by
  obtain ⟨h, X, N⟩ := T.h
  exact He.glo_ok X N (T.c.fact 6 (f := .glo "is_signature") rfl)
theorem Tx.g_need_signature (T : Tx K mg) : mg "need_signature" = some (.ref (He.ga K "need_signature")) := by
  obtain ⟨h, X, N⟩ := T.h
  exact He.glo_ok X N (T.c.fact 7 (f := .glo "need_signature") rfl)
theorem Tx.g_is_move (T : Tx K mg) : mg "is_move" = some (.ref (He.ga K "is_move")) := by
  obtain ⟨h, X, N⟩ := T.h
  exact He.glo_ok X N (T.c.fact 8 (f := .glo "is_move") rfl)
theorem Tx.g_is_any_machine (T : Tx K mg) : mg "is_any_machine" = some (.ref (He.ga K "is_any_machine")) := by
  obtain ⟨h, X, N⟩ := T.h
  exact He.glo_ok X N (T.c.fact 9 (f := .glo "is_any_machine") rfl)
theorem Tx.g_is_small_machine (T : Tx K mg) : mg "is_small_machine" = some (.ref (He.ga K "is_small_machine")) := by
  obtain ⟨h, X, N⟩ := T.h
  exact He.glo_ok X N (T.c.fact 10 (f := .glo "is_small_machine") rfl)
theorem Tx.g_is_machine (T : Tx K mg) : mg "is_machine" = some (.ref (He.ga K "is_machine")) := by
  obtain ⟨h, X, N⟩ := T.h
  exact He.glo_ok X N (T.c.fact 11 (f := .glo "is_machine") rfl)
theorem Tx.g_need_machine (T : Tx K mg) : mg "need_machine" = some (.ref (He.ga K "need_machine")) := by
  obtain ⟨h, X, N⟩ := T.h
  exact He.glo_ok X N (T.c.fact 12 (f := .glo "need_machine") rfl)
theorem Tx.g_words_in (T : Tx K mg) : mg "words_in" = some (.ref (He.ga K "words_in")) := by
  obtain ⟨h, X, N⟩ := T.h
  exact He.glo_ok X N (T.c.fact 13 (f := .glo "words_in") rfl)
theorem Tx.g_is_numeral (T : Tx K mg) : mg "is_numeral" = some (.ref (He.ga K "is_numeral")) := by
  obtain ⟨h, X, N⟩ := T.h
  exact He.glo_ok X N (T.c.fact 14 (f := .glo "is_numeral") rfl)
theorem Tx.g_written_move (T : Tx K mg) : mg "written_move" = some (.ref (He.ga K "written_move")) := by
  obtain ⟨h, X, N⟩ := T.h
  exact He.glo_ok X N (T.c.fact 15 (f := .glo "written_move") rfl)
theorem Tx.g_written_machine (T : Tx K mg) : mg "written_machine" = some (.ref (He.ga K "written_machine")) := by
  obtain ⟨h, X, N⟩ := T.h
  exact He.glo_ok X N (T.c.fact 16 (f := .glo "written_machine") rfl)
theorem Tx.g_write_machine (T : Tx K mg) : mg "write_machine" = some (.ref (He.ga K "write_machine")) := by
  obtain ⟨h, X, N⟩ := T.h
  exact He.glo_ok X N (T.c.fact 17 (f := .glo "write_machine") rfl)
theorem Tx.g_read_machine (T : Tx K mg) : mg "read_machine" = some (.ref (He.ga K "read_machine")) := by
  obtain ⟨h, X, N⟩ := T.h
  exact He.glo_ok X N (T.c.fact 18 (f := .glo "read_machine") rfl)
theorem Tx.g__law_jug (T : Tx K mg) : mg "_law_jug" = some (.ref (He.ga K "_law_jug")) := by
  obtain ⟨h, X, N⟩ := T.h
  exact He.glo_ok X N (T.c.fact 19 (f := .glo "_law_jug") rfl)
theorem Tx.g__law_take (T : Tx K mg) : mg "_law_take" = some (.ref (He.ga K "_law_take")) := by
  obtain ⟨h, X, N⟩ := T.h
  exact He.glo_ok X N (T.c.fact 20 (f := .glo "_law_take") rfl)
theorem Tx.g__law_same (T : Tx K mg) : mg "_law_same" = some (.ref (He.ga K "_law_same")) := by
  obtain ⟨h, X, N⟩ := T.h
  exact He.glo_ok X N (T.c.fact 21 (f := .glo "_law_same") rfl)
theorem Tx.g__law_signature (T : Tx K mg) : mg "_law_signature" = some (.ref (He.ga K "_law_signature")) := by
  obtain ⟨h, X, N⟩ := T.h
  exact He.glo_ok X N (T.c.fact 22 (f := .glo "_law_signature") rfl)
theorem Tx.g__law_machine (T : Tx K mg) : mg "_law_machine" = some (.ref (He.ga K "_law_machine")) := by
  obtain ⟨h, X, N⟩ := T.h
  exact He.glo_ok X N (T.c.fact 23 (f := .glo "_law_machine") rfl)
theorem Tx.g__law_machine_text (T : Tx K mg) : mg "_law_machine_text" = some (.ref (He.ga K "_law_machine_text")) := by
  obtain ⟨h, X, N⟩ := T.h
  exact He.glo_ok X N (T.c.fact 24 (f := .glo "_law_machine_text") rfl)
theorem Tx.g__law_words (T : Tx K mg) : mg "_law_words" = some (.ref (He.ga K "_law_words")) := by
  obtain ⟨h, X, N⟩ := T.h
  exact He.glo_ok X N (T.c.fact 25 (f := .glo "_law_words") rfl)
theorem Tx.g__law_loose (T : Tx K mg) : mg "_law_loose" = some (.ref (He.ga K "_law_loose")) := by
  obtain ⟨h, X, N⟩ := T.h
  exact He.glo_ok X N (T.c.fact 26 (f := .glo "_law_loose") rfl)
theorem Tx.g__law_mixed (T : Tx K mg) : mg "_law_mixed" = some (.ref (He.ga K "_law_mixed")) := by
  obtain ⟨h, X, N⟩ := T.h
  exact He.glo_ok X N (T.c.fact 27 (f := .glo "_law_mixed") rfl)
theorem Tx.g__law_word (T : Tx K mg) : mg "_law_word" = some (.ref (He.ga K "_law_word")) := by
  obtain ⟨h, X, N⟩ := T.h
  exact He.glo_ok X N (T.c.fact 28 (f := .glo "_law_word") rfl)
theorem Tx.g_law (T : Tx K mg) : mg "law" = some (.ref (He.ga K "law")) := by
  obtain ⟨h, X, N⟩ := T.h
  exact He.glo_ok X N (T.c.fact 29 (f := .glo "law") rfl)
theorem Tx.g_GroundError (T : Tx K mg) : mg "GroundError" = some (.ref (He.ga K "GroundError")) := by
  obtain ⟨h, X, N⟩ := T.h
  exact He.glo_ok X N (T.c.fact 30 (f := .glo "GroundError") rfl)
theorem Tx.g_BadSignature (T : Tx K mg) : mg "BadSignature" = some (.ref (He.ga K "BadSignature")) := by
  obtain ⟨h, X, N⟩ := T.h
  exact He.glo_ok X N (T.c.fact 31 (f := .glo "BadSignature") rfl)
theorem Tx.g_BadMachine (T : Tx K mg) : mg "BadMachine" = some (.ref (He.ga K "BadMachine")) := by
  obtain ⟨h, X, N⟩ := T.h
  exact He.glo_ok X N (T.c.fact 32 (f := .glo "BadMachine") rfl)
theorem Tx.g_BadText (T : Tx K mg) : mg "BadText" = some (.ref (He.ga K "BadText")) := by
  obtain ⟨h, X, N⟩ := T.h
  exact He.glo_ok X N (T.c.fact 33 (f := .glo "BadText") rfl)
theorem Tx.g_Reader (T : Tx K mg) : mg "Reader" = some (.ref (He.ga K "Reader")) := by
  obtain ⟨h, X, N⟩ := T.h
  exact He.glo_ok X N (T.c.fact 34 (f := .glo "Reader") rfl)
theorem Tx.g_TreeReader (T : Tx K mg) : mg "TreeReader" = some (.ref (He.ga K "TreeReader")) := by
  obtain ⟨h, X, N⟩ := T.h
  exact He.glo_ok X N (T.c.fact 35 (f := .glo "TreeReader") rfl)
theorem Tx.g_MachineReader (T : Tx K mg) : mg "MachineReader" = some (.ref (He.ga K "MachineReader")) := by
  obtain ⟨h, X, N⟩ := T.h
  exact He.glo_ok X N (T.c.fact 36 (f := .glo "MachineReader") rfl)
theorem Tx.b_ValueError (T : Tx K mg) : mg "ValueError" = none := by
  obtain ⟨h, X, N⟩ := T.h
  exact He.free_ok X N (T.c.fact 37 (f := .free "ValueError") rfl)
theorem Tx.b_abs (T : Tx K mg) : mg "abs" = none := by
  obtain ⟨h, X, N⟩ := T.h
  exact He.free_ok X N (T.c.fact 38 (f := .free "abs") rfl)
theorem Tx.b_all (T : Tx K mg) : mg "all" = none := by
  obtain ⟨h, X, N⟩ := T.h
  exact He.free_ok X N (T.c.fact 39 (f := .free "all") rfl)
theorem Tx.b_bool (T : Tx K mg) : mg "bool" = none := by
  obtain ⟨h, X, N⟩ := T.h
  exact He.free_ok X N (T.c.fact 40 (f := .free "bool") rfl)
theorem Tx.b_enumerate (T : Tx K mg) : mg "enumerate" = none := by
  obtain ⟨h, X, N⟩ := T.h
  exact He.free_ok X N (T.c.fact 41 (f := .free "enumerate") rfl)
theorem Tx.b_int (T : Tx K mg) : mg "int" = none := by
  obtain ⟨h, X, N⟩ := T.h
  exact He.free_ok X N (T.c.fact 42 (f := .free "int") rfl)
theorem Tx.b_isinstance (T : Tx K mg) : mg "isinstance" = none := by
  obtain ⟨h, X, N⟩ := T.h
  exact He.free_ok X N (T.c.fact 43 (f := .free "isinstance") rfl)
theorem Tx.b_len (T : Tx K mg) : mg "len" = none := by
  obtain ⟨h, X, N⟩ := T.h
  exact He.free_ok X N (T.c.fact 44 (f := .free "len") rfl)
theorem Tx.b_list (T : Tx K mg) : mg "list" = none := by
  obtain ⟨h, X, N⟩ := T.h
  exact He.free_ok X N (T.c.fact 45 (f := .free "list") rfl)
theorem Tx.b_min (T : Tx K mg) : mg "min" = none := by
  obtain ⟨h, X, N⟩ := T.h
  exact He.free_ok X N (T.c.fact 46 (f := .free "min") rfl)
theorem Tx.b_range (T : Tx K mg) : mg "range" = none := by
  obtain ⟨h, X, N⟩ := T.h
  exact He.free_ok X N (T.c.fact 47 (f := .free "range") rfl)
theorem Tx.b_set (T : Tx K mg) : mg "set" = none := by
  obtain ⟨h, X, N⟩ := T.h
  exact He.free_ok X N (T.c.fact 48 (f := .free "set") rfl)
theorem Tx.b_sorted (T : Tx K mg) : mg "sorted" = none := by
  obtain ⟨h, X, N⟩ := T.h
  exact He.free_ok X N (T.c.fact 49 (f := .free "sorted") rfl)
theorem Tx.b_str (T : Tx K mg) : mg "str" = none := by
  obtain ⟨h, X, N⟩ := T.h
  exact He.free_ok X N (T.c.fact 50 (f := .free "str") rfl)
theorem Tx.b_super (T : Tx K mg) : mg "super" = none := by
  obtain ⟨h, X, N⟩ := T.h
  exact He.free_ok X N (T.c.fact 51 (f := .free "super") rfl)
theorem Tx.b_tuple (T : Tx K mg) : mg "tuple" = none := by
  obtain ⟨h, X, N⟩ := T.h
  exact He.free_ok X N (T.c.fact 52 (f := .free "tuple") rfl)
theorem Tx.b_zip (T : Tx K mg) : mg "zip" = none := by
  obtain ⟨h, X, N⟩ := T.h
  exact He.free_ok X N (T.c.fact 53 (f := .free "zip") rfl)
theorem Tx.c_SMALL_LETTERS (T : Tx K mg) : ∃ t, mg "SMALL_LETTERS" = some (.str "abcdefghijklmnopqrstuvwxyz" t) := by
  obtain ⟨h, X, N⟩ := T.h
  exact He.str_ok X N (T.c.fact 54 (f := .str "SMALL_LETTERS" "abcdefghijklmnopqrstuvwxyz") rfl)
theorem Tx.c_DIGITS (T : Tx K mg) : ∃ t, mg "DIGITS" = some (.str "0123456789" t) := by
  obtain ⟨h, X, N⟩ := T.h
  exact He.str_ok X N (T.c.fact 55 (f := .str "DIGITS" "0123456789") rfl)
theorem Tx.c_LONGEST_NAME (T : Tx K mg) : ∃ t, mg "LONGEST_NAME" = some (.int 10 t) := by
  obtain ⟨h, X, N⟩ := T.h
  exact He.int_ok X N (T.c.fact 56 (f := .int "LONGEST_NAME" 10) rfl)
theorem Tx.c_MOST_SYMBOLS (T : Tx K mg) : ∃ t, mg "MOST_SYMBOLS" = some (.int 12 t) := by
  obtain ⟨h, X, N⟩ := T.h
  exact He.int_ok X N (T.c.fact 57 (f := .int "MOST_SYMBOLS" 12) rfl)
theorem Tx.c_MOST_ARITY (T : Tx K mg) : ∃ t, mg "MOST_ARITY" = some (.int 2 t) := by
  obtain ⟨h, X, N⟩ := T.h
  exact He.int_ok X N (T.c.fact 58 (f := .int "MOST_ARITY" 2) rfl)
theorem Tx.c_MOST_STATES (T : Tx K mg) : ∃ t, mg "MOST_STATES" = some (.int 300 t) := by
  obtain ⟨h, X, N⟩ := T.h
  exact He.int_ok X N (T.c.fact 59 (f := .int "MOST_STATES" 300) rfl)
theorem Tx.c_MOST_MOVES (T : Tx K mg) : ∃ t, mg "MOST_MOVES" = some (.int 5000 t) := by
  obtain ⟨h, X, N⟩ := T.h
  exact He.int_ok X N (T.c.fact 60 (f := .int "MOST_MOVES" 5000) rfl)
theorem Tx.c_RUNS (T : Tx K mg) : ∃ t, mg "RUNS" = some (.str "abcdefghijklmnopqrstuvwxyz0123456789" t) := by
  obtain ⟨h, X, N⟩ := T.h
  exact He.str_ok X N (T.c.fact 61 (f := .str "RUNS" "abcdefghijklmnopqrstuvwxyz0123456789") rfl)
theorem Tx.c_BLANKS (T : Tx K mg) : ∃ t, mg "BLANKS" = some (.str " \n" t) := by
  obtain ⟨h, X, N⟩ := T.h
  exact He.str_ok X N (T.c.fact 62 (f := .str "BLANKS" " \n") rfl)
theorem Tx.x_GroundError (T : Tx K mg) : PySem.W.excIn K (He.ga K "GroundError") He.veBase "ValueError.__new__" = true ∧ PySem.W.keepIn K (.ref (He.ga K "GroundError")) = true ∧ PySem.W.subIn K (.ref (He.ga K "GroundError")) (.type "BaseException") = some true ∧ PySem.W.typeIn K (.ref (He.ga K "GroundError")) = some (.type "type") := He.exc_ok (T.c.fact 63 (f := .exc "GroundError") rfl)
theorem Tx.x_BadSignature (T : Tx K mg) : PySem.W.excIn K (He.ga K "BadSignature") He.veBase "ValueError.__new__" = true ∧ PySem.W.keepIn K (.ref (He.ga K "BadSignature")) = true ∧ PySem.W.subIn K (.ref (He.ga K "BadSignature")) (.type "BaseException") = some true ∧ PySem.W.typeIn K (.ref (He.ga K "BadSignature")) = some (.type "type") := He.exc_ok (T.c.fact 64 (f := .exc "BadSignature") rfl)
theorem Tx.x_BadMachine (T : Tx K mg) : PySem.W.excIn K (He.ga K "BadMachine") He.veBase "ValueError.__new__" = true ∧ PySem.W.keepIn K (.ref (He.ga K "BadMachine")) = true ∧ PySem.W.subIn K (.ref (He.ga K "BadMachine")) (.type "BaseException") = some true ∧ PySem.W.typeIn K (.ref (He.ga K "BadMachine")) = some (.type "type") := He.exc_ok (T.c.fact 65 (f := .exc "BadMachine") rfl)
theorem Tx.k_Reader (T : Tx K mg) : Cls K (He.ga K "Reader") := He.cls_ok (T.c.fact 66 (f := .cls "Reader") rfl)
theorem Tx.m_Reader_word (T : Tx K mg) : Meth K (He.ga K "Reader") "word" (He.ma K (He.ga K "Reader") "word") := He.meth_ok (T.c.fact 67 (f := .meth "Reader" "word") rfl)
theorem Tx.m_Reader_stop (T : Tx K mg) : Meth K (He.ga K "Reader") "stop" (He.ma K (He.ga K "Reader") "stop") := He.meth_ok (T.c.fact 68 (f := .meth "Reader" "stop") rfl)
theorem Tx.m_Reader_mark (T : Tx K mg) : Meth K (He.ga K "Reader") "mark" (He.ma K (He.ga K "Reader") "mark") := He.meth_ok (T.c.fact 69 (f := .meth "Reader" "mark") rfl)
theorem Tx.m_Reader_goes_on (T : Tx K mg) : Meth K (He.ga K "Reader") "goes_on" (He.ma K (He.ga K "Reader") "goes_on") := He.meth_ok (T.c.fact 70 (f := .meth "Reader" "goes_on") rfl)
theorem Tx.m_Reader_numeral (T : Tx K mg) : Meth K (He.ga K "Reader") "numeral" (He.ma K (He.ga K "Reader") "numeral") := He.meth_ok (T.c.fact 71 (f := .meth "Reader" "numeral") rfl)
theorem Tx.m_Reader_end (T : Tx K mg) : Meth K (He.ga K "Reader") "end" (He.ma K (He.ga K "Reader") "end") := He.meth_ok (T.c.fact 72 (f := .meth "Reader" "end") rfl)
theorem Tx.m_Reader_due (T : Tx K mg) : Meth K (He.ga K "Reader") "due" (He.ma K (He.ga K "Reader") "due") := He.meth_ok (T.c.fact 73 (f := .meth "Reader" "due") rfl)
theorem Tx.n_Reader_text (T : Tx K mg) : NoAttr K (He.ga K "Reader") "text" := He.noat_ok (T.c.fact 74 (f := .noat "Reader" "text") rfl)
theorem Tx.n_Reader_words (T : Tx K mg) : NoAttr K (He.ga K "Reader") "words" := He.noat_ok (T.c.fact 75 (f := .noat "Reader" "words") rfl)
theorem Tx.n_Reader_at (T : Tx K mg) : NoAttr K (He.ga K "Reader") "at" := He.noat_ok (T.c.fact 76 (f := .noat "Reader" "at") rfl)
theorem Tx.mk_Reader (T : Tx K mg) : Mk K (He.ga K "Reader") (He.ma K (He.ga K "Reader") "__init__") := He.mkr_ok (T.c.fact 77 (f := .mkr "Reader") rfl)
theorem Tx.k_TreeReader (T : Tx K mg) : Cls K (He.ga K "TreeReader") := He.cls_ok (T.c.fact 78 (f := .cls "TreeReader") rfl)
theorem Tx.m_TreeReader_symbol (T : Tx K mg) : Meth K (He.ga K "TreeReader") "symbol" (He.ma K (He.ga K "TreeReader") "symbol") := He.meth_ok (T.c.fact 79 (f := .meth "TreeReader" "symbol") rfl)
theorem Tx.m_TreeReader_tree (T : Tx K mg) : Meth K (He.ga K "TreeReader") "tree" (He.ma K (He.ga K "TreeReader") "tree") := He.meth_ok (T.c.fact 80 (f := .meth "TreeReader" "tree") rfl)
theorem Tx.m_TreeReader_closed (T : Tx K mg) : Meth K (He.ga K "TreeReader") "closed" (He.ma K (He.ga K "TreeReader") "closed") := He.meth_ok (T.c.fact 81 (f := .meth "TreeReader" "closed") rfl)
theorem Tx.m_TreeReader_rule (T : Tx K mg) : Meth K (He.ga K "TreeReader") "rule" (He.ma K (He.ga K "TreeReader") "rule") := He.meth_ok (T.c.fact 82 (f := .meth "TreeReader" "rule") rfl)
theorem Tx.m_TreeReader_word (T : Tx K mg) : Meth K (He.ga K "TreeReader") "word" (He.ma K (He.ga K "TreeReader") "word") := He.meth_ok (T.c.fact 83 (f := .meth "TreeReader" "word") rfl)
theorem Tx.m_TreeReader_stop (T : Tx K mg) : Meth K (He.ga K "TreeReader") "stop" (He.ma K (He.ga K "TreeReader") "stop") := He.meth_ok (T.c.fact 84 (f := .meth "TreeReader" "stop") rfl)
theorem Tx.m_TreeReader_mark (T : Tx K mg) : Meth K (He.ga K "TreeReader") "mark" (He.ma K (He.ga K "TreeReader") "mark") := He.meth_ok (T.c.fact 85 (f := .meth "TreeReader" "mark") rfl)
theorem Tx.m_TreeReader_goes_on (T : Tx K mg) : Meth K (He.ga K "TreeReader") "goes_on" (He.ma K (He.ga K "TreeReader") "goes_on") := He.meth_ok (T.c.fact 86 (f := .meth "TreeReader" "goes_on") rfl)
theorem Tx.m_TreeReader_numeral (T : Tx K mg) : Meth K (He.ga K "TreeReader") "numeral" (He.ma K (He.ga K "TreeReader") "numeral") := He.meth_ok (T.c.fact 87 (f := .meth "TreeReader" "numeral") rfl)
theorem Tx.m_TreeReader_end (T : Tx K mg) : Meth K (He.ga K "TreeReader") "end" (He.ma K (He.ga K "TreeReader") "end") := He.meth_ok (T.c.fact 88 (f := .meth "TreeReader" "end") rfl)
theorem Tx.m_TreeReader_due (T : Tx K mg) : Meth K (He.ga K "TreeReader") "due" (He.ma K (He.ga K "TreeReader") "due") := He.meth_ok (T.c.fact 89 (f := .meth "TreeReader" "due") rfl)
theorem Tx.n_TreeReader_signature (T : Tx K mg) : NoAttr K (He.ga K "TreeReader") "signature" := He.noat_ok (T.c.fact 90 (f := .noat "TreeReader" "signature") rfl)
theorem Tx.n_TreeReader_symbols (T : Tx K mg) : NoAttr K (He.ga K "TreeReader") "symbols" := He.noat_ok (T.c.fact 91 (f := .noat "TreeReader" "symbols") rfl)
theorem Tx.n_TreeReader_at (T : Tx K mg) : NoAttr K (He.ga K "TreeReader") "at" := He.noat_ok (T.c.fact 92 (f := .noat "TreeReader" "at") rfl)
theorem Tx.n_TreeReader_text (T : Tx K mg) : NoAttr K (He.ga K "TreeReader") "text" := He.noat_ok (T.c.fact 93 (f := .noat "TreeReader" "text") rfl)
theorem Tx.n_TreeReader_words (T : Tx K mg) : NoAttr K (He.ga K "TreeReader") "words" := He.noat_ok (T.c.fact 94 (f := .noat "TreeReader" "words") rfl)
theorem Tx.mk_TreeReader (T : Tx K mg) : Mk K (He.ga K "TreeReader") (He.ma K (He.ga K "TreeReader") "__init__") := He.mkr_ok (T.c.fact 95 (f := .mkr "TreeReader") rfl)
theorem Tx.k_MachineReader (T : Tx K mg) : Cls K (He.ga K "MachineReader") := He.cls_ok (T.c.fact 96 (f := .cls "MachineReader") rfl)
theorem Tx.m_MachineReader_states (T : Tx K mg) : Meth K (He.ga K "MachineReader") "states" (He.ma K (He.ga K "MachineReader") "states") := He.meth_ok (T.c.fact 97 (f := .meth "MachineReader" "states") rfl)
theorem Tx.m_MachineReader_move (T : Tx K mg) : Meth K (He.ga K "MachineReader") "move" (He.ma K (He.ga K "MachineReader") "move") := He.meth_ok (T.c.fact 98 (f := .meth "MachineReader" "move") rfl)
theorem Tx.m_MachineReader_machine (T : Tx K mg) : Meth K (He.ga K "MachineReader") "machine" (He.ma K (He.ga K "MachineReader") "machine") := He.meth_ok (T.c.fact 99 (f := .meth "MachineReader" "machine") rfl)
theorem Tx.m_MachineReader_symbol (T : Tx K mg) : Meth K (He.ga K "MachineReader") "symbol" (He.ma K (He.ga K "MachineReader") "symbol") := He.meth_ok (T.c.fact 100 (f := .meth "MachineReader" "symbol") rfl)
theorem Tx.m_MachineReader_tree (T : Tx K mg) : Meth K (He.ga K "MachineReader") "tree" (He.ma K (He.ga K "MachineReader") "tree") := He.meth_ok (T.c.fact 101 (f := .meth "MachineReader" "tree") rfl)
theorem Tx.m_MachineReader_closed (T : Tx K mg) : Meth K (He.ga K "MachineReader") "closed" (He.ma K (He.ga K "MachineReader") "closed") := He.meth_ok (T.c.fact 102 (f := .meth "MachineReader" "closed") rfl)
theorem Tx.m_MachineReader_rule (T : Tx K mg) : Meth K (He.ga K "MachineReader") "rule" (He.ma K (He.ga K "MachineReader") "rule") := He.meth_ok (T.c.fact 103 (f := .meth "MachineReader" "rule") rfl)
theorem Tx.m_MachineReader_word (T : Tx K mg) : Meth K (He.ga K "MachineReader") "word" (He.ma K (He.ga K "MachineReader") "word") := He.meth_ok (T.c.fact 104 (f := .meth "MachineReader" "word") rfl)
theorem Tx.m_MachineReader_stop (T : Tx K mg) : Meth K (He.ga K "MachineReader") "stop" (He.ma K (He.ga K "MachineReader") "stop") := He.meth_ok (T.c.fact 105 (f := .meth "MachineReader" "stop") rfl)
theorem Tx.m_MachineReader_mark (T : Tx K mg) : Meth K (He.ga K "MachineReader") "mark" (He.ma K (He.ga K "MachineReader") "mark") := He.meth_ok (T.c.fact 106 (f := .meth "MachineReader" "mark") rfl)
theorem Tx.m_MachineReader_goes_on (T : Tx K mg) : Meth K (He.ga K "MachineReader") "goes_on" (He.ma K (He.ga K "MachineReader") "goes_on") := He.meth_ok (T.c.fact 107 (f := .meth "MachineReader" "goes_on") rfl)
theorem Tx.m_MachineReader_numeral (T : Tx K mg) : Meth K (He.ga K "MachineReader") "numeral" (He.ma K (He.ga K "MachineReader") "numeral") := He.meth_ok (T.c.fact 108 (f := .meth "MachineReader" "numeral") rfl)
theorem Tx.m_MachineReader_end (T : Tx K mg) : Meth K (He.ga K "MachineReader") "end" (He.ma K (He.ga K "MachineReader") "end") := He.meth_ok (T.c.fact 109 (f := .meth "MachineReader" "end") rfl)
theorem Tx.m_MachineReader_due (T : Tx K mg) : Meth K (He.ga K "MachineReader") "due" (He.ma K (He.ga K "MachineReader") "due") := He.meth_ok (T.c.fact 110 (f := .meth "MachineReader" "due") rfl)
theorem Tx.n_MachineReader_signature (T : Tx K mg) : NoAttr K (He.ga K "MachineReader") "signature" := He.noat_ok (T.c.fact 111 (f := .noat "MachineReader" "signature") rfl)
theorem Tx.n_MachineReader_symbols (T : Tx K mg) : NoAttr K (He.ga K "MachineReader") "symbols" := He.noat_ok (T.c.fact 112 (f := .noat "MachineReader" "symbols") rfl)
theorem Tx.n_MachineReader_at (T : Tx K mg) : NoAttr K (He.ga K "MachineReader") "at" := He.noat_ok (T.c.fact 113 (f := .noat "MachineReader" "at") rfl)
theorem Tx.n_MachineReader_text (T : Tx K mg) : NoAttr K (He.ga K "MachineReader") "text" := He.noat_ok (T.c.fact 114 (f := .noat "MachineReader" "text") rfl)
theorem Tx.n_MachineReader_words (T : Tx K mg) : NoAttr K (He.ga K "MachineReader") "words" := He.noat_ok (T.c.fact 115 (f := .noat "MachineReader" "words") rfl)
theorem Tx.mk_MachineReader (T : Tx K mg) : Mk K (He.ga K "MachineReader") (He.ma K (He.ga K "MachineReader") "__init__") := He.mkr_ok (T.c.fact 116 (f := .mkr "MachineReader") rfl)
theorem Tx.e_GroundError_GroundError (T : Tx K mg) : PySem.W.exmOne K (.ref (He.ga K "GroundError")) (.ref (He.ga K "GroundError")) = some true := He.exm_ok (T.c.fact 117 (f := .exm "GroundError" "GroundError" true) rfl)
theorem Tx.e_GroundError_BadSignature (T : Tx K mg) : PySem.W.exmOne K (.ref (He.ga K "GroundError")) (.ref (He.ga K "BadSignature")) = some false := He.exm_ok (T.c.fact 118 (f := .exm "GroundError" "BadSignature" false) rfl)
theorem Tx.e_GroundError_BadMachine (T : Tx K mg) : PySem.W.exmOne K (.ref (He.ga K "GroundError")) (.ref (He.ga K "BadMachine")) = some false := He.exm_ok (T.c.fact 119 (f := .exm "GroundError" "BadMachine" false) rfl)
theorem Tx.e_GroundError_BadText (T : Tx K mg) : PySem.W.exmOne K (.ref (He.ga K "GroundError")) (.ref (He.ga K "BadText")) = some false := He.exm_ok (T.c.fact 120 (f := .exm "GroundError" "BadText" false) rfl)
theorem Tx.e_BadSignature_GroundError (T : Tx K mg) : PySem.W.exmOne K (.ref (He.ga K "BadSignature")) (.ref (He.ga K "GroundError")) = some true := He.exm_ok (T.c.fact 121 (f := .exm "BadSignature" "GroundError" true) rfl)
theorem Tx.e_BadSignature_BadSignature (T : Tx K mg) : PySem.W.exmOne K (.ref (He.ga K "BadSignature")) (.ref (He.ga K "BadSignature")) = some true := He.exm_ok (T.c.fact 122 (f := .exm "BadSignature" "BadSignature" true) rfl)
theorem Tx.e_BadSignature_BadMachine (T : Tx K mg) : PySem.W.exmOne K (.ref (He.ga K "BadSignature")) (.ref (He.ga K "BadMachine")) = some false := He.exm_ok (T.c.fact 123 (f := .exm "BadSignature" "BadMachine" false) rfl)
theorem Tx.e_BadSignature_BadText (T : Tx K mg) : PySem.W.exmOne K (.ref (He.ga K "BadSignature")) (.ref (He.ga K "BadText")) = some false := He.exm_ok (T.c.fact 124 (f := .exm "BadSignature" "BadText" false) rfl)
theorem Tx.e_BadMachine_GroundError (T : Tx K mg) : PySem.W.exmOne K (.ref (He.ga K "BadMachine")) (.ref (He.ga K "GroundError")) = some true := He.exm_ok (T.c.fact 125 (f := .exm "BadMachine" "GroundError" true) rfl)
theorem Tx.e_BadMachine_BadSignature (T : Tx K mg) : PySem.W.exmOne K (.ref (He.ga K "BadMachine")) (.ref (He.ga K "BadSignature")) = some false := He.exm_ok (T.c.fact 126 (f := .exm "BadMachine" "BadSignature" false) rfl)
theorem Tx.e_BadMachine_BadMachine (T : Tx K mg) : PySem.W.exmOne K (.ref (He.ga K "BadMachine")) (.ref (He.ga K "BadMachine")) = some true := He.exm_ok (T.c.fact 127 (f := .exm "BadMachine" "BadMachine" true) rfl)
theorem Tx.e_BadMachine_BadText (T : Tx K mg) : PySem.W.exmOne K (.ref (He.ga K "BadMachine")) (.ref (He.ga K "BadText")) = some false := He.exm_ok (T.c.fact 128 (f := .exm "BadMachine" "BadText" false) rfl)
theorem Tx.e_BadText_GroundError (T : Tx K mg) : PySem.W.exmOne K (.ref (He.ga K "BadText")) (.ref (He.ga K "GroundError")) = some true := He.exm_ok (T.c.fact 129 (f := .exm "BadText" "GroundError" true) rfl)
theorem Tx.e_BadText_BadSignature (T : Tx K mg) : PySem.W.exmOne K (.ref (He.ga K "BadText")) (.ref (He.ga K "BadSignature")) = some false := He.exm_ok (T.c.fact 130 (f := .exm "BadText" "BadSignature" false) rfl)
theorem Tx.e_BadText_BadMachine (T : Tx K mg) : PySem.W.exmOne K (.ref (He.ga K "BadText")) (.ref (He.ga K "BadMachine")) = some false := He.exm_ok (T.c.fact 131 (f := .exm "BadText" "BadMachine" false) rfl)
theorem Tx.e_BadText_BadText (T : Tx K mg) : PySem.W.exmOne K (.ref (He.ga K "BadText")) (.ref (He.ga K "BadText")) = some true := He.exm_ok (T.c.fact 132 (f := .exm "BadText" "BadText" true) rfl)
theorem Tx.f__wall (T : Tx K mg) : ∃ fd, FunD K "_wall" "_wall" (defArgs s__wall) (defBody s__wall) (defScope s__wall) [] [] (He.fAd K ("_wall", none)) fd := T.c.def_ 0 (d := d__wall) rfl
theorem Tx.f_is_int (T : Tx K mg) : ∃ fd, FunD K "is_int" "is_int" (defArgs s_is_int) (defBody s_is_int) (defScope s_is_int) [] [] (He.fAd K ("is_int", none)) fd := T.c.def_ 1 (d := d_is_int) rfl
theorem Tx.f_within (T : Tx K mg) : ∃ fd, FunD K "within" "within" (defArgs s_within) (defBody s_within) (defScope s_within) [] [] (He.fAd K ("within", none)) fd := T.c.def_ 2 (d := d_within) rfl
theorem Tx.f_is_row (T : Tx K mg) : ∃ fd, FunD K "is_row" "is_row" (defArgs s_is_row) (defBody s_is_row) (defScope s_is_row) [] [] (He.fAd K ("is_row", none)) fd := T.c.def_ 3 (d := d_is_row) rfl
theorem Tx.f_is_low_name (T : Tx K mg) : ∃ fd, FunD K "is_low_name" "is_low_name" (defArgs s_is_low_name) (defBody s_is_low_name) (defScope s_is_low_name) [] [] (He.fAd K ("is_low_name", none)) fd := T.c.def_ 4 (d := d_is_low_name) rfl
theorem Tx.f_is_ascending (T : Tx K mg) : ∃ fd, FunD K "is_ascending" "is_ascending" (defArgs s_is_ascending) (defBody s_is_ascending) (defScope s_is_ascending) [] [] (He.fAd K ("is_ascending", none)) fd := T.c.def_ 5 (d := d_is_ascending) rfl
theorem Tx.f_is_signature (T : Tx K mg) : ∃ fd, FunD K "is_signature" "is_signature" (defArgs s_is_signature) (defBody s_is_signature) (defScope s_is_signature) [] [] (He.fAd K ("is_signature", none)) fd := T.c.def_ 6 (d := d_is_signature) rfl
theorem Tx.f_need_signature (T : Tx K mg) : ∃ fd, FunD K "need_signature" "need_signature" (defArgs s_need_signature) (defBody s_need_signature) (defScope s_need_signature) [] [] (He.fAd K ("need_signature", none)) fd := T.c.def_ 7 (d := d_need_signature) rfl
theorem Tx.f_is_move (T : Tx K mg) : ∃ fd, FunD K "is_move" "is_move" (defArgs s_is_move) (defBody s_is_move) (defScope s_is_move) [] [] (He.fAd K ("is_move", none)) fd := T.c.def_ 8 (d := d_is_move) rfl
theorem Tx.f_is_any_machine (T : Tx K mg) : ∃ fd, FunD K "is_any_machine" "is_any_machine" (defArgs s_is_any_machine) (defBody s_is_any_machine) (defScope s_is_any_machine) [] [] (He.fAd K ("is_any_machine", none)) fd := T.c.def_ 9 (d := d_is_any_machine) rfl
theorem Tx.f_is_small_machine (T : Tx K mg) : ∃ fd, FunD K "is_small_machine" "is_small_machine" (defArgs s_is_small_machine) (defBody s_is_small_machine) (defScope s_is_small_machine) [] [] (He.fAd K ("is_small_machine", none)) fd := T.c.def_ 10 (d := d_is_small_machine) rfl
theorem Tx.f_is_machine (T : Tx K mg) : ∃ fd, FunD K "is_machine" "is_machine" (defArgs s_is_machine) (defBody s_is_machine) (defScope s_is_machine) [] [] (He.fAd K ("is_machine", none)) fd := T.c.def_ 11 (d := d_is_machine) rfl
theorem Tx.f_need_machine (T : Tx K mg) : ∃ fd, FunD K "need_machine" "need_machine" (defArgs s_need_machine) (defBody s_need_machine) (defScope s_need_machine) [] [] (He.fAd K ("need_machine", none)) fd := T.c.def_ 12 (d := d_need_machine) rfl
theorem Tx.f_words_in (T : Tx K mg) : ∃ fd, FunD K "words_in" "words_in" (defArgs s_words_in) (defBody s_words_in) (defScope s_words_in) [] [] (He.fAd K ("words_in", none)) fd := T.c.def_ 13 (d := d_words_in) rfl
theorem Tx.f_is_numeral (T : Tx K mg) : ∃ fd, FunD K "is_numeral" "is_numeral" (defArgs s_is_numeral) (defBody s_is_numeral) (defScope s_is_numeral) [] [] (He.fAd K ("is_numeral", none)) fd := T.c.def_ 14 (d := d_is_numeral) rfl
theorem Tx.f_Reader___init__ (T : Tx K mg) : ∃ fd, FunD K "__init__" "Reader.__init__" (defArgs s_Reader___init__) (defBody s_Reader___init__) (defScope s_Reader___init__) [] [] (He.fAd K ("Reader", some "__init__")) fd := T.c.def_ 15 (d := d_Reader___init__) rfl
theorem Tx.f_Reader_word (T : Tx K mg) : ∃ fd, FunD K "word" "Reader.word" (defArgs s_Reader_word) (defBody s_Reader_word) (defScope s_Reader_word) [] [] (He.fAd K ("Reader", some "word")) fd := T.c.def_ 16 (d := d_Reader_word) rfl
theorem Tx.f_Reader_stop (T : Tx K mg) : ∃ fd, FunD K "stop" "Reader.stop" (defArgs s_Reader_stop) (defBody s_Reader_stop) (defScope s_Reader_stop) [] [] (He.fAd K ("Reader", some "stop")) fd := T.c.def_ 17 (d := d_Reader_stop) rfl
theorem Tx.f_Reader_mark (T : Tx K mg) : ∃ fd, FunD K "mark" "Reader.mark" (defArgs s_Reader_mark) (defBody s_Reader_mark) (defScope s_Reader_mark) [] [] (He.fAd K ("Reader", some "mark")) fd := T.c.def_ 18 (d := d_Reader_mark) rfl
theorem Tx.f_Reader_goes_on (T : Tx K mg) : ∃ fd, FunD K "goes_on" "Reader.goes_on" (defArgs s_Reader_goes_on) (defBody s_Reader_goes_on) (defScope s_Reader_goes_on) [] [] (He.fAd K ("Reader", some "goes_on")) fd := T.c.def_ 19 (d := d_Reader_goes_on) rfl
theorem Tx.f_Reader_numeral (T : Tx K mg) : ∃ fd, FunD K "numeral" "Reader.numeral" (defArgs s_Reader_numeral) (defBody s_Reader_numeral) (defScope s_Reader_numeral) [] [] (He.fAd K ("Reader", some "numeral")) fd := T.c.def_ 20 (d := d_Reader_numeral) rfl
theorem Tx.f_Reader_end (T : Tx K mg) : ∃ fd, FunD K "end" "Reader.end" (defArgs s_Reader_end) (defBody s_Reader_end) (defScope s_Reader_end) [] [] (He.fAd K ("Reader", some "end")) fd := T.c.def_ 21 (d := d_Reader_end) rfl
theorem Tx.f_Reader_due (T : Tx K mg) : ∃ fd, FunD K "due" "Reader.due" (defArgs s_Reader_due) (defBody s_Reader_due) (defScope s_Reader_due) [] [] (He.fAd K ("Reader", some "due")) fd := T.c.def_ 22 (d := d_Reader_due) rfl
theorem Tx.f_TreeReader_symbol (T : Tx K mg) : ∃ fd, FunD K "symbol" "TreeReader.symbol" (defArgs s_TreeReader_symbol) (defBody s_TreeReader_symbol) (defScope s_TreeReader_symbol) [] [] (He.fAd K ("TreeReader", some "symbol")) fd := T.c.def_ 23 (d := d_TreeReader_symbol) rfl
theorem Tx.f_TreeReader_tree (T : Tx K mg) : ∃ fd, FunD K "tree" "TreeReader.tree" (defArgs s_TreeReader_tree) (defBody s_TreeReader_tree) (defScope s_TreeReader_tree) [] [] (He.fAd K ("TreeReader", some "tree")) fd := T.c.def_ 24 (d := d_TreeReader_tree) rfl
theorem Tx.f_TreeReader_closed (T : Tx K mg) : ∃ fd, FunD K "closed" "TreeReader.closed" (defArgs s_TreeReader_closed) (defBody s_TreeReader_closed) (defScope s_TreeReader_closed) [] [] (He.fAd K ("TreeReader", some "closed")) fd := T.c.def_ 25 (d := d_TreeReader_closed) rfl
theorem Tx.f_TreeReader_rule (T : Tx K mg) : ∃ fd, FunD K "rule" "TreeReader.rule" (defArgs s_TreeReader_rule) (defBody s_TreeReader_rule) (defScope s_TreeReader_rule) [] [] (He.fAd K ("TreeReader", some "rule")) fd := T.c.def_ 26 (d := d_TreeReader_rule) rfl
theorem Tx.f_written_move (T : Tx K mg) : ∃ fd, FunD K "written_move" "written_move" (defArgs s_written_move) (defBody s_written_move) (defScope s_written_move) [] [] (He.fAd K ("written_move", none)) fd := T.c.def_ 27 (d := d_written_move) rfl
theorem Tx.f_written_machine (T : Tx K mg) : ∃ fd, FunD K "written_machine" "written_machine" (defArgs s_written_machine) (defBody s_written_machine) (defScope s_written_machine) [] [] (He.fAd K ("written_machine", none)) fd := T.c.def_ 28 (d := d_written_machine) rfl
theorem Tx.f_write_machine (T : Tx K mg) : ∃ fd, FunD K "write_machine" "write_machine" (defArgs s_write_machine) (defBody s_write_machine) (defScope s_write_machine) [] [] (He.fAd K ("write_machine", none)) fd := T.c.def_ 29 (d := d_write_machine) rfl
theorem Tx.f_MachineReader_states (T : Tx K mg) : ∃ fd, FunD K "states" "MachineReader.states" (defArgs s_MachineReader_states) (defBody s_MachineReader_states) (defScope s_MachineReader_states) [] [] (He.fAd K ("MachineReader", some "states")) fd := T.c.def_ 30 (d := d_MachineReader_states) rfl
theorem Tx.f_MachineReader_move (T : Tx K mg) : ∃ fd, FunD K "move" "MachineReader.move" (defArgs s_MachineReader_move) (defBody s_MachineReader_move) (defScope s_MachineReader_move) [] [] (He.fAd K ("MachineReader", some "move")) fd := T.c.def_ 31 (d := d_MachineReader_move) rfl
theorem Tx.f_MachineReader_machine (T : Tx K mg) : ∃ fd, FunD K "machine" "MachineReader.machine" (defArgs s_MachineReader_machine) (defBody s_MachineReader_machine) (defScope s_MachineReader_machine) [] [] (He.fAd K ("MachineReader", some "machine")) fd := T.c.def_ 32 (d := d_MachineReader_machine) rfl
theorem Tx.f_read_machine (T : Tx K mg) : ∃ fd, FunD K "read_machine" "read_machine" (defArgs s_read_machine) (defBody s_read_machine) (defScope s_read_machine) [] [] (He.fAd K ("read_machine", none)) fd := T.c.def_ 33 (d := d_read_machine) rfl
theorem Tx.f__law_jug (T : Tx K mg) : ∃ fd, FunD K "_law_jug" "_law_jug" (defArgs s__law_jug) (defBody s__law_jug) (defScope s__law_jug) [] [] (He.fAd K ("_law_jug", none)) fd := T.c.def_ 34 (d := d__law_jug) rfl
theorem Tx.f__law_take (T : Tx K mg) : ∃ fd, FunD K "_law_take" "_law_take" (defArgs s__law_take) (defBody s__law_take) (defScope s__law_take) [] [] (He.fAd K ("_law_take", none)) fd := T.c.def_ 35 (d := d__law_take) rfl
theorem Tx.f__law_same (T : Tx K mg) : ∃ fd, FunD K "_law_same" "_law_same" (defArgs s__law_same) (defBody s__law_same) (defScope s__law_same) [] [] (He.fAd K ("_law_same", none)) fd := T.c.def_ 36 (d := d__law_same) rfl
theorem Tx.f__law_signature (T : Tx K mg) : ∃ fd, FunD K "_law_signature" "_law_signature" (defArgs s__law_signature) (defBody s__law_signature) (defScope s__law_signature) [] [] (He.fAd K ("_law_signature", none)) fd := T.c.def_ 37 (d := d__law_signature) rfl
theorem Tx.f__law_machine (T : Tx K mg) : ∃ fd, FunD K "_law_machine" "_law_machine" (defArgs s__law_machine) (defBody s__law_machine) (defScope s__law_machine) [] [] (He.fAd K ("_law_machine", none)) fd := T.c.def_ 38 (d := d__law_machine) rfl
theorem Tx.f__law_machine_text (T : Tx K mg) : ∃ fd, FunD K "_law_machine_text" "_law_machine_text" (defArgs s__law_machine_text) (defBody s__law_machine_text) (defScope s__law_machine_text) [] [] (He.fAd K ("_law_machine_text", none)) fd := T.c.def_ 39 (d := d__law_machine_text) rfl
theorem Tx.f__law_words (T : Tx K mg) : ∃ fd, FunD K "_law_words" "_law_words" (defArgs s__law_words) (defBody s__law_words) (defScope s__law_words) [] [] (He.fAd K ("_law_words", none)) fd := T.c.def_ 40 (d := d__law_words) rfl
theorem Tx.f__law_loose (T : Tx K mg) : ∃ fd, FunD K "_law_loose" "_law_loose" (defArgs s__law_loose) (defBody s__law_loose) (defScope s__law_loose) [] [] (He.fAd K ("_law_loose", none)) fd := T.c.def_ 41 (d := d__law_loose) rfl
theorem Tx.f__law_mixed (T : Tx K mg) : ∃ fd, FunD K "_law_mixed" "_law_mixed" (defArgs s__law_mixed) (defBody s__law_mixed) (defScope s__law_mixed) [] [] (He.fAd K ("_law_mixed", none)) fd := T.c.def_ 42 (d := d__law_mixed) rfl
theorem Tx.f__law_word (T : Tx K mg) : ∃ fd, FunD K "_law_word" "_law_word" (defArgs s__law_word) (defBody s__law_word) (defScope s__law_word) [] [] (He.fAd K ("_law_word", none)) fd := T.c.def_ 43 (d := d__law_word) rfl
theorem Tx.f_law (T : Tx K mg) : ∃ fd, FunD K "law" "law" (defArgs s_law) (defBody s_law) (defScope s_law) [] [] (He.fAd K ("law", none)) fd := T.c.def_ 44 (d := d_law) rfl
theorem Tx.f_TreeReader_word (T : Tx K mg) : ∃ fd, FunD K "word" "Reader.word" (defArgs s_Reader_word) (defBody s_Reader_word) (defScope s_Reader_word) [] [] (He.fAd K ("TreeReader", some "word")) fd := T.c.def_ 45 (d := d_TreeReader_word) rfl
theorem Tx.f_TreeReader_stop (T : Tx K mg) : ∃ fd, FunD K "stop" "Reader.stop" (defArgs s_Reader_stop) (defBody s_Reader_stop) (defScope s_Reader_stop) [] [] (He.fAd K ("TreeReader", some "stop")) fd := T.c.def_ 46 (d := d_TreeReader_stop) rfl
theorem Tx.f_TreeReader_mark (T : Tx K mg) : ∃ fd, FunD K "mark" "Reader.mark" (defArgs s_Reader_mark) (defBody s_Reader_mark) (defScope s_Reader_mark) [] [] (He.fAd K ("TreeReader", some "mark")) fd := T.c.def_ 47 (d := d_TreeReader_mark) rfl
theorem Tx.f_TreeReader_goes_on (T : Tx K mg) : ∃ fd, FunD K "goes_on" "Reader.goes_on" (defArgs s_Reader_goes_on) (defBody s_Reader_goes_on) (defScope s_Reader_goes_on) [] [] (He.fAd K ("TreeReader", some "goes_on")) fd := T.c.def_ 48 (d := d_TreeReader_goes_on) rfl
theorem Tx.f_TreeReader_numeral (T : Tx K mg) : ∃ fd, FunD K "numeral" "Reader.numeral" (defArgs s_Reader_numeral) (defBody s_Reader_numeral) (defScope s_Reader_numeral) [] [] (He.fAd K ("TreeReader", some "numeral")) fd := T.c.def_ 49 (d := d_TreeReader_numeral) rfl
theorem Tx.f_TreeReader_end (T : Tx K mg) : ∃ fd, FunD K "end" "Reader.end" (defArgs s_Reader_end) (defBody s_Reader_end) (defScope s_Reader_end) [] [] (He.fAd K ("TreeReader", some "end")) fd := T.c.def_ 50 (d := d_TreeReader_end) rfl
theorem Tx.f_TreeReader_due (T : Tx K mg) : ∃ fd, FunD K "due" "Reader.due" (defArgs s_Reader_due) (defBody s_Reader_due) (defScope s_Reader_due) [] [] (He.fAd K ("TreeReader", some "due")) fd := T.c.def_ 51 (d := d_TreeReader_due) rfl
theorem Tx.f_MachineReader_symbol (T : Tx K mg) : ∃ fd, FunD K "symbol" "TreeReader.symbol" (defArgs s_TreeReader_symbol) (defBody s_TreeReader_symbol) (defScope s_TreeReader_symbol) [] [] (He.fAd K ("MachineReader", some "symbol")) fd := T.c.def_ 52 (d := d_MachineReader_symbol) rfl
theorem Tx.f_MachineReader_tree (T : Tx K mg) : ∃ fd, FunD K "tree" "TreeReader.tree" (defArgs s_TreeReader_tree) (defBody s_TreeReader_tree) (defScope s_TreeReader_tree) [] [] (He.fAd K ("MachineReader", some "tree")) fd := T.c.def_ 53 (d := d_MachineReader_tree) rfl
theorem Tx.f_MachineReader_closed (T : Tx K mg) : ∃ fd, FunD K "closed" "TreeReader.closed" (defArgs s_TreeReader_closed) (defBody s_TreeReader_closed) (defScope s_TreeReader_closed) [] [] (He.fAd K ("MachineReader", some "closed")) fd := T.c.def_ 54 (d := d_MachineReader_closed) rfl
theorem Tx.f_MachineReader_rule (T : Tx K mg) : ∃ fd, FunD K "rule" "TreeReader.rule" (defArgs s_TreeReader_rule) (defBody s_TreeReader_rule) (defScope s_TreeReader_rule) [] [] (He.fAd K ("MachineReader", some "rule")) fd := T.c.def_ 55 (d := d_MachineReader_rule) rfl
theorem Tx.f_MachineReader_word (T : Tx K mg) : ∃ fd, FunD K "word" "Reader.word" (defArgs s_Reader_word) (defBody s_Reader_word) (defScope s_Reader_word) [] [] (He.fAd K ("MachineReader", some "word")) fd := T.c.def_ 56 (d := d_MachineReader_word) rfl
theorem Tx.f_MachineReader_stop (T : Tx K mg) : ∃ fd, FunD K "stop" "Reader.stop" (defArgs s_Reader_stop) (defBody s_Reader_stop) (defScope s_Reader_stop) [] [] (He.fAd K ("MachineReader", some "stop")) fd := T.c.def_ 57 (d := d_MachineReader_stop) rfl
theorem Tx.f_MachineReader_mark (T : Tx K mg) : ∃ fd, FunD K "mark" "Reader.mark" (defArgs s_Reader_mark) (defBody s_Reader_mark) (defScope s_Reader_mark) [] [] (He.fAd K ("MachineReader", some "mark")) fd := T.c.def_ 58 (d := d_MachineReader_mark) rfl
theorem Tx.f_MachineReader_goes_on (T : Tx K mg) : ∃ fd, FunD K "goes_on" "Reader.goes_on" (defArgs s_Reader_goes_on) (defBody s_Reader_goes_on) (defScope s_Reader_goes_on) [] [] (He.fAd K ("MachineReader", some "goes_on")) fd := T.c.def_ 59 (d := d_MachineReader_goes_on) rfl
theorem Tx.f_MachineReader_numeral (T : Tx K mg) : ∃ fd, FunD K "numeral" "Reader.numeral" (defArgs s_Reader_numeral) (defBody s_Reader_numeral) (defScope s_Reader_numeral) [] [] (He.fAd K ("MachineReader", some "numeral")) fd := T.c.def_ 60 (d := d_MachineReader_numeral) rfl
theorem Tx.f_MachineReader_end (T : Tx K mg) : ∃ fd, FunD K "end" "Reader.end" (defArgs s_Reader_end) (defBody s_Reader_end) (defScope s_Reader_end) [] [] (He.fAd K ("MachineReader", some "end")) fd := T.c.def_ 61 (d := d_MachineReader_end) rfl
theorem Tx.f_MachineReader_due (T : Tx K mg) : ∃ fd, FunD K "due" "Reader.due" (defArgs s_Reader_due) (defBody s_Reader_due) (defScope s_Reader_due) [] [] (He.fAd K ("MachineReader", some "due")) fd := T.c.def_ 62 (d := d_MachineReader_due) rfl
end
end G

set_option Elab.async false
set_option linter.all false
set_option maxRecDepth 100000
set_option maxHeartbeats 0
namespace G
open PySem PySem.Spec PyProof.Rows L2
abbrev hk : PySem.W.Hook := hookY 6 fa fn [] exB csY cvY
def ob (s : PySem.W.SharedT) : AlY := obsY 6 fa fn [] exB csY (HandSHeadRun.getT s)
theorem ob_eq (s : PySem.W.SharedT) : ob s = hk.obs s.abs := obsY_eq (HandSHeadRun.getT_eq s)
theorem run (w : World) : HandSHeadRun.RunEq R (PySem.W.view R.prog [lawAt]) hk ob 4000 la w := by
  intro os
  kernel_rfl
end G

set_option Elab.async false
set_option linter.all false
set_option maxRecDepth 100000
set_option maxHeartbeats 4000000
namespace G
open PySem PySem.Spec PyProof.Rows L2
/-! ### heaps -/
/-- a tuple (its description never changes) -/
def TupO : HO → Prop
  | .tup _ => True
  | .frz _ _ => True
  | _ => False
/-- the tuples are kept -/
def Kt (H H' : Hp) : Prop := ∀ b o, TupO o → H b = some o → H' b = some o
theorem Kt.rfl' {H : Hp} : Kt H H := fun _ _ _ e => e
theorem Kt.trans {H H1 H2 : Hp} (a : Kt H H1) (b : Kt H1 H2) : Kt H H2 := fun c o t e => b c o t (a c o t e)
theorem Kt.upd {H H' : Hp} {p : Addr} {o : HO} (a : Kt H H') (h : ∀ u, H' p = some u → ¬ TupO u) : Kt H (upd H' p o) := fun b u t e => by
  have e1 := a b u t e
  by_cases hb : b = p
  · subst hb
    exact absurd t (h u e1)
  · rw [upd_ne hb]
    exact e1
theorem Kt.new {H H' : Hp} {p : Addr} {o : HO} (a : Kt H H') (h : H' p = none) : Kt H (L2.upd H' p o) := a.upd fun u e => by rw [h] at e; cases e
theorem Kt.lst {H H' : Hp} {p : Addr} {o : HO} {xs : List V} (a : Kt H H') (h : H' p = some (.lst xs)) : Kt H (L2.upd H' p o) := a.upd fun u e t => by rw [h] at e; cases e; exact t
theorem Kt.ins {H H' : Hp} {p C dx : Addr} {o : HO} {fs : List (Str × V)} (a : Kt H H') (h : H' p = some (.ins C dx fs)) : Kt H (L2.upd H' p o) := a.upd fun u e t => by rw [h] at e; cases e; exact t
theorem old_upd {H : Hp} {p q : Addr} {o u : HO} (h : H q = some u) (hp : H p = none) : upd H p o q = some u := by
  rw [upd_ne (ne_of_none h hp)]
  exact h
theorem kt_sqt {K : PySem.W.Frag} {H H' : Hp} {a : Addr} {xs : List V} (e : Kt H H') (h : SqT K H a xs) : SqT K H' a xs := by
  rcases h with (h | ⟨o, h⟩) | h
  · exact .inl (.inl (e _ _ trivial h))
  · exact .inl (.inr ⟨o, e _ _ trivial h⟩)
  · exact .inr h
end G
namespace L2
open PySem PySem.Spec PyProof.Rows
theorem Same.kt {H H' : Hp} (a : Same H H') : G.Kt H H' := fun c o _ e => a c o e
theorem Same.new {H H' : Hp} {p : Addr} {o : HO} (a : Same H H') (h : H' p = none) : Same H (upd H' p o) := fun b u e => by
  have e1 := a b u e
  rw [upd_ne (ne_of_none e1 h)]
  exact e1
end L2
namespace G
open PySem PySem.Spec PyProof.Rows L2
/-! ### data without lists -/
mutual
def tt : PyData → Bool
  | .tuple xs => tts xs
  | .list _ => false
  | .dict _ => false
  | _ => true
def tts : List PyData → Bool
  | [] => true
  | x :: xs => tt x && tts xs
end
mutual
theorem dp_kt {K : PySem.W.Frag} {H H' : Hp} (e : Kt H H') : ∀ (d : PyData) (v : V), tt d = true → Dp K H v d → Dp K H' v d
  | .none, _, _, h => by cases h; exact .non
  | .bool b, _, _, h => by cases h; exact .bl b
  | .int i, _, _, h => by cases h; exact .int i
  | .str x, _, _, h => by cases h; exact .str x
  | .list xs, _, t, _ => by simp [tt] at t
  | .dict xs, _, t, _ => by simp [tt] at t
  | .tuple xs, _, t, h => by
    cases h with
    | tup hs ha => exact .tup (kt_sqt e hs) (dps_kt e xs _ (by simpa [tt] using t) ha)
theorem dps_kt {K : PySem.W.Frag} {H H' : Hp} (e : Kt H H') : ∀ (ds : List PyData) (vs : List V), tts ds = true → DpAll K H vs ds → DpAll K H' vs ds
  | [], _, _, h => by cases h; exact .nil
  | d :: ds, _, t, h => by
    have t' : tt d = true ∧ tts ds = true := by simpa [tts] using t
    cases h with
    | cons h1 h2 => exact .cons (dp_kt e d _ t'.1 h1) (dps_kt e ds _ t'.2 h2)
end
theorem dp_tup {K : PySem.W.Frag} {H : Hp} {v : V} {ds : List PyData} (h : Dp K H v (.tuple ds)) : ∃ a xs, v = .ref a ∧ SqT K H a xs ∧ DpAll K H xs ds := by
  cases h with
  | tup hs ha => exact ⟨_, _, rfl, hs, ha⟩
end G
namespace L2
open PySem PySem.Spec PyProof.Rows
theorem DpAll.len {K : PySem.W.Frag} {H : Hp} : ∀ {vs : List V} {ds : List PyData}, DpAll K H vs ds → vs.length = ds.length
  | _, _, .nil => rfl
  | _, _, .cons _ t => by rw [List.length_cons, List.length_cons, DpAll.len t]
theorem DpAll.get {K : PySem.W.Frag} {H : Hp} : ∀ {vs : List V} {ds : List PyData} {i : Nat} {d : PyData}, DpAll K H vs ds → ds[i]? = some d → ∃ v, vs[i]? = some v ∧ Dp K H v d
  | _, _, i, d, .nil, e => by simp at e
  | _, _, 0, d, .cons h _, e => by simp at e; subst e; exact ⟨_, rfl, h⟩
  | _, _, i + 1, d, .cons _ t, e => by
    obtain ⟨v, h1, h2⟩ := DpAll.get (i := i) t (by simpa using e)
    exact ⟨v, by simpa using h1, h2⟩
theorem DpAll.get' {K : PySem.W.Frag} {H : Hp} : ∀ {vs : List V} {ds : List PyData} {i : Nat} {v : V}, DpAll K H vs ds → vs[i]? = some v → ∃ d, ds[i]? = some d ∧ Dp K H v d
  | _, _, i, d, .nil, e => by simp at e
  | _, _, 0, d, .cons h _, e => by simp at e; subst e; exact ⟨_, rfl, h⟩
  | _, _, i + 1, d, .cons _ t, e => by
    obtain ⟨v, h1, h2⟩ := DpAll.get' (i := i) t (by simpa using e)
    exact ⟨v, by simpa using h1, h2⟩
theorem DpAll.snoc {K : PySem.W.Frag} {H : Hp} : ∀ {vs : List V} {ds : List PyData} {v : V} {d : PyData}, DpAll K H vs ds → Dp K H v d → DpAll K H (vs ++ [v]) (ds ++ [d])
  | _, _, _, _, .nil, h => .cons h .nil
  | _, _, _, _, .cons a t, h => .cons a (DpAll.snoc t h)
end L2
namespace G
open PySem PySem.Spec PyProof.Rows L2
/-! ### types of data -/
def tyD : PyData → String
  | .none => "NoneType"
  | .bool _ => "bool"
  | .int _ => "int"
  | .str _ => "str"
  | .list _ => "list"
  | .tuple _ => "tuple"
  | .dict _ => "dict"
theorem sqt_ty {K : PySem.W.Frag} {H : Hp} {a : Addr} {xs : List V} (h : SqT K H a xs) : TyX K H (.ref a) (.type "tuple") := by
  rcases h with (h | ⟨o, h⟩) | ⟨o, its, n, h, c, _⟩
  · exact .base (.tup h)
  · exact .fTuple h
  · exact .kTuple h c
theorem sql_ty {K : PySem.W.Frag} {H : Hp} {a : Addr} {xs : List V} (h : SqL K H a xs) : TyX K H (.ref a) (.type "list") := by
  rcases h with (h | ⟨o, h⟩) | ⟨o, its, n, h, c, _⟩
  · exact .base (.lst h)
  · exact .base (.frz h)
  · exact .kList h c
theorem dp_ty {K : PySem.W.Frag} {H : Hp} {v : V} {d : PyData} (h : Dp K H v d) : TyX K H v (.type (tyD d)) := by
  cases h with
  | non => exact .base .non
  | bl b => exact .base (.bl b)
  | int i => exact .base (.int i)
  | str x => exact .base (.str x)
  | lst hs _ => exact sql_ty hs
  | tup hs _ => exact sqt_ty hs
def isI : PyData → Bool
  | .int _ => true
  | .bool _ => true
  | _ => false
def isB : PyData → Bool
  | .bool _ => true
  | _ => false
def isS : PyData → Bool
  | .str _ => true
  | _ => false
def isT : PyData → Bool
  | .tuple _ => true
  | _ => false
theorem kit_I {K : PySem.W.Frag} (d : PyData) : PySem.W.kitOne K (.type (tyD d)) (.type "int") = some (isI d) := kit_ty <| match d with
  | .none => (by decide +kernel : kitB "NoneType" "int" = some false)
  | .bool _ => (by decide +kernel : kitB "bool" "int" = some true)
  | .int _ => (by decide +kernel : kitB "int" "int" = some true)
  | .str _ => (by decide +kernel : kitB "str" "int" = some false)
  | .list _ => (by decide +kernel : kitB "list" "int" = some false)
  | .tuple _ => (by decide +kernel : kitB "tuple" "int" = some false)
  | .dict _ => (by decide +kernel : kitB "dict" "int" = some false)
theorem kit_B {K : PySem.W.Frag} (d : PyData) : PySem.W.kitOne K (.type (tyD d)) (.type "bool") = some (isB d) := kit_ty <| match d with
  | .none => (by decide +kernel : kitB "NoneType" "bool" = some false)
  | .bool _ => (by decide +kernel : kitB "bool" "bool" = some true)
  | .int _ => (by decide +kernel : kitB "int" "bool" = some false)
  | .str _ => (by decide +kernel : kitB "str" "bool" = some false)
  | .list _ => (by decide +kernel : kitB "list" "bool" = some false)
  | .tuple _ => (by decide +kernel : kitB "tuple" "bool" = some false)
  | .dict _ => (by decide +kernel : kitB "dict" "bool" = some false)
theorem kit_S {K : PySem.W.Frag} (d : PyData) : PySem.W.kitOne K (.type (tyD d)) (.type "str") = some (isS d) := kit_ty <| match d with
  | .none => (by decide +kernel : kitB "NoneType" "str" = some false)
  | .bool _ => (by decide +kernel : kitB "bool" "str" = some false)
  | .int _ => (by decide +kernel : kitB "int" "str" = some false)
  | .str _ => (by decide +kernel : kitB "str" "str" = some true)
  | .list _ => (by decide +kernel : kitB "list" "str" = some false)
  | .tuple _ => (by decide +kernel : kitB "tuple" "str" = some false)
  | .dict _ => (by decide +kernel : kitB "dict" "str" = some false)
theorem kit_T {K : PySem.W.Frag} (d : PyData) : PySem.W.kitOne K (.type (tyD d)) (.type "tuple") = some (isT d) := kit_ty <| match d with
  | .none => (by decide +kernel : kitB "NoneType" "tuple" = some false)
  | .bool _ => (by decide +kernel : kitB "bool" "tuple" = some false)
  | .int _ => (by decide +kernel : kitB "int" "tuple" = some false)
  | .str _ => (by decide +kernel : kitB "str" "tuple" = some false)
  | .list _ => (by decide +kernel : kitB "list" "tuple" = some false)
  | .tuple _ => (by decide +kernel : kitB "tuple" "tuple" = some true)
  | .dict _ => (by decide +kernel : kitB "dict" "tuple" = some false)
/-! ### a def, as its callers use it -/
structure Cl (P : Program) (w : World) (K : PySem.W.Frag) (mg : Str → Option Value) (base : Heap) (CX : CXT) (k : Nat) (x : Str) (ps : List Str) (sp : Sp) : Prop where
  ex : ∃ (f : Addr) (fd : FuncData), mg x = some (.ref f) ∧ PySem.W.keepIn K (.ref f) = true ∧ Binds K fd ps [] ∧ FnOk P w K mg base CX k f fd ps sp
/-- a method of the class at C -/
structure Ml (P : Program) (w : World) (K : PySem.W.Frag) (mg : Str → Option Value) (base : Heap) (CX : CXT) (k : Nat) (C : Addr) (m : Str) (ps : List Str) (sp : Sp) : Prop where
  ex : ∃ (f : Addr) (fd : FuncData), Cls K C ∧ Meth K C m f ∧ Binds K fd ps [] ∧ FnOk P w K mg base CX k f fd ps sp
/-- the class x at C, made by its __init__ -/
structure Kl (P : Program) (w : World) (K : PySem.W.Frag) (mg : Str → Option Value) (base : Heap) (CX : CXT) (k : Nat) (C : Addr) (x : Str) (ps : List Str) (sp : Sp) : Prop where
  ex : ∃ (f : Addr) (fd : FuncData), mg x = some (.ref C) ∧ Mk K C f ∧ Binds K fd ps [] ∧ FnOk P w K mg base CX k f fd ps sp
section
variable {X : Cx} {CX : CXT} {k j : Nat} {x m : Str} {ps : List Str} {sp : Sp} {E : XK} {t : TA} {ta : TE} {e o : Expr} {es : List Expr} {p pos apos : Pos} {C : Addr} {pl : Sem Bool}
theorem pe_cl (c : Cl X.prog X.w X.K X.mg X.base CX k x ps sp) (hr : Room j X.A) (hk : k ≤ j) (hx : Passes CX X E) (ha : PA X (e :: es) t) (hg : Gl X x := by rfl)
    (he : starEach (e :: es) X.env = (false, eval e X.env) :: starEach es X.env := by rfl) (hpl : (backTo pos (starEach es X.env)).any (·.1) = false := by rfl) (hd : (x == ("__debug__" : Str)) = false := by decide) :
    PE X (.Call (.Name x p) (e :: es) [] pos) (tCall sp [] E t) := by
  obtain ⟨f, fd, h1, h2, h3, h4⟩ := c.ex
  exact pe_call h4 (hr.mono hk) hg h1 h2 h3 .nil hx ha hd he hpl
theorem pe_cl0 (c : Cl X.prog X.w X.K X.mg X.base CX k x ps sp) (hr : Room j X.A) (hk : k ≤ j) (hx : Passes CX X E) (hg : Gl X x := by rfl) (hd : (x == ("__debug__" : Str)) = false := by decide) :
    PE X (.Call (.Name x p) [] [] pos) (tCall sp [] E tNil) := by
  obtain ⟨f, fd, h1, h2, h3, h4⟩ := c.ex
  exact pe_call0 h4 (hr.mono hk) hg h1 h2 h3 .nil hx hd
theorem pe_ml (c : Ml X.prog X.w X.K X.mg X.base CX k C m ps sp) (hr : Room j X.A) (hk : k ≤ j) (hx : Passes CX X E) (ho : PE X o ta) (ha : PA X (e :: es) t)
    (hst : starEach (e :: es) X.env = (false, eval e X.env) :: starEach es X.env := by rfl) (hpl : (backTo pos (starEach es X.env)).any (·.1) = false := by rfl)
    (ht : eval (.Call (.Attribute o m apos) (e :: es) [] pos) X.env = (do
      let ov ← eval o X.env
      standAt apos.atName
      let (f, first) ← holding [ov] (getMethod ov m pl)
      callWith pos f first (backTo pos (starEach (e :: es) X.env)) (backToKw pos (keywordEach [] X.env))) := by rfl) :
    PE X (.Call (.Attribute o m apos) (e :: es) [] pos) (tMeth C m sp [] E ta t) := by
  obtain ⟨f, fd, h1, h2, h3, h4⟩ := c.ex
  exact pe_meth ho h1 h2 h4 (hr.mono hk) h3 .nil hx ha hst hpl ht
theorem pe_ml0 (c : Ml X.prog X.w X.K X.mg X.base CX k C m ps sp) (hr : Room j X.A) (hk : k ≤ j) (hx : Passes CX X E) (ho : PE X o ta)
    (ht : eval (.Call (.Attribute o m apos) [] [] pos) X.env = (do
      let ov ← eval o X.env
      standAt apos.atName
      let (f, first) ← holding [ov] (getMethod ov m pl)
      callWith pos f first (backTo pos (starEach [] X.env)) (backToKw pos (keywordEach [] X.env))) := by rfl) :
    PE X (.Call (.Attribute o m apos) [] [] pos) (tMeth C m sp [] E ta tNil) := by
  obtain ⟨f, fd, h1, h2, h3, h4⟩ := c.ex
  exact pe_meth0 ho h1 h2 h4 (hr.mono hk) h3 .nil hx ht
end
end G

set_option Elab.async false
set_option linter.all false
set_option maxRecDepth 100000
set_option maxHeartbeats 4000000
namespace G
open PySem PySem.Spec PyProof.Rows L2
/-! ### data at extensions -/
theorem same_sqt {K : PySem.W.Frag} {H H' : Hp} {a : Addr} {xs : List V} (e : Same H H') (h : SqT K H a xs) : SqT K H' a xs := kt_sqt (Same.kt e) h
mutual
theorem dp_same {K : PySem.W.Frag} {H H' : Hp} (e : Same H H') : ∀ (d : PyData) (v : V), Dp K H v d → Dp K H' v d
  | .none, _, h => by cases h; exact .non
  | .bool b, _, h => by cases h; exact .bl b
  | .int i, _, h => by cases h; exact .int i
  | .str x, _, h => by cases h; exact .str x
  | .dict xs, _, h => by cases h
  | .list xs, _, h => by
    cases h with
    | lst hs ha => exact .lst (e.seq hs) (dps_same e xs _ ha)
  | .tuple xs, _, h => by
    cases h with
    | tup hs ha => exact .tup (same_sqt e hs) (dps_same e xs _ ha)
theorem dps_same {K : PySem.W.Frag} {H H' : Hp} (e : Same H H') : ∀ (ds : List PyData) (vs : List V), DpAll K H vs ds → DpAll K H' vs ds
  | [], _, h => by cases h; exact .nil
  | d :: ds, _, h => by
    cases h with
    | cons h1 h2 => exact .cons (dp_same e d _ h1) (dps_same e ds _ h2)
end
theorem dpI {K : PySem.W.Frag} {H : Hp} {v : V} {i : Int} (h : Dp K H v (.int i)) : v = .int i := by cases h; rfl
theorem dpB {K : PySem.W.Frag} {H : Hp} {v : V} {b : Bool} (h : Dp K H v (.bool b)) : v = .bl b := by cases h; rfl
theorem dpS {K : PySem.W.Frag} {H : Hp} {v : V} {x : Str} (h : Dp K H v (.str x)) : v = .str x := by cases h; rfl
theorem dpN {K : PySem.W.Frag} {H : Hp} {v : V} (h : Dp K H v .none) : v = .non := by cases h; rfl
theorem dps_bools {K : PySem.W.Frag} {H : Hp} : ∀ {vs : List V} {bs : List Bool}, DpAll K H vs (bs.map .bool) → vs = bs.map V.bl
  | _, [], h => by cases h; rfl
  | _, b :: bs, h => by
    cases h with
    | cons h1 h2 => rw [dpB h1, dps_bools h2]; rfl
theorem dps_strs {K : PySem.W.Frag} {H : Hp} : ∀ {vs : List V} {bs : List Str}, DpAll K H vs (bs.map .str) → vs = bs.map V.str
  | _, [], h => by cases h; rfl
  | _, b :: bs, h => by
    cases h with
    | cons h1 h2 => rw [dpS h1, dps_strs h2]; rfl
theorem dps_ints {K : PySem.W.Frag} {H : Hp} : ∀ {vs : List V} {bs : List Int}, DpAll K H vs (bs.map .int) → vs = bs.map V.int
  | _, [], h => by cases h; rfl
  | _, b :: bs, h => by
    cases h with
    | cons h1 h2 => rw [dpI h1, dps_ints h2]; rfl
theorem strs_dps {K : PySem.W.Frag} {H : Hp} : ∀ (bs : List Str), DpAll K H (bs.map V.str) (bs.map .str)
  | [] => .nil
  | b :: bs => .cons (.str b) (strs_dps bs)
theorem ints_dps {K : PySem.W.Frag} {H : Hp} : ∀ (bs : List Int), DpAll K H (bs.map V.int) (bs.map .int)
  | [] => .nil
  | b :: bs => .cons (.int b) (ints_dps bs)
theorem bools_dps {K : PySem.W.Frag} {H : Hp} : ∀ (bs : List Bool), DpAll K H (bs.map V.bl) (bs.map .bool)
  | [] => .nil
  | b :: bs => .cons (.bl b) (bools_dps bs)
theorem sq_of {K : PySem.W.Frag} {H : Hp} {a : Addr} {xs : List V} (h : H a = some (.lst xs)) : SqL K H a xs := Or.inl (Or.inl h)
theorem st_of {K : PySem.W.Frag} {H : Hp} {a : Addr} {xs : List V} (h : H a = some (.tup xs)) : SqT K H a xs := Or.inl (Or.inl h)
theorem sz_of {n : Nat} (h : n ≤ 100000) : n ≤ sizeLine := Nat.le_trans h (by decide)
theorem sz_lt {n : Nat} (h : n < 100000) : n < sizeLine := Nat.lt_of_lt_of_le h (by decide)
theorem hu65 {k : Nat} {A : Around} (r : Room k A) : A.units + 65 < cLine := by have := r.un; omega
theorem back {H H' : Hp} {p : Addr} (e : Same H H') (h : H' p = none) : H p = none := Same.free e h
/-! ### what an expression comes to, as data -/
def EvD (K : PySem.W.Frag) (te : TE) (σ : L2.St) (H : Hp) (d : PyData) : Prop := ∀ H1, Same H H1 → ∀ Q : VK, (∀ v H2, Same H1 H2 → Dp K H2 v d → Q v H2) → te σ H1 Q
/-- a new list -/
def EvN (K : PySem.W.Frag) (te : TE) (σ : L2.St) (H : Hp) (ds : List PyData) : Prop := ∀ H1, Same H H1 → ∀ Q : VK, (∀ p vs H2, Same H1 H2 → H1 p = none → H2 p = some (.lst vs) → DpAll K H2 vs ds → Q (.ref p) H2) → te σ H1 Q
def EvT (tt : TT) (σ : L2.St) (H : Hp) (b : Bool) : Prop := ∀ H1, Same H H1 → ∀ Q : Bool → Hp → Prop, (∀ H2, Same H1 H2 → Q b H2) → tt σ H1 Q
def EvA (K : PySem.W.Frag) (ta : TA) (σ : L2.St) (H : Hp) (ds : List PyData) : Prop := ∀ H1, Same H H1 → ∀ Q : List V → Hp → Prop, (∀ vs H2, Same H1 H2 → DpAll K H2 vs ds → Q vs H2) → ta σ H1 Q
/-- a def that changes nothing and hands back data: R args result -/
def spD (K : PySem.W.Frag) (R : List PyData → PyData → Prop) : Sp := fun vs H Q _ => ∃ ds r, DpAll K H vs ds ∧ R ds r ∧ ∀ v H', Same H H' → Dp K H' v r → Q v H'
section
variable {K : PySem.W.Frag} {σ : L2.St} {H H' : Hp} {ta tb tc te : TE} {t u : TT} {d e : PyData}
theorem EvD.mono (s : Same H H') (h : EvD K te σ H d) : EvD K te σ H' d := fun H1 a Q q => h H1 (s.trans a) Q q
theorem EvN.mono {ds : List PyData} (s : Same H H') (h : EvN K te σ H ds) : EvN K te σ H' ds := fun H1 a Q q => h H1 (s.trans a) Q q
theorem EvT.mono {b : Bool} (s : Same H H') (h : EvT t σ H b) : EvT t σ H' b := fun H1 a Q q => h H1 (s.trans a) Q q
theorem ed_var {i : Nat} {v : V} (hd : Dp K H v d) (h : σ[i]? = some (some v) := by rfl) : EvD K (tVar i) σ H d := fun H1 s Q q => ⟨v, h, q v H1 (Same.refl H1) (dp_same s d v hd)⟩
theorem ed_vi {i : Nat} {n : Int} (h : σ[i]? = some (some (.int n)) := by rfl) : EvD K (tVar i) σ H (.int n) := ed_var (.int n) h
theorem ed_vs {i : Nat} {n : Str} (h : σ[i]? = some (some (.str n)) := by rfl) : EvD K (tVar i) σ H (.str n) := ed_var (.str n) h
theorem ed_i {n : Int} : EvD K (tC (.int n)) σ H (.int n) := fun H1 _ _ q => q _ H1 (Same.refl H1) (.int n)
theorem ed_s {n : Str} : EvD K (tC (.str n)) σ H (.str n) := fun H1 _ _ q => q _ H1 (Same.refl H1) (.str n)
theorem ed_b {n : Bool} : EvD K (tC (.bl n)) σ H (.bool n) := fun H1 _ _ q => q _ H1 (Same.refl H1) (.bl n)
theorem ed_n : EvD K (tC .non) σ H .none := fun H1 _ _ q => q _ H1 (Same.refl H1) .non
/-- two values -/
theorem ed_op {r : R2} (ha : EvD K ta σ H d) (hb : EvD K tb σ H e) {z : PyData} (hr : ∀ x y H1, Same H H1 → Dp K H1 x d → Dp K H1 y e → ∀ Q : VK, (∀ v H2, Same H1 H2 → Dp K H2 v z → Q v H2) → r x y H1 Q) : EvD K (tOp r ta tb) σ H z := fun H1 s Q q =>
  ha H1 s _ fun x H2 s2 hx => hb H2 (s.trans s2) _ fun y H3 s3 hy => hr x y H3 ((s.trans s2).trans s3) (dp_same s3 d x hx) hy Q fun v H4 s4 hv => q v H4 ((s2.trans s3).trans s4) hv
theorem ed_I0 {g : Int → Int → V} {i j : Int} {z : PyData} (ha : EvD K ta σ H (.int i)) (hb : EvD K tb σ H (.int j)) (hz : ∀ H, Dp K H (g i j) z) : EvD K (tOp (rI0 g) ta tb) σ H z :=
  ed_op ha hb fun x y H1 _ hx hy Q q => ⟨i, j, dpI hx, dpI hy, q _ H1 (Same.refl H1) (hz H1)⟩
theorem ed_I {C : Int → Int → Prop} {g : Int → Int → V} {i j : Int} {z : PyData} (ha : EvD K ta σ H (.int i)) (hb : EvD K tb σ H (.int j)) (hc : C i j) (hz : ∀ H, Dp K H (g i j) z) : EvD K (tOp (rI C g) ta tb) σ H z :=
  ed_op ha hb fun x y H1 _ hx hy Q q => ⟨i, j, dpI hx, dpI hy, hc, q _ H1 (Same.refl H1) (hz H1)⟩
theorem ed_add {i j : Int} (ha : EvD K ta σ H (.int i)) (hb : EvD K tb σ H (.int j)) : EvD K (tOp (rI0 fun i j => .int (i + j)) ta tb) σ H (.int (i + j)) := ed_I0 ha hb fun _ => .int _
theorem ed_sub {i j : Int} (ha : EvD K ta σ H (.int i)) (hb : EvD K tb σ H (.int j)) : EvD K (tOp (rI0 fun i j => .int (i - j)) ta tb) σ H (.int (i - j)) := ed_I0 ha hb fun _ => .int _
theorem ed_lt {i j : Int} (ha : EvD K ta σ H (.int i)) (hb : EvD K tb σ H (.int j)) : EvD K (tOp (rI0 fun i j => .bl (decide (i < j))) ta tb) σ H (.bool (decide (i < j))) := ed_I0 ha hb fun _ => .bl _
theorem ed_le {i j : Int} (ha : EvD K ta σ H (.int i)) (hb : EvD K tb σ H (.int j)) : EvD K (tOp (rI0 fun i j => .bl (decide (i ≤ j))) ta tb) σ H (.bool (decide (i ≤ j))) := ed_I0 ha hb fun _ => .bl _
theorem ed_gt {i j : Int} (ha : EvD K ta σ H (.int i)) (hb : EvD K tb σ H (.int j)) : EvD K (tOp (rI0 fun i j => .bl (decide (j < i))) ta tb) σ H (.bool (decide (j < i))) := ed_I0 ha hb fun _ => .bl _
theorem ed_eqI {i j : Int} (ha : EvD K ta σ H (.int i)) (hb : EvD K tb σ H (.int j)) : EvD K (tOp rEq ta tb) σ H (.bool (decide (i = j))) :=
  ed_op ha hb fun x y H1 _ hx hy Q q => by
    rw [dpI hx, dpI hy]
    refine ⟨rfl, q _ H1 (Same.refl H1) ?_⟩
    have : decide (V.int i = V.int j) = decide (i = j) := by simp
    rw [this]; exact .bl _
theorem ed_neI {i j : Int} (ha : EvD K ta σ H (.int i)) (hb : EvD K tb σ H (.int j)) : EvD K (tOp rNe ta tb) σ H (.bool (!decide (i = j))) :=
  ed_op ha hb fun x y H1 _ hx hy Q q => by
    rw [dpI hx, dpI hy]
    refine ⟨rfl, q _ H1 (Same.refl H1) ?_⟩
    have : decide (V.int i = V.int j) = decide (i = j) := by simp
    rw [this]; exact .bl _
theorem ed_eqS {i j : Str} (ha : EvD K ta σ H (.str i)) (hb : EvD K tb σ H (.str j)) : EvD K (tOp rEq ta tb) σ H (.bool (decide (i = j))) :=
  ed_op ha hb fun x y H1 _ hx hy Q q => by
    rw [dpS hx, dpS hy]
    refine ⟨rfl, q _ H1 (Same.refl H1) ?_⟩
    have : decide (V.str i = V.str j) = decide (i = j) := by simp
    rw [this]; exact .bl _
theorem ed_neS {i j : Str} (ha : EvD K ta σ H (.str i)) (hb : EvD K tb σ H (.str j)) : EvD K (tOp rNe ta tb) σ H (.bool (!decide (i = j))) :=
  ed_op ha hb fun x y H1 _ hx hy Q q => by
    rw [dpS hx, dpS hy]
    refine ⟨rfl, q _ H1 (Same.refl H1) ?_⟩
    have : decide (V.str i = V.str j) = decide (i = j) := by simp
    rw [this]; exact .bl _
theorem ed_eqB {i j : Bool} (ha : EvD K ta σ H (.bool i)) (hb : EvD K tb σ H (.bool j)) : EvD K (tOp rEq ta tb) σ H (.bool (decide (i = j))) :=
  ed_op ha hb fun x y H1 _ hx hy Q q => by
    rw [dpB hx, dpB hy]
    refine ⟨rfl, q _ H1 (Same.refl H1) ?_⟩
    have : decide (V.bl i = V.bl j) = decide (i = j) := by simp
    rw [this]; exact .bl _
theorem ed_neB {i j : Bool} (ha : EvD K ta σ H (.bool i)) (hb : EvD K tb σ H (.bool j)) : EvD K (tOp rNe ta tb) σ H (.bool (!decide (i = j))) :=
  ed_op ha hb fun x y H1 _ hx hy Q q => by
    rw [dpB hx, dpB hy]
    refine ⟨rfl, q _ H1 (Same.refl H1) ?_⟩
    have : decide (V.bl i = V.bl j) = decide (i = j) := by simp
    rw [this]; exact .bl _
def isN : PyData → Bool
  | .none => true
  | _ => false
theorem dp_non {H1 : Hp} {x : V} (h : Dp K H1 x d) : decide (x = .non) = isN d := by cases h <;> simp [isN]
theorem ed_isN (ha : EvD K ta σ H d) : EvD K (tOp (fun x y H Q => y = .non ∧ Q (.bl (decide (x = .non))) H) ta (tC .non)) σ H (.bool (isN d)) := fun H1 s Q q =>
  ha H1 s _ fun x H2 s2 hx => ⟨rfl, by rw [dp_non hx]; exact q _ H2 s2 (.bl _)⟩
theorem ed_eqD (ha : EvD K ta σ H d) (hb : EvD K tb σ H e) (sd : SeqAt.shaped d = true) (se : SeqAt.shaped e = true) : EvD K (tOp (rEqD K) ta tb) σ H (.bool (PyData.eqv d e)) :=
  ed_op ha hb fun x y H1 _ hx hy Q q => ⟨d, e, hx, hy, sd, se, q _ H1 (Same.refl H1) (.bl _)⟩
theorem ed_neD (ha : EvD K ta σ H d) (hb : EvD K tb σ H e) (sd : SeqAt.shaped d = true) (se : SeqAt.shaped e = true) : EvD K (tOp (rNeD K) ta tb) σ H (.bool (!PyData.eqv d e)) :=
  ed_op ha hb fun x y H1 _ hx hy Q q => ⟨d, e, hx, hy, sd, se, q _ H1 (Same.refl H1) (.bl _)⟩
theorem ed_not {b : Bool} (ha : EvD K ta σ H (.bool b)) : EvD K (tNotV ta) σ H (.bool (!b)) := fun H1 s Q q => ha H1 s _ fun x H2 s2 hx => ⟨b, dpB hx, q _ H2 s2 (.bl _)⟩
theorem ed_and {a b : Bool} (ha : EvD K ta σ H (.bool a)) (hb : a = true → EvD K tb σ H (.bool b)) : EvD K (tAndV ta tb) σ H (.bool (a && b)) := fun H1 s Q q => ha H1 s _ fun x H2 s2 hx => ⟨a, dpB hx, by
  cases a with
  | false => exact iteF (q _ H2 s2 (.bl _))
  | true => exact iteT (hb rfl H2 (s.trans s2) Q fun v H3 s3 hv => q v H3 (s2.trans s3) hv)⟩
theorem ed_or {a b : Bool} (ha : EvD K ta σ H (.bool a)) (hb : a = false → EvD K tb σ H (.bool b)) : EvD K (tOrV ta tb) σ H (.bool (a || b)) := fun H1 s Q q => ha H1 s _ fun x H2 s2 hx => ⟨a, dpB hx, by
  cases a with
  | true => exact iteT (q _ H2 s2 (.bl _))
  | false => exact iteF (hb rfl H2 (s.trans s2) Q fun v H3 s3 hv => q v H3 (s2.trans s3) hv)⟩
theorem ed_if {b : Bool} (ht : EvT t σ H b) (ha : b = true → EvD K ta σ H d) (hb : b = false → EvD K tb σ H d) : EvD K (tIf t ta tb) σ H d := fun H1 s Q q => ht H1 s _ fun H2 s2 => by
  cases b with
  | true => exact iteT (ha rfl H2 (s.trans s2) Q fun v H3 s3 hv => q v H3 (s2.trans s3) hv)
  | false => exact iteF (hb rfl H2 (s.trans s2) Q fun v H3 s3 hv => q v H3 (s2.trans s3) hv)
theorem ed_chain {i j k : Int} {p q : Int → Int → Bool} (ha : EvD K ta σ H (.int i)) (hb : EvD K tb σ H (.int j)) (hc : p i j = true → EvD K tc σ H (.int k)) :
    EvD K (tChain (rI0 fun i j => .bl (p i j)) (rI0 fun i j => .bl (q i j)) ta tb tc) σ H (.bool (p i j && q j k)) := fun H1 s Q kq => ha H1 s _ fun x H2 s2 hx => hb H2 (s.trans s2) _ fun y H3 s3 hy => by
  refine ⟨i, j, dpI hx, dpI hy, p i j, rfl, ?_⟩
  cases h : p i j with
  | false =>
    rw [h] at kq
    exact iteF (kq _ H3 (s2.trans s3) (.bl _))
  | true =>
    rw [h] at kq
    refine iteT (hc h H3 ((s.trans s2).trans s3) _ fun z H4 s4 hz => ⟨j, k, dpI hy, dpI hz, ?_⟩)
    exact kq _ H4 ((s2.trans s3).trans s4) (.bl _)
theorem ed_chainLe {i j k : Int} (ha : EvD K ta σ H (.int i)) (hb : EvD K tb σ H (.int j)) (hc : EvD K tc σ H (.int k)) :
    EvD K (tChain (rI0 fun i j => .bl (decide (i ≤ j))) (rI0 fun i j => .bl (decide (i ≤ j))) ta tb tc) σ H (.bool (decide (i ≤ j) && decide (j ≤ k))) := ed_chain (p := fun i j => decide (i ≤ j)) (q := fun i j => decide (i ≤ j)) ha hb fun _ => hc
/-! ### tests -/
theorem et_test {b : Bool} (h : EvD K te σ H (.bool b)) : EvT (tTest te) σ H b := fun H1 s Q q => h H1 s _ fun v H2 s2 hv => ⟨b, dpB hv, q H2 s2⟩
theorem et_B {b : Bool} (h : EvD K te σ H (.bool b)) : EvT (tB te) σ H b := fun H1 s Q q => h H1 s _ fun v H2 s2 hv => ⟨b, dpB hv, q H2 s2⟩
theorem et_not {b : Bool} (h : EvT t σ H b) : EvT (tNot t) σ H (!b) := fun H1 s Q q => h H1 s _ fun H2 s2 => q H2 s2
theorem et_and {a b : Bool} (h1 : EvT t σ H a) (h2 : a = true → EvT u σ H b) : EvT (tAnd t u) σ H (a && b) := fun H1 s Q q => h1 H1 s _ fun H2 s2 => by
  cases a with
  | true => exact iteT (h2 rfl H2 (s.trans s2) Q fun H3 s3 => q H3 (s2.trans s3))
  | false => exact iteF (q H2 s2)
theorem et_or {a b : Bool} (h1 : EvT t σ H a) (h2 : a = false → EvT u σ H b) : EvT (tOr t u) σ H (a || b) := fun H1 s Q q => h1 H1 s _ fun H2 s2 => by
  cases a with
  | false => exact iteF (h2 rfl H2 (s.trans s2) Q fun H3 s3 => q H3 (s2.trans s3))
  | true => exact iteT (q H2 s2)
/-! ### arguments, displays, calls -/
theorem ea_nil : EvA K tNil σ H [] := fun H1 _ _ q => q [] H1 (Same.refl H1) .nil
theorem ea_cons {ts : TA} {ds : List PyData} (h : EvD K te σ H d) (r : EvA K ts σ H ds) : EvA K (tCons te ts) σ H (d :: ds) := fun H1 s Q q => h H1 s _ fun v H2 s2 hv => r H2 (s.trans s2) _ fun vs H3 s3 hvs => q _ H3 (s2.trans s3) (.cons (dp_same s3 d v hv) hvs)
theorem ed_tup {ts : TA} {ds : List PyData} (h : EvA K ts σ H ds) (hl : ds.length ≤ 1000) : EvD K (tTup ts) σ H (.tuple ds) := fun H1 s Q q => h H1 s _ fun vs H2 s2 hv => ⟨by rw [hv.len]; exact sz_of (by omega), fun p hp => q _ _ (s2.new hp) (.tup (st_of upd_same) (dps_same ((Same.refl H2).new hp) ds vs hv))⟩
theorem en_lst {ts : TA} {ds : List PyData} (h : EvA K ts σ H ds) (hl : ds.length ≤ 1000) : EvN K (tLst ts) σ H ds := fun H1 s Q q => h H1 s _ fun vs H2 s2 hv => ⟨by rw [hv.len]; exact sz_of (by omega), fun p hp => q p vs _ (s2.new hp) (back s2 hp) upd_same (dps_same ((Same.refl H2).new hp) ds vs hv)⟩
theorem ed_ofN {ds : List PyData} (h : EvN K te σ H ds) : EvD K te σ H (.list ds) := fun H1 s Q q => h H1 s _ fun p vs H2 s2 _ hp hv => q _ H2 s2 (.lst (sq_of hp) hv)
theorem ed_call {R : List PyData → PyData → Prop} {E : XK} {ts : TA} {ds : List PyData} {r : PyData} (h : EvA K ts σ H ds) (hR : R ds r) : EvD K (tCall (spD K R) [] E ts) σ H r := fun H1 s Q q => h H1 s _ fun vs H2 s2 hv => ⟨ds, r, by rw [List.append_nil]; exact hv, hR, fun v H3 s3 h3 => q v H3 (s2.trans s3) h3⟩
theorem ed_isi {n : String} {b : Bool} (ha : EvD K ta σ H d) (hk : PySem.W.kitOne K (.type (tyD d)) (.type n) = some b) : EvD K (tCB (rIsi K) (tCons ta (tCons (tC (.ty n)) tNil))) σ H (.bool b) := fun H1 s Q q =>
  ha H1 s _ fun x H2 s2 hx => ⟨x, .ty n, _, _, b, rfl, .ty n, dp_ty hx, hk, q _ H2 s2 (.bl b)⟩
theorem ed_lenT {ds : List PyData} (ha : EvD K ta σ H (.tuple ds)) : EvD K (tCB (fun xs H Q => ∃ p ys, xs = [.ref p] ∧ (SqL K H p ys ∨ SqT K H p ys) ∧ Q (.int ys.length) H) (tCons ta tNil)) σ H (.int ds.length) := fun H1 s Q q =>
  ha H1 s _ fun x H2 s2 hx => by
    obtain ⟨a, xs, rfl, hs, hv⟩ := dp_tup hx
    refine ⟨a, xs, rfl, .inr hs, ?_⟩
    rw [hv.len]
    exact q _ H2 s2 (.int _)
theorem ed_lenN {ds : List PyData} (ha : EvN K ta σ H ds) : EvD K (tCB (fun xs H Q => ∃ p ys, xs = [.ref p] ∧ (SqL K H p ys ∨ SqT K H p ys) ∧ Q (.int ys.length) H) (tCons ta tNil)) σ H (.int ds.length) := fun H1 s Q q =>
  ha H1 s _ fun p vs H2 s2 _ hp hv => ⟨p, vs, rfl, .inl (sq_of hp), by rw [hv.len]; exact q _ H2 s2 (.int _)⟩
theorem ed_lenL {ds : List PyData} (ha : EvD K ta σ H (.list ds)) : EvD K (tCB (fun xs H Q => ∃ p ys, xs = [.ref p] ∧ (SqL K H p ys ∨ SqT K H p ys) ∧ Q (.int ys.length) H) (tCons ta tNil)) σ H (.int ds.length) := fun H1 s Q q =>
  ha H1 s _ fun x H2 s2 hx => by
    cases hx with
    | lst hs hv => exact ⟨_, _, rfl, .inl hs, by rw [hv.len]; exact q _ H2 s2 (.int _)⟩
theorem ed_lenS {x : Str} (ha : EvD K ta σ H (.str x)) (hl : x.length ≤ 100000) : EvD K (tCB (fun xs H Q => ∃ z, xs = [.str z] ∧ z.length ≤ sizeLine ∧ Q (.int z.length) H) (tCons ta tNil)) σ H (.int x.length) := fun H1 s Q q =>
  ha H1 s _ fun v H2 s2 hx => ⟨x, by rw [dpS hx], sz_of hl, q _ H2 s2 (.int _)⟩
theorem ed_ixT {ds : List PyData} {i : Int} (ha : EvD K ta σ H (.tuple ds)) (hb : EvD K tb σ H (.int i)) (h : atI ds i = some d) : EvD K (tOp (rIxT K) ta tb) σ H d :=
  ed_op ha hb fun x y H1 _ hx hy Q q => by
    obtain ⟨a, xs, rfl, hs, hv⟩ := dp_tup hx
    unfold atI at h
    cases en : ixN ds.length i with
    | none => rw [en] at h; cases h
    | some k =>
      rw [en] at h
      obtain ⟨v, h1, h2⟩ := hv.get (show ds[k]? = some d from h)
      refine ⟨a, xs, i, v, rfl, dpI hy, hs, ?_, q v H1 (Same.refl H1) h2⟩
      unfold atI
      rw [hv.len, en]
      exact h1
theorem ed_ixL {ds : List PyData} {i : Nat} (ha : EvD K ta σ H (.list ds)) (hb : EvD K tb σ H (.int i)) (h : ds[i]? = some d) : EvD K (tOp (rIxL K) ta tb) σ H d :=
  ed_op ha hb fun x y H1 _ hx hy Q q => by
    cases hx with
    | lst hs hv =>
      obtain ⟨v, hv1, hv2⟩ := hv.get h
      exact ⟨_, _, (i : Int), v, rfl, dpI hy, hs, atI_nat hv1, q v H1 (Same.refl H1) hv2⟩
theorem ed_ixS {x : Str} {i : Int} {c : Nat} (ha : EvD K ta σ H (.str x)) (hb : EvD K tb σ H (.int i)) (hl : x.length ≤ 100000) (h : atI x.cps.toList i = some c) : EvD K (tOp rIxS ta tb) σ H (.str ⟨#[c]⟩) :=
  ed_op ha hb fun v y H1 _ hx hy Q q => ⟨x, i, c, dpS hx, dpI hy, sz_of hl, h, q _ H1 (Same.refl H1) (.str _)⟩
theorem ed_addS {x y : Str} (ha : EvD K ta σ H (.str x)) (hb : EvD K tb σ H (.str y)) (hl : x.length + y.length ≤ 100000) : EvD K (tOp (fun x y H Q => ∃ i j, x = .str i ∧ y = .str j ∧ i.length + j.length ≤ sizeLine ∧ Q (.str (i ++ j)) H) ta tb) σ H (.str (x ++ y)) :=
  ed_op ha hb fun v w H1 _ hx hy Q q => ⟨x, y, dpS hx, dpS hy, sz_of hl, q _ H1 (Same.refl H1) (.str _)⟩
theorem ed_all {bs : List Bool} (h : EvN K ta σ H (bs.map .bool)) : EvD K (tCB (rAll K) (tCons ta tNil)) σ H (.bool (bs.all id)) := fun H1 s Q q => h H1 s _ fun p vs H2 s2 _ hp hv => ⟨p, bs, rfl, by rw [← dps_bools hv]; exact sq_of hp, q _ H2 s2 (.bl _)⟩
theorem ed_any {bs : List Bool} (h : EvN K ta σ H (bs.map .bool)) : EvD K (tCB (rAny K) (tCons ta tNil)) σ H (.bool (bs.any id)) := fun H1 s Q q => h H1 s _ fun p vs H2 s2 _ hp hv => ⟨p, bs, rfl, by rw [← dps_bools hv]; exact sq_of hp, q _ H2 s2 (.bl _)⟩
theorem ed_tupN {ds : List PyData} (h : EvN K ta σ H ds) : EvD K (tCB (fun xs H Q => ∃ p ys, xs = [.ref p] ∧ ((SqL K H p ys ∧ ∀ l, H l = none → Q (.ref l) (upd H l (.tup ys))) ∨ (SqT K H p ys ∧ Q (.ref p) H))) (tCons ta tNil)) σ H (.tuple ds) := fun H1 s Q q =>
  h H1 s _ fun p vs H2 s2 _ hp hv => ⟨p, vs, rfl, .inl ⟨sq_of hp, fun l hl => q _ _ (s2.new hl) (.tup (st_of upd_same) (dps_same ((Same.refl H2).new hl) ds vs hv))⟩⟩
theorem ed_tupL {ds : List PyData} (h : EvD K ta σ H (.list ds)) : EvD K (tCB (fun xs H Q => ∃ p ys, xs = [.ref p] ∧ ((SqL K H p ys ∧ ∀ l, H l = none → Q (.ref l) (upd H l (.tup ys))) ∨ (SqT K H p ys ∧ Q (.ref p) H))) (tCons ta tNil)) σ H (.tuple ds) := fun H1 s Q q =>
  h H1 s _ fun v H2 s2 hx => by
    cases hx with
    | lst hs hv => exact ⟨_, _, rfl, .inl ⟨hs, fun l hl => q _ _ (s2.new hl) (.tup (st_of upd_same) (dps_same ((Same.refl H2).new hl) ds _ hv))⟩⟩
end
end G

set_option Elab.async false
set_option linter.all false
set_option maxRecDepth 100000
set_option maxHeartbeats 4000000
namespace G
open PySem PySem.Spec PyProof.Rows L2
/-! ### what is walked, as data -/
structure WkD (K : PySem.W.Frag) (J : It) (H0 : Hp) (xs : List PyData) : Prop where
  goes : ∀ i H, i < xs.length → Same H0 H → J.go i H
  stops : ∀ H, Same H0 H → J.stop xs.length H
  yields : ∀ i H x H' d, xs[i]? = some d → Same H0 H → J.yld i H x H' → Same H H' ∧ Dp K H' x d
def EvI (K : PySem.W.Frag) (wi : TI) (σ : L2.St) (H : Hp) (xs : List PyData) : Prop := ∀ H1, Same H H1 → ∀ R : It → Hp → Prop, (∀ J H2, Same H1 H2 → WkD K J H2 xs → R J H2) → wi σ H1 R
section
variable {K : PySem.W.Frag} {σ : L2.St} {H H' : Hp} {tl te : TE} {t : TT} {d e : PyData}
theorem wk_tup {a : Addr} {vs : List V} {xs : List PyData} (hs : SqT K H a vs) (hv : DpAll K H vs xs) : WkD K (Itt K a) H xs where
  goes := fun i H1 hi s => by
    have : i < vs.length := by rw [hv.len]; exact hi
    exact ⟨vs, vs[i], same_sqt s hs, by simp [this]⟩
  stops := fun H1 s => ⟨vs, same_sqt s hs, by rw [hv.len]; exact Nat.le_refl _⟩
  yields := fun i H1 x H2 d hd s y => by
    obtain ⟨e, y⟩ := y
    subst e
    have h1 := y vs (same_sqt s hs)
    obtain ⟨v, h2, h3⟩ := hv.get hd
    rw [h1] at h2
    cases h2
    exact ⟨Same.refl _, dp_same s d x h3⟩
theorem wk_list {a : Addr} {vs : List V} {xs : List PyData} (hs : SqL K H a vs) (hv : DpAll K H vs xs) : WkD K (Itl K a) H xs where
  goes := fun i H1 hi s => by
    have : i < vs.length := by rw [hv.len]; exact hi
    exact ⟨vs, vs[i], s.seq hs, by simp [this]⟩
  stops := fun H1 s => ⟨vs, s.seq hs, by rw [hv.len]; exact Nat.le_refl _⟩
  yields := fun i H1 x H2 d hd s y => by
    obtain ⟨e, y⟩ := y
    subst e
    have h1 := y vs (s.seq hs)
    obtain ⟨v, h2, h3⟩ := hv.get hd
    rw [h1] at h2
    cases h2
    exact ⟨Same.refl _, dp_same s d x h3⟩
theorem ei_tup {xs : List PyData} (h : EvD K tl σ H (.tuple xs)) : EvI K (iTup K tl) σ H xs := fun H1 s R q => h H1 s _ fun v H2 s2 hv => by
  obtain ⟨a, vs, rfl, hs, hvs⟩ := dp_tup hv
  exact ⟨a, rfl, ⟨vs, hs⟩, q _ H2 s2 (wk_tup hs hvs)⟩
theorem ei_list {xs : List PyData} (h : EvD K tl σ H (.list xs)) : EvI K (iList K tl) σ H xs := fun H1 s R q => h H1 s _ fun v H2 s2 hv => by
  cases hv with
  | lst hs hvs => exact ⟨_, rfl, ⟨_, hs⟩, q _ H2 s2 (wk_list hs hvs)⟩
theorem ei_listN {xs : List PyData} (h : EvN K tl σ H xs) : EvI K (iList K tl) σ H xs := ei_list (ed_ofN h)
theorem ei_str {x : Str} (h : EvD K tl σ H (.str x)) : EvI K (iStr tl) σ H (x.cps.toList.map fun c => .str ⟨#[c]⟩) := fun H1 s R q => h H1 s _ fun v H2 s2 hv =>
  ⟨x, dpS hv, q _ H2 s2
    { goes := fun i H3 hi _ => by show i < x.cps.size; simpa using hi
      stops := fun H3 _ => by simp [Its]
      yields := fun i H3 y H4 d hd _ hy => by
        obtain ⟨e, c, hc, e2⟩ := hy
        subst e e2
        have : d = .str ⟨#[c]⟩ := by
          rw [List.getElem?_map] at hd
          have e3 : x.cps.toList[i]? = some c := by simpa using hc
          rw [e3] at hd
          exact (Option.some.inj hd).symm
        rw [this]
        exact ⟨Same.refl _, .str _⟩ }⟩
def intsD (n : Nat) : List PyData := (List.range n).map fun (i : Nat) => .int (i : Int)
theorem ei_range {n : Int} {ta : TE} (h : EvD K ta σ H (.int n)) (hn : n ≤ 1000000) (h0 : 0 ≤ n) : EvI K (iRng1 (tCons ta tNil)) σ H (intsD n.toNat) := fun H1 s R q => h H1 s _ fun v H2 s2 hv =>
  ⟨n, by rw [dpI hv], by omega, by omega, q _ H2 s2
    { goes := fun i H3 hi _ => by show i < n.toNat; simpa [intsD] using hi
      stops := fun H3 _ => by show n.toNat ≤ _; simp [intsD]
      yields := fun i H3 y H4 d hd _ hy => by
        obtain ⟨e, e2⟩ := hy
        subst e e2
        have hi : i < n.toNat := by
          have := (List.getElem?_eq_some_iff.mp hd).1
          simpa [intsD] using this
        have : d = .int (0 + (i : Int)) := by
          have e3 : (intsD n.toNat)[i]? = some (.int (i : Int)) := by simp [intsD, hi]
          rw [e3] at hd
          rw [← Option.some.inj hd]; simp
        rw [this]
        exact ⟨Same.refl _, .int _⟩ }⟩
/-! ### comprehensions -/
theorem en_lc {wi : TI} {g : TG} {vs : List Nat} {xs : List PyData} (p : PyData → Bool) (f : PyData → PyData) (hi : EvI K wi σ H xs) (hl : xs.length ≤ 100000) (htt : ∀ x ∈ xs, p x = true → tt (f x) = true)
    (hel : ∀ x ∈ xs, ∀ v H1, Same H H1 → Dp K H1 v x → ∀ W : L2.St → Hp → Prop, (∀ σ2, wipe σ2 vs = wipe σ vs → EvT t σ2 H1 (p x) → (p x = true → EvD K te σ2 H1 (f x)) → W σ2 H1) → g v (wipe σ vs) H1 W) :
    EvN K (tLc wi g t te vs) σ H ((xs.filter p).map f) := by
  intro H1 s Q q
  refine hi H1 s _ fun J H2 s2 w D hD => ?_
  refine ⟨fun i m H' => m = xs.length - i ∧ i ≤ xs.length ∧ Same H2 H' ∧ ∃ acc, H' D = some (.lst acc) ∧ DpAll K H' acc (((xs.take i).filter p).map f) ∧ acc.length ≤ i ∧ tts (((xs.take i).filter p).map f) = true, ⟨xs.length, by simp, Nat.zero_le _, (Same.refl H2).new hD, [], upd_same, by simpa using DpAll.nil, Nat.le_refl _, by simp [tts]⟩, ?_⟩
  rintro i m H3 ⟨rfl, hile, s3, acc, hacc, hdp, hal, htts⟩
  by_cases hlt : i < xs.length
  · refine .inr ⟨w.goes i H3 hlt s3, fun H' => i + 1 ≤ xs.length ∧ Same H2 H' ∧ ∃ acc, H' D = some (.lst acc) ∧ DpAll K H' acc (((xs.take (i + 1)).filter p).map f) ∧ acc.length ≤ i + 1 ∧ tts (((xs.take (i + 1)).filter p).map f) = true,
      fun H' ⟨a, b⟩ => ⟨xs.length - (i + 1), by omega, rfl, a, b⟩, fun x H4 y => ?_⟩
    have hx : xs[i]? = some xs[i] := by simp [hlt]
    obtain ⟨s4, hxd⟩ := w.yields i H3 x H4 _ hx s3 y
    have hmem : xs[i] ∈ xs := List.getElem_mem hlt
    have etake : xs.take (i + 1) = xs.take i ++ [xs[i]] := by rw [List.take_succ, hx]; rfl
    have sHH4 : Same H H4 := ((s.trans s2).trans s3).trans s4
    refine hel _ hmem x H4 sHH4 hxd _ fun σ2 hw ht he => ⟨hw, ?_⟩
    refine ht H4 (Same.refl _) _ fun H5 s5 => ?_
    cases hp : p xs[i] with
    | true =>
      refine iteT (he hp H5 s5 _ fun z H6 s6 hz => ?_)
      have s36 : Same H3 H6 := (s4.trans s5).trans s6
      have hD6 := s36 _ _ hacc
      refine ⟨acc, hD6, sz_lt (by omega), hlt, ?_, _, upd_same, ?_, by simp; omega, ?_⟩
      · intro b o e
        rw [upd_ne (ne_of_none e hD)]
        exact s36 _ _ (s3 _ _ e)
      · rw [etake, List.filter_append, List.map_append]
        have hk : Kt H6 (upd H6 D (.lst (acc ++ [z]))) := Kt.rfl'.lst hD6
        have e1 : (List.filter p [xs[i]]).map f = [f xs[i]] := by simp [hp]
        rw [e1]
        exact (dps_kt hk _ _ htts (dps_same s36 _ _ hdp)).snoc (dp_kt hk _ _ (htt _ hmem hp) hz)
      · rw [etake, List.filter_append, List.map_append]
        have e1 : (List.filter p [xs[i]]).map f = [f xs[i]] := by simp [hp]
        rw [e1]
        have : ∀ l : List PyData, tts l = true → tts (l ++ [f xs[i]]) = true := by
          intro l
          induction l with
          | nil => intro _; simp [tts, htt _ hmem hp]
          | cons a r ih => intro h; simp [tts] at h ⊢; exact ⟨h.1, ih h.2⟩
        exact this _ htts
    | false =>
      refine iteF ⟨hlt, (s3.trans s4).trans s5, acc, (s4.trans s5) _ _ hacc, ?_, by omega, ?_⟩
      · rw [etake, List.filter_append, List.map_append]
        have e1 : (List.filter p [xs[i]]).map f = [] := by simp [hp]
        rw [e1, List.append_nil]
        exact dps_same (s4.trans s5) _ _ hdp
      · rw [etake, List.filter_append, List.map_append]
        have e1 : (List.filter p [xs[i]]).map f = [] := by simp [hp]
        rw [e1, List.append_nil]
        exact htts
  · have e : i = xs.length := by omega
    subst e
    rw [List.take_length] at hdp
    exact .inl ⟨w.stops H3 s3, q D acc H3 (s2.trans s3) (back s2 hD) hacc hdp⟩
theorem et_yes : EvT tYes σ H true := fun H1 _ _ q => q H1 (Same.refl H1)
/-- no test -/
theorem en_lcA {wi : TI} {g : TG} {vs : List Nat} {xs : List PyData} (f : PyData → PyData) (hi : EvI K wi σ H xs) (hl : xs.length ≤ 100000) (htt : ∀ x ∈ xs, tt (f x) = true)
    (hel : ∀ x ∈ xs, ∀ v H1, Same H H1 → Dp K H1 v x → ∀ W : L2.St → Hp → Prop, (∀ σ2, wipe σ2 vs = wipe σ vs → EvD K te σ2 H1 (f x) → W σ2 H1) → g v (wipe σ vs) H1 W) :
    EvN K (tLc wi g tYes te vs) σ H (xs.map f) := by
  have h := en_lc (t := tYes) (fun _ => true) f hi hl (fun x hx _ => htt x hx) fun x hx v H1 s hv W hW => hel x hx v H1 s hv W fun σ2 hw he => hW σ2 hw et_yes fun _ => he
  rwa [List.filter_eq_self.mpr (by simp)] at h
/-- .. the list as ys -/
theorem en_lcE {wi : TI} {g : TG} {vs : List Nat} {xs ys : List PyData} (f : PyData → PyData) (hy : xs.map f = ys) (hi : EvI K wi σ H xs) (hl : xs.length ≤ 100000) (htt : ∀ x ∈ xs, tt (f x) = true)
    (hel : ∀ x ∈ xs, ∀ v H1, Same H H1 → Dp K H1 v x → ∀ W : L2.St → Hp → Prop, (∀ σ2, wipe σ2 vs = wipe σ vs → EvD K te σ2 H1 (f x) → W σ2 H1) → g v (wipe σ vs) H1 W) :
    EvN K (tLc wi g tYes te vs) σ H ys := hy ▸ en_lcA f hi hl htt hel
theorem wipe_set1 {σ : L2.St} {i : Nat} {o : Option V} : wipe ((wipe σ [i]).set i o) [i] = wipe σ [i] := by
  simp only [wipe, List.set_set]
theorem wipe_set2 {σ : L2.St} {i j : Nat} {o u : Option V} : wipe (((wipe σ [i, j]).set i o).set j u) [i, j] = wipe σ [i, j] := by
  by_cases h : i = j
  · subst h; simp only [wipe, List.set_set]
  · simp only [wipe]
    rw [List.set_comm _ _ (fun e => h e.symm), List.set_comm _ _ h]
    simp only [List.set_set]
    rw [List.set_comm _ _ h]
    simp only [List.set_set]
end
end G
namespace G
open PySem PySem.Spec PyProof.Rows L2
section
variable {X : Cx}
theorem op_inS : OpR X (compareOp .In) (fun x y H Q => ∃ (c : Nat) (z : Str), x = .str ⟨#[c]⟩ ∧ y = .str z ∧ Q (.bl (decide (c ∈ z.cps.toList))) H) := op_in_sign
theorem op_notInS : OpR X (compareOp .NotIn) (fun x y H Q => ∃ (c : Nat) (z : Str), x = .str ⟨#[c]⟩ ∧ y = .str z ∧ Q (.bl (!decide (c ∈ z.cps.toList))) H) := op_notIn_sign
/-- a constant of the module -/
theorem pe_ki {x : Str} {i : Int} {pos : Pos} (hg : Gl X x) (h : ∃ t, X.mg x = some (.int i t)) (hd : (x == ("__debug__" : Str)) = false := by decide) : PE X (.Name x pos) (tC (.int i)) := by
  obtain ⟨t, e⟩ := h
  exact pe_glob hg e ⟨t, rfl⟩ hd
theorem pe_ks {x : Str} {i : Str} {pos : Pos} (hg : Gl X x) (h : ∃ t, X.mg x = some (.str i t)) (hd : (x == ("__debug__" : Str)) = false := by decide) : PE X (.Name x pos) (tC (.str i)) := by
  obtain ⟨t, e⟩ := h
  exact pe_glob hg e ⟨t, rfl⟩ hd
end
section
variable {K : PySem.W.Frag} {σ : L2.St} {H H' : Hp} {ta tb te : TE} {t : TT} {d e : PyData}
theorem ed_inS {c : Nat} {z : Str} (ha : EvD K ta σ H (.str ⟨#[c]⟩)) (hb : EvD K tb σ H (.str z)) : EvD K (tOp (fun x y H Q => ∃ (c : Nat) (z : Str), x = .str ⟨#[c]⟩ ∧ y = .str z ∧ Q (.bl (decide (c ∈ z.cps.toList))) H) ta tb) σ H (.bool (decide (c ∈ z.cps.toList))) :=
  ed_op ha hb fun x y H1 _ hx hy Q q => ⟨c, z, dpS hx, dpS hy, q _ H1 (Same.refl H1) (.bl _)⟩
theorem ed_notInS {c : Nat} {z : Str} (ha : EvD K ta σ H (.str ⟨#[c]⟩)) (hb : EvD K tb σ H (.str z)) : EvD K (tOp (fun x y H Q => ∃ (c : Nat) (z : Str), x = .str ⟨#[c]⟩ ∧ y = .str z ∧ Q (.bl (!decide (c ∈ z.cps.toList))) H) ta tb) σ H (.bool (!decide (c ∈ z.cps.toList))) :=
  ed_op ha hb fun x y H1 _ hx hy Q q => ⟨c, z, dpS hx, dpS hy, q _ H1 (Same.refl H1) (.bl _)⟩
/-! ### statements of a def that hands back data -/
theorem s_ret {D : Ends} (h : EvD K te σ H d) (q : ∀ v H', Same H H' → Dp K H' v d → D.rt v H') : tRet te D σ H := h H (Same.refl H) D.rt q
theorem s_if {D : Ends} {a b : TS} {c : Bool} (h : EvT t σ H c) (h1 : c = true → ∀ H', Same H H' → a D σ H') (h2 : c = false → ∀ H', Same H H' → b D σ H') : tIfS t a b D σ H := h H (Same.refl H) _ fun H' s => by
  cases c with
  | true => exact iteT (h1 rfl H' s)
  | false => exact iteF (h2 rfl H' s)
theorem s_set {D : Ends} {i : Nat} (h : EvD K te σ H d) (q : ∀ v H', Same H H' → Dp K H' v d → D.nx (σ.set i (some v)) H') : tAsg te (gName i) D σ H := h H (Same.refl H) _ q
/-- a new list goes to a name -/
theorem s_setN {D : Ends} {i : Nat} {ds : List PyData} (h : EvN K te σ H ds) (q : ∀ p vs H', Same H H' → H p = none → H' p = some (.lst vs) → DpAll K H' vs ds → D.nx (σ.set i (some (.ref p))) H') : tAsg te (gName i) D σ H := h H (Same.refl H) _ q
end
end G

set_option Elab.async false
set_option linter.all false
set_option maxRecDepth 100000
set_option maxHeartbeats 4000000
/-! sets of tuples of whole numbers, nested; by the way of the table alone -/
namespace SN
open PySem PySem.Spec PyProof.Rows L2
mutual
def num : NestedKey → Bool
  | .num _ => true
  | .tup ks => nums ks
  | .none => false
  | .text _ => false
def nums : List NestedKey → Bool
  | [] => true
  | k :: ks => num k && nums ks
end
section
variable {P : Program} {w : World}
/-- no class statement of a program is met, n levels down -/
def Plain (P : Program) (w : World) (n : Nat) (s : Shared) (v : Value) : Prop := ∀ (A : Around) (E : Value → Shared → Prop) (Q : Bool → Shared → Prop), Q false s → wpAny (model P w) A (ofAClassStatement n v) Q E s
/-- the hash is told by the value -/
def Told (P : Program) (w : World) (n : Nat) (s : Shared) (v : Value) : Prop := ∀ (A : Around) (E : Value → Shared → Prop) (Q : Bool → Shared → Prop), Q true s → wpAny (model P w) A (hashByValue n v) Q E s
theorem Plain.flat {n : Nat} {s : Shared} {v : Value} (e : ofAClassStatement n v = pure false) : Plain P w n s v := fun A E Q q => by rw [e]; exact wpAny_pure q
theorem Told.flat {n : Nat} {s : Shared} {v : Value} (e : hashByValue n v = pure true) : Told P w n s v := fun A E Q q => by rw [e]; exact wpAny_pure q
theorem Plain.row {n m : Nat} {s : Shared} {a : Addr} {o : Obj} {vs : Array Value} (ho : s.heap.get? a = some o) (hc : o.cls = .type "tuple") (hd : o.data = .seq vs m) (hv : ∀ v ∈ vs.toList, Plain P w n s v) : Plain P w (n + 1) s (.ref a) := fun A E Q q => by
  have ty : s.TypeIs (.ref a) "tuple" := ⟨o, ho, hc⟩
  unfold ofAClassStatement
  refine wpAny_bind (wpAny_typeOf ty ?_)
  dsimp only
  have tt : (("tuple" : String) == "tuple") = true := by decide
  simp only [tt, if_true, Bool.not_true, Bool.false_eq_true, if_false]
  try refine wpAny_bind (wpAny_pure ?_)
  try simp only [Bool.not_true, Bool.false_eq_true, if_false]
  show wpAny _ _ (seqItems? (.ref a) >>= _) _ _ s
  refine wpAny_bind (wpAny_seqItems ho hd ?_)
  dsimp only
  refine wpAny_bind ?_
  show wpAny _ _ (forIn vs _ _) _ _ s
  rw [← Array.forIn_toList]
  refine wpAny_forIn_list _ (fun rest r z => r.1 = none ∧ z = s ∧ ∀ v ∈ rest, Plain P w n s v) _ ?_ ?_ _ _ ⟨rfl, rfl, hv⟩
  · rintro v rest r z ⟨hr, rfl, al⟩
    refine wpAny_bind (al v List.mem_cons_self _ _ _ ?_)
    simp only [Bool.false_eq_true, if_false]
    exact wpAny_pure ⟨rfl, rfl, fun u m => al u (List.mem_cons_of_mem _ m)⟩
  · rintro ⟨r1, r2⟩ z ⟨hr, rfl, _⟩
    simp only at hr
    subst hr
    exact wpAny_pure q
theorem Told.row {n m : Nat} {s : Shared} {a : Addr} {o : Obj} {vs : Array Value} (ho : s.heap.get? a = some o) (hc : o.cls = .type "tuple") (hd : o.data = .seq vs m) (hv : ∀ v ∈ vs.toList, Told P w n s v) : Told P w (n + 1) s (.ref a) := fun A E Q q => by
  have ty : s.TypeIs (.ref a) "tuple" := ⟨o, ho, hc⟩
  unfold hashByValue
  refine wpAny_bind (wpAny_specialOf ty F.slot_tuple_hash.lookup ?_)
  show wpAny _ _ (seqItems? (.ref a) >>= _) _ _ s
  refine wpAny_bind (wpAny_seqItems ho hd ?_)
  refine wpAny_bind ?_
  show wpAny _ _ (forIn vs _ _) _ _ s
  rw [← Array.forIn_toList]
  refine wpAny_forIn_list _ (fun rest r z => r.1 = none ∧ z = s ∧ ∀ v ∈ rest, Told P w n s v) _ ?_ ?_ _ _ ⟨rfl, rfl, hv⟩
  · rintro v rest r z ⟨hr, rfl, al⟩
    refine wpAny_bind (al v List.mem_cons_self _ _ _ ?_)
    simp only [Bool.not_true, Bool.false_eq_true, if_false]
    exact wpAny_pure ⟨rfl, rfl, fun u m => al u (List.mem_cons_of_mem _ m)⟩
  · rintro ⟨r1, r2⟩ z ⟨hr, rfl, _⟩
    simp only at hr
    subst hr
    exact wpAny_pure q
mutual
theorem plain_key : ∀ (k : NestedKey) (v : Value) (n : Nat) (s : Shared), NestedIs s.heap k v → num k = true → k.depth ≤ n → Plain P w n s v
  | .none, _, n, s, x, nk, _ => by simp [num] at nk
  | .text _, _, n, s, x, nk, _ => by simp [num] at nk
  | .num i, _, n, s, x, _, _ => by cases x <;> exact .flat (by cases n <;> rfl)
  | .tup ks, _, n, s, x, nk, hn => by
    cases x with
    | tup hg hc hd hk =>
      simp only [NestedKey.depth] at hn
      cases n with
      | zero => omega
      | succ n => exact .row hg hc hd (plain_keys ks _ n s hk (by simpa [num] using nk) (by omega))
theorem plain_keys : ∀ (ks : List NestedKey) (vs : List Value) (n : Nat) (s : Shared), NestedAll s.heap ks vs → nums ks = true → NestedKey.depthAll ks ≤ n → ∀ v ∈ vs, Plain P w n s v
  | [], _, n, s, x, _, _, v, hv => by cases x; cases hv
  | k :: ks, _, n, s, x, nk, hn, v, hv => by
    cases x with
    | cons x1 x2 =>
      simp only [NestedKey.depthAll] at hn
      simp only [nums, Bool.and_eq_true] at nk
      rcases List.mem_cons.mp hv with e | hv
      · rw [e]; exact plain_key k _ n s x1 nk.1 (by omega)
      · exact plain_keys ks _ n s x2 nk.2 (by omega) v hv
end
mutual
theorem told_key : ∀ (k : NestedKey) (v : Value) (n : Nat) (s : Shared), NestedIs s.heap k v → num k = true → k.depth ≤ n → Told P w n s v
  | .none, _, n, s, x, nk, _ => by simp [num] at nk
  | .text _, _, n, s, x, nk, _ => by simp [num] at nk
  | .num i, _, n, s, x, _, _ => by cases x <;> exact .flat (by cases n <;> rfl)
  | .tup ks, _, n, s, x, nk, hn => by
    cases x with
    | tup hg hc hd hk =>
      simp only [NestedKey.depth] at hn
      cases n with
      | zero => omega
      | succ n => exact .row hg hc hd (told_keys ks _ n s hk (by simpa [num] using nk) (by omega))
theorem told_keys : ∀ (ks : List NestedKey) (vs : List Value) (n : Nat) (s : Shared), NestedAll s.heap ks vs → nums ks = true → NestedKey.depthAll ks ≤ n → ∀ v ∈ vs, Told P w n s v
  | [], _, n, s, x, _, _, v, hv => by cases x; cases hv
  | k :: ks, _, n, s, x, nk, hn, v, hv => by
    cases x with
    | cons x1 x2 =>
      simp only [NestedKey.depthAll] at hn
      simp only [nums, Bool.and_eq_true] at nk
      rcases List.mem_cons.mp hv with e | hv
      · rw [e]; exact told_key k _ n s x1 nk.1 (by omega)
      · exact told_keys ks _ n s x2 nk.2 (by omega) v hv
end
/-- the tuple at a is the key k -/
structure At (h : Heap) (k : NestedKey) (a : Addr) : Prop where
  is : NestedIs h k (.ref a)
  dep : k.depth ≤ 8
  num : num k = true
theorem At.kept {h h' : Heap} {k : NestedKey} {a : Addr} (x : At h k a) (kp : ∀ b o, h.get? b = some o → h'.get? b = some o) : At h' k a := ⟨NestedIs.at (fun b o _ _ e _ => kp b o e) _ _ x.is, x.dep, x.num⟩
theorem At.past {h h' : Heap} {k : NestedKey} {a S : Addr} {o : Obj} {es : Array (Int × Value)} {ep : Nat} {t : SetTable} (x : At h k a) (ho : h.get? S = some o) (hd : o.data = .set es ep t) (hs : Heap.SameBut S h h') : At h' k a :=
  ⟨NestedIs.at (fun b ob _ _ e ed => by
    refine (hs.2 b fun z => ?_).trans e
    subst z
    rw [ho] at e
    cases e
    rw [hd] at ed
    cases ed) _ _ x.is, x.dep, x.num⟩
section
variable {A : Around} {E : Value → Shared → Prop} {s : Shared}
/-- two such tuples compared -/
theorem eq_keys {x y : NestedKey} {a b : Addr} {Q : Bool → Shared → Prop} (hu : A.units + 8 < cLine) (hx : At s.heap x a) (hy : At s.heap y b) (q : Q (decide (x = y)) s) : wpAny (model P w) A (eqBool (.ref a) (.ref b)) Q E s :=
  (nestedKind P w).eqBool hu ⟨hx.is, hx.dep⟩ ⟨hy.is, hy.dep⟩ q
/-- a search among them shows nothing -/
theorem unseen {k : NestedKey} {b : Addr} {Q : Bool → Shared → Prop} (hk : At s.heap k b) {ys : List Value} (hy : ∀ y ∈ ys, ∃ k' c, y = Value.ref c ∧ At s.heap k' c) (q : Q false s) : wpAny (model P w) A (searchCouldBeSeen (.ref b) ys) Q E s := by
  unfold searchCouldBeSeen
  refine wpAny_bind ?_
  refine wpAny_forIn_list _ (fun rest r z => r.1 = none ∧ z = s ∧ ∀ y ∈ rest, ∃ k' c, y = Value.ref c ∧ At s.heap k' c) _ ?_ ?_ _ _ ⟨rfl, rfl, hy⟩
  · rintro v rest r z ⟨hr, rfl, al⟩
    obtain ⟨k', c, rfl, hc⟩ := al v List.mem_cons_self
    have al' : ∀ y ∈ rest, ∃ k' c, y = Value.ref c ∧ At z.heap k' c := fun u m => al u (List.mem_cons_of_mem _ m)
    dsimp only
    by_cases hv : (b == c || (carriedByValue (.ref b) && carriedByValue (.ref c))) = true
    · refine wp_if_pos hv ?_
      exact wpAny_pure ⟨rfl, rfl, al'⟩
    · refine wp_if_neg hv ?_
      refine wpAny_bind ((nestedKind P w).quiet ⟨hk.is, hk.dep⟩ ?_)
      simp only [Bool.not_true, Bool.false_eq_true, if_false]
      refine wpAny_bind ((nestedKind P w).quiet ⟨hc.is, hc.dep⟩ ?_)
      simp only [Bool.not_true, Bool.false_eq_true, if_false]
      refine wpAny_bind (plain_key k _ 8 _ hk.is hk.num hk.dep _ _ _ ?_)
      simp only [Bool.false_eq_true, if_false]
      refine wpAny_bind (plain_key k' _ 8 _ hc.is hc.num hc.dep _ _ _ ?_)
      simp only [Bool.false_eq_true, if_false]
      exact wpAny_pure ⟨rfl, rfl, al'⟩
  · rintro ⟨r1, r2⟩ z ⟨hr, rfl, _⟩
    simp only at hr
    subst hr
    exact wpAny_pure q
end
/-! ### what stands in the table -/
abbrev HK (w : World) (k : NestedKey) : Int := NestedKey.hash w k
abbrev Ent : Type := Addr × NestedKey
def hashes (w : World) (L : List Ent) : List Int := L.map fun p => HK w p.2
def rowsN (w : World) (L : List Ent) : List (Int × Value) := L.map fun p => (HK w p.2, Value.ref p.1)
theorem rowsN_len {w : World} {L : List Ent} {es : Array (Int × Value)} (h : es.toList = rowsN w L) : es.size = L.length := by
  rw [← Array.length_toList, h, rowsN, List.length_map]
/-- the set at S without its tuples -/
structure Tab0 (w : World) (h : Heap) (S : Addr) (L : List Ent) (es : Array (Int × Value)) (ep : Nat) (t : SetTable) : Prop where
  ob : ∃ o, h.get? S = some o ∧ o.ExactSet ∧ o.data = .set es ep t
  rows : es.toList = rowsN w L
  tab : TabOk t (hashes w L)
  nd : (L.map (·.2)).Nodup
  plain : t.plain = true
  led : w.params.followText "set-order" = true ∨ t.led = true
  room : L.length * 5 < t.mask * 3
  few : L.length < 64
structure Tab (w : World) (h : Heap) (S : Addr) (L : List Ent) (es : Array (Int × Value)) (ep : Nat) (t : SetTable) : Prop where
  t0 : Tab0 w h S L es ep t
  keys : ∀ p ∈ L, At h p.2 p.1
section
variable {A : Around} {E : Value → Shared → Prop} {s : Shared} {S : Addr} {L : List Ent} {es : Array (Int × Value)} {ep : Nat} {t : SetTable}
theorem Tab0.size {h : Heap} (R : Tab0 w h S L es ep t) : es.size = L.length := rowsN_len R.rows
theorem fits_of {t : SetTable} {n : Nat} (h0 : t.dummies = #[]) (h1 : t.place.size = n) (h2 : n ≤ t.mask) : t.fits n = true := by
  unfold SetTable.fits SetTable.fill
  rw [h0, Bool.and_eq_true, beq_iff_eq, decide_eq_true_eq]
  exact ⟨h1, by show t.place.size + 0 ≤ t.mask; omega⟩
theorem Tab0.fits {h : Heap} (R : Tab0 w h S L es ep t) : t.fits es.size = true := by
  have h1 := R.tab.sz
  have h3 := R.room
  have h2 := R.size
  unfold hashes at h1
  rw [List.length_map] at h1
  exact fits_of R.tab.dm (by omega) (by omega)
theorem Tab0.entry {h : Heap} (R : Tab0 w h S L es ep t) {i : Nat} {p : Ent} (e : L[i]? = some p) : es[i]? = some (HK w p.2, Value.ref p.1) := by
  rw [← Array.getElem?_toList, R.rows, rowsN, List.getElem?_map, e]
  rfl
theorem Tab0.stays {h : Heap} (R : Tab0 w h S L es ep t) : ¬ t.gaveWay = true := by
  have := mask_odd R.tab.mok
  unfold SetTable.gaveWay
  rw [this]
  decide
theorem dummy_nth (m : Nat) : ∀ (n : Nat) (p : SetTable.Probe), p.dummy = none → (nth m p n).dummy = none
  | 0, _, h => h
  | n + 1, p, h => dummy_nth m n (adv m p) (by unfold adv; split <;> exact h)
/-- where the way of the hash h begins -/
abbrev first (m : Nat) (h : Int) : SetTable.Probe := runAt m (SetTable.bits h % (m + 1)) (SetTable.bits h)
/-- THE SEARCH from the c-th place of the way on; K: the first free place -/
theorem search_go (R : Tab w s.heap S L es ep t) {x : Addr} {k : NestedKey} (hx : At s.heap k x) (hu : A.units + 8 < cLine) {K : Nat} (hKf : K < 10 * SetTable.turns t.mask)
    (hK : way t.mask (HK w k) K ∉ t.place.toList) (hKb : ∀ c, c < K → way t.mask (HK w k) c ∈ t.place.toList) {Q : SetFound → Shared → Prop}
    (hin : k ∈ L.map (·.2) → Q (.there none) s) (hout : k ∉ L.map (·.2) → Q (.free (way t.mask (HK w k) K) false) s) :
    ∀ (f c : Nat) (st : Option SetTable.Probe), st.getD (t.probeStart (HK w k)) = nth t.mask (first t.mask (HK w k)) c → c ≤ K → K - c < f →
      (∀ (i : Nat) (p : Ent), L[i]? = some p → p.2 = k → ∃ d, c ≤ d ∧ d < K ∧ t.place.toList[i]? = some (way t.mask (HK w k) d)) →
      wpAny (model P w) A (setSearchFrom S (.ref x) (HK w k) true f st) Q E s
  | 0, _, _, _, _, hf, _ => absurd hf (Nat.not_lt_zero _)
  | f + 1, c, st, hst, hc, hf, met => by
    obtain ⟨o, ho, hex, hd⟩ := R.t0.ob
    have ris := R.t0.tab.ris
    rw [setSearchFrom_succ]
    refine wpAny_bind (wpAny_setState_of ho hd R.t0.fits ?_)
    dsimp only
    refine wp_if_neg R.t0.stays ?_
    try refine wpAny_bind (wpAny_pure ?_)
    have on : ∀ q, nth t.mask (nth t.mask (first t.mask (HK w k)) c) q = nth t.mask (first t.mask (HK w k)) (c + q) := fun q => (nth_add t.mask c _ q).symm
    have onj : ∀ q, (nth t.mask (nth t.mask (first t.mask (HK w k)) c) q).j = way t.mask (HK w k) (c + q) := fun q => congrArg SetTable.Probe.j (on q)
    have hKc : c + (K - c) = K := by omega
    have spec := go_spec t ris R.t0.tab.dm (fun i => (es[i]?.map (·.1)).getD 0) (HK w k) (10 * SetTable.turns t.mask) (K - c) (nth t.mask (first t.mask (HK w k)) c) (dummy_nth _ c _ rfl) (by omega)
      (fun q hq => by rw [onj]; exact hKb _ (by omega)) (by rw [onj, hKc]; exact hK)
    have hashAt : ∀ (i : Nat) (p : Ent), L[i]? = some p → (fun i => (es[i]?.map (·.1)).getD 0) i = HK w p.2 := fun i p hp => by
      show (es[i]?.map (·.1)).getD 0 = _
      rw [R.t0.entry hp]
      rfl
    rcases spec with ⟨q, i, hq, hi, hh, hno, hpr⟩ | ⟨hno, hpr⟩
    · rw [onj] at hi
      have hpr' : t.probe (fun i => (es[i]?.map (·.1)).getD 0) (HK w k) (st.getD (t.probeStart (HK w k))) = some (.candidate (way t.mask (HK w k) (c + q)) i (nth t.mask (first t.mask (HK w k)) (c + (q + 1)))) := by
        rw [hst, ← onj, ← on]
        exact hpr
      rw [hpr']
      dsimp only
      have hil : i < L.length := by
        have h1 := (List.getElem?_eq_some_iff.mp hi).1
        have h2 := R.t0.tab.sz
        unfold hashes at h2
        rw [List.length_map] at h2
        rw [Array.length_toList, h2] at h1
        exact h1
      obtain ⟨p, hp⟩ : ∃ p, L[i]? = some p := ⟨_, List.getElem?_eq_getElem hil⟩
      have pm : p ∈ L := List.mem_of_getElem? hp
      have pk := R.keys p pm
      have live : t.slot (way t.mask (HK w k) (c + q)) = .live i := slot_live ris hi
      have rest : wpAny (model P w) A (searchRest S (.ref x) (HK w k) true f es t (way t.mask (HK w k) (c + q)) i (nth t.mask (first t.mask (HK w k)) (c + (q + 1)))) Q E s := by
        unfold searchRest
        rw [R.t0.entry hp]
        dsimp only
        refine wpAny_bind (wpAny_holding (eq_keys hu pk hx ?_))
        refine wpAny_bind (wpAny_setState_of ho hd R.t0.fits ?_)
        dsimp only
        by_cases same : p.2 = k
        · refine wp_if_pos (by simp [same]) ?_
          exact wpAny_pure (hin (List.mem_map.mpr ⟨p, pm, same⟩))
        · refine wp_if_neg (by simp [same]) ?_
          try refine wpAny_bind (wpAny_pure ?_)
          rw [sameMem]
          dsimp only
          simp only [if_true, live, R.t0.entry hp]
          refine wpAny_bind (wpAny_isSame_ref_self (wpAny_bind (wpAny_pure ?_)))
          simp only [if_true]
          refine wp_if_neg (by simp [same]) ?_
          refine search_go R hx hu hKf hK hKb hin hout f (c + (q + 1)) _ rfl (by omega) (by omega) fun j r hj hr => ?_
          obtain ⟨d, d1, d2, d3⟩ := met j r hj hr
          refine ⟨d, ?_, d2, d3⟩
          have no1 : ¬ d < c + q := fun z => hno (d - c) j (by omega) (by rw [onj, show c + (d - c) = d by omega]; exact d3) ((hashAt j r hj).trans (by rw [hr]))
          have no2 : d ≠ c + q := fun z => by
            subst z
            have l2 := slot_live ris d3
            rw [live] at l2
            injection l2 with l2
            subst l2
            rw [hp] at hj
            exact same ((congrArg Prod.snd (Option.some.inj hj)).trans hr)
          omega
      by_cases hl : t.led = true
      · refine wp_if_neg (by simp [hl]) ?_
        try refine wpAny_bind (wpAny_pure ?_)
        exact rest
      · refine wp_if_pos (by simp [hl]) ?_
        refine wpAny_bind (unseen hx (fun y hy => ?_) ?_)
        · obtain ⟨e, he, rfl⟩ := List.mem_map.mp hy
          have he1 : e ∈ es.toList := by
            have : e ∈ es ∧ e.1 = HK w k := by simpa using he
            simpa using this.1
          rw [R.t0.rows] at he1
          obtain ⟨r, hr, rfl⟩ := List.mem_map.mp he1
          exact ⟨r.2, r.1, rfl, R.keys r hr⟩
        · refine wp_if_neg (by decide) ?_
          try refine wpAny_bind (wpAny_pure ?_)
          exact rest
    · have hpr' : t.probe (fun i => (es[i]?.map (·.1)).getD 0) (HK w k) (st.getD (t.probeStart (HK w k))) = some (.empty (way t.mask (HK w k) K) none) := by
        have e2 : way t.mask (HK w k) K = (nth t.mask (nth t.mask (first t.mask (HK w k)) c) (K - c)).j := by rw [onj, hKc]
        rw [hst, e2]
        exact hpr
      rw [hpr']
      dsimp only
      refine wpAny_pure (hout fun hm => ?_)
      obtain ⟨r, hr, e⟩ := List.mem_map.mp hm
      obtain ⟨j, hj⟩ := List.mem_iff_getElem?.mp hr
      obtain ⟨d, d1, d2, d3⟩ := met j r hj e
      exact hno (d - c) j (by omega) (by rw [onj, show c + (d - c) = d by omega]; exact d3) ((hashAt j r hj).trans (by rw [e]))
theorem search_key (R : Tab w s.heap S L es ep t) {x : Addr} {k : NestedKey} (hx : At s.heap k x) (hu : A.units + 8 < cLine) {Q : SetFound → Shared → Prop} (hin : k ∈ L.map (·.2) → Q (.there none) s)
    (hout : ∀ K, k ∉ L.map (·.2) → way t.mask (HK w k) K ∉ t.place.toList → (∀ c, c < K → way t.mask (HK w k) c ∈ t.place.toList) → Q (.free (way t.mask (HK w k) K) false) s) :
    wpAny (model P w) A (setSearch S (.ref x) (HK w k) true) Q E s := by
  have room := R.t0.room
  have len : (hashes w L).length = L.length := List.length_map _
  obtain ⟨K, hKf, hK, hKb⟩ := R.t0.tab.first (by rw [len]; omega) (HK w k)
  have small : K < 100000 := by
    have : 10 * SetTable.turns t.mask ≤ 1420 := by
      unfold SetTable.turns
      rcases R.t0.tab.mok with e | e | e <;> omega
    omega
  unfold setSearch
  refine search_go R hx hu hKf hK hKb hin (fun hn => hout K hn hK hKb) 100000 0 none rfl (Nat.zero_le _) (by omega) fun i p hp hk => ?_
  have hi : (hashes w L)[i]? = some (HK w k) := by
    rw [hashes, List.getElem?_map, hp, ← hk]
    rfl
  have hil : i < t.place.toList.length := by
    rw [Array.length_toList, R.t0.tab.sz, len]
    exact (List.getElem?_eq_some_iff.mp hp).1
  obtain ⟨d, hd, e⟩ := R.t0.tab.before hK hi (List.getElem?_eq_getElem hil)
  exact ⟨d, Nat.zero_le _, hd, by rw [List.getElem?_eq_getElem hil, e]⟩
/-! ### the table laid anew -/
theorem drawn_rows {order : Array Nat} (hr : es.toList = rowsN w L) (hp : order.toList.Perm (List.range L.length)) :
    ∃ M : List Ent, (order.filterMap (es[·]?)).toList = rowsN w M ∧ M.Perm L ∧ hashes w M = order.toList.map fun i => (es.map (·.1)).getD i 0 := by
  have sz := rowsN_len hr
  have ent : ∀ (i : Nat) (p : Ent), L[i]? = some p → es[i]? = some (HK w p.2, Value.ref p.1) := fun i p e => by
    rw [← Array.getElem?_toList, hr, rowsN, List.getElem?_map, e]
    rfl
  have key : ∀ l : List Nat, (∀ i ∈ l, i < L.length) → l.filterMap (fun i => es[i]?) = rowsN w (l.filterMap fun i => L[i]?) ∧ hashes w (l.filterMap fun i => L[i]?) = l.map fun i => (es.map (·.1)).getD i 0 := by
    intro l
    induction l with
    | nil => exact fun _ => ⟨rfl, rfl⟩
    | cons i l ih =>
      intro hl
      obtain ⟨p, hp⟩ : ∃ p, L[i]? = some p := ⟨_, List.getElem?_eq_getElem (hl i List.mem_cons_self)⟩
      obtain ⟨e1, e2⟩ := ih fun j hj => hl j (List.mem_cons_of_mem _ hj)
      have e3 : (es.map (·.1)).getD i 0 = HK w p.2 := by
        have e5 : (es.map (·.1))[i]? = some (HK w p.2) := by rw [Array.getElem?_map, ent i p hp]; rfl
        simp [Array.getD_eq_getD_getElem?, e5]
      rw [List.filterMap_cons_some (ent i p hp), List.filterMap_cons_some hp, List.map_cons, e1, e3, ← e2]
      exact ⟨rfl, rfl⟩
  obtain ⟨e1, e2⟩ := key order.toList fun i hi => List.mem_range.mp (hp.mem_iff.mp hi)
  refine ⟨_, by first | (rw [Array.toList_filterMap]; exact e1) | simpa using e1, ?_, e2⟩
  have all : (List.range L.length).filterMap (fun i => L[i]?) = L := by
    refine List.ext_getElem? fun i => ?_
    have h : ∀ n, n ≤ L.length → (List.range n).filterMap (fun i => L[i]?) = L.take n := by
      intro n
      induction n with
      | zero => exact fun _ => rfl
      | succ n ih =>
        intro hn
        have hlt : n < L.length := hn
        rw [List.range_succ, List.filterMap_append, ih (Nat.le_of_lt hlt), List.take_succ, List.getElem?_eq_getElem hlt, List.filterMap_cons_some (List.getElem?_eq_getElem hlt)]
        rfl
    rw [h _ (Nat.le_refl _), List.take_length]
  have pm := hp.filterMap fun i => L[i]?
  rw [all] at pm
  exact pm
theorem relay_go {o : Obj} (ho : s.heap.get? S = some o) (hex : o.ExactSet) (hd : o.data = .set es ep t) (hr : es.toList = rowsN w L) (hsz : t.place.size = es.size) (hdm : t.dummies = #[]) (hfl : es.size ≤ t.mask)
    (nd : (L.map (·.2)).Nodup) (keys : ∀ p ∈ L, At s.heap p.2 p.1) (pl : t.plain = true) (ld : w.params.followText "set-order" = true ∨ t.led = true) (few : L.length < 64) {n M : Nat}
    (hw : SetTable.sizeAbove n - 1 = M) (hM : MaskOk M) (hw2 : SetTable.sizeAbove n ≤ 128) (hn : L.length * 5 < M * 3) {Q : Unit → Shared → Prop}
    (q : ∀ h' L' es' ep' t', Heap.SameBut S s.heap h' → Tab w h' S L' es' ep' t' → L'.Perm L → Q () { s with heap := h' }) : wpAny (model P w) A (setRelay S n) Q E s := by
  have sl := rowsN_len hr
  obtain ⟨t', order, e, hp, T, em, el, ep', ed⟩ := relaid_ok t (hs := es.map (·.1)) (wanted := n) hw hM (by rw [Array.size_map, sl]; omega)
  rw [Array.size_map, sl] at hp
  obtain ⟨L2, r1, r2, r3⟩ := drawn_rows hr hp
  rw [← r3] at T
  have hs2 : (order.filterMap (es[·]?)).size = es.size := by rw [rowsN_len r1, r2.length_eq, sl]
  rw [setRelay_eq]
  refine wpAny_bind (wpAny_setState_of ho hd (fits_of hdm hsz hfl) ?_)
  dsimp only
  refine wp_if_neg (by rw [sizeLine_eq]; omega) ?_
  try refine wpAny_bind (wpAny_pure ?_)
  rw [e]
  dsimp only
  refine wpAny_bind ?_
  refine wp_if_neg (by rw [hs2]; simp) ?_
  try refine wpAny_bind (wpAny_pure ?_)
  refine wpAny_pure ?_
  dsimp only
  refine wpAny_storeSet_of ho hd ?_ (by rw [hs2, sl, sizeLine_eq]; omega)
  have sb : Heap.SameBut S s.heap (s.heap.update S (Obj.putSet (order.filterMap (es[·]?)) t')) := Heap.SameBut.update ..
  refine q _ L2 (order.filterMap (es[·]?)) (ep + 1) t' sb ⟨⟨⟨_, store_at ho hd, ⟨hex.1, hex.2.1, hex.2.2⟩, rfl⟩, r1, T, (r2.map (·.2)).nodup_iff.mpr nd, by rw [ep']; exact pl, by rw [el]; exact ld, ?_, by rw [r2.length_eq]; exact few⟩, fun p hpm => (keys p (r2.mem_iff.mp hpm)).past ho hd sb⟩ r2
  rw [r2.length_eq, em]
  exact hn
/-! ### one more -/
theorem add_key (R : Tab w s.heap S L es ep t) {x : Addr} {k : NestedKey} (hx : At s.heap k x) (hu : A.units + 8 < cLine) (hfew : L.length + 1 < 64) {Q : Bool → Shared → Prop}
    (q : ∀ b h' L' es' ep' t', Heap.SameBut S s.heap h' → Tab w h' S L' es' ep' t' → (k ∈ L.map (·.2) → L' = L) → (k ∉ L.map (·.2) → L'.Perm ((x, k) :: L)) → Q b { s with heap := h' }) :
    wpAny (model P w) A (setAddHashed S (.ref x) (HK w k)) Q E s := by
  obtain ⟨o, ho, hex, hd⟩ := R.t0.ob
  have sl := R.t0.size
  have room := R.t0.room
  have len : (hashes w L).length = L.length := List.length_map _
  unfold setAddHashed
  refine wpAny_holding ?_
  rw [show (100000 : Nat) = 99999 + 1 from rfl, setAddHashedIn_succ]
  refine wpAny_bind (wpAny_setState_of ho hd R.t0.fits ?_)
  dsimp only
  refine wp_if_neg (by simp [byScan, Value.scannable]) ?_
  try refine wpAny_bind (wpAny_pure ?_)
  refine wpAny_bind (search_key R hx hu (fun hm => ?_) fun K hm hK hb => ?_)
  · dsimp only
    exact wpAny_pure (q false s.heap L es ep t (Heap.SameBut.refl S s.heap) R (fun _ => rfl) fun z => absurd hm z)
  · dsimp only
    refine wpAny_bind (wpAny_setState_of ho hd R.t0.fits ?_)
    dsimp only
    obtain ⟨q1, q2, q3, q4, q5, q6, q7, q8, q9⟩ := R.t0.tab.put hK hb
    have hp1 : (t.put (way t.mask (HK w k) K)).1.plain = true := by rw [q6]; exact R.t0.plain
    generalize hpt : t.put (way t.mask (HK w k) K) = pt at q1 q3 q4 q5 q6 q7 q8 q9 hp1 ⊢
    obtain ⟨t1, p⟩ := pt
    dsimp only at q1 q3 q4 q5 q6 q7 q8 q9 hp1 ⊢
    subst q1
    first
      | (refine wpAny_bind ?_; refine wp_if_pos hp1 ?_; refine told_key k _ 8 _ hx.is hx.num hx.dep _ _ _ ?_)
      | refine wp_if_pos hp1 (wpAny_bind (told_key k _ 8 _ hx.is hx.num hx.dep _ _ _ ?_))
    simp only [if_true]
    have hin : (SetTable.insertAt es (SetTable.below t.place (way t.mask (HK w k) K)) (HK w k, Value.ref x)).toList = rowsN w (L.take (SetTable.below t.place (way t.mask (HK w k) K)) ++ (x, k) :: L.drop (SetTable.below t.place (way t.mask (HK w k) K))) := by
      rw [SetTable.toList_insertAt, R.t0.rows]
      unfold rowsN
      rw [List.map_append, List.map_cons, List.map_take, List.map_drop]
    generalize SetTable.below t.place (way t.mask (HK w k) K) = p at q2 q3 hin ⊢
    have pm := put_perm L p (x, k)
    have hhs : hashes w (L.take p ++ (x, k) :: L.drop p) = (hashes w L).take p ++ HK w k :: (hashes w L).drop p := by
      unfold hashes
      rw [List.map_append, List.map_cons, List.map_take, List.map_drop]
    rw [← hhs] at q3
    have nd1 : ((L.take p ++ (x, k) :: L.drop p).map (·.2)).Nodup := (pm.map (·.2)).nodup_iff.mpr (List.nodup_cons.mpr ⟨hm, R.t0.nd⟩)
    have hlen := pm.length_eq
    rw [List.length_cons] at hlen
    have hes := rowsN_len hin
    generalize SetTable.insertAt es p (HK w k, Value.ref x) = es1 at hin hes ⊢
    generalize L.take p ++ (x, k) :: L.drop p = L1 at pm hlen q3 nd1 hin hes
    rw [hlen] at hes
    have len1 : (hashes w L1).length = L1.length := List.length_map _
    refine wpAny_bind (wpAny_storeSet_of ho hd ?_ (by rw [hes, sizeLine_eq]; omega))
    have sb : Heap.SameBut S s.heap (s.heap.update S (Obj.putSet es1 t1)) := Heap.SameBut.update ..
    have ho1 := store_at (es' := es1) (t' := t1) ho hd
    generalize s.heap.update S (Obj.putSet es1 t1) = h1 at sb ho1 ⊢
    have keys1 : ∀ p ∈ L1, At h1 p.2 p.1 := fun p hp => by
      rcases List.mem_cons.mp (pm.mem_iff.mp hp) with e | hp
      · rw [e]; exact hx.past ho hd sb
      · exact (R.keys p hp).past ho hd sb
    have ld1 : w.params.followText "set-order" = true ∨ t1.led = true := by rw [q5]; exact R.t0.led
    have ful : t1.tooFull = true ↔ (L.length + 1) * 5 ≥ t1.mask * 3 := by
      unfold SetTable.tooFull
      rw [decide_eq_true_eq, q9, len]
    by_cases hf : t1.tooFull = true
    · first
        | (refine wpAny_bind ?_; refine wp_if_pos (by simp [hf]) ?_)
        | (refine wp_if_pos (by simp [hf]) ?_; refine wpAny_bind ?_)
      have full := ful.mp hf
      rw [sl]
      have two : (t.mask = 7 ∧ L.length = 4) ∨ (t.mask = 31 ∧ L.length = 18) := by
        rcases R.t0.tab.mok with e | e | e
        · exact .inl ⟨e, by omega⟩
        · exact .inr ⟨e, by omega⟩
        · omega
      have go : ∀ M, SetTable.sizeAbove (SetTable.grown (L.length + 1)) - 1 = M → MaskOk M → SetTable.sizeAbove (SetTable.grown (L.length + 1)) ≤ 128 → (L.length + 1) * 5 < M * 3 →
          wpAny (model P w) A (setRelay S (SetTable.grown (L.length + 1))) (fun _ z => wpAny (model P w) A (pure true) Q E z) E { s with heap := h1 } := fun M z1 z2 z3 z4 => by
        refine relay_go (s := { s with heap := h1 }) ho1 ⟨hex.1, hex.2.1, hex.2.2⟩ rfl hin (by rw [q3.sz, len1, hlen, hes]) q3.dm (by omega) nd1 keys1 hp1 ld1 (by omega) z1 z2 z3 (by omega) ?_
        exact fun h2 L2 es2 ep2 t2 sb2 R2 pm2 => wpAny_pure (q true h2 L2 es2 ep2 t2 (sb.trans sb2) R2 (fun z => absurd z hm) fun _ => pm2.trans pm)
      rcases two with ⟨_, e2⟩ | ⟨_, e2⟩
      · exact go 31 (by rw [e2, size_20]) (.inr (.inl rfl)) (by rw [e2, size_20]; decide) (by omega)
      · exact go 127 (by rw [e2, size_76]) (.inr (.inr rfl)) (by rw [e2, size_76]; decide) (by omega)
    · first
        | refine wp_if_neg (by simp [hf]) ?_
        | (refine wpAny_bind ?_; refine wp_if_neg (by simp [hf]) ?_; refine wpAny_pure ?_)
      have nf : ¬ ((L.length + 1) * 5 ≥ t1.mask * 3) := fun z => hf (ful.mpr z)
      exact wpAny_pure (q true h1 L1 es1 (ep + 1) t1 sb ⟨⟨⟨_, ho1, ⟨hex.1, hex.2.1, hex.2.2⟩, rfl⟩, hin, q3, nd1, hp1, ld1, by omega, by omega⟩, keys1⟩ (fun z => absurd z hm) fun _ => pm)
end
/-! ### set(xs) -/
/-- a set that grows: T i h stands when i items are in -/
structure Grows (P : Program) (w : World) (A : Around) (S : Addr) (h0 : Heap) (n : Nat) (Pv : Nat → Value → Prop) (T : Nat → Heap → Prop) : Prop where
  stays : ∀ i h h', T i h → (∀ b o, h0.get? b = some o → h.get? b = some o) → (∀ b o, h0.get? b = some o → h'.get? b = some o) → (∀ o, h.get? S = some o → h'.get? S = some o) → T i h'
  step : ∀ (i : Nat) (v : Value) (s : Shared) (E : Value → Shared → Prop) (Q : Bool → Shared → Prop), i < n → Pv i v → T i s.heap → (∀ b o, h0.get? b = some o → s.heap.get? b = some o) →
    (∀ b h' tk, Heap.SameBut S s.heap h' → s.toks ≤ tk → T (i + 1) h' → Q b { s with heap := h', toks := tk }) → wpAny (model P w) A (setAdd S v) Q E s
section
variable {A : Around} {E : Value → Shared → Prop} {s : Shared}
theorem grow_loop {I S : Addr} {fp wr : List Addr} {G : Array GenState → Array GenState → Prop} {n : Nat} {Pv : Nat → Value → Prop} {St : Nat → Shared → Prop} {R : Result → Shared → Prop} {h0 : Heap} {T : Nat → Heap → Prop}
    (W : WalksS P w A.in1 I fp wr G n Pv St) (hSf : S ∉ fp) (g : Grows P w A.in1 S h0 n Pv T) (hS0 : h0.get? S = none) (hw0 : ∀ b ∈ wr, h0.get? b = none) :
    ∀ (k i : Nat) (s : Shared), n - i = k → i ≤ n → St i s → (∀ b o, h0.get? b = some o → s.heap.get? b = some o) → T i s.heap →
      (∀ s', Moved (S :: wr) G s s' → T n s'.heap → (∀ b o, h0.get? b = some o → s'.heap.get? b = some o) → R (.ok (.ret .none)) s') →
      codeAny (model P w) A (.builtin "set.update.loop" ⟨[.ref S, .ref I], []⟩) R s := by
  have hSw : S ∉ wr := fun h => hSf (W.sub _ h)
  have hsub : ∀ b ∈ wr, b ∈ S :: wr := fun b hb => List.mem_cons_of_mem _ hb
  have past : ∀ {s s' : Shared}, Moved wr G s s' → (∀ b o, h0.get? b = some o → s.heap.get? b = some o) → ∀ b o, h0.get? b = some o → s'.heap.get? b = some o := fun m k b o e =>
    m.heap b o (fun hb => by rw [hw0 b hb] at e; cases e) (k b o e)
  intro k
  induction k with
  | zero =>
    intro i s hk hi hst kp hT hR
    obtain rfl : i = n := by omega
    refine codeAny_builtin F.entry_set_update_loop ?_
    rw [Around.under_plainId F.plain_set_update_loop _]
    show wpAny _ A.in1 (pyNext (.ref I) >>= _) _ _ s
    refine wpAny_bind (W.done s _ _ hst fun s' m => ?_)
    have kp' := past m kp
    show wpAny _ A.in1 (ret Value.none) _ _ s'
    exact wpAny_pure (hR s' (m.mono hsub) (g.stays _ _ _ hT kp kp' fun o e => m.heap S o hSw e) kp')
  | succ k ih =>
    intro i s hk hi hst kp hT hR
    have hlt : i < n := by omega
    refine codeAny_builtin F.entry_set_update_loop ?_
    rw [Around.under_plainId F.plain_set_update_loop _]
    show wpAny _ A.in1 (pyNext (.ref I) >>= _) _ _ s
    refine wpAny_bind (W.item i s _ _ hlt hst fun v s' hP hst' m => ?_)
    have kp' := past m kp
    show wpAny _ A.in1 (holding [v] (setAdd S v) >>= _) _ _ s'
    refine wpAny_bind (wpAny_holding ?_)
    refine g.step i v s' _ _ hlt hP (g.stays _ _ _ hT kp kp' fun o e => m.heap S o hSw e) kp' fun b h' tk sb htk hT2 => ?_
    have kp2 : ∀ b o, h0.get? b = some o → h'.get? b = some o := fun b o e => (sb.2 b (fun z => by rw [z, hS0] at e; cases e)).trans (kp' b o e)
    refine wpAny_pure ⟨plainId_quiet F.plain_set_update_loop _, ih (i + 1) _ (by omega) hlt (W.frame _ s' _ _ hst' htk fun b hb o e => ?_) kp2 hT2 fun s'' m2 hT3 kp3 => ?_⟩
    · rw [sb.2 b (fun z : b = S => hSf (by rw [← z]; exact hb))]; exact e
    · refine hR s'' (Moved.trans W.gtrans ((m.mono hsub).then_heap htk fun b o hb e => ?_) m2) hT3 kp3
      rw [sb.2 b (fun z : b = S => hb (by rw [z]; exact List.mem_cons_self))]; exact e
/-- the new set -/
abbrev newSet (w : World) : Obj := { cls := .type "set", dict := none, data := .set #[] 0 (.fresh 0 0 (!w.params.followText "set-order")) }
set_option maxHeartbeats 3200000 in
theorem call_set_list {l : Addr} {items : Array Value} {T : Nat → Heap → Prop} {Q : Value → Shared → Prop} (hh : A.handled = none) (hl : s.heap.IsList l items)
    (g : Grows P w A.in1.in1.in1 s.heap.objs.size s.heap items.size (fun i v => items[i]? = some v) T) (h0 : ∀ h : Heap, h.get? s.heap.objs.size = some (newSet w) → (∀ b o, s.heap.get? b = some o → h.get? b = some o) → T 0 h)
    (q : ∀ (h' : Heap) (tk : Nat), T items.size h' → (∀ b o, s.heap.get? b = some o → h'.get? b = some o) → Q (.ref s.heap.objs.size) { s with heap := h', toks := tk }) : wpAny (model P w) A (call (.type "set") [.ref l]) Q E s := by
  obtain ⟨c, tl, hmro⟩ := F.called_set.mro
  have hmade := F.called_set.made
  have hsub := F.called_set.sub
  refine wpAny_call (codeAny_of_tree ?_)
  show wpAny _ _ (callAny (.type "set") _) _ _ _
  refine wpAny_pure ⟨Code.quiet_builtin _ (by decide +kernel), codeAny_builtin F.entry_type_call ?_⟩
  rw [Around.under_plain (weight_type_call_type "set" [.ref l] []) rfl]
  have h1 := F.called_set.notType
  have h2 := F.called_set.canCreate
  have hct := F.typeCall_set_1 (.ref l)
  repeat (any_goals (first | assumption | wp_step))

  refine codeAny_mono (code_set_led1 (.ref l) (E := E) (Q₁ := fun ob z => ob = .ref s.heap.objs.size ∧ z = { s with heap := s.heap.push (newSet w) }) ⟨rfl, rfl⟩) fun r z hr => ?_
  cases r with
  | error e => exact hr
  | ok fl =>
    cases fl with
    | ret ob =>
      obtain ⟨rfl, rfl⟩ := hr
      have hS : (s.heap.push (newSet w)).get? s.heap.objs.size = some (newSet w) := Heap.get?_push_size _ rfl
      have hT : Shared.TypeIs { s with heap := s.heap.push (newSet w) } (.ref s.heap.objs.size) "set" := ⟨_, hS, rfl⟩
      have hli := F.called_set.init.lookup
      have hbi := F.called_set.init.bind (.ref s.heap.objs.size)
      repeat (any_goals (first | assumption | wp_step))

      refine codeAny_mono (codeAny_call_builtin (R := wants (fun r z => r = .none ∧ ∃ h' tk, z = { s with heap := h', toks := tk } ∧ T items.size h' ∧ (∀ b o, s.heap.get? b = some o → h'.get? b = some o)) E) F.called_set.init.plain F.entry_set_init (check_set_init_1 hT ?_)) fun r₂ s₂ hr₂ => ?_
      · obtain ⟨ol, hol, hcl, nl, hdl⟩ := hl
        obtain ⟨ocls, odict, odata, oslots⟩ := ol
        simp only at hcl hdl
        subst hcl; subst hdl
        have hol' : (s.heap.push (newSet w)).get? l = some { cls := .type "list", dict := odict, data := .seq items nl, slots := oslots } := Heap.get?_push_of_some _ hol
        have hsls := F.sub_list_set
        have hslf := F.sub_list_frozenset
        have hne : (Value.type "list" == Value.type "dict") = false := by decide
        have hl1 : (s.heap.push (newSet w)).IsList l items := ⟨_, hol', rfl, nl, rfl⟩
        unfold Builtin.«set.__init__» noKeywords Builtin.Frozenset.updateFrom
        generalize hPI : pyIter = PI
        wp_walk
        subst hPI

        refine wpAny_pyIter_list hl1 ?_
        refine wpAny_bind (wpAny_runValue ?_)
        have lS : l < s.heap.objs.size := Heap.lt_size hol
        have hh3 : A.in1.in1.in1.handled = none := by simp [hh]
        have sz1 : (s.heap.push (newSet w)).objs.size = s.heap.objs.size + 1 := Heap.size_push ..
        have gone : ∀ b, s.heap.objs.size ≤ b → s.heap.get? b = none := fun b hb => by
          cases z : s.heap.get? b with
          | none => rfl
          | some o => exact absurd (Heap.lt_size z) (Nat.not_lt.mpr hb)
        have two : ∀ b o, s.heap.get? b = some o → ((s.heap.push (newSet w)).push { cls := .type "list_iterator", data := .fields #[.ref l, .int 0 0] }).get? b = some o := fun b o e => Heap.get?_push_of_some _ (Heap.get?_push_of_some _ e)
        refine grow_loop (h0 := s.heap) (T := T) ((Walks.list hh3 _ l (by rw [sz1]; exact Nat.ne_of_lt (Nat.lt_succ_of_lt lS)) items).toS) (by rw [sz1]; simp only [List.mem_cons, List.not_mem_nil, or_false, not_or]; exact ⟨Nat.ne_of_lt (Nat.lt_succ_self _), Nat.ne_of_gt lS⟩) g (gone _ (Nat.le_refl _)) (fun b hb => gone b (by
            rw [List.mem_singleton.mp hb, sz1]
            exact Nat.le_succ _)) (items.size - 0) 0 _ (by omega) (Nat.zero_le _) ⟨⟨_, Heap.get?_push_size _ rfl, rfl, rfl⟩, (hl1.push _)⟩ two (h0 _ (Heap.get?_push_of_some _ hS) two) ?hR
        intro s' m hT' kp
        obtain ⟨h', g2, d', tk', os'⟩ := s'
        have eg : g2 = s.gens := m.gens
        have ed : d' = s.drawn := m.drawn
        have eo : os' = s.os := m.os
        subst eg; subst ed; subst eo
        show wpAny _ _ _ _ _ _
        refine wpAny_pure ?_
        show wpAny _ _ (ret Value.none) _ _ _
        exact wpAny_pure ⟨rfl, h', tk', rfl, hT', kp⟩

      · cases r₂ with
        | error e => exact hr₂
        | ok fl₂ =>
          cases fl₂ with
          | ret r =>
            obtain ⟨rfl, h', tk, rfl, hT', kp⟩ := hr₂
            repeat (any_goals (first | assumption | wp_step))
            exact q _ _ hT' kp
          | _ => exact hr₂.elim
    | _ => exact hr.elim
set_option maxHeartbeats 3200000 in
theorem call_set_tuple {l : Addr} {items : Array Value} {T : Nat → Heap → Prop} {Q : Value → Shared → Prop} (hh : A.handled = none) (hl : s.heap.IsTuple l items)
    (g : Grows P w A.in1.in1.in1 s.heap.objs.size s.heap items.size (fun i v => items[i]? = some v) T) (h0 : ∀ h : Heap, h.get? s.heap.objs.size = some (newSet w) → (∀ b o, s.heap.get? b = some o → h.get? b = some o) → T 0 h)
    (q : ∀ (h' : Heap) (tk : Nat), T items.size h' → (∀ b o, s.heap.get? b = some o → h'.get? b = some o) → Q (.ref s.heap.objs.size) { s with heap := h', toks := tk }) : wpAny (model P w) A (call (.type "set") [.ref l]) Q E s := by
  obtain ⟨c, tl, hmro⟩ := F.called_set.mro
  have hmade := F.called_set.made
  have hsub := F.called_set.sub
  refine wpAny_call (codeAny_of_tree ?_)
  show wpAny _ _ (callAny (.type "set") _) _ _ _
  refine wpAny_pure ⟨Code.quiet_builtin _ (by decide +kernel), codeAny_builtin F.entry_type_call ?_⟩
  rw [Around.under_plain (weight_type_call_type "set" [.ref l] []) rfl]
  have h1 := F.called_set.notType
  have h2 := F.called_set.canCreate
  have hct := F.typeCall_set_1 (.ref l)
  repeat (any_goals (first | assumption | wp_step))

  refine codeAny_mono (code_set_led1 (.ref l) (E := E) (Q₁ := fun ob z => ob = .ref s.heap.objs.size ∧ z = { s with heap := s.heap.push (newSet w) }) ⟨rfl, rfl⟩) fun r z hr => ?_
  cases r with
  | error e => exact hr
  | ok fl =>
    cases fl with
    | ret ob =>
      obtain ⟨rfl, rfl⟩ := hr
      have hS : (s.heap.push (newSet w)).get? s.heap.objs.size = some (newSet w) := Heap.get?_push_size _ rfl
      have hT : Shared.TypeIs { s with heap := s.heap.push (newSet w) } (.ref s.heap.objs.size) "set" := ⟨_, hS, rfl⟩
      have hli := F.called_set.init.lookup
      have hbi := F.called_set.init.bind (.ref s.heap.objs.size)
      repeat (any_goals (first | assumption | wp_step))

      refine codeAny_mono (codeAny_call_builtin (R := wants (fun r z => r = .none ∧ ∃ h' tk, z = { s with heap := h', toks := tk } ∧ T items.size h' ∧ (∀ b o, s.heap.get? b = some o → h'.get? b = some o)) E) F.called_set.init.plain F.entry_set_init (check_set_init_1 hT ?_)) fun r₂ s₂ hr₂ => ?_
      · obtain ⟨ol, hol, hcl, nl, hdl⟩ := hl
        obtain ⟨ocls, odict, odata, oslots⟩ := ol
        simp only at hcl hdl
        subst hcl; subst hdl
        have hol' : (s.heap.push (newSet w)).get? l = some { cls := .type "tuple", dict := odict, data := .seq items nl, slots := oslots } := Heap.get?_push_of_some _ hol
        have hsls := F.sub_tuple_set
        have hslf := F.sub_tuple_frozenset
        have hne : (Value.type "tuple" == Value.type "dict") = false := by decide
        have hl1 : (s.heap.push (newSet w)).IsTuple l items := ⟨_, hol', rfl, nl, rfl⟩
        unfold Builtin.«set.__init__» noKeywords Builtin.Frozenset.updateFrom
        generalize hPI : pyIter = PI
        wp_walk
        subst hPI

        refine wpAny_pyIter_tuple hl1 ?_
        refine wpAny_bind (wpAny_runValue ?_)
        have lS : l < s.heap.objs.size := Heap.lt_size hol
        have hh3 : A.in1.in1.in1.handled = none := by simp [hh]
        have sz1 : (s.heap.push (newSet w)).objs.size = s.heap.objs.size + 1 := Heap.size_push ..
        have gone : ∀ b, s.heap.objs.size ≤ b → s.heap.get? b = none := fun b hb => by
          cases z : s.heap.get? b with
          | none => rfl
          | some o => exact absurd (Heap.lt_size z) (Nat.not_lt.mpr hb)
        have two : ∀ b o, s.heap.get? b = some o → ((s.heap.push (newSet w)).push { cls := .type "tuple_iterator", data := .fields #[.ref l, .int 0 0] }).get? b = some o := fun b o e => Heap.get?_push_of_some _ (Heap.get?_push_of_some _ e)
        refine grow_loop (h0 := s.heap) (T := T) ((Walks.tuple hh3 _ l (by rw [sz1]; exact Nat.ne_of_lt (Nat.lt_succ_of_lt lS)) items).toS) (by rw [sz1]; simp only [List.mem_cons, List.not_mem_nil, or_false, not_or]; exact ⟨Nat.ne_of_lt (Nat.lt_succ_self _), Nat.ne_of_gt lS⟩) g (gone _ (Nat.le_refl _)) (fun b hb => gone b (by
            rw [List.mem_singleton.mp hb, sz1]
            exact Nat.le_succ _)) (items.size - 0) 0 _ (by omega) (Nat.zero_le _) ⟨⟨_, Heap.get?_push_size _ rfl, rfl, rfl⟩, (hl1.push _)⟩ two (h0 _ (Heap.get?_push_of_some _ hS) two) ?hR
        intro s' m hT' kp
        obtain ⟨h', g2, d', tk', os'⟩ := s'
        have eg : g2 = s.gens := m.gens
        have ed : d' = s.drawn := m.drawn
        have eo : os' = s.os := m.os
        subst eg; subst ed; subst eo
        show wpAny _ _ _ _ _ _
        refine wpAny_pure ?_
        show wpAny _ _ (ret Value.none) _ _ _
        exact wpAny_pure ⟨rfl, h', tk', rfl, hT', kp⟩

      · cases r₂ with
        | error e => exact hr₂
        | ok fl₂ =>
          cases fl₂ with
          | ret r =>
            obtain ⟨rfl, h', tk, rfl, hT', kp⟩ := hr₂
            repeat (any_goals (first | assumption | wp_step))
            exact q _ _ hT' kp
          | _ => exact hr₂.elim
    | _ => exact hr.elim
end
/-! ### .. of texts -/
theorem grows_txt {A : Around} {S : Addr} {h0 : Heap} {items : Array Value} {xs : List Str} (hx : StrsAre items.toList xs) (hnd : xs.Nodup) (hf : xs.length < 64) :
    Grows P w A S h0 items.size (fun i v => items[i]? = some v) (fun i h => h.SetOf (PySem.strKind P w) S (fun k => (xs.take i).contains k) i) where
  stays := fun i h h' hT _ _ hS => by
    obtain ⟨o, es, ep, t, ho, r⟩ := hT
    exact ⟨o, es, ep, t, hS o ho, r⟩
  step := fun i v s E Q hi hv hT kp q => by
    have hl := StrsAre.len_eq hx
    rw [Array.length_toList] at hl
    obtain ⟨tk, rfl⟩ := SS.strs_at hx i v (by rw [Array.getElem?_toList]; exact hv)
    have hxi : xs[i]? = some (xs.getD i Str.empty) := by
      rw [List.getD_eq_getElem?_getD, List.getElem?_eq_getElem (by omega)]
      rfl
    unfold setAdd
    refine wpAny_holding ?_
    refine wpAny_bind ((PySem.strKind P w).pyHash (k := xs.getD i Str.empty) (strKind_is _ _ _ _) ?_)
    refine wpAny_setAddHashed_of (knd := PySem.strKind P w) (s := { s with toks := s.toks + 1 }) (strKind_is _ _ _ _) rfl hT (by unfold scanBound; omega) fun h' sb hS2 => ?_
    refine q _ h' _ sb (Nat.le_succ _) ?_
    have new : (xs.take i).contains (xs.getD i Str.empty) = false := by
      cases e : (xs.take i).contains (xs.getD i Str.empty) with
      | false => rfl
      | true =>
        have hm : xs.getD i Str.empty ∈ xs.take i := by simpa using e
        obtain ⟨j, hj⟩ := List.mem_iff_getElem?.mp hm
        have hji : j < i := by
          have := (List.getElem?_eq_some_iff.mp hj).1
          rw [List.length_take] at this
          omega
        rw [List.getElem?_take_of_lt hji] at hj
        have := (List.getElem?_inj (by omega : j < xs.length) hnd).mp (hj.trans hxi.symm)
        omega
    refine PyProof.Rows.SetOf_congr hS2 (fun k => ?_) (if_neg (by rw [new]; decide))
    rw [List.take_succ, hxi]
    show ((xs.take i).contains k || decide (k = xs.getD i Str.empty)) = _
    rw [List.contains_append]
    congr 1
    by_cases e : k = xs.getD i Str.empty
    · rw [e]; simp
    · have e2 : ¬ xs.getD i Str.empty = k := fun z => e z.symm
      simp [e, Option.toList]
/-! ### .. of keys -/
/-- the set holds what the first i items are -/
structure Has (ks : List Ent) (i : Nat) (L : List Ent) : Prop where
  sub : ∀ p ∈ L, p ∈ ks.take i
  all : ∀ p ∈ ks.take i, p.2 ∈ L.map (·.2)
  len : L.length ≤ i
  dis : (ks.map (·.2)).Nodup → L.length = i
theorem has_zero (ks : List Ent) : Has ks 0 [] := ⟨fun p h => (by cases h), fun p h => (by simp at h), Nat.le_refl _, fun _ => rfl⟩
theorem Has.next {ks L L' : List Ent} {i : Nat} {p : Ent} (g : Has ks i L) (h : ks[i]? = some p) (h1 : p.2 ∈ L.map (·.2) → L' = L) (h2 : p.2 ∉ L.map (·.2) → L'.Perm (p :: L)) : Has ks (i + 1) L' := by
  have e : ks.take (i + 1) = ks.take i ++ [p] := by rw [List.take_succ, h]; rfl
  by_cases hm : p.2 ∈ L.map (·.2)
  · rw [h1 hm]
    refine ⟨fun r hr => by rw [e]; exact List.mem_append_left _ (g.sub r hr), fun r hr => ?_, Nat.le_succ_of_le g.len, fun nd => ?_⟩
    · rw [e] at hr
      rcases List.mem_append.mp hr with z | z
      · exact g.all r z
      · rw [List.mem_singleton.mp z]; exact hm
    · exfalso
      obtain ⟨r, hr, er⟩ := List.mem_map.mp hm
      obtain ⟨j, hj⟩ := List.mem_iff_getElem?.mp (g.sub r hr)
      have hji : j < i := by
        have := (List.getElem?_eq_some_iff.mp hj).1
        rw [List.length_take] at this
        omega
      rw [List.getElem?_take_of_lt hji] at hj
      have a1 : (ks.map (·.2))[j]? = some p.2 := by rw [List.getElem?_map, hj, ← er]; rfl
      have a2 : (ks.map (·.2))[i]? = some p.2 := by rw [List.getElem?_map, h]; rfl
      have := (List.getElem?_inj (List.getElem?_eq_some_iff.mp a1).1 nd).mp (a1.trans a2.symm)
      omega
  · have pm := h2 hm
    refine ⟨fun r hr => ?_, fun r hr => ?_, by rw [pm.length_eq]; exact Nat.succ_le_succ g.len, fun nd => by rw [pm.length_eq, List.length_cons, g.dis nd]⟩
    · rw [e]
      rcases List.mem_cons.mp (pm.mem_iff.mp hr) with z | z
      · rw [z]; exact List.mem_append_right _ (List.mem_singleton.mpr rfl)
      · exact List.mem_append_left _ (g.sub r z)
    · rw [e] at hr
      rw [(pm.map (·.2)).mem_iff, List.map_cons]
      rcases List.mem_append.mp hr with z | z
      · exact List.mem_cons_of_mem _ (g.all r z)
      · rw [List.mem_singleton.mp z]; exact List.mem_cons_self
def keyT (w : World) (S : Addr) (ks : List Ent) (i : Nat) (h : Heap) : Prop := ∃ L es ep t, Tab w h S L es ep t ∧ Has ks i L
theorem grows_key {A : Around} {S : Addr} {h0 : Heap} {items : Array Value} (ks : List Ent) (hu : A.units + 8 < cLine) (hi : items.toList = ks.map fun p => Value.ref p.1) (hk : ∀ p ∈ ks, At h0 p.2 p.1) (hf : ks.length < 64) :
    Grows P w A S h0 items.size (fun i v => items[i]? = some v) (keyT w S ks) where
  stays := fun i h h' hT kp kp' hS => by
    obtain ⟨L, es, ep, t, R, g⟩ := hT
    obtain ⟨o, ho, r⟩ := R.t0.ob
    exact ⟨L, es, ep, t, ⟨⟨⟨o, hS o ho, r⟩, R.t0.rows, R.t0.tab, R.t0.nd, R.t0.plain, R.t0.led, R.t0.room, R.t0.few⟩, fun p hp => (hk p (List.mem_of_mem_take (g.sub p hp))).kept kp'⟩, g⟩
  step := fun i v s E Q hlt hv hT kp q => by
    obtain ⟨L, es, ep, t, R, g⟩ := hT
    have hsz : items.size = ks.length := by rw [← Array.length_toList, hi, List.length_map]
    obtain ⟨p, hp⟩ : ∃ p, ks[i]? = some p := ⟨_, List.getElem?_eq_getElem (by omega)⟩
    obtain rfl : v = .ref p.1 := by
      rw [← Array.getElem?_toList, hi, List.getElem?_map, hp] at hv
      exact (Option.some.inj hv).symm
    have hx : At s.heap p.2 p.1 := (hk p (List.mem_of_getElem? hp)).kept kp
    unfold setAdd
    refine wpAny_holding ?_
    refine wpAny_bind ((nestedKind P w).pyHash hu ⟨hx.is, hx.dep⟩ ?_)
    exact add_key (s := { s with toks := s.toks + p.2.draws }) R hx hu (by have := g.len; omega) fun b h' L' es' ep' t' sb R' c1 c2 => q _ h' _ sb (Nat.le_add_right _ _) ⟨L', es', ep', t', R', g.next hp c1 c2⟩
theorem keyT_zero {w : World} {S : Addr} {ks : List Ent} {h : Heap} (ho : h.get? S = some (newSet w)) : keyT w S ks 0 h := by
  refine ⟨[], #[], 0, .fresh 0 0 (!w.params.followText "set-order"), ⟨⟨⟨_, ho, ⟨rfl, rfl, rfl⟩, rfl⟩, rfl, ⟨List.Pairwise.nil, rfl, rfl, .inl rfl, fun x hx => (by cases hx), fun i h j hi => (by simp [hashes] at hi)⟩, List.nodup_nil, rfl, ?_, by show 0 * 5 < 7 * 3; decide, by show 0 < 64; decide⟩, fun p hp => (by cases hp)⟩, has_zero ks⟩
  show _ ∨ (!w.params.followText "set-order") = true
  cases w.params.followText "set-order"
  · exact .inr rfl
  · exact .inl rfl
end
end SN

set_option Elab.async false
set_option linter.all false
set_option maxRecDepth 100000
set_option maxHeartbeats 4000000
namespace G
open PySem PySem.Spec PyProof.Rows L2
/-! ### defs that may raise -/
/-- R: what it hands back; Y: which class it raises -/
def spX (K : PySem.W.Frag) (R : List PyData → PyData → Prop) (Y : List PyData → Addr → Prop) : Sp := fun vs H Q E => ∃ ds, DpAll K H vs ds ∧
  ((∃ r, R ds r ∧ ∀ v H', Same H H' → Dp K H' v r → Q v H') ∨ ∃ C, Y ds C ∧ ∀ H', Same H H' → E (.ref C) none H')
section
variable {K : PySem.W.Frag} {σ : L2.St} {H H' : Hp} {ta tb te : TE} {t : TT} {d e : PyData}
theorem ed_callX {R : List PyData → PyData → Prop} {Y : List PyData → Addr → Prop} {E : XK} {ts : TA} {ds : List PyData} {r : PyData} (h : EvA K ts σ H ds) (hr : R ds r) : EvD K (tCall (spX K R Y) [] E ts) σ H r := fun H1 s Q q =>
  h H1 s _ fun vs H2 s2 hv => ⟨ds, by rw [List.append_nil]; exact hv, .inl ⟨r, hr, fun v H' s' hv => q v H' (s2.trans s') hv⟩⟩
/-- the call raises -/
theorem er_callX {R : List PyData → PyData → Prop} {Y : List PyData → Addr → Prop} {E : XK} {ts : TA} {ds : List PyData} {C : Addr} {Q : VK} (h : EvA K ts σ H ds) (hr : Y ds C) (q : ∀ H', Same H H' → E (.ref C) none H') : tCall (spX K R Y) [] E ts σ H Q :=
  h H (Same.refl H) _ fun vs H2 s2 hv => ⟨ds, by rw [List.append_nil]; exact hv, .inr ⟨C, hr, fun H' s' => q H' (s2.trans s')⟩⟩
end
section
variable {X : Cx} {CX : CXT} {k j : Nat} {x : Str} {ps : List Str} {sp : Sp} {E : L2.St → XK} {t : TA} {e : Expr} {es : List Expr} {p pos : Pos}
/-- in the body of a try -/
theorem pe_clS (c : Cl X.prog X.w X.K X.mg X.base CX k x ps sp) (hr : Room j X.A) (hk : k ≤ j) (hx : ∀ σ, PassesAt CX X σ (E σ)) (ha : PA X (e :: es) t) (hg : Gl X x := by rfl)
    (he : starEach (e :: es) X.env = (false, eval e X.env) :: starEach es X.env := by rfl) (hpl : (backTo pos (starEach es X.env)).any (·.1) = false := by rfl) (hd : (x == ("__debug__" : Str)) = false := by decide) :
    PE X (.Call (.Name x p) (e :: es) [] pos) (tCallS sp E t) := by
  obtain ⟨f, fd, h1, h2, h3, h4⟩ := c.ex
  exact pe_callS h4 (hr.mono hk) hg h1 h2 h3 hx ha hd he hpl
end
/-! ### by the answer -/
section
variable {K : PySem.W.Frag} {σ : L2.St} {H H' : Hp} {ta tb te : TE} {t u : TT} {d e : PyData} {a b c : Bool} {D : Ends} {x y : TS}
theorem EvT.to (h : EvT t σ H a) (e : a = b) : EvT t σ H b := e ▸ h
theorem EvD.to (h : EvD K te σ H d) (x : d = e) : EvD K te σ H e := x ▸ h
theorem et_orT (h : EvT t σ H a) (ha : a = true) : EvT (tOr t u) σ H true := (et_or (a := true) (b := true) (h.to ha) fun z => nomatch z).to rfl
theorem et_orF (h : EvT t σ H a) (ha : a = false) (h2 : EvT u σ H b) : EvT (tOr t u) σ H b := (et_or (a := false) (h.to ha) fun _ => h2).to (Bool.false_or b)
theorem et_andF (h : EvT t σ H a) (ha : a = false) : EvT (tAnd t u) σ H false := (et_and (a := false) (b := false) (h.to ha) fun z => nomatch z).to rfl
theorem et_andT (h : EvT t σ H a) (ha : a = true) (h2 : EvT u σ H b) : EvT (tAnd t u) σ H b := (et_and (a := true) (h.to ha) fun _ => h2).to (Bool.true_and b)
theorem ed_orT (h : EvD K ta σ H (.bool a)) (ha : a = true) : EvD K (tOrV ta tb) σ H (.bool true) := (ed_or (a := true) (b := true) (ha ▸ h) fun z => nomatch z).to rfl
theorem ed_orF (h : EvD K ta σ H (.bool a)) (ha : a = false) (h2 : EvD K tb σ H (.bool b)) : EvD K (tOrV ta tb) σ H (.bool b) := (ed_or (a := false) (ha ▸ h) fun _ => h2).to (congrArg _ (Bool.false_or b))
theorem ed_andF (h : EvD K ta σ H (.bool a)) (ha : a = false) : EvD K (tAndV ta tb) σ H (.bool false) := (ed_and (a := false) (b := false) (ha ▸ h) fun z => nomatch z).to rfl
theorem ed_andT (h : EvD K ta σ H (.bool a)) (ha : a = true) (h2 : EvD K tb σ H (.bool b)) : EvD K (tAndV ta tb) σ H (.bool b) := (ed_and (a := true) (ha ▸ h) fun _ => h2).to (congrArg _ (Bool.true_and b))
theorem s_ifT (h : EvT t σ H c) (hc : c = true) (h1 : ∀ H', Same H H' → x D σ H') : tIfS t x y D σ H := s_if (h.to hc) (fun _ => h1) fun z => nomatch z
theorem s_ifF (h : EvT t σ H c) (hc : c = false) (h1 : ∀ H', Same H H' → y D σ H') : tIfS t x y D σ H := s_if (h.to hc) (fun z => nomatch z) fun _ => h1
theorem ed_ifT (h : EvT t σ H c) (hc : c = true) (h1 : EvD K ta σ H d) : EvD K (tIf t ta tb) σ H d := ed_if (h.to hc) (fun _ => h1) fun z => nomatch z
theorem ed_ifF (h : EvT t σ H c) (hc : c = false) (h1 : EvD K tb σ H d) : EvD K (tIf t ta tb) σ H d := ed_if (h.to hc) (fun z => nomatch z) fun _ => h1
end
/-! ### lists of data at their ends -/
section
variable {K : PySem.W.Frag} {H : Hp}
theorem dps_app : ∀ {us vs : List V} {xs ys : List PyData}, DpAll K H us xs → DpAll K H vs ys → DpAll K H (us ++ vs) (xs ++ ys)
  | _, _, _, _, .nil, h => h
  | _, _, _, _, .cons a t, h => .cons a (dps_app t h)
theorem dps_split : ∀ {xs ys : List PyData} {vs : List V}, DpAll K H vs (xs ++ ys) → ∃ us ws, vs = us ++ ws ∧ DpAll K H us xs ∧ DpAll K H ws ys
  | [], _, _, h => ⟨[], _, rfl, .nil, h⟩
  | _ :: xs, _, _, h => by
    cases h with
    | cons a t =>
      obtain ⟨us, ws, e, h1, h2⟩ := dps_split (xs := xs) t
      exact ⟨_ :: us, ws, by rw [e]; rfl, .cons a h1, h2⟩
theorem dps_last {xs : List PyData} {d : PyData} {vs : List V} (h : DpAll K H vs (xs ++ [d])) : ∃ us v, vs = us ++ [v] ∧ DpAll K H us xs ∧ Dp K H v d := by
  obtain ⟨us, ws, e, h1, h2⟩ := dps_split h
  cases h2 with
  | cons a t => cases t; exact ⟨us, _, e, h1, a⟩
theorem last_at {α : Type} (us : List α) (v : α) : (us ++ [v])[(us ++ [v]).length - 1]? = some v := by simp
theorem init_of {α : Type} (us : List α) (v : α) : (us ++ [v]).dropLast = us := by simp
end
/-! ### tuples cut -/
section
variable {K : PySem.W.Frag} {σ : L2.St} {H H' : Hp} {ta tb te : TE} {d e : PyData}
/-- a pair goes to two names -/
theorem g_pair {i j : Nat} {v : V} {d1 d2 : PyData} {Q : L2.St → Hp → Prop} (h : Dp K H v (.tuple [d1, d2])) (q : ∀ v1 v2, Dp K H v1 d1 → Dp K H v2 d2 → Q ((σ.set i (some v1)).set j (some v2)) H) : gTup K 2 (gCons (gName i) (gCons (gName j) gNil)) v σ H Q := by
  obtain ⟨a, xs, rfl, hs, hv⟩ := dp_tup h
  cases hv with
  | cons h1 t =>
    cases t with
    | cons h2 t =>
      cases t
      exact ⟨a, _, rfl, hs, rfl, _, _, rfl, _, _, rfl, rfl, q _ _ h1 h2⟩
end
/-! ### comprehensions over a list told by a map -/
section
variable {K : PySem.W.Frag} {σ : L2.St} {H H' : Hp} {tl te : TE} {t : TT} {d e : PyData}
theorem tts_snoc : ∀ {l : List PyData} {d : PyData}, tts l = true → tt d = true → tts (l ++ [d]) = true
  | [], d, _, h => by simp [tts, h]
  | a :: r, d, h, h2 => by
    simp [tts] at h ⊢
    exact ⟨h.1, tts_snoc h.2 h2⟩
theorem tts_of : ∀ {l : List PyData}, (∀ d ∈ l, tt d = true) → tts l = true
  | [], _ => rfl
  | a :: r, h => by
    simp [tts, h a List.mem_cons_self]
    exact tts_of fun d hd => h d (List.mem_cons_of_mem _ hd)
theorem en_lcP {α : Type} {wi : TI} {g : TG} {vs : List Nat} (l : List α) (c : α → PyData) (p : α → Bool) (f : α → PyData) (hi : EvI K wi σ H (l.map c)) (hl : l.length ≤ 100000) (htt : ∀ a ∈ l, p a = true → tt (f a) = true)
    (hel : ∀ a ∈ l, ∀ v H1, Same H H1 → Dp K H1 v (c a) → ∀ W : L2.St → Hp → Prop, (∀ σ2, wipe σ2 vs = wipe σ vs → EvT t σ2 H1 (p a) → (p a = true → EvD K te σ2 H1 (f a)) → W σ2 H1) → g v (wipe σ vs) H1 W) :
    EvN K (tLc wi g t te vs) σ H ((l.filter p).map f) := by
  intro H1 s Q q
  refine hi H1 s _ fun J H2 s2 w D hD => ?_
  have hlen : (l.map c).length = l.length := List.length_map _
  refine ⟨fun i m H' => m = l.length - i ∧ i ≤ l.length ∧ Same H2 H' ∧ ∃ acc, H' D = some (.lst acc) ∧ DpAll K H' acc (((l.take i).filter p).map f) ∧ acc.length ≤ i ∧ tts (((l.take i).filter p).map f) = true,
    ⟨l.length, by simp, Nat.zero_le _, (Same.refl H2).new hD, [], upd_same, by simpa using DpAll.nil, Nat.le_refl _, by simp [tts]⟩, ?_⟩
  rintro i m H3 ⟨rfl, hile, s3, acc, hacc, hdp, hal, htts⟩
  by_cases hlt : i < l.length
  · refine .inr ⟨w.goes i H3 (by rw [hlen]; exact hlt) s3, fun H' => i + 1 ≤ l.length ∧ Same H2 H' ∧ ∃ acc, H' D = some (.lst acc) ∧ DpAll K H' acc (((l.take (i + 1)).filter p).map f) ∧ acc.length ≤ i + 1 ∧ tts (((l.take (i + 1)).filter p).map f) = true,
      fun H' ⟨a, b⟩ => ⟨l.length - (i + 1), by omega, rfl, a, b⟩, fun x H4 y => ?_⟩
    have hx : (l.map c)[i]? = some (c l[i]) := by rw [List.getElem?_map, List.getElem?_eq_getElem hlt]; rfl
    obtain ⟨s4, hxd⟩ := w.yields i H3 x H4 _ hx s3 y
    have hmem : l[i] ∈ l := List.getElem_mem hlt
    have etake : l.take (i + 1) = l.take i ++ [l[i]] := by rw [List.take_succ, List.getElem?_eq_getElem hlt]; rfl
    refine hel _ hmem x H4 (((s.trans s2).trans s3).trans s4) hxd _ fun σ2 hw ht he => ⟨hw, ?_⟩
    refine ht H4 (Same.refl _) _ fun H5 s5 => ?_
    cases hp : p l[i] with
    | true =>
      refine iteT (he hp H5 s5 _ fun z H6 s6 hz => ?_)
      have s36 : Same H3 H6 := (s4.trans s5).trans s6
      have hD6 := s36 _ _ hacc
      have e1 : ((l.take (i + 1)).filter p).map f = ((l.take i).filter p).map f ++ [f l[i]] := by
        rw [etake, List.filter_append, List.map_append]
        simp [hp]
      refine ⟨acc, hD6, sz_lt (by omega), hlt, fun b o e => ?_, _, upd_same, ?_, by simp; omega, ?_⟩
      · rw [upd_ne (ne_of_none e hD)]
        exact s36 _ _ (s3 _ _ e)
      · rw [e1]
        have hk : Kt H6 (upd H6 D (.lst (acc ++ [z]))) := Kt.rfl'.lst hD6
        exact (dps_kt hk _ _ htts (dps_same s36 _ _ hdp)).snoc (dp_kt hk _ _ (htt _ hmem hp) hz)
      · rw [e1]
        exact tts_snoc htts (htt _ hmem hp)
    | false =>
      have e1 : ((l.take (i + 1)).filter p).map f = ((l.take i).filter p).map f := by
        rw [etake, List.filter_append, List.map_append]
        simp [hp]
      refine iteF ⟨hlt, (s3.trans s4).trans s5, acc, (s4.trans s5) _ _ hacc, ?_, by omega, ?_⟩
      · rw [e1]; exact dps_same (s4.trans s5) _ _ hdp
      · rw [e1]; exact htts
  · have e : i = l.length := by omega
    subst e
    rw [List.take_length] at hdp
    refine .inl ⟨?_, q D acc H3 (s2.trans s3) (back s2 hD) hacc hdp⟩
    have := w.stops H3 s3
    rwa [hlen] at this
theorem en_lcM {α : Type} {wi : TI} {g : TG} {vs : List Nat} (l : List α) (c f : α → PyData) (hi : EvI K wi σ H (l.map c)) (hl : l.length ≤ 100000) (htt : ∀ a ∈ l, tt (f a) = true)
    (hel : ∀ a ∈ l, ∀ v H1, Same H H1 → Dp K H1 v (c a) → ∀ W : L2.St → Hp → Prop, (∀ σ2, wipe σ2 vs = wipe σ vs → EvD K te σ2 H1 (f a) → W σ2 H1) → g v (wipe σ vs) H1 W) :
    EvN K (tLc wi g tYes te vs) σ H (l.map f) := by
  have h := en_lcP (t := tYes) l c (fun _ => true) f hi hl (fun a ha _ => htt a ha) fun a ha v H1 s hv W hW => hel a ha v H1 s hv W fun σ2 hw he => hW σ2 hw et_yes fun _ => he
  rwa [List.filter_eq_self.mpr (by simp)] at h
/-- all(..) of a comprehension -/
theorem ed_allM {α : Type} {wi : TI} {g : TG} {vs : List Nat} (l : List α) (c : α → PyData) (p : α → Bool) (hi : EvI K wi σ H (l.map c)) (hl : l.length ≤ 100000)
    (hel : ∀ a ∈ l, ∀ v H1, Same H H1 → Dp K H1 v (c a) → ∀ W : L2.St → Hp → Prop, (∀ σ2, wipe σ2 vs = wipe σ vs → EvD K te σ2 H1 (.bool (p a)) → W σ2 H1) → g v (wipe σ vs) H1 W) :
    EvD K (tCB (rAll K) (tCons (tLc wi g tYes te vs) tNil)) σ H (.bool (l.all p)) := by
  have h := en_lcM (te := te) l c (fun a => .bool (p a)) hi hl (fun _ _ => rfl) hel
  have h2 := ed_all (bs := l.map p) (by rw [List.map_map]; exact h)
  rwa [List.all_map] at h2
end
/-! ### len(set(..)) of distinct keys -/
mutual
/-- tuples of numbers, of the nesting n -/
def kd : Nat → PyData → Bool
  | _, .int _ => true
  | n + 1, .tuple xs => kds n xs
  | _, _ => false
def kds : Nat → List PyData → Bool
  | _, [] => true
  | n, x :: xs => kd n x && kds n xs
end
mutual
def nk : PyData → NestedKey
  | .int i => .num i
  | .tuple xs => .tup (nks xs)
  | _ => .none
def nks : List PyData → List NestedKey
  | [] => []
  | x :: xs => nk x :: nks xs
end
mutual
theorem nk_num : ∀ (n : Nat) (d : PyData), kd n d = true → SN.num (nk d) = true ∧ (nk d).depth ≤ n
  | _, .int i, _ => ⟨rfl, Nat.zero_le _⟩
  | n + 1, .tuple xs, h => by
    obtain ⟨a, b⟩ := nks_num n xs (by simpa [kd] using h)
    exact ⟨by simpa [nk, SN.num] using a, by simpa [nk, NestedKey.depth] using b⟩
  | 0, .tuple xs, h => by simp [kd] at h
  | _, .none, h => by simp [kd] at h
  | _, .bool _, h => by simp [kd] at h
  | _, .str _, h => by simp [kd] at h
  | _, .list _, h => by simp [kd] at h
  | _, .dict _, h => by simp [kd] at h
theorem nks_num : ∀ (n : Nat) (ds : List PyData), kds n ds = true → SN.nums (nks ds) = true ∧ NestedKey.depthAll (nks ds) ≤ n
  | _, [], _ => ⟨rfl, Nat.zero_le _⟩
  | n, d :: ds, h => by
    simp only [kds, Bool.and_eq_true] at h
    obtain ⟨a, b⟩ := nk_num n d h.1
    obtain ⟨a2, b2⟩ := nks_num n ds h.2
    exact ⟨by simp [nks, SN.nums, a, a2], by simp only [nks, NestedKey.depthAll]; omega⟩
end
mutual
theorem nk_inj : ∀ (n : Nat) (d : PyData) (m : Nat) (e : PyData), kd n d = true → kd m e = true → nk d = nk e → d = e
  | _, .int i, _, .int j, _, _, h => by simp [nk] at h; rw [h]
  | _, .int i, _ + 1, .tuple ys, _, _, h => by simp [nk] at h
  | n + 1, .tuple xs, _, .int j, _, _, h => by simp [nk] at h
  | n + 1, .tuple xs, m + 1, .tuple ys, hx, hy, h => by
    simp [nk] at h
    rw [nks_inj n xs m ys (by simpa [kd] using hx) (by simpa [kd] using hy) h]
  | 0, .tuple xs, _, _, h, _, _ => by simp [kd] at h
  | _, _, 0, .tuple xs, _, h, _ => by simp [kd] at h
  | _, .none, _, _, h, _, _ => by simp [kd] at h
  | _, .bool _, _, _, h, _, _ => by simp [kd] at h
  | _, .str _, _, _, h, _, _ => by simp [kd] at h
  | _, .list _, _, _, h, _, _ => by simp [kd] at h
  | _, .dict _, _, _, h, _, _ => by simp [kd] at h
  | _, _, _, .none, _, h, _ => by simp [kd] at h
  | _, _, _, .bool _, _, h, _ => by simp [kd] at h
  | _, _, _, .str _, _, h, _ => by simp [kd] at h
  | _, _, _, .list _, _, h, _ => by simp [kd] at h
  | _, _, _, .dict _, _, h, _ => by simp [kd] at h
theorem nks_inj : ∀ (n : Nat) (ds : List PyData) (m : Nat) (es : List PyData), kds n ds = true → kds m es = true → nks ds = nks es → ds = es
  | _, [], _, [], _, _, _ => rfl
  | _, [], _, e :: es, _, _, h => by simp [nks] at h
  | _, d :: ds, _, [], _, _, h => by simp [nks] at h
  | n, d :: ds, m, e :: es, hd, he, h => by
    simp only [kds, Bool.and_eq_true] at hd he
    simp [nks] at h
    rw [nk_inj n d m e hd.1 he.1 h.1, nks_inj n ds m es hd.2 he.2 h.2]
end
section
variable {X : Cx} {pins : List (Addr × Obj)} {σ : L2.St} {H : Hp} {s : Shared}
mutual
theorem is_nk (I : Inv X pins σ H s) : ∀ (n : Nat) (d : PyData) (v : V) (u : Value), kd n d = true → Dp X.K H v d → L2.RelV v u → NestedIs s.heap (nk d) u
  | _, .int i, v, u, _, h, r => by
    cases h
    obtain ⟨t, rfl⟩ := r
    exact .int i t
  | n + 1, .tuple xs, v, u, k, h, r => by
    obtain ⟨a, vs, rfl, hs, hv⟩ := dp_tup h
    obtain rfl : u = .ref a := r
    obtain ⟨its, rv, ⟨o, ho, hc, m, hd⟩, _⟩ := I.tuple hs
    exact .tup ho hc hd (by simpa using is_nks I n xs vs its (by simpa [kd] using k) hv rv)
  | 0, .tuple xs, _, _, h, _, _ => by simp [kd] at h
  | _, .none, _, _, h, _, _ => by simp [kd] at h
  | _, .bool _, _, _, h, _, _ => by simp [kd] at h
  | _, .str _, _, _, h, _, _ => by simp [kd] at h
  | _, .list _, _, _, h, _, _ => by simp [kd] at h
  | _, .dict _, _, _, h, _, _ => by simp [kd] at h
theorem is_nks (I : Inv X pins σ H s) : ∀ (n : Nat) (ds : List PyData) (vs : List V) (us : List Value), kds n ds = true → DpAll X.K H vs ds → L2.Vals vs us → NestedAll s.heap (nks ds) us
  | _, [], _, _, _, h, r => by
    cases h
    cases r
    exact .nil
  | n, d :: ds, _, _, k, h, r => by
    simp only [kds, Bool.and_eq_true] at k
    cases h with
    | cons h1 h2 =>
      cases r with
      | cons r1 r2 => exact .cons (is_nk I n d _ _ k.1 h1 r1) (is_nks I n ds _ _ k.2 h2 r2)
end
/-- rows of tuples as the set's entries -/
theorem ents_of (I : Inv X pins σ H s) : ∀ (ds : List PyData) (vs : List V) (us : List Value), (∀ d ∈ ds, isT d = true ∧ kd 8 d = true) → DpAll X.K H vs ds → L2.Vals vs us → ∃ ks : List SN.Ent, us = ks.map (fun p => Value.ref p.1) ∧ (∀ p ∈ ks, SN.At s.heap p.2 p.1) ∧ ks.map (·.2) = ds.map nk
  | [], _, _, _, h, r => by
    cases h
    cases r
    exact ⟨[], rfl, fun p hp => (by cases hp), rfl⟩
  | d :: ds, _, _, k, h, r => by
    cases h with
    | cons h1 h2 =>
      cases r with
      | cons r1 r2 =>
        obtain ⟨ks, e1, e2, e3⟩ := ents_of I ds _ _ (fun z hz => k z (List.mem_cons_of_mem _ hz)) h2 r2
        obtain ⟨k1, k2⟩ := k d List.mem_cons_self
        have is := is_nk I 8 d _ _ k2 h1 r1
        obtain ⟨n1, n2⟩ := nk_num 8 d k2
        cases d with
        | tuple xs =>
          obtain ⟨a, ws, rfl, _, _⟩ := dp_tup h1
          obtain rfl := (show _ = Value.ref a from r1)
          exact ⟨(a, nk (.tuple xs)) :: ks, by rw [e1]; rfl, fun p hp => by
            rcases List.mem_cons.mp hp with rfl | hp
            · exact ⟨is, n2, n1⟩
            · exact e2 p hp, by rw [List.map_cons, List.map_cons, e3]⟩
        | _ => simp [isT] at k1
theorem strs_of : ∀ (xs : List Str) (vs : List V) (us : List Value), DpAll X.K H vs (xs.map .str) → L2.Vals vs us → PyProof.Rows.StrsAre us xs
  | [], _, _, h, r => by
    cases h
    cases r
    exact .nil
  | x :: xs, _, _, h, r => by
    cases h with
    | cons h1 h2 =>
      cases r with
      | cons r1 r2 =>
        obtain rfl := dpS h1
        obtain ⟨t, rfl⟩ := r1
        exact .cons x t (strs_of xs _ _ h2 r2)
end
def tLenSetD (K : PySem.W.Frag) (ta : TE) : TE := fun σ H Q => ta σ H fun x H1 => ∃ ds, (Dp K H1 x (.list ds) ∨ Dp K H1 x (.tuple ds)) ∧ ((∃ xs : List Str, ds = xs.map .str) ∨ ∀ d ∈ ds, isT d = true ∧ kd 8 d = true) ∧ ds.Nodup ∧ ds.length < 64 ∧
  Q (.int ds.length) H1
theorem pe_lenSetD {X : Cx} {a : Expr} {ta : TE} {p p2 q pos : Pos} (hc : X.calm = true) (hu : X.A.units + 70 < cLine) (hg : Gl X "len") (hm : X.mg "len" = none) (hg2 : Gl X "set") (hm2 : X.mg "set" = none) (ha : PE X a ta)
    (na : starEach [a] X.env = (false, eval a X.env) :: starEach [] X.env := by rfl) : PE X (.Call (.Name "len" p) [.Call (.Name "set" p2) [a] [] q] [] pos) (tLenSetD X.K ta) := by
  refine ⟨fun pins s σ H Q I h => ?_⟩
  refine Call_ (ld_blt I hg hm PySem.boot_len ?_)
  refine PyProof.Rows.callWith_builtin1 (PyProof.Rows.args_cons ?_ rfl) rfl rfl
  refine Call_ (ld_blt I hg2 hm2 PyProof.Rows.boot_set ?_)
  refine PyProof.Rows.callWith_type1 (PyProof.Rows.args_cons (thn (ha.run pins s σ H _ I h) fun v s1 ⟨x, H1, I1, r1, q1⟩ => PyProof.Rows.args_nil ?_) na) na rfl
  obtain ⟨ds, hd, hk, nd, hf, q⟩ := q1
  have hh := I1.ok.hd hc
  have h3 : X.A.in1.in1.in1.units + 8 < cLine := by simp only [Around.in1_units]; omega
  obtain ⟨l, vs, its, rfl, hv, rv, con⟩ : ∃ (l : Addr) (vs : List V) (its : List Value), x = .ref l ∧ DpAll X.K H1 vs ds ∧ L2.Vals vs its ∧ (s1.heap.IsList l its.toArray ∨ s1.heap.IsTuple l its.toArray) := by
    rcases hd with hd | hd
    · cases hd with
      | lst hs hv =>
        obtain ⟨its, rv, pl, _⟩ := I1.list hs
        exact ⟨_, _, its, rfl, hv, rv, .inl pl.isList⟩
    · obtain ⟨l, vs, rfl, hs, hv⟩ := dp_tup hd
      obtain ⟨its, rv, pl, _⟩ := I1.tuple hs
      exact ⟨l, vs, its, rfl, hv, rv, .inr pl⟩
  cases r1
  have hsz : its.toArray.size = ds.length := by rw [List.size_toArray, ← rv.length, hv.len]
  have key : ∀ {T : Nat → Heap → Prop} {Q : Value → Shared → Prop} {E : Value → Shared → Prop}, SN.Grows X.prog X.w X.A.in1.in1.in1 s1.heap.objs.size s1.heap its.toArray.size (fun i v => its.toArray[i]? = some v) T →
      (∀ h : Heap, h.get? s1.heap.objs.size = some (SN.newSet X.w) → (∀ b o, s1.heap.get? b = some o → h.get? b = some o) → T 0 h) →
      (∀ (h' : Heap) (tk : Nat), T its.toArray.size h' → (∀ b o, s1.heap.get? b = some o → h'.get? b = some o) → Q (.ref s1.heap.objs.size) { s1 with heap := h', toks := tk }) → wpAny (model X.prog X.w) X.A (call (.type "set") [.ref l]) Q E s1 := fun g h0 q => by
    rcases con with con | con
    · exact SN.call_set_list hh con g h0 q
    · exact SN.call_set_tuple hh con g h0 q
  have fin : ∀ (h' : Heap) (tk : Nat) (o : Obj) (es : Array (Int × Value)) (ep : Nat) (t : SetTable), (∀ b o, s1.heap.get? b = some o → h'.get? b = some o) → h'.get? s1.heap.objs.size = some o → o.ExactSet → o.data = .set es ep t → t.fits es.size = true → es.size = ds.length →
      wpAny (model X.prog X.w) X.A (call (.builtin "len") [.ref s1.heap.objs.size]) (fun v s2 => ∃ x H2, Inv X pins σ H2 s2 ∧ L2.RelV x v ∧ Q x H2) X.xe { s1 with heap := h', toks := tk } := fun h' tk o es ep t kp ho hex hd hfit hn => by
    have I2 : Inv X pins σ H1 { s1 with heap := h', toks := tk } := I1.kept kp
    exact call_len_set ho hex hd hfit (by rw [hn]; omega) ⟨.int ds.length, H1, I2.tok _, ⟨_, by rw [hn]⟩, q⟩
  rcases hk with ⟨xs, rfl⟩ | hk
  · have nx : xs.Nodup := List.Pairwise.of_map _ (fun a b (hne : PyData.str a ≠ .str b) e => hne (by rw [e])) nd
    rw [List.length_map] at hf hsz
    refine key (SN.grows_txt (by simpa using strs_of xs _ _ hv rv) nx hf) (fun h e _ => ?_) fun h' tk hT kp => PyProof.Rows.args_nil ?_
    · exact PyProof.Rows.SetOf_congr ((PyProof.Rows.setObjOf_fresh (knd := PySem.strKind X.prog X.w) _).setOf e (by unfold scanBound; omega)) (fun _ => rfl) rfl
    · obtain ⟨o, es, ep, t, ho, hex, hd, _, _, _, hfit, hn⟩ := hT
      exact fin h' tk o es ep t kp ho hex hd hfit (by rw [hn, hsz, List.length_map])
  · obtain ⟨ks, e1, e2, e3⟩ := ents_of I1 ds _ _ hk hv rv
    have hl : ks.length = ds.length := by
      have := congrArg List.length e3
      simpa using this
    refine key (SN.grows_key ks h3 (by simpa using e1) e2 (by omega)) (fun h e _ => SN.keyT_zero e) fun h' tk hT kp => PyProof.Rows.args_nil ?_
    obtain ⟨L, es, ep, t, R, g⟩ := hT
    obtain ⟨o, ho, hex, hd⟩ := R.t0.ob
    have nn : (ks.map (·.2)).Nodup := by
      rw [e3]
      exact List.pairwise_map.mpr (List.Pairwise.imp_of_mem (fun {a b} ha hb hne e => hne (nk_inj 8 a 8 b (hk a ha).2 (hk b hb).2 e)) nd)
    exact fin h' tk o es ep t kp ho hex hd R.t0.fits (by rw [R.t0.size, g.dis nn, hsz])
theorem ed_lenSet {K : PySem.W.Frag} {σ : L2.St} {H : Hp} {ta : TE} {ds : List PyData} (h : EvD K ta σ H (.list ds)) (h1 : (∃ xs : List Str, ds = xs.map .str) ∨ ∀ d ∈ ds, isT d = true ∧ kd 8 d = true) (h2 : ds.Nodup) (h3 : ds.length < 64) : EvD K (tLenSetD K ta) σ H (.int ds.length) := fun H1 s Q q =>
  h H1 s _ fun v H2 s2 hv => ⟨ds, .inl hv, h1, h2, h3, q _ _ s2 (.int _)⟩
theorem ed_lenSetT {K : PySem.W.Frag} {σ : L2.St} {H : Hp} {ta : TE} {ds : List PyData} (h : EvD K ta σ H (.tuple ds)) (h1 : (∃ xs : List Str, ds = xs.map .str) ∨ ∀ d ∈ ds, isT d = true ∧ kd 8 d = true) (h2 : ds.Nodup) (h3 : ds.length < 64) : EvD K (tLenSetD K ta) σ H (.int ds.length) := fun H1 s Q q =>
  h H1 s _ fun v H2 s2 hv => ⟨ds, .inr hv, h1, h2, h3, q _ _ s2 (.int _)⟩
theorem ed_min {K : PySem.W.Frag} {σ : L2.St} {H : Hp} {ta : TE} {ns : List Int} {m : Int} (h : EvN K ta σ H (ns.map .int)) (hm : m ∈ ns) (hle : ∀ y ∈ ns, m ≤ y) : EvD K (tCB (rMin K) (tCons ta tNil)) σ H (.int m) := fun H1 s Q q =>
  h H1 s _ fun p vs H2 s2 _ hp hv => ⟨p, ns, rfl, by rw [← dps_ints hv]; exact sq_of hp, List.length_pos_of_mem hm, fun m' h1 h2 => by
    have : m' = m := Int.le_antisymm (h2 m hm) (hle m' h1)
    rw [this]; exact q _ H2 s2 (.int _)⟩
end G

set_option Elab.async false
set_option linter.all false
set_option maxRecDepth 100000
set_option maxHeartbeats 4000000
/-! sorted(set(xs)) -/
namespace SN
open PySem PySem.Spec PyProof.Rows L2
theorem perm_map_inv {α β : Type} {f : α → β} {m k : List β} (h : m.Perm k) : ∀ {l : List α}, k = l.map f → ∃ l' : List α, l'.Perm l ∧ m = l'.map f := by
  induction h with
  | nil => exact fun {l} e => ⟨[], by cases l with | nil => exact .nil | cons a r => simp at e, rfl⟩
  | cons x _ ih =>
    intro l e
    cases l with
    | nil => simp at e
    | cons a r =>
      rw [List.map_cons] at e
      injection e with e1 e2
      obtain ⟨l', p, q⟩ := ih e2
      exact ⟨a :: l', p.cons a, by rw [List.map_cons, e1, q]⟩
  | swap x y l0 =>
    intro l e
    match l, e with
    | [], e => simp at e
    | [a], e => simp at e
    | a :: b :: r, e =>
      simp only [List.map_cons] at e
      injection e with e1 e2
      injection e2 with e2 e3
      exact ⟨b :: a :: r, List.Perm.swap .., by rw [List.map_cons, List.map_cons, e1, e2, e3]⟩
  | trans _ _ ih1 ih2 =>
    intro l e
    obtain ⟨l2, p2, q2⟩ := ih2 e
    obtain ⟨l1, p1, q1⟩ := ih1 q2
    exact ⟨l1, p1.trans p2, q1⟩
theorem each_refs : ∀ (L : List Ent), PySem.W.EachIs (fun (v : Value) (p : Ent) => v = .ref p.1) (L.map fun p => Value.ref p.1) L
  | [] => .nil
  | p :: L => .cons rfl (each_refs L)
theorem refs_each : ∀ {vs : List Value} {L : List Ent}, PySem.W.EachIs (fun (v : Value) (p : Ent) => v = .ref p.1) vs L → vs = L.map fun p => Value.ref p.1
  | _, _, .nil => rfl
  | _, _, .cons e r => by rw [List.map_cons, e, refs_each r]
theorem each_reads {h : Heap} {enc : Ent → PyData} {a : Addr} : ∀ {L : List Ent}, (∀ p ∈ L, Reads h (.ref p.1) (enc p) []) → PySem.W.EachIs (fun (v : Value) (p : Ent) => ∃ as, Reads h v (enc p) as ∧ a ∉ as) (L.map fun p => Value.ref p.1) L
  | [], _ => .nil
  | p :: L, hr => .cons ⟨[], hr p List.mem_cons_self, by simp⟩ (each_reads fun q hq => hr q (List.mem_cons_of_mem _ hq))
section
variable {P : Program} {w : World} {A : Around} {E : Value → Shared → Prop} {s : Shared} {S : Addr} {L : List Ent} {es : Array (Int × Value)} {ep : Nat} {t : SetTable}
theorem sorted_keys (R : Tab w s.heap S L es ep t) (hh : A.handled = none) (hu : A.units + 20 < cLine) (enc : Ent → PyData) (hr : ∀ p ∈ L, Reads s.heap (.ref p.1) (enc p) []) (hal : PySem.W.AllAlike (L.map enc)) (hk : PySem.W.Sortable (L.map enc)) (hd : ∀ p ∈ L, (enc p).depth ≤ 8) {Q : Value → Shared → Prop}
    (hQ : ∀ s' p (out : Array Value) (c : Nat) (L' : List Ent), (∀ b o, s.heap.get? b = some o → s'.heap.get? b = some o) → s'.gens = s.gens → s'.os = s.os → s.heap.objs.size ≤ p →
      s'.heap.get? p = some (seqObj "list" out c) → out.toList = L'.map (fun q => Value.ref q.1) → L'.Perm L → L'.Pairwise (fun q r => PySem.W.dataLt (enc r) (enc q) = false) → Q (.ref p) s') :
    wpAny (model P w) A (call (.builtin "sorted") [.ref S]) Q E s := by
  obtain ⟨o, ho, hex, hdt⟩ := R.t0.ob
  have few := R.t0.few
  have size := R.t0.size
  refine Calls.call_function_entry kind_sorted plain_sorted entry_sorted (args_sorted1 _) ?_
  unfold Builtin.«sorted»
  refine wpAny_bind (m := checkCount "sorted" 1 1 _) (wpAny_pure ?_)
  refine wpAny_bind (collect_set (A := A.in1) hh ⟨o, ho, hex.1, hdt⟩ R.t0.fits (by unfold scanBound; omega) R.t0.tab.ris R.t0.led fun s1 vs k1 hz g1 o1 pm => ?_)
  rw [R.t0.rows, rowsN, List.map_map] at pm
  obtain ⟨L1, p1, e1⟩ := perm_map_inv (f := fun p : Ent => Value.ref p.1) pm (by rfl)
  subst e1
  have l1 : (L1.map fun p => Value.ref p.1).length < 64 := by rw [List.length_map, p1.length_eq]; exact few
  refine wpAny_bind (wpAny_newList ?_ (by rw [sizeLine_eq]; omega))
  have hoL : (s1.heap.push (seqObj "list" (L1.map fun p => Value.ref p.1).toArray 0)).get? s1.heap.objs.size = some (seqObj "list" (L1.map fun p => Value.ref p.1).toArray 0) := Heap.get?_push_size _ rfl
  have kp : ∀ b u, s.heap.get? b = some u → (s1.heap.push (seqObj "list" (L1.map fun p => Value.ref p.1).toArray 0)).get? b = some u := fun b u e => Heap.get?_push_of_some _ (k1 b u e)
  have mem1 : ∀ p ∈ L1, p ∈ L := fun p hp => p1.mem_iff.mp hp
  have pmE := p1.map enc
  refine wpAny_bind (wpAny_holding (PySem.W.list_sort_data (β := Ent) (enc := enc) (bs := L1) (s := { s1 with heap := s1.heap.push (seqObj "list" (L1.map fun p => Value.ref p.1).toArray 0) }) hoL (each_refs L1) (each_reads fun p hp => PyProof.Rows.Reads.keeps kp (hr p (mem1 p hp)))
    (fun d hd d' hd' => hal d (pmE.mem_iff.mp hd) d' (pmE.mem_iff.mp hd')) ?_ (by rw [List.length_map] at l1; rw [sizeLine_eq]; omega) (fun p hp => by have := hd p (mem1 p hp); show A.in1.units + 1 + _ < _; simp only [Around.in1_units]; omega) fun out hl he => ?_))
  · rcases hk with h | h
    · exact .inl fun d hd => h d (pmE.mem_iff.mp hd)
    · exact .inr fun d hd => h d (pmE.mem_iff.mp hd)
  · obtain ⟨c, hc⟩ := sortedHeap_at (vs := L1.map fun p => Value.ref p.1) (out := out.toArray) hoL
    have hp2 : (L1.mergeSort (PySem.W.dataLe false enc)).Perm L := (List.mergeSort_perm ..).trans p1
    have hs : (L1.mergeSort (PySem.W.dataLe false enc)).Pairwise (fun q r => PySem.W.dataLt (enc r) (enc q) = false) := (PySem.W.sort_pairwise (PySem.W.sortLe_total _ false _) L1).imp fun {a b} h => by
      have h : (!PySem.W.dataLt (enc b) (enc a)) = true := h
      simpa using h
    refine wpAny_pure ⟨_, rfl, hQ _ s1.heap.objs.size out.toArray c _ (fun b u e => ?_) g1 o1 hz hc (by simpa using refs_each he) hp2 hs⟩
    have q := k1 b u e
    have hlt := Heap.lt_size q
    show (sortedHeap (s1.heap.push (seqObj "list" (L1.map fun p => Value.ref p.1).toArray 0)) s1.heap.objs.size (L1.map fun p => Value.ref p.1) out.toArray).get? b = some u
    rw [sortedHeap_old (Nat.ne_of_lt hlt) (by rw [size_push']; exact Nat.lt_succ_of_lt hlt)]
    exact Heap.get?_push_of_some _ q
/-! ### sets of numbers -/
theorem grows_int {S : Addr} {h0 : Heap} {items : Array Value} {ns : List Int} (hx : IntsAre items.toList ns) (hf : ns.length < 64) :
    Grows P w A S h0 items.size (fun i v => items[i]? = some v) (fun i h => ∃ n, n ≤ i ∧ SetR w h S (fun j => decide (j ∈ ns.take i)) n) where
  stays := fun i h h' hT _ _ hS => by
    obtain ⟨n, hn, R⟩ := hT
    exact ⟨n, hn, R.at hS⟩
  step := fun i v s E Q hi hv hT kp q => by
    obtain ⟨n, hn, R⟩ := hT
    have hl : items.toList.length = ns.length := hx.length
    rw [Array.length_toList] at hl
    obtain ⟨k, tk, rfl, hk⟩ : ∃ k tk, v = .int k tk ∧ ns[i]? = some k := hx.at i v (by rw [Array.getElem?_toList]; exact hv)
    unfold setAdd
    refine wpAny_holding ?_
    refine wpAny_bind (wpAny_pyHash_int ?_)
    refine setR_add_hashed (P := P) (s := { s with toks := s.toks + 1 }) R (by unfold scanBound; omega) fun h' sb R2 => ?_
    refine q _ h' _ sb (Nat.le_succ _) ⟨_, ?_, R2.congr fun j => ?_⟩
    · split <;> omega
    · rw [List.take_succ, hk]
      show decide (j ∈ ns.take i ++ [k]) = (decide (j ∈ ns.take i) || decide (j = k))
      rw [Bool.eq_iff_iff]
      simp
end
end SN

set_option Elab.async false
set_option linter.all false
set_option maxRecDepth 100000
set_option maxHeartbeats 4000000
namespace G
open PySem PySem.Spec PyProof.Rows L2
/-! ### sorted(set(xs)) -/
mutual
theorem reads_kd {h : Heap} : ∀ (n : Nat) (d : PyData) (v : Value) (as : List Addr), kd n d = true → Reads h v d as → as = []
  | _, .int i, _, _, _, r => by cases r; rfl
  | n + 1, .tuple xs, _, _, k, r => by
    cases r with
    | tuple h1 h2 h3 h4 => exact reads_kds n xs _ _ (by simpa [kd] using k) h4
  | 0, .tuple xs, _, _, h, _ => by simp [kd] at h
  | _, .none, _, _, h, _ => by simp [kd] at h
  | _, .bool _, _, _, h, _ => by simp [kd] at h
  | _, .str _, _, _, h, _ => by simp [kd] at h
  | _, .list _, _, _, h, _ => by simp [kd] at h
  | _, .dict _, _, _, h, _ => by simp [kd] at h
theorem reads_kds {h : Heap} : ∀ (n : Nat) (ds : List PyData) (vs : List Value) (as : List Addr), kds n ds = true → ReadsAll h vs ds as → as = []
  | _, [], _, _, _, r => by cases r; rfl
  | n, d :: ds, _, _, k, r => by
    simp only [kds, Bool.and_eq_true] at k
    cases r with
    | cons r1 r2 => rw [reads_kd n d _ _ k.1 r1, reads_kds n ds _ _ k.2 r2]; rfl
end
mutual
theorem kd_depth : ∀ (n : Nat) (d : PyData), kd n d = true → d.depth ≤ n
  | _, .int i, _ => Nat.zero_le _
  | n + 1, .tuple xs, k => by
    have := kds_depth n xs (by simpa [kd] using k)
    simp only [PyData.depth]; omega
  | 0, .tuple xs, h => by simp [kd] at h
  | _, .none, h => by simp [kd] at h
  | _, .bool _, h => by simp [kd] at h
  | _, .str _, h => by simp [kd] at h
  | _, .list _, h => by simp [kd] at h
  | _, .dict _, h => by simp [kd] at h
theorem kds_depth : ∀ (n : Nat) (ds : List PyData), kds n ds = true → PyData.depthAll ds ≤ n
  | _, [], _ => Nat.zero_le _
  | n, d :: ds, k => by
    simp only [kds, Bool.and_eq_true] at k
    have := kd_depth n d k.1
    have := kds_depth n ds k.2
    simp only [PyData.depthAll]; omega
end
/-- what sorting leaves of a set -/
structure IsSrt (ds es : List PyData) : Prop where
  asc : es.Pairwise fun a b => PySem.W.dataLt b a = false
  nd : es.Nodup
  mem : ∀ d, d ∈ es ↔ d ∈ ds
def tSortedSet (K : PySem.W.Frag) (ta : TE) : TE := fun σ H Q => ta σ H fun x H1 => ∃ ds, Dp K H1 x (.list ds) ∧ ds.length < 64 ∧
  ((∃ ns : List Int, ds = ns.map .int) ∨ ((∀ d ∈ ds, (∃ y r, d = .tuple (y :: r)) ∧ kd 8 d = true) ∧ PySem.W.AllAlike ds)) ∧
  ∀ es p vs, IsSrt ds es → H1 p = none → DpAll K H1 vs es → Q (.ref p) (upd H1 p (.lst vs))
theorem dataLt_int (a b : Int) : PySem.W.dataLt (.int a) (.int b) = decide (a < b) := by
  have h := congrFun (congrFun (PySem.W.dataLe_int (fun x : Int => x)) b) a
  have h : (!PySem.W.dataLt (.int a) (.int b)) = decide (b ≤ a) := h
  by_cases c : a < b
  · rw [decide_eq_true c]
    rw [decide_eq_false (by omega)] at h
    simpa using h
  · rw [decide_eq_false c]
    rw [decide_eq_true (by omega)] at h
    simpa using h
section
variable {X : Cx} {pins : List (Addr × Obj)} {σ : L2.St} {H : Hp} {s : Shared}
theorem ents_vals (I : Inv X pins σ H s) : ∀ (ds : List PyData) (vs : List V) (us : List Value), (∀ d ∈ ds, isT d = true ∧ kd 8 d = true) → DpAll X.K H vs ds → L2.Vals vs us →
    ∃ ks : List (SN.Ent × PyData), us = ks.map (fun p => Value.ref p.1.1) ∧ (∀ p ∈ ks, SN.At s.heap p.1.2 p.1.1 ∧ p.1.2 = nk p.2 ∧ Dp X.K H (.ref p.1.1) p.2 ∧ Reads s.heap (.ref p.1.1) p.2 [] ∧ kd 8 p.2 = true) ∧ ks.map (·.2) = ds
  | [], _, _, _, h, r => by
    cases h
    cases r
    exact ⟨[], rfl, fun p hp => (by cases hp), rfl⟩
  | d :: ds, _, _, k, h, r => by
    cases h with
    | cons h1 h2 =>
      cases r with
      | cons r1 r2 =>
        obtain ⟨ks, e1, e2, e3⟩ := ents_vals I ds _ _ (fun z hz => k z (List.mem_cons_of_mem _ hz)) h2 r2
        obtain ⟨k1, k2⟩ := k d List.mem_cons_self
        have is := is_nk I 8 d _ _ k2 h1 r1
        obtain ⟨n1, n2⟩ := nk_num 8 d k2
        obtain ⟨as, rd⟩ := Dp.reads I d _ _ h1 r1
        obtain rfl := reads_kd 8 d _ _ k2 rd
        cases d with
        | tuple xs =>
          obtain ⟨a, ws, rfl, _, _⟩ := dp_tup h1
          obtain rfl := (show _ = Value.ref a from r1)
          exact ⟨((a, nk (.tuple xs)), .tuple xs) :: ks, by rw [e1]; rfl, fun p hp => by
            rcases List.mem_cons.mp hp with rfl | hp
            · exact ⟨⟨is, n2, n1⟩, rfl, h1, rd, k2⟩
            · exact e2 p hp, by rw [List.map_cons, e3]⟩
        | _ => simp [isT] at k1
theorem ints_vals : ∀ (ns : List Int) (vs : List V) (us : List Value), DpAll X.K H vs (ns.map .int) → L2.Vals vs us → IntsAre us ns
  | [], _, _, h, r => by
    cases h
    cases r
    exact .nil
  | n :: ns, _, _, h, r => by
    cases h with
    | cons h1 h2 =>
      cases r with
      | cons r1 r2 =>
        obtain rfl := dpI h1
        obtain ⟨t, rfl⟩ := r1
        exact .cons n t (ints_vals ns _ _ h2 r2)
end
theorem vals_refs : ∀ (l : List Addr), L2.Vals (l.map V.ref) (l.map Value.ref)
  | [] => .nil
  | a :: l => .cons rfl (vals_refs l)
theorem pe_sortedSet {X : Cx} {a : Expr} {ta : TE} {p p2 q pos : Pos} (hc : X.calm = true) (hu : X.A.units + 70 < cLine) (hg : Gl X "sorted") (hm : X.mg "sorted" = none) (hg2 : Gl X "set") (hm2 : X.mg "set" = none) (ha : PE X a ta)
    (na : starEach [a] X.env = (false, eval a X.env) :: starEach [] X.env := by rfl) : PE X (.Call (.Name "sorted" p) [.Call (.Name "set" p2) [a] [] q] [] pos) (tSortedSet X.K ta) := by
  refine ⟨fun pins s σ H Q I h => ?_⟩
  refine Call_ (ld_blt I hg hm PyProof.Rows.boot_sorted ?_)
  refine PyProof.Rows.callWith_builtin1 (PyProof.Rows.args_cons ?_ rfl) rfl rfl
  refine Call_ (ld_blt I hg2 hm2 PyProof.Rows.boot_set ?_)
  refine PyProof.Rows.callWith_type1 (PyProof.Rows.args_cons (thn (ha.run pins s σ H _ I h) fun v s1 ⟨x, H1, I1, r1, q1⟩ => PyProof.Rows.args_nil ?_) na) na rfl
  obtain ⟨ds, hd, hf, hk, q⟩ := q1
  have hh := I1.ok.hd hc
  have h3 : X.A.in1.in1.in1.units + 8 < cLine := by simp only [Around.in1_units]; omega
  cases hd with
  | @lst l vs _ hs hv =>
  obtain ⟨its, rv, pl, _⟩ := I1.list hs
  cases r1
  have con := pl.isList
  have hsz : its.toArray.size = ds.length := by rw [List.size_toArray, ← rv.length, hv.len]
  have fin : ∀ (h' : Heap) (tk : Nat), (∀ b o, s1.heap.get? b = some o → h'.get? b = some o) → ∀ (s' : Shared) (p : Addr) (out : List Value) (c : Nat) (es : List PyData) (ws : List V), (∀ b o, h'.get? b = some o → s'.heap.get? b = some o) → s'.gens = s1.gens → s'.os = s1.os → s1.heap.objs.size ≤ p →
      s'.heap.get? p = some (seqObj "list" out.toArray c) → L2.Vals ws out → ws.length < 64 → IsSrt ds es → DpAll X.K H1 ws es → ∃ x H2, Inv X pins σ H2 s' ∧ L2.RelV x (.ref p) ∧ Q x H2 := fun h' tk kp s' p out c es ws kp2 hg ho hp hpo hvs hl srt hdp => by
    have hn : H1 p = none := I1.hok.fresh hp
    have J : Inv X pins σ (upd H1 p (.lst ws)) { s1 with heap := s'.heap, gens := s'.gens, drawn := s'.drawn, toks := s'.toks } :=
      I1.call (ch := []) (Un.laid (fun b o e => kp2 b o (kp b o e)) hp hn) (I1.hok.laid (fun b o e => kp2 b o (kp b o e)) hp ⟨by rw [sizeLine_eq]; omega, out, c, hvs, hpo⟩) (by rw [hg]; exact I1.bare) (fun _ z => nomatch z)
    have e : s' = { s1 with heap := s'.heap, gens := s'.gens, drawn := s'.drawn, toks := s'.toks } := by
      cases s'
      cases s1
      cases ho
      rfl
    rw [e]
    exact ⟨.ref p, _, J, rfl, q es p ws srt hn hdp⟩
  rcases hk with ⟨ns, rfl⟩ | ⟨hk, al⟩
  · rw [List.length_map] at hf hsz
    refine SN.call_set_list hh con (SN.grows_int (by simpa using ints_vals ns _ _ hv rv) hf) (fun h e _ => ⟨0, Nat.le_refl _, (setR_new_at (ns := ns) e)⟩) fun h' tk hT kp => PyProof.Rows.args_nil ?_
    obtain ⟨n, hn, R⟩ := hT
    refine sorted_set (P := X.prog) (s := { s1 with heap := h', toks := tk }) R hh (by omega) fun s' p out c ms kp2 hg ho hp hpo hi hlt hm hl => ?_
    refine fin h' tk kp s' p out.toList c (ms.map .int) (ms.map V.int) kp2 hg ho (Nat.le_trans (Nat.le_of_lt R.lt) hp) (by simpa using hpo) (vals_of_ints hi) (by rw [List.length_map]; omega) ⟨?_, ?_, fun d => ?_⟩ (ints_dps ms)
    · rw [List.pairwise_map]
      exact hlt.imp fun {a b} hab => by rw [dataLt_int]; exact decide_eq_false (by omega)
    · rw [List.nodup_iff_pairwise_ne, List.pairwise_map]
      exact hlt.imp fun {a b} hab e => by injection e with e; omega
    · rw [hsz] at hm
      constructor
      · intro hd
        obtain ⟨k, hk, rfl⟩ := List.mem_map.mp hd
        have := (hm k).mp hk
        rw [List.take_length] at this
        exact List.mem_map.mpr ⟨k, by simpa using this, rfl⟩
      · intro hd
        obtain ⟨k, hk, rfl⟩ := List.mem_map.mp hd
        refine List.mem_map.mpr ⟨k, (hm k).mpr ?_, rfl⟩
        rw [List.take_length]
        simpa using hk
  · have hk' : ∀ d ∈ ds, isT d = true ∧ kd 8 d = true := fun d hd => by
      obtain ⟨⟨y, r, rfl⟩, k⟩ := hk d hd
      exact ⟨rfl, k⟩
    obtain ⟨ks, e1, e2, e3⟩ := ents_vals I1 ds _ _ hk' hv rv
    have hl : ks.length = ds.length := by
      have := congrArg List.length e3
      simpa using this
    have e1' : its = (ks.map (·.1)).map (fun p => Value.ref p.1) := by rw [e1, List.map_map]; rfl
    have inK : ∀ p ∈ ks.map (·.1), ∃ d ∈ ds, p.2 = nk d ∧ Dp X.K H1 (.ref p.1) d ∧ Reads s1.heap (.ref p.1) d [] ∧ SN.At s1.heap p.2 p.1 := fun p hp => by
      obtain ⟨z, hz, rfl⟩ := List.mem_map.mp hp
      obtain ⟨a1, a2, a3, a4, a5⟩ := e2 z hz
      exact ⟨z.2, by rw [← e3]; exact List.mem_map.mpr ⟨z, hz, rfl⟩, a2, a3, a4, a1⟩
    have ofD : ∀ d ∈ ds, ∃ p ∈ ks.map (·.1), p.2 = nk d := fun d hd => by
      rw [← e3] at hd
      obtain ⟨z, hz, rfl⟩ := List.mem_map.mp hd
      exact ⟨z.1, List.mem_map.mpr ⟨z, hz, rfl⟩, (e2 z hz).2.1⟩
    refine SN.call_set_list hh con (SN.grows_key (ks.map (·.1)) h3 (by simpa using e1') (fun p hp => (inK p hp).elim fun d h => h.2.2.2.2) (by rw [List.length_map]; omega)) (fun h e _ => SN.keyT_zero e) fun h' tk hT kp => PyProof.Rows.args_nil ?_
    obtain ⟨L, es, ep, t, R, g⟩ := hT
    have inL : ∀ p ∈ L, p ∈ ks.map (·.1) := fun p hp => List.mem_of_mem_take (g.sub p hp)
    classical
    let enc : SN.Ent → PyData := fun p => if h : ∃ d ∈ ds, p.2 = nk d then h.choose else .none
    have encP : ∀ p ∈ ks.map (·.1), enc p ∈ ds ∧ p.2 = nk (enc p) := fun p hp => by
      have h : ∃ d ∈ ds, p.2 = nk d := (inK p hp).elim fun d h => ⟨d, h.1, h.2.1⟩
      show (if h : ∃ d ∈ ds, p.2 = nk d then h.choose else .none) ∈ ds ∧ p.2 = nk (if h : ∃ d ∈ ds, p.2 = nk d then h.choose else .none)
      rw [dif_pos h]
      exact h.choose_spec
    have encD : ∀ p ∈ ks.map (·.1), ∀ d ∈ ds, p.2 = nk d → enc p = d := fun p hp d hd e => nk_inj 8 _ 8 _ (hk _ (encP p hp).1).2 (hk d hd).2 ((encP p hp).2.symm.trans e)
    have encR : ∀ p ∈ ks.map (·.1), Dp X.K H1 (.ref p.1) (enc p) ∧ Reads s1.heap (.ref p.1) (enc p) [] := fun p hp => by
      obtain ⟨d, hd, a1, a2, a3, _⟩ := inK p hp
      rw [encD p hp d hd a1]
      exact ⟨a2, a3⟩
    have few := R.t0.few
    refine SN.sorted_keys (P := X.prog) (s := { s1 with heap := h', toks := tk }) R hh (by omega) enc (fun p hp => PyProof.Rows.Reads.keeps kp (encR p (inL p hp)).2) (fun d hd d' hd' => ?_) (.inl fun d hd => ?_) (fun p hp => ?_) fun s' p out c L' kp2 hg ho hp hpo hout pm srt => ?_
    · obtain ⟨p, hp, rfl⟩ := List.mem_map.mp hd
      obtain ⟨p', hp', rfl⟩ := List.mem_map.mp hd'
      exact al _ (encP p (inL p hp)).1 _ (encP p' (inL p' hp')).1
    · obtain ⟨p, hp, rfl⟩ := List.mem_map.mp hd
      exact (hk _ (encP p (inL p hp)).1).1
    · exact kd_depth 8 _ (hk _ (encP p (inL p hp)).1).2
    · have inL' : ∀ p ∈ L', p ∈ ks.map (·.1) := fun p hp => inL p (pm.mem_iff.mp hp)
      have dps : ∀ l : List SN.Ent, (∀ p ∈ l, p ∈ ks.map (·.1)) → DpAll X.K H1 (l.map fun p => V.ref p.1) (l.map enc) := by
        intro l
        induction l with
        | nil => exact fun _ => .nil
        | cons p l ih => exact fun h => .cons (encR p (h p List.mem_cons_self)).1 (ih fun q hq => h q (List.mem_cons_of_mem _ hq))
      refine fin h' tk kp s' p out.toList c (L'.map enc) (L'.map fun p => V.ref p.1) kp2 hg ho (Nat.le_trans (Nat.le_of_lt (by obtain ⟨o, ho, _⟩ := R.t0.ob; exact Heap.lt_size ho)) hp) (by simpa using hpo) (by
        have := vals_refs (L'.map (·.1))
        rw [List.map_map, List.map_map] at this
        rw [hout]; exact this) (by rw [List.length_map, pm.length_eq]; exact few) ⟨?_, ?_, fun d => ?_⟩ (dps L' inL')
      · rw [List.pairwise_map]
        exact srt
      · have nd2 : (L'.map (·.2)).Nodup := (pm.map (·.2)).nodup_iff.mpr R.t0.nd
        rw [List.nodup_iff_pairwise_ne, List.pairwise_map] at nd2 ⊢
        exact List.Pairwise.imp_of_mem (fun {a b} ha hb hne e => hne (by rw [(encP a (inL' a ha)).2, (encP b (inL' b hb)).2, e])) nd2
      · constructor
        · intro hd
          obtain ⟨p, hp, rfl⟩ := List.mem_map.mp hd
          exact (encP p (inL' p hp)).1
        · intro hd
          obtain ⟨p, hp, e⟩ := ofD d hd
          have hsz2 : its.toArray.size = (ks.map (·.1)).length := by rw [hsz, List.length_map, hl]
          have := g.all p (by rw [hsz2, List.take_length]; exact hp)
          obtain ⟨r, hr, er⟩ := List.mem_map.mp this
          exact List.mem_map.mpr ⟨r, pm.mem_iff.mpr hr, encD r (inL r hr) d hd (er.trans e)⟩
theorem ed_sortedSet {K : PySem.W.Frag} {σ : L2.St} {H : Hp} {ta : TE} {ds : List PyData} {Q : VK} (h : EvD K ta σ H (.list ds)) (h1 : ds.length < 64) (h2 : (∃ ns : List Int, ds = ns.map .int) ∨ ((∀ d ∈ ds, (∃ y r, d = .tuple (y :: r)) ∧ kd 8 d = true) ∧ PySem.W.AllAlike ds))
    (q : ∀ es p vs H1, Same H H1 → IsSrt ds es → H1 p = some (.lst vs) → H p = none → DpAll K H1 vs es → Q (.ref p) H1) : tSortedSet K ta σ H Q :=
  h H (Same.refl H) _ fun v H1 s1 hv => ⟨ds, hv, h1, h2, fun es p vs srt hp hdp => q es p vs _ (s1.new hp) srt upd_same (back s1 hp) (dps_same ((Same.refl H1).new hp) _ _ hdp)⟩
end G

set_option Elab.async false
set_option linter.all false
set_option maxRecDepth 100000
set_option maxHeartbeats 4000000
namespace G
open PySem PySem.Spec PyProof.Rows L2
section
variable {P : Program} {w : World} {K : PySem.W.Frag} {mg : Str → Option Value} {base : Heap}
/-! ### names -/
def isInt : PyData → Bool
  | .int _ => true
  | _ => false
theorem isInt_eq (d : PyData) : (isI d && !isB d) = isInt d := by cases d <;> rfl
def Ris_int : List PyData → PyData → Prop
  | [d], r => r = .bool (isInt d)
  | _, _ => False
theorem sc_is_int : FnScope ["thing"] ["thing"] (defScope s_is_int) := ⟨rfl, rfl, rfl, by decide +kernel, rfl, by decide +kernel, by decide +kernel⟩
theorem ok_is_int (T : Tx K mg)  : Cl P w K mg base CX0 1 "is_int" ["thing"] (spD K Ris_int) := by
  obtain ⟨fd, F⟩ := T.f_is_int
  refine ⟨_, fd, T.g_is_int, F.kp, F.bindsN fun _ _ _ _ _ _ us hl => match us, hl with | [_], _ => rfl, F.ok sc_is_int (fun vs H Q E h => ?_) (fun cdv A outer s H vs Q E hr h => ?_)⟩
  · obtain ⟨ds, r, hd, hR, _⟩ := h
    match ds, hR with
    | [_], _ => exact hd.len
  · obtain ⟨ds, r, hd, hR, q⟩ := h
    match ds, vs, hd, hR with
    | [d0], [v0], .cons h0 .nil, hR =>
    refine ⟨_, PSs.nox (pss_one (ps_ret (pe_and (pe_callB call_isi (by rfl) T.b_isinstance PyProof.Rows.Boot.«isinstance» (pa_cons (pv 0) (pa_cons (pe_bltn (v := .ty "int") (by rfl) T.b_int PyProof.Rows.Boot.«int» rfl) pa_nil))) (pe_one (pe_not (pe_callB call_isi (by rfl) T.b_isinstance PyProof.Rows.Boot.«isinstance» (pa_cons (pv 0) (pa_cons (pe_bltn (v := .ty "bool") (by rfl) T.b_bool PyProof.Rows.Boot.«bool» rfl) pa_nil)))))))), ?_⟩
    obtain rfl : r = .bool (isInt d0) := hR
    rw [← isInt_eq] at q
    exact s_ret (ed_and (ed_isi (ed_var h0) (kit_I d0)) fun _ => ed_not (ed_isi (ed_var h0) (kit_B d0))) q
def isIn (d : PyData) (lo hi : Int) : Bool := match d with
  | .int i => decide (lo ≤ i) && decide (i ≤ hi)
  | _ => false
def Rwithin : List PyData → PyData → Prop
  | [d, a, b], r => ∃ lo hi : Int, a = .int lo ∧ b = .int hi ∧ r = .bool (isIn d lo hi)
  | _, _ => False
theorem sc_within : FnScope ["thing", "low", "high"] ["thing", "low", "high"] (defScope s_within) := ⟨rfl, rfl, rfl, by decide +kernel, rfl, by decide +kernel, by decide +kernel⟩
theorem ok_within (T : Tx K mg)  : Cl P w K mg base CX0 2 "within" ["thing", "low", "high"] (spD K Rwithin) := by
  obtain ⟨fd, F⟩ := T.f_within
  refine ⟨_, fd, T.g_within, F.kp, F.bindsN fun _ _ _ _ _ _ us hl => match us, hl with | [_, _, _], _ => rfl, F.ok sc_within (fun vs H Q E h => ?_) (fun cdv A outer s H vs Q E hr h => ?_)⟩
  · obtain ⟨ds, r, hd, hR, _⟩ := h
    match ds, hR with
    | [_, _, _], _ => exact hd.len
  · obtain ⟨ds, r, hd, hR, q⟩ := h
    match ds, vs, hd, hR with
    | [d0, d1, d2], [v0, v1, v2], .cons h0 (.cons h1 (.cons h2 .nil)), hR =>
    refine ⟨_, PSs.nox (pss_one (ps_ret (pe_and (G.pe_cl (ok_is_int T) hr (by decide) pass0 (pa_cons (pv 0) pa_nil)) (pe_one (pe_chain op_le op_le (pv 1) (pv 0) (pv 2)))))), ?_⟩
    obtain ⟨lo, hi, rfl, rfl, rfl⟩ := hR
    refine s_ret (d := .bool (isIn d0 lo hi)) ?_ q
    cases d0 with
    | int n => exact ed_and (a := true) (ed_call (ea_cons (ed_var h0) ea_nil) rfl) fun _ => ed_chainLe (ed_var h1) (ed_var h0) (ed_var h2)
    | _ => exact ed_and (a := false) (b := false) (ed_call (ea_cons (ed_var h0) ea_nil) rfl) fun z => nomatch z
def isRow (d : PyData) (lo hi : Int) : Bool := match d with
  | .tuple xs => decide (lo ≤ (xs.length : Int)) && decide ((xs.length : Int) ≤ hi)
  | _ => false
def Ris_row : List PyData → PyData → Prop
  | [d, a, b], r => ∃ lo hi : Int, a = .int lo ∧ b = .int hi ∧ r = .bool (isRow d lo hi)
  | _, _ => False
theorem sc_is_row : FnScope ["thing", "low", "high"] ["thing", "low", "high"] (defScope s_is_row) := ⟨rfl, rfl, rfl, by decide +kernel, rfl, by decide +kernel, by decide +kernel⟩
theorem ok_is_row (T : Tx K mg)  : Cl P w K mg base CX0 1 "is_row" ["thing", "low", "high"] (spD K Ris_row) := by
  obtain ⟨fd, F⟩ := T.f_is_row
  refine ⟨_, fd, T.g_is_row, F.kp, F.bindsN fun _ _ _ _ _ _ us hl => match us, hl with | [_, _, _], _ => rfl, F.ok sc_is_row (fun vs H Q E h => ?_) (fun cdv A outer s H vs Q E hr h => ?_)⟩
  · obtain ⟨ds, r, hd, hR, _⟩ := h
    match ds, hR with
    | [_, _, _], _ => exact hd.len
  · obtain ⟨ds, r, hd, hR, q⟩ := h
    match ds, vs, hd, hR with
    | [d0, d1, d2], [v0, v1, v2], .cons h0 (.cons h1 (.cons h2 .nil)), hR =>
    refine ⟨_, PSs.nox (pss_one (ps_ret (pe_and (pe_callB call_isi (by rfl) T.b_isinstance PyProof.Rows.Boot.«isinstance» (pa_cons (pv 0) (pa_cons (pe_bltn (v := .ty "tuple") (by rfl) T.b_tuple PyProof.Rows.Boot.«tuple» rfl) pa_nil))) (pe_one (pe_chain op_le op_le (pv 1) (pe_callB call_len_seq (by rfl) T.b_len PyProof.Rows.Boot.«len» (pa_cons (pv 0) pa_nil)) (pv 2)))))), ?_⟩
    obtain ⟨lo, hi, rfl, rfl, rfl⟩ := hR
    refine s_ret (d := .bool (isRow d0 lo hi)) ?_ q
    cases d0 with
    | tuple n => exact ed_and (a := true) (ed_isi (ed_var h0) (kit_T _)) fun _ => ed_chainLe (ed_var h1) (ed_lenT (ed_var h0)) (ed_var h2)
    | _ => exact ed_and (a := false) (b := false) (ed_isi (ed_var h0) (kit_T _)) fun z => nomatch z
def smallL : List Nat := ("abcdefghijklmnopqrstuvwxyz" : Str).cps.toList
def digL : List Nat := ("0123456789" : Str).cps.toList
def isSm (c : Nat) : Bool := decide (c ∈ smallL)
def isDg (c : Nat) : Bool := decide (c ∈ digL)
def isRun (c : Nat) : Bool := isSm c || isDg c
def lowL : List Nat → Bool
  | [] => false
  | c :: r => decide (r.length < 10) && isSm c && (c :: r).all isRun
def lowD : PyData → Bool
  | .str x => lowL x.cps.toList
  | _ => false
def Ris_low_name : List PyData → PyData → Prop
  | [d], r => (∀ x, d = .str x → x.length ≤ 100000) ∧ r = .bool (lowD d)
  | _, _ => False
theorem low_long {x : Str} (h : (decide ((1 : Int) ≤ (x.length : Int)) && decide ((x.length : Int) ≤ 10)) = false) : lowL x.cps.toList = false := by
  have e : x.length = x.cps.toList.length := by simp [Str.length]
  rw [e] at h
  cases q : x.cps.toList with
  | nil => rfl
  | cons c r =>
    rw [q, List.length_cons] at h
    have h2 : (1 : Int) ≤ ((r.length + 1 : Nat) : Int) := by omega
    rw [decide_eq_true h2, Bool.true_and] at h
    have h3 : ¬ (((r.length + 1 : Nat) : Int) ≤ 10) := of_decide_eq_false h
    unfold lowL
    have : ¬ r.length < 10 := by omega
    simp [this]
theorem sc_is_low_name : FnScope ["thing", "sign"] ["thing"] (defScope s_is_low_name) := ⟨rfl, rfl, rfl, by decide +kernel, rfl, by decide +kernel, by decide +kernel⟩
theorem ok_is_low_name (T : Tx K mg)  : Cl P w K mg base CX0 1 "is_low_name" ["thing"] (spD K Ris_low_name) := by
  obtain ⟨fd, F⟩ := T.f_is_low_name
  refine ⟨_, fd, T.g_is_low_name, F.kp, F.bindsN fun _ _ _ _ _ _ us hl => match us, hl with | [_], _ => rfl, F.ok sc_is_low_name (fun vs H Q E h => ?_) (fun cdv A outer s H vs Q E hr h => ?_)⟩
  · obtain ⟨ds, r, hd, hR, _⟩ := h
    match ds, hR with
    | [_], _ => exact hd.len
  · obtain ⟨ds, r, hd, hR, q⟩ := h
    match ds, vs, hd, hR with
    | [d0], [v0], .cons h0 .nil, hR =>
    refine ⟨_, PSs.nox (pss_cons (ps_if (PW.pt (pw_or (pt_not (pt_val (pe_callB call_isi (by rfl) T.b_isinstance PyProof.Rows.Boot.«isinstance» (pa_cons (pv 0) (pa_cons (pe_bltn (v := .ty "str") (by rfl) T.b_str PyProof.Rows.Boot.«str» rfl) pa_nil))))) (pw_or (pt_not (pt_chain op_le op_le pe_int (pe_callB call_len_str (by rfl) T.b_len PyProof.Rows.Boot.«len» (pa_cons (pv 0) pa_nil)) (G.pe_ki (by rfl) T.c_LONGEST_NAME))) (pw_or1 (pt_cmpR G.op_notInS (pe_ix ix_str (pv 0) pe_int (fun _ _ => rfl)) (G.pe_ks (by rfl) T.c_SMALL_LETTERS) rfl))))) (pss_one (ps_ret pe_bl)) pss_nil)
  (pss_one (ps_ret (pe_callB (cr_all rfl) (by rfl) T.b_all PyProof.Rows.Boot.«all» (pa_cons (pe_lc (own := [("sign", 1)]) (g := (gName 1)) rfl sc_is_low_name.nd (pi_str (pv 0)) (blkOk_by (own := [("sign", 1)]) (N := ["thing", "sign"]) (sc := defScope s_is_low_name) (by decide +kernel)) (fun _ _ _ _ _ => (pg_name (i := 1) sc_is_low_name.nd rfl (by first | exact Or.inl rfl | exact Or.inr rfl))) (fun _ _ _ _ _ => pts_nil) (fun _ _ _ _ _ => (pe_or (pe_cmpR G.op_inS (pv 1) (G.pe_ks (by rfl) T.c_SMALL_LETTERS) rfl) (pe_one (pe_cmpR G.op_inS (pv 1) (G.pe_ks (by rfl) T.c_DIGITS) rfl))))) pa_nil))))), ?_⟩
    obtain ⟨hl, rfl⟩ := hR
    cases d0 with
    | str x =>
      have hx : x.length ≤ 100000 := hl x rfl
      have hd : Dp K H v0 (.str x) := h0
      have e : x.length = x.cps.toList.length := by simp [Str.length]
      by_cases hb : (decide ((1 : Int) ≤ (x.length : Int)) && decide ((x.length : Int) ≤ 10)) = true
      · obtain ⟨hb1, hb2⟩ := Bool.and_eq_true_iff.mp hb
        have hb1 := of_decide_eq_true hb1
        have hb2 := of_decide_eq_true hb2
        obtain ⟨c, l, hcl⟩ : ∃ c l, x.cps.toList = c :: l := by
          cases q : x.cps.toList with
          | nil => rw [e, q, List.length_nil] at hb1; exact absurd hb1 (by decide)
          | cons c l => exact ⟨c, l, rfl⟩
        have hll : l.length < 10 := by rw [e, hcl, List.length_cons] at hb2; omega
        have hlow : lowL x.cps.toList = (isSm c && (c :: l).all isRun) := by
          rw [hcl]; show (decide (l.length < 10) && isSm c && (c :: l).all isRun) = _; rw [decide_eq_true hll, Bool.true_and]
        refine s_if (et_or (a := false) (et_not (et_B (ed_isi (ed_var hd) (kit_S _)))) fun _ => et_or (a := false) (by rw [← show (!(decide ((1 : Int) ≤ (x.length : Int)) && decide ((x.length : Int) ≤ 10))) = false by rw [hb]; rfl]; exact et_not (et_test (ed_chainLe ed_i (ed_lenS (ed_var hd) hx) ed_i))) fun hn => et_test (ed_notInS (c := c) (ed_ixS (ed_var hd) ed_i hx (by rw [hcl]; exact atI_nat (j := 0) rfl)) ed_s)) (fun hc H' s => ?_) (fun hc H' s => ?_)
        · have hc : isSm c = false := by simpa [isSm, smallL] using hc
          refine s_ret (K := K) ed_b fun v H2 s2 hv => q v H2 (s.trans s2) ?_
          rw [show lowD (.str x) = false by show lowL _ = false; rw [hlow, hc]; rfl]
          exact hv
        · have hc : isSm c = true := by simpa [isSm, smallL] using hc
          have hd' : Dp K H' v0 (.str x) := dp_same s _ _ hd
          refine s_ret (K := K) (ed_all (bs := x.cps.toList.map isRun) (en_lcE (fun (d : PyData) => PyData.bool (match d with | .str y => isRun (y.cps.toList.headD 0) | _ => false)) (by rw [List.map_map, List.map_map]; rfl) (ei_str (ed_var hd')) (by rw [List.length_map, ← e]; exact hx) (fun _ _ => rfl) fun y hy v H1 s1 hv W hW => ?_)) fun v H2 s2 hv => q v H2 (s.trans s2) ?_
          · obtain ⟨c', _, rfl⟩ := List.mem_map.mp hy
            refine hW _ wipe_set1 ?_
            exact ed_or (ed_inS (c := c') (ed_var hv) ed_s) fun _ => ed_inS (c := c') (ed_var hv) ed_s
          rw [show lowD (.str x) = (x.cps.toList.map isRun).all id by show lowL _ = _; rw [hlow, hc, hcl, Bool.true_and]; simp]
          exact hv
      · have hb' := Bool.eq_false_iff.mpr hb
        refine s_if (et_or (a := false) (et_not (et_B (ed_isi (ed_var hd) (kit_S _)))) fun _ => et_or (a := true) (b := true) (by rw [← show (!(decide ((1 : Int) ≤ (x.length : Int)) && decide ((x.length : Int) ≤ 10))) = true by rw [hb']; rfl]; exact et_not (et_test (ed_chainLe ed_i (ed_lenS (ed_var hd) hx) ed_i))) fun z => nomatch z) (fun _ H' s => ?_) fun z => nomatch z
        refine s_ret (K := K) ed_b fun v H2 s2 hv => q v H2 (s.trans s2) ?_
        rw [show lowD (.str x) = false from low_long hb']
        exact hv
    | _ => exact s_if (et_or (a := true) (b := true) (et_not (et_B (ed_isi (ed_var h0) (kit_S _)))) fun z => nomatch z) (fun _ H' s => s_ret ed_b fun v H2 s2 hv => q v H2 (s.trans s2) hv) fun z => nomatch z
end
end G


set_option Elab.async false
set_option linter.all false
set_option maxRecDepth 100000
set_option maxHeartbeats 4000000
namespace G
open PySem PySem.Spec PyProof.Rows L2
theorem hu70 {k : Nat} {A : Around} (r : Room k A) : A.units + 70 < cLine := by have := r.un; omega
/-! ### signatures and trees, in plain Lean -/
abbrev Sg := List (Str × Nat)
def entD (e : Str × Nat) : PyData := .tuple [.str e.1, .int (e.2 : Int)]
def sigD (sg : Sg) : PyData := .tuple (sg.map entD)
inductive Tr where
  | n0 (f : Nat)
  | n1 (f : Nat) (a : Tr)
  | n2 (f : Nat) (a b : Tr)
namespace Tr
def hd : Tr → Nat
  | n0 f => f
  | n1 f _ => f
  | n2 f _ _ => f
def kids : Tr → List Tr
  | n0 _ => []
  | n1 _ a => [a]
  | n2 _ a b => [a, b]
def toD : Tr → PyData
  | n0 f => .tuple [.int (f : Int)]
  | n1 f a => .tuple [.int (f : Int), toD a]
  | n2 f a b => .tuple [.int (f : Int), toD a, toD b]
def size : Tr → Nat
  | n0 _ => 1
  | n1 _ a => size a + 1
  | n2 _ a b => size a + size b + 1
def dep : Tr → Nat
  | n0 _ => 1
  | n1 _ a => dep a + 1
  | n2 _ a b => max (dep a) (dep b) + 1
/-- every symbol has as many children as sg says -/
def ok (sg : Sg) : Tr → Prop
  | n0 f => ∃ x, sg[f]? = some (x, 0)
  | n1 f a => (∃ x, sg[f]? = some (x, 1)) ∧ ok sg a
  | n2 f a b => (∃ x, sg[f]? = some (x, 2)) ∧ ok sg a ∧ ok sg b
theorem toD_eq (t : Tr) : t.toD = .tuple (.int (t.hd : Int) :: t.kids.map toD) := by cases t <;> rfl
theorem size_pos (t : Tr) : 0 < t.size := by cases t <;> simp [size]
theorem dep_pos (t : Tr) : 0 < t.dep := by cases t <;> simp [dep]
theorem dep_le_size (t : Tr) : t.dep ≤ t.size := by
  induction t with
  | n0 f => exact Nat.le_refl _
  | n1 f a ih => simp [dep, size]; exact ih
  | n2 f a b ia ib => simp [dep, size]; omega
theorem size_eq (t : Tr) : t.size = (t.kids.map size).sum + 1 := by cases t <;> simp [size, kids]
theorem kid_ok {sg : Sg} {t c : Tr} (h : ok sg t) (hc : c ∈ t.kids) : ok sg c := by
  cases t with
  | n0 f => simp [kids] at hc
  | n1 f a => simp [kids] at hc; subst hc; exact h.2
  | n2 f a b =>
    simp [kids] at hc
    rcases hc with rfl | rfl
    · exact h.2.1
    · exact h.2.2
theorem kid_dep {t c : Tr} (hc : c ∈ t.kids) : c.dep + 1 ≤ t.dep := by
  cases t with
  | n0 f => simp [kids] at hc
  | n1 f a => simp [kids] at hc; subst hc; exact Nat.le_refl _
  | n2 f a b =>
    simp [kids] at hc
    rcases hc with rfl | rfl <;> simp [dep] <;> omega
theorem hd_at {sg : Sg} {t : Tr} (h : ok sg t) : ∃ x, sg[t.hd]? = some (x, t.kids.length) := by
  cases t with
  | n0 f => exact h
  | n1 f a => exact h.1
  | n2 f a b => exact h.1
theorem kids_len (t : Tr) : t.kids.length ≤ 2 := by cases t <;> simp [kids]
theorem toD_tt : ∀ t : Tr, tt t.toD = true
  | n0 f => rfl
  | n1 f a => by simp [toD, tt, tts, toD_tt a]
  | n2 f a b => by simp [toD, tt, tts, toD_tt a, toD_tt b]
theorem toD_lay : ∀ t : Tr, t.toD.canLay0 = true
  | n0 f => rfl
  | n1 f a => by simp [toD, PyData.canLay0, PyData.canLayAll0, toD_lay a]
  | n2 f a b => by simp [toD, PyData.canLay0, PyData.canLayAll0, toD_lay a, toD_lay b]
theorem toD_depth : ∀ t : Tr, t.toD.depth ≤ t.dep + 1
  | n0 f => by simp [toD, PyData.depth, PyData.depthAll, dep]
  | n1 f a => by have := toD_depth a; simp [toD, PyData.depth, PyData.depthAll, dep]; omega
  | n2 f a b => by have := toD_depth a; have := toD_depth b; simp [toD, PyData.depth, PyData.depthAll, dep]; omega
theorem toD_kd : ∀ (t : Tr) (n : Nat), t.dep ≤ n → kd n t.toD = true
  | n0 f, 0, h => by simp [dep] at h
  | n0 f, n + 1, h => by simp [toD, kd, kds]
  | n1 f a, 0, h => by simp [dep] at h
  | n1 f a, n + 1, h => by
    have := toD_kd a n (by simp [dep] at h; omega)
    simp [toD, kd, kds, this]
  | n2 f a b, 0, h => by simp [dep] at h
  | n2 f a b, n + 1, h => by
    have h1 := toD_kd a n (by simp [dep] at h; omega)
    have h2 := toD_kd b n (by simp [dep] at h; omega)
    simp [toD, kd, kds, h1, h2]
theorem toD_inj : ∀ {t u : Tr}, t.toD = u.toD → t = u := by
  intro t
  induction t with
  | n0 f =>
    intro u h
    cases u <;> simp [toD] at h
    rw [Int.ofNat.inj h]
  | n1 f a ih =>
    intro u h
    cases u <;> simp [toD] at h
    rw [Int.ofNat.inj h.1, ih h.2]
  | n2 f a b ia ib =>
    intro u h
    cases u <;> simp [toD] at h
    rw [Int.ofNat.inj h.1, ia h.2.1, ib h.2.2]
end Tr
/-! ### eqv of data -/
theorem Tr.eqv_toD : ∀ t u : Tr, PyData.eqv t.toD u.toD = true → t = u := by
  intro t
  induction t with
  | n0 f =>
    intro u h
    cases u <;> simp [Tr.toD, PyData.eqv, PyData.eqvAll] at h
    rw [Int.ofNat.inj h]
  | n1 f a ih =>
    intro u h
    cases u <;> simp [Tr.toD, PyData.eqv, PyData.eqvAll] at h
    rw [Int.ofNat.inj h.1, ih _ h.2]
  | n2 f a b ia ib =>
    intro u h
    cases u <;> simp [Tr.toD, PyData.eqv, PyData.eqvAll] at h
    rw [Int.ofNat.inj h.1, ia _ h.2.1, ib _ h.2.2]
theorem shaped_of {d : PyData} (h : d.canLay0 = true) (h2 : d.depth ≤ 64) : SeqAt.shaped d = true := by
  unfold SeqAt.shaped
  rw [h, Bool.true_and]
  exact decide_eq_true h2
theorem shaped_list {ds : List PyData} {n : Nat} (h : ∀ d ∈ ds, d.canLay0 = true ∧ d.depth ≤ n) (hn : n ≤ 63) : SeqAt.shaped (.list ds) = true := by
  have h1 : PyData.canLayAll0 ds = true := by
    induction ds with
    | nil => rfl
    | cons a r ih => simp [PyData.canLayAll0, (h a List.mem_cons_self).1]; exact ih fun d hd => h d (List.mem_cons_of_mem _ hd)
  have h2 : PyData.depthAll ds ≤ n := by
    induction ds with
    | nil => simp [PyData.depthAll]
    | cons a r ih =>
      have := (h a List.mem_cons_self).2
      have := ih (fun d hd => h d (List.mem_cons_of_mem _ hd)) (by simp [PyData.canLayAll0] at h1; exact h1.2)
      simp [PyData.depthAll]; omega
  refine shaped_of (by simpa [PyData.canLay0] using h1) (by simp [PyData.depth]; omega)
theorem eqv_nilL (ds : List PyData) : PyData.eqv (.list ds) (.list []) = ds.isEmpty := by cases ds <;> simp [PyData.eqv, PyData.eqvAll]
theorem eqv_nilT (ds : List PyData) : PyData.eqv (.tuple ds) (.tuple []) = ds.isEmpty := by cases ds <;> simp [PyData.eqv, PyData.eqvAll]
theorem shaped_nilL : SeqAt.shaped (.list []) = true := by decide +kernel
theorem shaped_nilT : SeqAt.shaped (.tuple []) = true := by decide +kernel
/-! ### right signatures -/
structure SgLike (sg : Sg) : Prop where
  ne : sg ≠ []
  few : sg.length ≤ 12
  low : ∀ e ∈ sg, lowL e.1.cps.toList = true
  short : ∀ e ∈ sg, e.1.length ≤ 10
  ar : ∀ e ∈ sg, e.2 ≤ 2
  nd : (sg.map (·.1)).Nodup
def SgOk (sg : Sg) : Prop := SgLike sg ∧ ∃ e ∈ sg, e.2 = 0
end G

set_option Elab.async false
set_option linter.all false
set_option maxRecDepth 100000
set_option maxHeartbeats 4000000
namespace L2
open PySem PySem.Spec PyProof.Rows
theorem Same.own {H H' : Hp} {p : Addr} {o : HO} (a : Same H H') (h : H p = none) : Same H (upd H' p o) := fun b u e => by
  rw [upd_ne (ne_of_none e h)]
  exact a b u e
end L2
namespace G
open PySem PySem.Spec PyProof.Rows L2
section
variable {K : PySem.W.Frag} {σ : L2.St} {H H' : Hp} {ta tb te : TE} {t : TT} {d e : PyData} {D : Ends} {i j p : Nat} {us : List V} {v : V} {ds : List PyData}
/-! ### loops -/
theorem s_while {tb : TS} {W : Nat → L2.St → Hp → Prop} {m0 : Nat} (h0 : W m0 σ H) (turn : ∀ m σ' H', W m σ' H' → ∃ b, EvT t σ' H' b ∧ ∀ H1, Same H' H1 →
    (b = true → tb { D with nx := fun σ2 H2 => ∃ m', m' < m ∧ W m' σ2 H2, ct := fun σ2 H2 => ∃ m', m' < m ∧ W m' σ2 H2, bk := D.nx } σ' H1) ∧ (b = false → D.nx σ' H1)) : tWhile t tb D σ H :=
  ⟨W, ⟨m0, h0⟩, fun m σ' H' w => by
    obtain ⟨b, ht, h⟩ := turn m σ' H' w
    refine ht H' (Same.refl H') _ fun H1 s1 => ?_
    cases b with
    | true => exact iteT ⟨_, fun _ _ n => n, (h H1 s1).1 rfl⟩
    | false => exact iteF ((h H1 s1).2 rfl)⟩
/-! ### two names at once -/
theorem s_par {t1 t2 : TE} {d1 d2 : PyData} (h1 : EvD K t1 σ H d1) (h2 : EvD K t2 σ H d2) (q : ∀ v w H', Same H H' → Dp K H' v d1 → Dp K H' w d2 → D.nx ((σ.set i (some v)).set j (some w)) H') : tPar i j (tCons t1 (tCons t2 tNil)) D σ H :=
  (ea_cons h1 (ea_cons h2 ea_nil)) H (Same.refl H) _ fun vs H' s hv => by
    cases hv with
    | cons a r =>
      cases r with
      | cons b r => cases r; exact ⟨_, _, rfl, q _ _ H' s a b⟩
theorem s_parN {t1 t2 : TE} {d2 : PyData} (h1 : EvN K t1 σ H ds) (h2 : EvD K t2 σ H d2) (q : ∀ p vs w H', Same H H' → H p = none → H' p = some (.lst vs) → DpAll K H' vs ds → Dp K H' w d2 → D.nx ((σ.set i (some (.ref p))).set j (some w)) H') : tPar i j (tCons t1 (tCons t2 tNil)) D σ H :=
  h1 H (Same.refl H) _ fun p vs H1 s1 hn hp hv => h2 H1 s1 _ fun w H2 s2 hw => ⟨_, _, rfl, q p vs w H2 (s1.trans s2) hn (s2 _ _ hp) (dps_same s2 _ _ hv) hw⟩
theorem s_parNN {t1 t2 : TE} {es : List PyData} (h1 : EvN K t1 σ H ds) (h2 : EvN K t2 σ H es) (q : ∀ p vs r ws H', Same H H' → H p = none → H' p = some (.lst vs) → DpAll K H' vs ds → H r = none → r ≠ p → H' r = some (.lst ws) → DpAll K H' ws es → D.nx ((σ.set i (some (.ref p))).set j (some (.ref r))) H') : tPar i j (tCons t1 (tCons t2 tNil)) D σ H :=
  h1 H (Same.refl H) _ fun p vs H1 s1 hn hp hv => h2 H1 s1 _ fun r ws H2 s2 hr hp2 hw => ⟨_, _, rfl, q p vs r ws H2 (s1.trans s2) hn (s2 _ _ hp) (dps_same s2 _ _ hv) (back s1 hr) (fun z => by rw [z, hp] at hr; cases hr) hp2 hw⟩
/-! ### a list at a name -/
theorem lst_ty {q : Addr} (h : H q = some (.lst us)) : tyV K "list" (.ref q) H := .inl ⟨rfl, us, sq_of h⟩
/-- x.pop() -/
theorem x_pop {q : Addr} {Q : VK} (hv : σ[i]? = some (some (.ref q))) (hq : H q = some (.lst (us ++ [v]))) (k : Q v (upd H q (.lst us))) : tBM0 K "list" rPop (tVar i) σ H Q :=
  ⟨_, hv, lst_ty hq, q, us ++ [v], v, rfl, rfl, hq, last_at us v, by rw [init_of]; exact k⟩
/-- x.append(..) -/
theorem s_append {q : Addr} (hv : σ[i]? = some (some (.ref q))) (hq : H q = some (.lst us)) (he : EvD K te σ H d) (hl : us.length < 100000) (k : ∀ v H', Same H H' → H' q = some (.lst us) → Dp K H' v d → D.nx σ (upd H' q (.lst (us ++ [v])))) :
    tDrop (tBM K "list" rAppend (tVar i) (tCons te tNil)) D σ H :=
  ⟨_, hv, lst_ty hq, he H (Same.refl H) _ fun v H' s hd => ⟨q, us, v, rfl, rfl, s _ _ hq, sz_lt hl, k v H' s (s _ _ hq) hd⟩⟩
/-- x.extend(a new list) -/
theorem s_extend {q : Addr} (hv : σ[i]? = some (some (.ref q))) (hq : H q = some (.lst us)) (he : EvN K te σ H ds) (hl : us.length + ds.length ≤ 100000) (k : ∀ vs H', Same H H' → H' q = some (.lst us) → DpAll K H' vs ds → D.nx σ (upd H' q (.lst (us ++ vs)))) :
    tDrop (tBM K "list" rExtend (tVar i) (tCons te tNil)) D σ H :=
  ⟨_, hv, lst_ty hq, he H (Same.refl H) _ fun p vs H' s hp hpl hd => ⟨q, p, us, vs, rfl, rfl, s _ _ hq, hpl, sz_of (by rw [hd.len]; exact hl), k vs H' s (s _ _ hq) hd⟩⟩
/-- what stands at a name -/
theorem ed_lstV {q : Addr} (hv : σ[i]? = some (some (.ref q))) (hq : H q = some (.lst us)) (hd : DpAll K H us ds) : EvD K (tVar i) σ H (.list ds) := ed_var (.lst (sq_of hq) hd) hv
theorem s_aug {n k : Int} (hv : σ[i]? = some (some (.int n))) (he : EvD K te σ H (.int k)) (q : ∀ H', Same H H' → D.nx (σ.set i (some (.int (n + k)))) H') : tAug i te (ipI fun i j => i + j) D σ H :=
  ⟨_, hv, he H (Same.refl H) _ fun v H' s hd => ⟨n, k, rfl, dpI hd, q H' s⟩⟩
theorem s_drop (h : EvD K te σ H d) (q : ∀ H', Same H H' → D.nx σ H') : tDrop te D σ H := h H (Same.refl H) _ fun _ H' s _ => q H' s
/-! ### a tuple without its first -/
theorem cut1 (v : V) (vs : List V) : cutV (v :: vs) (some 1) none = vs := by
  unfold cutV
  rw [HT.sIx_none, show ((some 1 : Option Int)) = some ((1 : Nat) : Int) from rfl, HT.sIx_nat]
  simp
theorem ed_tail {x : PyData} (h : EvD K ta σ H (.tuple (x :: ds))) : EvD K (tSl (rSlA K) ta (tPart (tC (.int 1))) tNoPart) σ H (.tuple ds) := fun H1 s Q q =>
  h H1 s _ fun v H2 s2 hv => by
    obtain ⟨a, xs, rfl, hs, hvs⟩ := dp_tup hv
    cases hvs with
    | cons h1 h2 =>
      rename_i w ws
      refine ⟨1, rfl, a, w :: ws, rfl, hs, fun z => ?_, fun _ p hp => ?_⟩
      · have := z.1
        rw [show ((some 1 : Option Int)) = some ((1 : Nat) : Int) from rfl, HT.sIx_nat] at this
        simp at this
      · rw [cut1]
        exact q _ _ (s2.new hp) (.tup (st_of upd_same) (dps_same ((Same.refl H2).new hp) _ _ h2))
end
end G

set_option Elab.async false
set_option linter.all false
set_option maxRecDepth 100000
set_option maxHeartbeats 4000000
namespace G
open PySem PySem.Spec PyProof.Rows L2
/-! ### the order of data -/
def rLtD (K : PySem.W.Frag) : R2 := fun x y H Q => ∃ d e, Dp K H x d ∧ Dp K H y e ∧ PySem.W.alike d e = true ∧ d ≠ .none ∧ d.depth ≤ 60 ∧ Q (.bl (PySem.W.dataLt d e)) H
theorem op_ltD {X : Cx} (hu : X.A.units + 64 < cLine) : OpR X (compareOp .Lt) (rLtD X.K) := by
  intro pins s σ H x y u v Q I rx ry h
  obtain ⟨d, e, hd, he, ha, hn, hdp, q⟩ := h
  obtain ⟨as, ra⟩ := Dp.reads I d x u hd rx
  obtain ⟨bs, rb⟩ := Dp.reads I e y v he ry
  exact PySem.W.lt_data ra rb ha hn (by omega) ⟨.bl _, H, I, rfl, q⟩
section
variable {K : PySem.W.Frag} {σ : L2.St} {H : Hp} {ta tb te tl : TE} {d e : PyData}
theorem ed_ltD (ha : EvD K ta σ H d) (hb : EvD K tb σ H e) (h1 : PySem.W.alike d e = true) (h2 : d ≠ .none) (h3 : d.depth ≤ 60) : EvD K (tOp (rLtD K) ta tb) σ H (.bool (PySem.W.dataLt d e)) :=
  ed_op ha hb fun x y H1 _ hx hy Q q => ⟨d, e, hx, hy, h1, h2, h3, q _ H1 (Same.refl H1) (.bl _)⟩
theorem ed_catT {ta tb : TE} {xs ys : List PyData} (ha : EvD K ta σ H (.tuple xs)) (hb : EvD K tb σ H (.tuple ys)) (hl : xs.length + ys.length ≤ 1000) : EvD K (tOp (rCatA K) ta tb) σ H (.tuple (xs ++ ys)) :=
  ed_op ha hb fun x y H1 _ hx hy Q q => by
    obtain ⟨a, us, rfl, ha1, ha2⟩ := dp_tup hx
    obtain ⟨b, vs, rfl, hb1, hb2⟩ := dp_tup hy
    have l1 := ha2.len
    have l2 := hb2.len
    refine ⟨a, b, us, vs, rfl, rfl, ha1, hb1, sz_of (by omega), fun e => ?_, fun _ e => ?_, fun _ _ p hp => ?_⟩
    · subst e
      have : xs = [] := List.length_eq_zero_iff.mp l1.symm
      subst this
      exact q _ _ (Same.refl _) (.tup hb1 hb2)
    · subst e
      have : ys = [] := List.length_eq_zero_iff.mp l2.symm
      subst this
      rw [List.append_nil] at q
      exact q _ _ (Same.refl _) (.tup ha1 ha2)
    · exact q _ _ ((Same.refl _).new hp) (.tup (st_of upd_same) (dps_same ((Same.refl H1).new hp) _ _ (dps_app ha2 hb2)))
/-- a triple goes to three names -/
theorem g_trip {i j l : Nat} {v : V} {d1 d2 d3 : PyData} {Q : L2.St → Hp → Prop} (h : Dp K H v (.tuple [d1, d2, d3])) (q : ∀ v1 v2 v3, Dp K H v1 d1 → Dp K H v2 d2 → Dp K H v3 d3 → Q (((σ.set i (some v1)).set j (some v2)).set l (some v3)) H) : gTup K 3 (gCons (gName i) (gCons (gName j) (gCons (gName l) gNil))) v σ H Q := by
  obtain ⟨a, xs, rfl, hs, hv⟩ := dp_tup h
  cases hv with
  | cons h1 t =>
    cases t with
    | cons h2 t =>
      cases t with
      | cons h3 t =>
        cases t
        exact ⟨a, _, rfl, hs, rfl, _, _, rfl, _, _, rfl, _, _, rfl, rfl, q _ _ _ h1 h2 h3⟩
/-- thing[1:] -/
theorem ed_tailA {ds : List PyData} (h : EvD K ta σ H (.tuple ds)) : EvD K (tSl (rSlA K) ta (tPart (tC (.int 1))) tNoPart) σ H (.tuple ds.tail) := by
  cases ds with
  | cons x ds => exact ed_tail h
  | nil =>
    intro H1 s Q q
    refine h H1 s _ fun v H2 s2 hv => ?_
    obtain ⟨a, xs, rfl, hs, hvs⟩ := dp_tup hv
    cases hvs
    refine ⟨1, rfl, a, [], rfl, hs, fun _ => q _ H2 s2 (.tup hs .nil), fun z => absurd ⟨?_, rfl⟩ z⟩
    rw [show ((some 1 : Option Int)) = some ((1 : Nat) : Int) from rfl, HT.sIx_nat]
    rfl
/-! ### two tuples side by side -/
def zipD (xs ys : List PyData) : List PyData := (xs.zip ys).map fun p => .tuple [p.1, p.2]
theorem wk_zipT {a b : Addr} {vs ws : List V} {xs ys : List PyData} (hs : SqT K H a vs) (hv : DpAll K H vs xs) (ht : SqT K H b ws) (hw : DpAll K H ws ys) : WkD K (RZ.ItzT K a b) H (zipD xs ys) where
  goes := fun i H1 hi s => by
    have hi : i < min xs.length ys.length := by simpa [zipD] using hi
    have h1 : i < vs.length := by rw [hv.len]; omega
    have h2 : i < ws.length := by rw [hw.len]; omega
    exact ⟨vs, ws, vs[i], ws[i], same_sqt s hs, same_sqt s ht, by simp [h1], by simp [h2]⟩
  stops := fun H1 s => by
    refine ⟨vs, ws, same_sqt s hs, same_sqt s ht, ?_⟩
    rw [hv.len, hw.len]
    simp [zipD]; omega
  yields := fun i H1 x H2 d hd s y => by
    obtain ⟨T, x', y', rfl, hT, rfl, y1, y2⟩ := y
    have h1 := y1 vs (same_sqt s hs)
    have h2 := y2 ws (same_sqt s ht)
    unfold zipD at hd
    rw [List.getElem?_map] at hd
    obtain ⟨p, hp, rfl⟩ := Option.map_eq_some_iff.mp hd
    obtain ⟨hx, hy⟩ := List.getElem?_zip_eq_some.mp hp
    obtain ⟨v, h3, h4⟩ := hv.get hx
    obtain ⟨w, h5, h6⟩ := hw.get hy
    rw [h1] at h3
    cases h3
    rw [h2] at h5
    cases h5
    have s2 : Same H1 (upd H1 T (.tup [x', y'])) := (Same.refl H1).new hT
    exact ⟨s2, .tup (st_of upd_same) (.cons (dp_same (s.trans s2) _ _ h4) (.cons (dp_same (s.trans s2) _ _ h6) .nil))⟩
theorem ei_zipT {xs ys : List PyData} (h1 : EvD K tl σ H (.tuple xs)) (h2 : EvD K te σ H (.tuple ys)) : EvI K (RZ.iZipA K (tCons tl (tCons te tNil))) σ H (zipD xs ys) := fun H1 s R q => h1 H1 s _ fun v H2 s2 hv => h2 H2 (s.trans s2) _ fun w H3 s3 hw => by
  obtain ⟨a, vs, rfl, hs, hvs⟩ := dp_tup hv
  obtain ⟨b, ws, rfl, ht, hws⟩ := dp_tup hw
  exact ⟨a, b, vs, ws, rfl, .inr ⟨same_sqt s3 hs, ht, q _ H3 (s2.trans s3) (wk_zipT (same_sqt s3 hs) (dps_same s3 _ _ hvs) ht hws)⟩⟩
end
end G

set_option Elab.async false
set_option linter.all false
set_option maxRecDepth 100000
set_option maxHeartbeats 4000000
namespace G
open PySem PySem.Spec PyProof.Rows L2
/-! ### machines as data -/
abbrev Mo := Nat × List Nat × Nat
def nats (l : List Nat) : List PyData := l.map fun (n : Nat) => PyData.int (n : Int)
def moD (m : Mo) : PyData := .tuple [.int (m.1 : Int), .tuple (nats m.2.1), .int (m.2.2 : Int)]
structure Ma where
  st : Nat
  mv : List Mo
  ac : List Nat
def maD (m : Ma) : PyData := .tuple [.int (m.st : Int), .tuple (m.mv.map moD), .tuple (nats m.ac)]
theorem nats_eq (l : List Nat) : nats l = (l.map fun n : Nat => (n : Int)).map PyData.int := by unfold nats; rw [List.map_map]; rfl
theorem nats_len (l : List Nat) : (nats l).length = l.length := List.length_map _
theorem cast_inj {xs ys : List Nat} (h : (xs.map fun n : Nat => (n : Int)) = ys.map fun n : Nat => (n : Int)) : xs = ys :=
  (List.map_inj_right (f := fun n : Nat => (n : Int)) (fun a b e => Int.ofNat.inj e)).mp h
theorem moD_inj {a b : Mo} (h : moD a = moD b) : a = b := by
  obtain ⟨f, fr, t⟩ := a
  obtain ⟨g, gr, u⟩ := b
  simp only [moD, nats_eq, PyData.tuple.injEq, List.cons.injEq, PyData.int.injEq, and_true] at h
  obtain ⟨h1, h2, h3⟩ := h
  have h2 := cast_inj ((List.map_inj_right (fun a b (e : PyData.int a = .int b) => by injection e)).mp h2)
  simp only [Prod.mk.injEq]
  exact ⟨by omega, h2, by omega⟩
theorem nats_tt (l : List Nat) : tts (nats l) = true := tts_of fun d hd => by
  obtain ⟨n, _, rfl⟩ := List.mem_map.mp hd
  rfl
theorem moD_tt (m : Mo) : tt (moD m) = true := by
  show tts [.int (m.1 : Int), .tuple (nats m.2.1), .int (m.2.2 : Int)] = true
  simp [tts, tt, nats_tt]
theorem mos_tt (l : List Mo) : tts (l.map moD) = true := tts_of fun d hd => by
  obtain ⟨m, _, rfl⟩ := List.mem_map.mp hd
  exact moD_tt m
theorem maD_tt (m : Ma) : tt (maD m) = true := by
  show tts [.int (m.st : Int), .tuple (m.mv.map moD), .tuple (nats m.ac)] = true
  simp [tts, tt, nats_tt, mos_tt]
theorem nats_kd (n : Nat) (l : List Nat) : kds n (nats l) = true := by
  induction l with
  | nil => rfl
  | cons a l ih => simp only [nats, List.map_cons, kds, Bool.and_eq_true] at ih ⊢; exact ⟨by cases n <;> rfl, ih⟩
theorem moD_kd (m : Mo) : kd 8 (moD m) = true := by
  show kds 7 [.int (m.1 : Int), .tuple (nats m.2.1), .int (m.2.2 : Int)] = true
  simp only [kds, Bool.and_true, Bool.and_eq_true]
  exact ⟨rfl, by show kds 6 (nats m.2.1) = true; exact nats_kd 6 _, rfl⟩
theorem nats_alike (a b : List Nat) : PySem.W.alikeAll (nats a) (nats b) = true := by rw [nats_eq, nats_eq]; exact PySem.W.alike_ints _ _
theorem moD_alike (a b : Mo) : PySem.W.alike (moD a) (moD b) = true := by
  show PySem.W.alikeAll [.int (a.1 : Int), .tuple (nats a.2.1), .int (a.2.2 : Int)] [.int (b.1 : Int), .tuple (nats b.2.1), .int (b.2.2 : Int)] = true
  simp [PySem.W.alikeAll, PySem.W.alike, nats_alike]
theorem mos_alike (l : List Mo) : PySem.W.AllAlike (l.map moD) := PySem.W.AllAlike.of moD_alike
/-! ### their order -/
theorem eqv_nats (a b : List Nat) : PyData.eqv (.tuple (nats a)) (.tuple (nats b)) = decide (a = b) := by
  show PyData.eqvAll (nats a) (nats b) = decide (a = b)
  induction a generalizing b with
  | nil => cases b <;> simp [nats, PyData.eqvAll]
  | cons x a ih =>
    cases b with
    | nil => simp [nats, PyData.eqvAll]
    | cons y b =>
      have := ih b
      simp only [nats, List.map_cons, PyData.eqvAll] at this ⊢
      rw [this]
      by_cases h : x = y <;> by_cases h2 : a = b <;> simp [PyData.eqv, h, h2] <;> omega
theorem rowLt_nats (a b : List Nat) : PySem.W.dataLt (.tuple (nats a)) (.tuple (nats b)) = decide ((a.map fun n : Nat => (n : Int)) < (b.map fun n : Nat => (n : Int))) := by
  have := PySem.W.dataLt_ints (a.map fun n : Nat => (n : Int)) (b.map fun n : Nat => (n : Int))
  rw [← nats_eq, ← nats_eq] at this
  exact this
theorem moLt_eq (a b : Mo) : PySem.W.dataLt (moD a) (moD b) = if a.1 = b.1 then (if a.2.1 = b.2.1 then decide (a.2.2 < b.2.2) else decide ((a.2.1.map fun n : Nat => (n : Int)) < (b.2.1.map fun n : Nat => (n : Int)))) else decide (a.1 < b.1) := by
  have h : PySem.W.dataLt (moD a) (moD b) = PySem.W.rowLt [.int (a.1 : Int), .tuple (nats a.2.1), .int (a.2.2 : Int)] [.int (b.1 : Int), .tuple (nats b.2.1), .int (b.2.2 : Int)] := rfl
  rw [h]
  unfold PySem.W.rowLt
  rw [PySem.W.dataLt_cons (by rfl), PySem.W.dataLt_cons (by exact nats_alike _ _), PySem.W.dataLt_cons (by rfl)]
  have ei : ∀ x y : Nat, PyData.eqv (.int (x : Int)) (.int (y : Int)) = decide (x = y) := fun x y => by
    rw [Bool.eq_iff_iff]
    simp only [PyData.eqv, beq_iff_eq, decide_eq_true_eq]
    omega
  have e1 := ei a.1 b.1
  have e2 := ei a.2.2 b.2.2
  rw [e1, e2, eqv_nats, rowLt_nats, dataLt_int, dataLt_int]
  by_cases h1 : a.1 = b.1
  · rw [if_pos (by simpa using h1), if_pos h1]
    by_cases h2 : a.2.1 = b.2.1
    · rw [if_pos (by simpa using h2), if_pos h2]
      by_cases h3 : a.2.2 = b.2.2
      · rw [if_pos (by simpa using h3), h3]
        simp only [Nat.lt_irrefl, decide_false]
        rfl
      · rw [if_neg (by simpa using h3)]
        simp
    · rw [if_neg (by simpa using h2), if_neg h2]
  · rw [if_neg (by simpa using h1), if_neg h1]
    simp
theorem moLt_anti {a b : Mo} (h1 : PySem.W.dataLt (moD a) (moD b) = false) (h2 : PySem.W.dataLt (moD b) (moD a) = false) : a = b := by
  rw [moLt_eq] at h1 h2
  obtain ⟨f, fr, t⟩ := a
  obtain ⟨g, gr, u⟩ := b
  dsimp only at h1 h2
  by_cases e1 : f = g
  · rw [if_pos e1] at h1
    rw [if_pos e1.symm] at h2
    by_cases e2 : fr = gr
    · rw [if_pos e2] at h1
      rw [if_pos e2.symm] at h2
      have a1 := of_decide_eq_false h1
      have a2 := of_decide_eq_false h2
      rw [e1, e2, show t = u by omega]
    · rw [if_neg e2] at h1
      rw [if_neg (Ne.symm e2)] at h2
      have a1 := of_decide_eq_false h1
      have a2 := of_decide_eq_false h2
      exact absurd (cast_inj (List.le_antisymm a2 a1)) e2
  · rw [if_neg e1] at h1
    rw [if_neg (Ne.symm e1)] at h2
    have a1 := of_decide_eq_false h1
    have a2 := of_decide_eq_false h2
    omega
/-- strictly up -/
def Asc (l : List PyData) : Prop := l.Pairwise fun a b => PySem.W.dataLt a b = true
theorem srt_mos {l : List Mo} {es : List PyData} (h : IsSrt (l.map moD) es) : ∃ m : List Mo, es = m.map moD ∧ Asc (m.map moD) ∧ m.Nodup ∧ ∀ x, x ∈ m ↔ x ∈ l := by
  have lift : ∀ es : List PyData, (∀ d ∈ es, d ∈ l.map moD) → ∃ m : List Mo, es = m.map moD := by
    intro es
    induction es with
    | nil => exact fun _ => ⟨[], rfl⟩
    | cons d es ih =>
      intro h
      obtain ⟨m, hm⟩ := ih fun z hz => h z (List.mem_cons_of_mem _ hz)
      obtain ⟨x, _, hx⟩ := List.mem_map.mp (h d List.mem_cons_self)
      exact ⟨x :: m, by rw [List.map_cons, hx, hm]⟩
  obtain ⟨m, rfl⟩ := lift es fun d hd => (h.mem d).mp hd
  have nd : m.Nodup := List.Pairwise.of_map moD (fun a b hne e => hne (by rw [e])) h.nd
  refine ⟨m, rfl, ?_, nd, fun x => ?_⟩
  · unfold Asc
    rw [List.pairwise_map]
    have a1 := List.pairwise_map.mp h.asc
    exact (a1.and nd).imp fun {a b} hab => by
      cases e : PySem.W.dataLt (moD a) (moD b) with
      | true => rfl
      | false => exact absurd (moLt_anti e hab.1) hab.2
  · have := h.mem (moD x)
    constructor
    · intro hx
      obtain ⟨y, hy, e⟩ := List.mem_map.mp (this.mp (List.mem_map.mpr ⟨x, hx, rfl⟩))
      rw [← moD_inj e]; exact hy
    · intro hx
      obtain ⟨y, hy, e⟩ := List.mem_map.mp (this.mpr (List.mem_map.mpr ⟨x, hx, rfl⟩))
      rw [← moD_inj e]; exact hy
theorem srt_nats {l : List Nat} {es : List PyData} (h : IsSrt (nats l) es) : ∃ m : List Nat, es = nats m ∧ Asc (nats m) ∧ m.Nodup ∧ ∀ x, x ∈ m ↔ x ∈ l := by
  have lift : ∀ es : List PyData, (∀ d ∈ es, d ∈ nats l) → ∃ m : List Nat, es = nats m := by
    intro es
    induction es with
    | nil => exact fun _ => ⟨[], rfl⟩
    | cons d es ih =>
      intro h
      obtain ⟨m, hm⟩ := ih fun z hz => h z (List.mem_cons_of_mem _ hz)
      obtain ⟨x, _, hx⟩ := List.mem_map.mp (h d List.mem_cons_self)
      exact ⟨x :: m, by rw [hm, ← hx]; rfl⟩
  have inj : ∀ {a b : Nat}, PyData.int (a : Int) = .int (b : Int) → a = b := fun e => by injection e with e; omega
  obtain ⟨m, rfl⟩ := lift es fun d hd => (h.mem d).mp hd
  have nd : m.Nodup := List.Pairwise.of_map _ (fun a b hne e => hne (by rw [e])) h.nd
  refine ⟨m, rfl, ?_, nd, fun x => ?_⟩
  · unfold Asc nats
    rw [List.pairwise_map]
    have a1 := List.pairwise_map.mp h.asc
    exact (a1.and nd).imp fun {a b} hab => by
      have h1 := hab.1
      rw [dataLt_int] at h1 ⊢
      have := of_decide_eq_false h1
      have := hab.2
      exact decide_eq_true (by omega)
  · have := h.mem (.int (x : Int))
    constructor
    · intro hx
      obtain ⟨y, hy, e⟩ := List.mem_map.mp (this.mp (List.mem_map.mpr ⟨x, hx, rfl⟩))
      rw [← inj e]; exact hy
    · intro hx
      obtain ⟨y, hy, e⟩ := List.mem_map.mp (this.mpr (List.mem_map.mpr ⟨x, hx, rfl⟩))
      rw [← inj e]; exact hy
theorem asc_mos_one {a b : List Mo} (ha : Asc (a.map moD)) (hb : Asc (b.map moD)) (na : a.Nodup) (nb : b.Nodup) (h : ∀ x, x ∈ a ↔ x ∈ b) : a = b := by
  have pm : a.Perm b := (List.perm_ext_iff_of_nodup na nb).mpr h
  have irr : ∀ m : Mo, PySem.W.dataLt (moD m) (moD m) = false := fun m => by rw [moLt_eq, if_pos rfl, if_pos rfl]; simp
  have trans : ∀ x y : Mo, PySem.W.dataLt (moD x) (moD y) = true → PySem.W.dataLt (moD y) (moD x) = true → x = y := fun x y h1 h2 => by
    exfalso
    rw [moLt_eq] at h1 h2
    by_cases e1 : x.1 = y.1
    · rw [if_pos e1] at h1
      rw [if_pos e1.symm] at h2
      by_cases e2 : x.2.1 = y.2.1
      · rw [if_pos e2] at h1
        rw [if_pos e2.symm] at h2
        have := of_decide_eq_true h1
        have := of_decide_eq_true h2
        omega
      · rw [if_neg e2] at h1
        rw [if_neg (Ne.symm e2)] at h2
        exact List.lt_irrefl _ (List.lt_trans (of_decide_eq_true h1) (of_decide_eq_true h2))
    · rw [if_neg e1] at h1
      rw [if_neg (Ne.symm e1)] at h2
      have := of_decide_eq_true h1
      have := of_decide_eq_true h2
      omega
  exact pm.eq_of_pairwise (le := fun x y => PySem.W.dataLt (moD x) (moD y) = true) (fun x y _ _ h1 h2 => trans x y h1 h2) (List.pairwise_map.mp ha) (List.pairwise_map.mp hb)
theorem asc_nats_one {a b : List Nat} (ha : Asc (nats a)) (hb : Asc (nats b)) (na : a.Nodup) (nb : b.Nodup) (h : ∀ x, x ∈ a ↔ x ∈ b) : a = b := by
  have pm : a.Perm b := (List.perm_ext_iff_of_nodup na nb).mpr h
  refine pm.eq_of_pairwise (le := fun x y : Nat => PySem.W.dataLt (.int (x : Int)) (.int (y : Int)) = true) (fun x y _ _ h1 h2 => ?_) (List.pairwise_map.mp ha) (List.pairwise_map.mp hb)
  rw [dataLt_int] at h1 h2
  have := of_decide_eq_true h1
  have := of_decide_eq_true h2
  omega
end G

set_option Elab.async false
set_option linter.all false
set_option maxRecDepth 100000
set_option maxHeartbeats 4000000
namespace G
open PySem PySem.Spec PyProof.Rows L2
/-! ### words of a text, in plain Lean -/
abbrev S (l : List Nat) : Str := ⟨l.toArray⟩
theorem S_tl (x : Str) : S x.cps.toList = x := rfl
theorem S_len (a : List Nat) : (S a).length = a.length := by simp [S, Str.length]
theorem S_inj {a b : List Nat} (h : S a = S b) : a = b := congrArg (fun x : Str => x.cps.toList) h
theorem S_cat (a b : List Nat) : S a ++ S b = S (a ++ b) := SX.S_cat a b
def isBl (c : Nat) : Bool := decide (c ∈ [32, 10])
/-- how many signs of a run stand at the head -/
def runN : List Nat → Nat
  | [] => 0
  | c :: r => if isRun c then runN r + 1 else 0
def arrow (c : Nat) (r : List Nat) : Bool := decide (c = 45) && decide (r.head? = some 62)
/-- the length of the word c.. with r behind c -/
def tok (c : Nat) (r : List Nat) : Nat := if isRun c then runN r + 1 else if arrow c r then 2 else 1
def wordsF : Nat → Nat → List Nat → List (List Nat × Nat)
  | 0, _, _ => []
  | _ + 1, _, [] => []
  | f + 1, at_, c :: r => let rest := wordsF f (at_ + tok c r) ((c :: r).drop (tok c r)); if isBl c then rest else ((c :: r).take (tok c r), at_) :: rest
def wordsOf (l : List Nat) : List (List Nat × Nat) := wordsF l.length 0 l
theorem tok_pos (c : Nat) (r : List Nat) : 1 ≤ tok c r := by
  unfold tok
  split
  · omega
  · split <;> omega
theorem runN_le : ∀ l, runN l ≤ l.length
  | [] => Nat.le_refl _
  | c :: r => by
    unfold runN
    split
    · have := runN_le r; simp; omega
    · simp
theorem tok_le (c : Nat) (r : List Nat) : tok c r ≤ r.length + 1 := by
  unfold tok
  split
  · have := runN_le r; omega
  · split
    · rename_i h
      cases r with
      | nil => simp [arrow] at h
      | cons a b => simp
    · omega
theorem wordsF_more : ∀ (f g at_ : Nat) (l : List Nat), l.length ≤ f → l.length ≤ g → wordsF f at_ l = wordsF g at_ l
  | 0, 0, _, _, _, _ => rfl
  | 0, g + 1, _, [], _, _ => rfl
  | 0, _ + 1, _, _ :: _, h, _ => by simp at h
  | f + 1, 0, _, [], _, _ => rfl
  | _ + 1, 0, _, _ :: _, _, h => by simp at h
  | f + 1, g + 1, _, [], _, _ => rfl
  | f + 1, g + 1, at_, c :: r, hf, hg => by
    have := tok_pos c r
    have h := wordsF_more f g (at_ + tok c r) ((c :: r).drop (tok c r)) (by simp at hf ⊢; omega) (by simp at hg ⊢; omega)
    simp only [wordsF, h]
theorem wordsF_len : ∀ (f at_ : Nat) (l : List Nat), (wordsF f at_ l).length ≤ l.length
  | 0, _, _ => by simp [wordsF]
  | _ + 1, _, [] => by simp [wordsF]
  | f + 1, at_, c :: r => by
    have := tok_pos c r
    have h := wordsF_len f (at_ + tok c r) ((c :: r).drop (tok c r))
    have h2 : ((c :: r).drop (tok c r)).length ≤ r.length := by simp; omega
    simp only [wordsF]
    split
    · simp; omega
    · simp; omega
/-- the text cs has the words ws -/
inductive Toks : List (List Nat) → List Nat → Prop
  | nil : Toks [] []
  | blank {c : Nat} {ws : List (List Nat)} {cs : List Nat} (hc : isBl c = true) (h : Toks ws cs) : Toks ws (c :: cs)
  | run {c : Nat} {w : List Nat} {ws : List (List Nat)} {cs : List Nat} (hc : isRun c = true) (hw : w.all isRun = true) (hn : ∀ d, cs.head? = some d → isRun d = false) (h : Toks ws cs) : Toks ((c :: w) :: ws) ((c :: w) ++ cs)
  | sign {c : Nat} {ws : List (List Nat)} {cs : List Nat} (hc : isRun c = false) (hb : isBl c = false) (ha : arrow c cs = false) (h : Toks ws cs) : Toks ([c] :: ws) (c :: cs)
  | arrow {ws : List (List Nat)} {cs : List Nat} (h : Toks ws cs) : Toks ([45, 62] :: ws) (45 :: 62 :: cs)
theorem runN_app : ∀ (w cs : List Nat), w.all isRun = true → (∀ d, cs.head? = some d → isRun d = false) → runN (w ++ cs) = w.length
  | [], [], _, _ => rfl
  | [], c :: cs, _, h => by simp [runN, h c rfl]
  | a :: w, cs, hw, h => by
    have hw : isRun a = true ∧ w.all isRun = true := by simpa using hw
    simp [runN, hw.1, runN_app w cs hw.2 h]
theorem blank_not_run {c : Nat} (h : isBl c = true) : isRun c = false := by
  have : c = 32 ∨ c = 10 := by simpa [isBl] using h
  rcases this with rfl | rfl <;> decide +kernel
theorem run_not_blank {c : Nat} (h : isRun c = true) : isBl c = false := by
  cases e : isBl c with
  | false => rfl
  | true => rw [blank_not_run e] at h; cases h
theorem Toks.words {ws : List (List Nat)} {cs : List Nat} (h : Toks ws cs) : ∀ (f at_ : Nat), cs.length ≤ f → (wordsF f at_ cs).map (·.1) = ws := by
  induction h with
  | nil => intro f at_ _; cases f <;> rfl
  | @blank c ws cs hc h ih =>
    intro f at_ hf
    cases f with
    | zero => simp at hf
    | succ f =>
      have ht : tok c cs = 1 := by
        have : c = 32 ∨ c = 10 := by simpa [isBl] using hc
        unfold tok
        rw [blank_not_run hc]
        rcases this with rfl | rfl <;> simp [G.arrow]
      simp only [wordsF, hc, if_true, ht, List.drop_one, List.tail_cons]
      exact ih f _ (by simp at hf; omega)
  | @run c w ws cs hc hw hn h ih =>
    intro f at_ hf
    cases f with
    | zero => simp at hf
    | succ f =>
      have ht : tok c (w ++ cs) = w.length + 1 := by unfold tok; rw [hc, if_pos rfl, runN_app w cs hw hn]
      have hd : (c :: (w ++ cs)).drop (w.length + 1) = cs := by simp
      have htk : (c :: (w ++ cs)).take (w.length + 1) = c :: w := by simp
      simp only [List.cons_append, wordsF, run_not_blank hc, ht, hd, htk]
      simp
      exact ih f _ (by simp at hf; omega)
  | @sign c ws cs hc hb ha h ih =>
    intro f at_ hf
    cases f with
    | zero => simp at hf
    | succ f =>
      have ht : tok c cs = 1 := by unfold tok; rw [hc, ha]; rfl
      simp only [wordsF, hb, ht, List.drop_one, List.tail_cons]
      simp
      exact ih f _ (by simp at hf; omega)
  | @arrow ws cs h ih =>
    intro f at_ hf
    cases f with
    | zero => simp at hf
    | succ f =>
      have h45 : isRun 45 = false := by decide +kernel
      have hb : isBl 45 = false := by decide +kernel
      have ht : tok 45 (62 :: cs) = 2 := by unfold tok; rw [h45]; rfl
      simp only [wordsF, hb, ht]
      simp
      exact ih f _ (by simp at hf; omega)
theorem Toks.words' {ws : List (List Nat)} {cs : List Nat} (h : Toks ws cs) : (wordsOf cs).map (·.1) = ws := h.words _ 0 (Nat.le_refl _)
/-! ### as data -/
def wordD (p : List Nat × Nat) : PyData := .tuple [.str (S p.1), .int (p.2 : Int)]
theorem wordD_tt (l : List (List Nat × Nat)) : tts (l.map wordD) = true := tts_of fun d hd => by
  obtain ⟨p, _, rfl⟩ := List.mem_map.mp hd
  rfl
theorem runsL : ("abcdefghijklmnopqrstuvwxyz0123456789" : Str).cps.toList = smallL ++ digL := by decide +kernel
theorem inRuns (c : Nat) : decide (c ∈ ("abcdefghijklmnopqrstuvwxyz0123456789" : Str).cps.toList) = isRun c := by
  rw [runsL]
  unfold isRun isSm isDg
  rw [← Bool.decide_or]
  simp [List.mem_append]
theorem inBlanks (c : Nat) : decide (c ∈ (" \n" : Str).cps.toList) = isBl c := by
  have : (" \n" : Str).cps.toList = [32, 10] := by decide +kernel
  rw [this]; rfl
/-- a part of a text -/
theorem cutS_nat (l : List Nat) (b e : Nat) (hb : b ≤ e) (he : e ≤ l.length) : cutS (S l) (some (b : Int)) (some (e : Int)) = S ((l.drop b).take (e - b)) := by
  unfold cutS
  rw [S_len, HT.sIx_nat, HT.sIx_nat, Nat.min_eq_left he, Nat.min_eq_left (Nat.le_trans hb he)]
/-- .. also behind its end -/
theorem cutS_over (l : List Nat) (b e : Nat) (hb : b ≤ l.length) : cutS (S l) (some (b : Int)) (some (e : Int)) = S ((l.drop b).take (e - b)) := by
  unfold cutS
  rw [S_len, HT.sIx_nat, HT.sIx_nat, Nat.min_eq_left hb]
  show S ((l.drop b).take (min e l.length - b)) = _
  congr 1
  by_cases h : e ≤ l.length
  · rw [Nat.min_eq_left h]
  · rw [Nat.min_eq_right (by omega), List.take_of_length_le (by simp), List.take_of_length_le (by simp; omega)]
section
variable {K : PySem.W.Frag} {σ : L2.St} {H H' : Hp} {ta tb te : TE}
theorem ed_cutS {l : List Nat} {b e : Nat} {tl th : TE} (h : EvD K ta σ H (.str (S l))) (h1 : EvD K tl σ H (.int (b : Int))) (h2 : EvD K th σ H (.int (e : Int))) (hl : l.length ≤ 100000) (hb : b ≤ l.length) :
    EvD K (tSl rSlS ta (tPart tl) (tPart th)) σ H (.str (S ((l.drop b).take (e - b)))) := fun H1 s Q q => h H1 s _ fun v H2 s2 hv => h1 H2 (s.trans s2) _ fun v1 H3 s3 hv1 => by
  refine ⟨_, dpI hv1, h2 H3 ((s.trans s2).trans s3) _ fun v2 H4 s4 hv2 => ⟨_, dpI hv2, S l, dpS hv, sz_of (by rw [S_len]; exact hl), ?_⟩⟩
  rw [cutS_over l b e hb]
  exact q _ _ ((s2.trans s3).trans s4) (.str _)
/-- a sign of a text -/
theorem ed_sign {l : List Nat} {i c : Nat} (ha : EvD K ta σ H (.str (S l))) (hb : EvD K tb σ H (.int (i : Int))) (hl : l.length ≤ 100000) (h : l[i]? = some c) : EvD K (tOp rIxS ta tb) σ H (.str ⟨#[c]⟩) :=
  ed_ixS ha hb (by rw [S_len]; exact hl) (atI_nat h)
end
end G

set_option Elab.async false
set_option linter.all false
set_option maxRecDepth 100000
set_option maxHeartbeats 4000000
namespace G
open PySem PySem.Spec PyProof.Rows L2
section
variable {P : Program} {w : World} {K : PySem.W.Frag} {mg : Str → Option Value} {base : Heap}
theorem least_of {ns : List Int} (h : ns ≠ []) : ∃ m ∈ ns, ∀ y ∈ ns, m ≤ y := by
  induction ns with
  | nil => exact absurd rfl h
  | cons a r ih =>
    by_cases hr : r = []
    · subst hr
      exact ⟨a, List.mem_cons_self, fun y hy => by simp at hy; omega⟩
    · obtain ⟨m, h1, h2⟩ := ih hr
      by_cases hle : a ≤ m
      · exact ⟨a, List.mem_cons_self, fun y hy => by
          rcases List.mem_cons.mp hy with rfl | hy
          · exact Int.le_refl _
          · exact Int.le_trans hle (h2 y hy)⟩
      · exact ⟨m, List.mem_cons_of_mem _ h1, fun y hy => by
          rcases List.mem_cons.mp hy with rfl | hy
          · omega
          · exact h2 y hy⟩
def Ris_signature : List PyData → PyData → Prop
  | [d], r => (d = .tuple [] ∧ r = .bool false) ∨ ∃ sg, SgLike sg ∧ d = sigD sg ∧ r = .bool (decide (∃ e ∈ sg, e.2 = 0))
  | _, _ => False
theorem sc_is_signature : FnScope ["thing", "entry", "name", "arity", "names"] ["thing"] (defScope s_is_signature) := ⟨rfl, rfl, rfl, by decide +kernel, rfl, by decide +kernel, by decide +kernel⟩
theorem ok_is_signature (T : Tx K mg)  : Cl P w K mg base CX0 3 "is_signature" ["thing"] (spD K Ris_signature) := by
  obtain ⟨fd, F⟩ := T.f_is_signature
  refine ⟨_, fd, T.g_is_signature, F.kp, F.bindsN fun _ _ _ _ _ _ us hl => match us, hl with | [_], _ => rfl, F.ok sc_is_signature (fun vs H Q E h => ?_) (fun cdv A outer s H vs Q E hr h => ?_)⟩
  · obtain ⟨ds, r, hd, hR, _⟩ := h
    match ds, hR with
    | [_], _ => exact hd.len
  · obtain ⟨ds, r, hd, hR, q⟩ := h
    match ds, vs, hd, hR with
    | [d0], [v0], .cons h0 .nil, hR =>
    refine ⟨_, PSs.nox (pss_cons (ps_if (PW.pt (pw_or (pt_not (pt_val (G.pe_cl (ok_is_row T) hr (by decide) pass0 (pa_cons (pv 0) (pa_cons pe_int (pa_cons (G.pe_ki (by rfl) T.c_MOST_SYMBOLS) pa_nil)))))) (pw_or1 (pt_not (pt_val (pe_callB (cr_all rfl) (by rfl) T.b_all PyProof.Rows.Boot.«all» (pa_cons (pe_lc (own := [("entry", 1)]) (g := (gName 1)) rfl sc_is_signature.nd (pi_tup (pv 0)) (blkOk_by (own := [("entry", 1)]) (N := ["thing", "entry", "name", "arity", "names"]) (sc := defScope s_is_signature) (by decide +kernel)) (fun _ _ _ _ _ => (pg_name (i := 1) sc_is_signature.nd rfl (by first | exact Or.inl rfl | exact Or.inr rfl))) (fun _ _ _ _ _ => pts_nil) (fun _ _ _ _ _ => (G.pe_cl (ok_is_row T) hr (by decide) pass0 (pa_cons (pv 1) (pa_cons pe_int (pa_cons pe_int pa_nil)))))) pa_nil))))))) (pss_one (ps_ret pe_bl)) pss_nil)
  (pss_cons (ps_if (pt_not (pt_val (pe_callB (cr_all rfl) (by rfl) T.b_all PyProof.Rows.Boot.«all» (pa_cons (pe_lc (own := [("name", 2), ("arity", 3)]) (g := (gTup K 2 (gCons (gName 2) (gCons (gName 3) gNil)))) rfl sc_is_signature.nd (pi_tup (pv 0)) (blkOk_by (own := [("name", 2), ("arity", 3)]) (N := ["thing", "entry", "name", "arity", "names"]) (sc := defScope s_is_signature) (by decide +kernel)) (fun _ _ _ _ _ => (pg_tup rfl (pgs_cons (pg_name (i := 2) sc_is_signature.nd rfl (by first | exact Or.inl rfl | exact Or.inr rfl)) (pgs_cons (pg_name (i := 3) sc_is_signature.nd rfl (by first | exact Or.inl rfl | exact Or.inr rfl)) pgs_nil)))) (fun _ _ _ _ _ => pts_nil) (fun _ _ _ _ _ => (pe_and (G.pe_cl (ok_is_low_name T) hr (by decide) pass0 (pa_cons (pv 2) pa_nil)) (pe_one (G.pe_cl (ok_within T) hr (by decide) pass0 (pa_cons (pv 3) (pa_cons pe_int (pa_cons (G.pe_ki (by rfl) T.c_MOST_ARITY) pa_nil)))))))) pa_nil)))) (pss_one (ps_ret pe_bl)) pss_nil)
  (pss_cons (ps_setLc (i := 4) (own := [("name", 2), ("arity", 3)]) (g := (gTup K 2 (gCons (gName 2) (gCons (gName 3) gNil)))) rfl sc_is_signature.nd rfl rfl (sw_true rfl rfl rfl (by decide +kernel)) (pi_tup (pv 0)) (blkOk_by (own := [("name", 2), ("arity", 3)]) (N := ["thing", "entry", "name", "arity", "names"]) (sc := defScope s_is_signature) (by decide +kernel)) (fun _ _ _ _ _ => (pg_tup rfl (pgs_cons (pg_name (i := 2) sc_is_signature.nd rfl (by first | exact Or.inl rfl | exact Or.inr rfl)) (pgs_cons (pg_name (i := 3) sc_is_signature.nd rfl (by first | exact Or.inl rfl | exact Or.inr rfl)) pgs_nil)))) (fun _ _ _ _ _ => pts_nil) (fun _ _ _ _ _ => (pv 2)))
  (pss_one (ps_ret (pe_and (pe_cmpR op_eq (G.pe_lenSetD rfl (G.hu70 hr) (by rfl) T.b_len (by rfl) T.b_set (pv 4)) (pe_callB call_len_seq (by rfl) T.b_len PyProof.Rows.Boot.«len» (pa_cons (pv 4) pa_nil)) (nomark _)) (pe_one (pe_cmpR op_eq (pe_callB (cr_min rfl) (by rfl) T.b_min PyProof.Rows.Boot.«min» (pa_cons (pe_lc (own := [("name", 2), ("arity", 3)]) (g := (gTup K 2 (gCons (gName 2) (gCons (gName 3) gNil)))) rfl sc_is_signature.nd (pi_tup (pv 0)) (blkOk_by (own := [("name", 2), ("arity", 3)]) (N := ["thing", "entry", "name", "arity", "names"]) (sc := defScope s_is_signature) (by decide +kernel)) (fun _ _ _ _ _ => (pg_tup rfl (pgs_cons (pg_name (i := 2) sc_is_signature.nd rfl (by first | exact Or.inl rfl | exact Or.inr rfl)) (pgs_cons (pg_name (i := 3) sc_is_signature.nd rfl (by first | exact Or.inl rfl | exact Or.inr rfl)) pgs_nil)))) (fun _ _ _ _ _ => pts_nil) (fun _ _ _ _ _ => (pv 3))) pa_nil)) pe_int (nomark _))))))))), ?_⟩
    rcases hR with ⟨rfl, rfl⟩ | ⟨sg, hs, rfl, rfl⟩
    · exact s_ifT (et_orT (et_not (et_test (ed_call (ea_cons (ed_var h0) (ea_cons ed_i (ea_cons ed_i ea_nil))) ⟨1, 12, rfl, rfl, rfl⟩))) rfl) rfl fun H' s => s_ret ed_b fun v H2 s2 hv => q v H2 (s.trans s2) hv
    · have hlen := hs.few
      have hne : 1 ≤ sg.length := List.length_pos_iff.mpr hs.ne
      have hsz : sg.length ≤ 100000 := by omega
      refine s_ifF (et_orF (et_not (et_test (ed_call (ea_cons (ed_var h0) (ea_cons ed_i (ea_cons ed_i ea_nil))) ⟨1, 12, rfl, rfl, rfl⟩))) ?_ (et_not (et_test (ed_allM sg entD (fun _ => true) (ei_tup (ed_var h0)) hsz fun a ha v H1 s hv W hW =>
        hW _ wipe_set1 ((ed_call (ea_cons (ed_var hv) (ea_cons ed_i (ea_cons ed_i ea_nil))) ⟨2, 2, rfl, rfl, rfl⟩).to (by rfl)))))) (by simp) fun Ha sa => ?_
      · show (!(decide ((1 : Int) ≤ ((sg.map entD).length : Int)) && decide (((sg.map entD).length : Int) ≤ 12))) = false
        rw [List.length_map]
        simp; omega
      have ha0 : Dp K Ha v0 (sigD sg) := dp_same sa _ _ h0
      have f1 : ∀ a ∈ sg, ∀ x, PyData.str a.1 = .str x → x.length ≤ 100000 := fun a ha x hx => by
        injection hx with hx
        rw [← hx]
        have := hs.short a ha
        omega
      have f3 : ∀ a ∈ sg, PyData.bool (isIn (.int (a.2 : Int)) 0 2) = .bool true := fun a ha => by
        have := hs.ar a ha
        show PyData.bool (decide ((0 : Int) ≤ (a.2 : Int)) && decide ((a.2 : Int) ≤ 2)) = _
        congr 1
        simp; omega
      refine s_ifF (et_not (et_test (ed_allM sg entD (fun _ => true) (ei_tup (ed_var ha0)) hsz fun a ha v H1 s hv W hW => g_pair hv fun w1 w2 h1 h2 => hW _ wipe_set2
        (ed_andT (ed_call (ea_cons (ed_var h1) ea_nil) ⟨f1 a ha, rfl⟩) (hs.low a ha) ((ed_call (ea_cons (ed_var h2) (ea_cons ed_i (ea_cons ed_i ea_nil))) ⟨0, 2, rfl, rfl, rfl⟩).to (f3 a ha)))))) (by simp) fun Hb sb => ?_
      have hb0 : Dp K Hb v0 (sigD sg) := dp_same sb _ _ ha0
      refine s_setN (K := K) (en_lcM sg entD (fun a => .str a.1) (ei_tup (ed_var hb0)) hsz (fun _ _ => rfl) fun a ha v H1 s hv W hW => g_pair hv fun w1 w2 h1 h2 => hW _ wipe_set2 (ed_var h1)) fun p vs Hc sc hp hps hvs => ?_
      have hc0 : Dp K Hc v0 (sigD sg) := dp_same sc _ _ hb0
      have hpd : Dp K Hc (.ref p) (.list (sg.map fun a => .str a.1)) := .lst (sq_of hps) hvs
      have sall : Same H Hc := (sa.trans sb).trans sc
      have hnd : (sg.map fun a => PyData.str a.1).Nodup := by
        have := List.Pairwise.map (S := fun a b : PyData => a ≠ b) PyData.str (fun a b (h : a ≠ b) e => h (by injection e)) hs.nd
        rwa [List.map_map] at this
      obtain ⟨m, hm1, hm2⟩ := least_of (ns := sg.map fun a => (a.2 : Int)) (by simpa using hs.ne)
      have hmd : decide (m = 0) = decide (∃ e ∈ sg, e.2 = 0) := by
        rw [decide_eq_decide]
        constructor
        · rintro rfl
          obtain ⟨e, he, h0⟩ := List.mem_map.mp hm1
          exact ⟨e, he, by simpa using h0⟩
        · rintro ⟨e, he, h0⟩
          have h1 := hm2 (e.2 : Int) (List.mem_map.mpr ⟨e, he, rfl⟩)
          obtain ⟨e2, he2, h2⟩ := List.mem_map.mp hm1
          have h2 : ((e2.2 : Nat) : Int) = m := h2
          omega
      refine s_ret (ed_andT (ed_eqI (ed_lenSet (ed_var hpd) (.inl ⟨sg.map (·.1), by rw [List.map_map]; rfl⟩) hnd (by simp; omega)) (ed_lenL (ed_var hpd))) (by simp) (ed_eqI (ed_min (ns := sg.map fun a => (a.2 : Int)) (by rw [List.map_map]; exact en_lcM sg entD (fun a => .int (a.2 : Int)) (ei_tup (ed_var hc0)) hsz (fun _ _ => rfl) fun a ha v H1 s hv W hW => g_pair hv fun w1 w2 h1 h2 => hW _ wipe_set2 (ed_var h2)) hm1 hm2) ed_i)) fun v H2 s2 hv => q v H2 (sall.trans s2) ?_
      rw [hmd] at hv
      exact hv
def Rneed_signature : List PyData → PyData → Prop
  | [d], r => (∃ sg, SgOk sg ∧ d = sigD sg) ∧ r = .none
  | _, _ => False
def Yneed_signature (K : PySem.W.Frag) : List PyData → Addr → Prop
  | [d], C => d = .tuple [] ∧ C = He.ga K "BadSignature"
  | _, _ => False
theorem sc_need_signature : FnScope ["signature"] ["signature"] (defScope s_need_signature) := ⟨rfl, rfl, rfl, by decide +kernel, rfl, by decide +kernel, by decide +kernel⟩
theorem ok_need_signature (T : Tx K mg)  : Cl P w K mg base (L2.CX P w) 4 "need_signature" ["signature"] (spX K Rneed_signature (Yneed_signature K)) := by
  obtain ⟨fd, F⟩ := T.f_need_signature
  refine ⟨_, fd, T.g_need_signature, F.kp, F.bindsN fun _ _ _ _ _ _ us hl => match us, hl with | [_], _ => rfl, F.ok sc_need_signature (fun vs H Q E h => ?_) (fun cdv A outer s H vs Q E hr h => ?_)⟩
  · obtain ⟨ds, hd, ⟨r, hR, _⟩ | ⟨C, hR, _⟩⟩ := h
    · match ds, hR with
      | [_], _ => exact hd.len
    · match ds, hR with
      | [_], _ => exact hd.len
  · refine ⟨_, (pss_one (ps_if (pt_not (pt_val (G.pe_cl (ok_is_signature T) hr (by decide) pass0 (pa_cons (pv 0) pa_nil)))) (pss_one (ps_raise rfl (takes_of rfl rfl rfl rfl) (pmk_own PySem.F.excBase_ValueError T.x_BadSignature.1 T.g_BadSignature T.x_BadSignature.2.1 (raises_own T.x_BadSignature.2.2.1 T.x_BadSignature.2.2.2) (by rfl)))) pss_nil)), ?_⟩
    obtain ⟨ds, hd, ⟨r, hR, q⟩ | ⟨C, hR, q⟩⟩ := h
    · match ds, vs, hd, hR with
      | [d0], [v0], .cons h0 .nil, hR =>
      obtain ⟨⟨sg, hs, rfl⟩, rfl⟩ := hR
      exact s_ifF (et_not (et_B (ed_call (ea_cons (ed_var h0) ea_nil) (.inr ⟨sg, hs.1, rfl, rfl⟩)))) (by simp [hs.2]) fun H' s => q _ _ s .non
    · match ds, vs, hd, hR with
      | [d0], [v0], .cons h0 .nil, hR =>
      obtain ⟨rfl, rfl⟩ := hR
      exact s_ifT (et_not (et_B (ed_call (ea_cons (ed_var h0) ea_nil) (.inl ⟨rfl, rfl⟩)))) rfl fun H' s => q _ s
end
end G


set_option Elab.async false
set_option linter.all false
set_option maxRecDepth 100000
set_option maxHeartbeats 4000000
namespace G
open PySem PySem.Spec PyProof.Rows L2
/-! ### right machines -/
theorem sig_at {sg : Sg} {f n : Nat} {x : Str} (h : sg[f]? = some (x, n)) : atI (sg.map entD) (f : Int) = some (entD (x, n)) := atI_nat (by rw [List.getElem?_map, h]; rfl)
theorem at0 {d : PyData} {ds : List PyData} : atI (d :: ds) 0 = some d := atI_nat (j := 0) rfl
theorem at1 {d e : PyData} {ds : List PyData} : atI (d :: e :: ds) 1 = some e := atI_nat (j := 1) rfl
structure MoOk (sg : Sg) (st : Nat) (m : Mo) : Prop where
  sym : ∃ x, sg[m.1]? = some (x, m.2.1.length)
  few : m.2.1.length ≤ 2
  fr : ∀ q ∈ m.2.1, q < st
  to : m.2.2 < st
structure MaOk (sg : Sg) (m : Ma) : Prop where
  st : m.st ≤ 300
  fm : m.mv.length ≤ 60
  fa : m.ac.length ≤ 60
  mo : ∀ x ∈ m.mv, MoOk sg m.st x
  am : Asc (m.mv.map moD)
  ac : ∀ q ∈ m.ac, q < m.st
  aa : Asc (nats m.ac)
theorem asc_zip {xs : List PyData} (h : Asc xs) : ∀ p ∈ xs.zip xs.tail, PySem.W.dataLt p.1 p.2 = true ∧ p.1 ∈ xs ∧ p.2 ∈ xs := by
  induction xs with
  | nil => intro p hp; simp at hp
  | cons a r ih =>
    intro p hp
    cases r with
    | nil => simp at hp
    | cons b r =>
      rw [List.tail_cons, List.zip_cons_cons] at hp
      rcases List.mem_cons.mp hp with rfl | hp
      · exact ⟨List.rel_of_pairwise_cons h List.mem_cons_self, by simp, by simp⟩
      · obtain ⟨h1, h2, h3⟩ := ih (List.Pairwise.of_cons h) p hp
        exact ⟨h1, List.mem_cons_of_mem _ h2, List.mem_cons_of_mem _ h3⟩
section
variable {P : Program} {w : World} {K : PySem.W.Frag} {mg : Str → Option Value} {base : Heap}
def Ris_asc : List PyData → PyData → Prop
  | [d], r => ∃ xs, d = .tuple xs ∧ Asc xs ∧ PySem.W.AllAlike xs ∧ (∀ x ∈ xs, x ≠ .none ∧ x.depth ≤ 60) ∧ xs.length ≤ 1000 ∧ r = .bool true
  | _, _ => False
theorem sc_is_ascending : FnScope ["thing", "one", "other"] ["thing"] (defScope s_is_ascending) := ⟨rfl, rfl, rfl, by decide +kernel, rfl, by decide +kernel, by decide +kernel⟩
theorem ok_is_ascending (T : Tx K mg)  : Cl P w K mg base CX0 2 "is_ascending" ["thing"] (spD K Ris_asc) := by
  obtain ⟨fd, F⟩ := T.f_is_ascending
  refine ⟨_, fd, T.g_is_ascending, F.kp, F.bindsN fun _ _ _ _ _ _ us hl => match us, hl with | [_], _ => rfl, F.ok sc_is_ascending (fun vs H Q E h => ?_) (fun cdv A outer s H vs Q E hr h => ?_)⟩
  · obtain ⟨ds, r, hd, hR, _⟩ := h
    match ds, hR with
    | [_], _ => exact hd.len
  · obtain ⟨ds, r, hd, hR, q⟩ := h
    match ds, vs, hd, hR with
    | [d0], [v0], .cons h0 .nil, hR =>
    refine ⟨_, PSs.nox (pss_one (ps_ret (pe_callB (cr_all rfl) (by rfl) T.b_all PyProof.Rows.Boot.«all» (pa_cons (pe_lc (own := [("one", 1), ("other", 2)]) (g := (gTup K 2 (gCons (gName 1) (gCons (gName 2) gNil)))) rfl sc_is_ascending.nd (RZ.pi_zipA (by rfl) T.b_zip (pa_cons (pv 0) (pa_cons (pe_slice sl_tupA (pv 0) (po_some pe_int) po_none) pa_nil))) (blkOk_by (own := [("one", 1), ("other", 2)]) (N := ["thing", "one", "other"]) (sc := defScope s_is_ascending) (by decide +kernel)) (fun _ _ _ _ _ => (pg_tup rfl (pgs_cons (pg_name (i := 1) sc_is_ascending.nd rfl (by first | exact Or.inl rfl | exact Or.inr rfl)) (pgs_cons (pg_name (i := 2) sc_is_ascending.nd rfl (by first | exact Or.inl rfl | exact Or.inr rfl)) pgs_nil)))) (fun _ _ _ _ _ => pts_nil) (fun _ _ _ _ _ => (show PE _ _ (tOp (rLtD K) (tVar 1) (tVar 2)) from (pe_cmpR (G.op_ltD hr.units) (pv 1) (pv 2) (nomark _))))) pa_nil)))), ?_⟩
    obtain ⟨xs, rfl, ha, hal, hx, hl, rfl⟩ := hR
    have hi : EvI K (RZ.iZipA K (tCons (tVar 0) (tCons (tSl (rSlA K) (tVar 0) (tPart (tC (.int 1))) tNoPart) tNil))) (L2.start ["thing", "one", "other"] [v0]) H ((xs.zip xs.tail).map fun p => .tuple [p.1, p.2]) := ei_zipT (ed_var h0 rfl) (ed_tailA (ed_var h0 rfl))
    refine s_ret ((ed_allM (xs.zip xs.tail) (fun p => .tuple [p.1, p.2]) (fun _ => true) hi (by simp; omega) fun p hp v H1 s hv W hW => g_pair hv fun w1 w2 d1 d2 => ?_).to (by simp)) q
    obtain ⟨a1, a2, a3⟩ := asc_zip ha p hp
    refine hW _ wipe_set2 ((ed_ltD (ed_var d1 rfl) (ed_var d2 rfl) (hal _ a2 _ a3) (hx _ a2).1 (hx _ a2).2).to (by rw [a1]))
def Ris_move : List PyData → PyData → Prop
  | [s, t, d], r => ∃ (sg : Sg) (st : Nat) (m : Mo), s = sigD sg ∧ sg.length ≤ 12 ∧ t = .int (st : Int) ∧ MoOk sg st m ∧ d = moD m ∧ r = .bool true
  | _, _ => False
theorem sc_is_move : FnScope ["signature", "states", "thing", "state"] ["signature", "states", "thing"] (defScope s_is_move) := ⟨rfl, rfl, rfl, by decide +kernel, rfl, by decide +kernel, by decide +kernel⟩
theorem ok_is_move (T : Tx K mg)  : Cl P w K mg base CX0 3 "is_move" ["signature", "states", "thing"] (spD K Ris_move) := by
  obtain ⟨fd, F⟩ := T.f_is_move
  refine ⟨_, fd, T.g_is_move, F.kp, F.bindsN fun _ _ _ _ _ _ us hl => match us, hl with | [_, _, _], _ => rfl, F.ok sc_is_move (fun vs H Q E h => ?_) (fun cdv A outer s H vs Q E hr h => ?_)⟩
  · obtain ⟨ds, r, hd, hR, _⟩ := h
    match ds, hR with
    | [_, _, _], _ => exact hd.len
  · obtain ⟨ds, r, hd, hR, q⟩ := h
    match ds, vs, hd, hR with
    | [d0, d1, d2], [v0, v1, v2], .cons h0 (.cons h1 (.cons h2 .nil)), hR =>
    refine ⟨_, PSs.nox (pss_cons (ps_if (PW.pt (pw_or (pt_not (pt_val (G.pe_cl (ok_is_row T) hr (by decide) pass0 (pa_cons (pv 2) (pa_cons pe_int (pa_cons pe_int pa_nil)))))) (pw_or1 (pt_not (pt_val (G.pe_cl (ok_within T) hr (by decide) pass0 (pa_cons (pe_ix ix_tup (pv 2) pe_int (fun _ _ => rfl)) (pa_cons pe_int (pa_cons (pe_op op_sub (pe_callB call_len_seq (by rfl) T.b_len PyProof.Rows.Boot.«len» (pa_cons (pv 0) pa_nil)) pe_int) pa_nil))))))))) (pss_one (ps_ret pe_bl)) pss_nil)
  (pss_cons (ps_if (pt_not (pt_val (G.pe_cl (ok_is_row T) hr (by decide) pass0 (pa_cons (pe_ix ix_tup (pv 2) pe_int (fun _ _ => rfl)) (pa_cons (pe_ix ix_tup (pe_ix ix_tup (pv 0) (pe_ix ix_tup (pv 2) pe_int (fun _ _ => rfl)) (fun _ _ => rfl)) pe_int (fun _ _ => rfl)) (pa_cons (pe_ix ix_tup (pe_ix ix_tup (pv 0) (pe_ix ix_tup (pv 2) pe_int (fun _ _ => rfl)) (fun _ _ => rfl)) pe_int (fun _ _ => rfl)) pa_nil)))))) (pss_one (ps_ret pe_bl)) pss_nil)
  (pss_one (ps_ret (pe_callB (cr_all rfl) (by rfl) T.b_all PyProof.Rows.Boot.«all» (pa_cons (pe_lc (own := [("state", 3)]) (g := (gName 3)) rfl sc_is_move.nd (pi_tup (pe_op op_catA (pe_ix ix_tup (pv 2) pe_int (fun _ _ => rfl)) (pe_tup (pa_cons (pe_ix ix_tup (pv 2) pe_int (fun _ _ => rfl)) pa_nil)))) (blkOk_by (own := [("state", 3)]) (N := ["signature", "states", "thing", "state"]) (sc := defScope s_is_move) (by decide +kernel)) (fun _ _ _ _ _ => (pg_name (i := 3) sc_is_move.nd rfl (by first | exact Or.inl rfl | exact Or.inr rfl))) (fun _ _ _ _ _ => pts_nil) (fun _ _ _ _ _ => (G.pe_cl (ok_within T) hr (by decide) pass0 (pa_cons (pv 3) (pa_cons pe_int (pa_cons (pe_op op_sub (pv 1) pe_int) pa_nil)))))) pa_nil)))))), ?_⟩
    obtain ⟨sg, st, m, rfl, hf, rfl, ok, rfl, rfl⟩ := hR
    obtain ⟨x, hx⟩ := ok.sym
    have hlt := (List.getElem?_eq_some_iff.mp hx).1
    have hfew := ok.few
    have dS : ∀ {σ : L2.St} {H1 : Hp} {v : V}, σ[0]? = some (some v) → Dp K H1 v (sigD sg) → EvD K (tVar 0) σ H1 (.tuple (sg.map entD)) := fun h1 h2 => ed_var h2 h1
    have d0 : ∀ {σ : L2.St} {H1 : Hp} {v : V}, σ[2]? = some (some v) → Dp K H1 v (moD m) → EvD K (tOp (rIxT K) (tVar 2) (tC (.int 0))) σ H1 (.int (m.1 : Int)) := fun h1 h2 => ed_ixT (ds := [.int (m.1 : Int), .tuple (nats m.2.1), .int (m.2.2 : Int)]) (ed_var h2 h1) ed_i (atI_nat (j := 0) rfl)
    have d1 : ∀ {σ : L2.St} {H1 : Hp} {v : V}, σ[2]? = some (some v) → Dp K H1 v (moD m) → EvD K (tOp (rIxT K) (tVar 2) (tC (.int 1))) σ H1 (.tuple (nats m.2.1)) := fun h1 h2 => ed_ixT (ds := [.int (m.1 : Int), .tuple (nats m.2.1), .int (m.2.2 : Int)]) (ed_var h2 h1) ed_i (atI_nat (j := 1) rfl)
    have d2 : ∀ {σ : L2.St} {H1 : Hp} {v : V}, σ[2]? = some (some v) → Dp K H1 v (moD m) → EvD K (tOp (rIxT K) (tVar 2) (tC (.int 2))) σ H1 (.int (m.2.2 : Int)) := fun h1 h2 => ed_ixT (ds := [.int (m.1 : Int), .tuple (nats m.2.1), .int (m.2.2 : Int)]) (ed_var h2 h1) ed_i (atI_nat (j := 2) rfl)
    have dar : ∀ {σ : L2.St} {H1 : Hp} {v v2 : V}, σ[0]? = some (some v) → Dp K H1 v (sigD sg) → σ[2]? = some (some v2) → Dp K H1 v2 (moD m) → EvD K (tOp (rIxT K) (tOp (rIxT K) (tVar 0) (tOp (rIxT K) (tVar 2) (tC (.int 0)))) (tC (.int 1))) σ H1 (.int ((m.2.1.length : Nat) : Int)) := fun h1 h2 h3 h4 => ed_ixT (ds := [.str x, .int ((m.2.1.length : Nat) : Int)]) (ed_ixT (dS h1 h2) (d0 h3 h4) (sig_at hx)) ed_i (atI_nat (j := 1) rfl)
    refine s_ifF (et_orF (et_not (et_test (ed_call (ea_cons (ed_var h2 rfl) (ea_cons ed_i (ea_cons ed_i ea_nil))) ⟨3, 3, rfl, rfl, rfl⟩))) (by simp [moD, isRow]) (et_not (et_test (ed_call (ea_cons (d0 rfl h2) (ea_cons ed_i (ea_cons (ed_sub (ed_lenT (dS rfl h0)) ed_i) ea_nil))) ⟨0, _, rfl, rfl, rfl⟩)))) (by simp [isIn]; omega) fun H1 s1 => ?_
    have k0 := dp_same s1 _ _ h0
    have k2 := dp_same s1 _ _ h2
    have k1 := dp_same s1 _ _ h1
    refine s_ifF (et_not (et_test (ed_call (ea_cons (d1 rfl k2) (ea_cons (dar rfl k0 rfl k2) (ea_cons (dar rfl k0 rfl k2) ea_nil))) ⟨_, _, rfl, rfl, rfl⟩))) (by simp [isRow, nats_len]) fun H2 s2 => ?_
    have k0 := dp_same s2 _ _ k0
    have k2 := dp_same s2 _ _ k2
    have k1 := dp_same s2 _ _ k1
    refine s_ret ((ed_allM (m.2.1 ++ [m.2.2]) (fun q => .int (q : Int)) (fun _ => true) (ei_tup ((ed_catT (d1 rfl k2) (ed_tup (ea_cons (d2 rfl k2) ea_nil) (by simp)) (by simp [nats_len]; omega)).to (by simp [nats]))) (by simp; omega) fun p hp v H3 s3 hv W hW => hW _ wipe_set1 ((ed_call (ea_cons (ed_var hv rfl) (ea_cons ed_i (ea_cons (ed_sub (ed_var (dp_same s3 _ _ k1) rfl) ed_i) ea_nil))) ⟨0, _, rfl, rfl, rfl⟩).to ?_)).to (by simp)) fun v H4 s4 hv => q v H4 ((s1.trans s2).trans s4) hv
    have : p < st := by
      rcases List.mem_append.mp hp with z | z
      · exact ok.fr p z
      · rw [List.mem_singleton.mp z]; exact ok.to
    simp [isIn]; omega
end
end G


set_option Elab.async false
set_option linter.all false
set_option maxRecDepth 100000
set_option maxHeartbeats 4000000
namespace G
open PySem PySem.Spec PyProof.Rows L2
theorem moD_depth (m : Mo) : (moD m).depth ≤ 60 := by have := kd_depth 8 _ (moD_kd m); omega
section
variable {P : Program} {w : World} {K : PySem.W.Frag} {mg : Str → Option Value} {base : Heap}
def Ris_any : List PyData → PyData → Prop
  | [s, d], r => ∃ (sg : Sg) (m : Ma), s = sigD sg ∧ sg.length ≤ 12 ∧ MaOk sg m ∧ d = maD m ∧ r = .bool true
  | _, _ => False
theorem sc_is_any_machine : FnScope ["signature", "thing", "states", "moves", "accepted", "move", "state"] ["signature", "thing"] (defScope s_is_any_machine) := ⟨rfl, rfl, rfl, by decide +kernel, rfl, by decide +kernel, by decide +kernel⟩
theorem ok_is_any_machine (T : Tx K mg)  : Cl P w K mg base CX0 4 "is_any_machine" ["signature", "thing"] (spD K Ris_any) := by
  obtain ⟨fd, F⟩ := T.f_is_any_machine
  refine ⟨_, fd, T.g_is_any_machine, F.kp, F.bindsN fun _ _ _ _ _ _ us hl => match us, hl with | [_, _], _ => rfl, F.ok sc_is_any_machine (fun vs H Q E h => ?_) (fun cdv A outer s H vs Q E hr h => ?_)⟩
  · obtain ⟨ds, r, hd, hR, _⟩ := h
    match ds, hR with
    | [_, _], _ => exact hd.len
  · obtain ⟨ds, r, hd, hR, q⟩ := h
    match ds, vs, hd, hR with
    | [d0, d1], [v0, v1], .cons h0 (.cons h1 .nil), hR =>
    refine ⟨_, PSs.nox (pss_cons (ps_if (PW.pt (pw_or (pt_not (pt_val (G.pe_cl (ok_is_row T) hr (by decide) pass0 (pa_cons (pv 1) (pa_cons pe_int (pa_cons pe_int pa_nil)))))) (pw_or (pt_not (pt_val (G.pe_cl (ok_is_int T) hr (by decide) pass0 (pa_cons (pe_ix ix_tup (pv 1) pe_int (fun _ _ => rfl)) pa_nil)))) (pw_or1 (pt_cmpR op_lt (pe_ix ix_tup (pv 1) pe_int (fun _ _ => rfl)) pe_int (nomark _)))))) (pss_one (ps_ret pe_bl)) pss_nil)
  (pss_cons (ps_asg (pv 1) (pg_tup rfl (pgs_cons (pg_name (i := 2) sc_is_any_machine.nd rfl (by first | exact Or.inl rfl | exact Or.inr rfl)) (pgs_cons (pg_name (i := 3) sc_is_any_machine.nd rfl (by first | exact Or.inl rfl | exact Or.inr rfl)) (pgs_cons (pg_name (i := 4) sc_is_any_machine.nd rfl (by first | exact Or.inl rfl | exact Or.inr rfl)) pgs_nil)))))
  (pss_cons (ps_if (PW.pt (pw_or (pt_not (pt_val (pe_callB call_isi (by rfl) T.b_isinstance PyProof.Rows.Boot.«isinstance» (pa_cons (pv 3) (pa_cons (pe_bltn (v := .ty "tuple") (by rfl) T.b_tuple PyProof.Rows.Boot.«tuple» rfl) pa_nil))))) (pw_or1 (pt_not (pt_val (pe_callB (cr_all rfl) (by rfl) T.b_all PyProof.Rows.Boot.«all» (pa_cons (pe_lc (own := [("move", 5)]) (g := (gName 5)) rfl sc_is_any_machine.nd (pi_tup (pv 3)) (blkOk_by (own := [("move", 5)]) (N := ["signature", "thing", "states", "moves", "accepted", "move", "state"]) (sc := defScope s_is_any_machine) (by decide +kernel)) (fun _ _ _ _ _ => (pg_name (i := 5) sc_is_any_machine.nd rfl (by first | exact Or.inl rfl | exact Or.inr rfl))) (fun _ _ _ _ _ => pts_nil) (fun _ _ _ _ _ => (G.pe_cl (ok_is_move T) hr (by decide) pass0 (pa_cons (pv 0) (pa_cons (pv 2) (pa_cons (pv 5) pa_nil)))))) pa_nil))))))) (pss_one (ps_ret pe_bl)) pss_nil)
  (pss_cons (ps_if (PW.pt (pw_or (pt_not (pt_val (pe_callB call_isi (by rfl) T.b_isinstance PyProof.Rows.Boot.«isinstance» (pa_cons (pv 4) (pa_cons (pe_bltn (v := .ty "tuple") (by rfl) T.b_tuple PyProof.Rows.Boot.«tuple» rfl) pa_nil))))) (pw_or1 (pt_not (pt_val (pe_callB (cr_all rfl) (by rfl) T.b_all PyProof.Rows.Boot.«all» (pa_cons (pe_lc (own := [("state", 6)]) (g := (gName 6)) rfl sc_is_any_machine.nd (pi_tup (pv 4)) (blkOk_by (own := [("state", 6)]) (N := ["signature", "thing", "states", "moves", "accepted", "move", "state"]) (sc := defScope s_is_any_machine) (by decide +kernel)) (fun _ _ _ _ _ => (pg_name (i := 6) sc_is_any_machine.nd rfl (by first | exact Or.inl rfl | exact Or.inr rfl))) (fun _ _ _ _ _ => pts_nil) (fun _ _ _ _ _ => (G.pe_cl (ok_within T) hr (by decide) pass0 (pa_cons (pv 6) (pa_cons pe_int (pa_cons (pe_op op_sub (pv 2) pe_int) pa_nil)))))) pa_nil))))))) (pss_one (ps_ret pe_bl)) pss_nil)
  (pss_one (ps_ret (pe_and (G.pe_cl (ok_is_ascending T) hr (by decide) pass0 (pa_cons (pv 3) pa_nil)) (pe_one (G.pe_cl (ok_is_ascending T) hr (by decide) pass0 (pa_cons (pv 4) pa_nil)))))))))), ?_⟩
    obtain ⟨sg, m, rfl, hf, ok, rfl, rfl⟩ := hR
    have hfm := ok.fm
    have hfa := ok.fa
    have d0 : ∀ {σ : L2.St} {H1 : Hp} {v : V}, σ[1]? = some (some v) → Dp K H1 v (maD m) → EvD K (tOp (rIxT K) (tVar 1) (tC (.int 0))) σ H1 (.int (m.st : Int)) := fun h1 h2 => ed_ixT (ds := [.int (m.st : Int), .tuple (m.mv.map moD), .tuple (nats m.ac)]) (ed_var h2 h1) ed_i (atI_nat (j := 0) rfl)
    refine s_ifF (et_orF (et_not (et_test (ed_call (ea_cons (ed_var h1 rfl) (ea_cons ed_i (ea_cons ed_i ea_nil))) ⟨3, 3, rfl, rfl, rfl⟩))) (by simp [maD, isRow]) (et_orF (et_not (et_test (ed_call (ea_cons (d0 rfl h1) ea_nil) rfl))) rfl (et_test (ed_lt (d0 rfl h1) ed_i)))) (by simp) fun H1 s1 => ?_
    have k0 := dp_same s1 _ _ h0
    have k1 := dp_same s1 _ _ h1
    refine (ed_var (K := K) (i := 1) k1 rfl) H1 (Same.refl H1) _ fun v H2 s2 hv => g_trip hv fun v2 v3 v4 e2 e3 e4 => ?_
    have k0 := dp_same s2 _ _ k0
    refine s_ifF (et_orF (et_not (et_test (ed_isi (ed_var e3 rfl) (kit_T _)))) rfl (et_not (et_test (ed_allM m.mv moD (fun _ => true) (ei_tup (ed_var e3 rfl)) (by omega) fun p hp v H3 s3 hv W hW => hW _ wipe_set1
      (ed_call (ea_cons (ed_var (dp_same s3 _ _ k0) rfl) (ea_cons (ed_var (dp_same s3 _ _ e2) rfl) (ea_cons (ed_var hv rfl) ea_nil))) ⟨sg, m.st, p, rfl, hf, rfl, ok.mo p hp, rfl, rfl⟩))))) (by simp) fun H3 s3 => ?_
    have e2 := dp_same s3 _ _ e2
    have e3 := dp_same s3 _ _ e3
    have e4 := dp_same s3 _ _ e4
    refine s_ifF (et_orF (et_not (et_test (ed_isi (ed_var e4 rfl) (kit_T _)))) rfl (et_not (et_test (ed_allM m.ac (fun q => .int (q : Int)) (fun _ => true) (ei_tup (ed_var e4 rfl)) (by omega) fun p hp v H4 s4 hv W hW => hW _ wipe_set1
      ((ed_call (ea_cons (ed_var hv rfl) (ea_cons ed_i (ea_cons (ed_sub (ed_var (dp_same s4 _ _ e2) rfl) ed_i) ea_nil))) ⟨0, _, rfl, rfl, rfl⟩).to (by have := ok.ac p hp; simp [isIn]; omega)))))) (by simp) fun H4 s4 => ?_
    refine s_ret ((ed_and (a := true) (b := true) (ed_call (ea_cons (ed_var (dp_same s4 _ _ e3) rfl) ea_nil) ⟨_, rfl, ok.am, mos_alike _, fun x hx => ?_, by rw [List.length_map]; omega, rfl⟩) fun _ =>
      ed_call (ea_cons (ed_var (dp_same s4 _ _ e4) rfl) ea_nil) ⟨_, rfl, ok.aa, fun d hd e he => ?_, fun x hx => ?_, by rw [nats_len]; omega, rfl⟩).to rfl) fun v H5 s5 hv => q v H5 ((((s1.trans s2).trans s3).trans s4).trans s5) hv
    · obtain ⟨y, _, rfl⟩ := List.mem_map.mp hx
      exact ⟨fun z => by simp [moD] at z, moD_depth y⟩
    · obtain ⟨a, _, rfl⟩ := List.mem_map.mp hd
      obtain ⟨b, _, rfl⟩ := List.mem_map.mp he
      rfl
    · obtain ⟨y, _, rfl⟩ := List.mem_map.mp hx
      exact ⟨fun z => by simp at z, by simp [PyData.depth]⟩
def Ris_smallM : List PyData → PyData → Prop
  | [s, d], r => ∃ (sg : Sg), s = sigD sg ∧ sg.length ≤ 12 ∧ ((isRow d 3 3 = false ∧ r = .bool false) ∨ ∃ m : Ma, MaOk sg m ∧ d = maD m ∧ r = .bool true)
  | _, _ => False
theorem sc_is_small_machine : FnScope ["signature", "thing"] ["signature", "thing"] (defScope s_is_small_machine) := ⟨rfl, rfl, rfl, by decide +kernel, rfl, by decide +kernel, by decide +kernel⟩
theorem ok_is_small_machine (T : Tx K mg)  : Cl P w K mg base CX0 5 "is_small_machine" ["signature", "thing"] (spD K Ris_smallM) := by
  obtain ⟨fd, F⟩ := T.f_is_small_machine
  refine ⟨_, fd, T.g_is_small_machine, F.kp, F.bindsN fun _ _ _ _ _ _ us hl => match us, hl with | [_, _], _ => rfl, F.ok sc_is_small_machine (fun vs H Q E h => ?_) (fun cdv A outer s H vs Q E hr h => ?_)⟩
  · obtain ⟨ds, r, hd, hR, _⟩ := h
    match ds, hR with
    | [_, _], _ => exact hd.len
  · obtain ⟨ds, r, hd, hR, q⟩ := h
    match ds, vs, hd, hR with
    | [d0, d1], [v0, v1], .cons h0 (.cons h1 .nil), hR =>
    refine ⟨_, PSs.nox (pss_cons (ps_if (PW.pt (pw_or (pt_not (pt_val (G.pe_cl (ok_is_row T) hr (by decide) pass0 (pa_cons (pv 1) (pa_cons pe_int (pa_cons pe_int pa_nil)))))) (pw_or (pt_not (pt_val (G.pe_cl (ok_within T) hr (by decide) pass0 (pa_cons (pe_ix ix_tup (pv 1) pe_int (fun _ _ => rfl)) (pa_cons pe_int (pa_cons (G.pe_ki (by rfl) T.c_MOST_STATES) pa_nil)))))) (pw_or1 (pt_not (pt_val (G.pe_cl (ok_is_row T) hr (by decide) pass0 (pa_cons (pe_ix ix_tup (pv 1) pe_int (fun _ _ => rfl)) (pa_cons pe_int (pa_cons (G.pe_ki (by rfl) T.c_MOST_MOVES) pa_nil)))))))))) (pss_one (ps_ret pe_bl)) pss_nil)
  (pss_one (ps_ret (G.pe_cl (ok_is_any_machine T) hr (by decide) pass0 (pa_cons (pv 0) (pa_cons (pv 1) pa_nil)))))), ?_⟩
    obtain ⟨sg, rfl, hf, ⟨hn, rfl⟩ | ⟨m, ok, rfl, rfl⟩⟩ := hR
    · exact s_ifT (et_orT (et_not (et_test (ed_call (ea_cons (ed_var h1 rfl) (ea_cons ed_i (ea_cons ed_i ea_nil))) ⟨3, 3, rfl, rfl, rfl⟩))) (by rw [hn]; rfl)) rfl fun H' s => s_ret ed_b fun v H2 s2 hv => q v H2 (s.trans s2) hv
    · have hfm := ok.fm
      have hst := ok.st
      refine s_ifF (et_orF (et_not (et_test (ed_call (ea_cons (ed_var h1 rfl) (ea_cons ed_i (ea_cons ed_i ea_nil))) ⟨3, 3, rfl, rfl, rfl⟩))) (by simp [maD, isRow])
        (et_orF (et_not (et_test (ed_call (ea_cons (ed_ixT (ds := [.int (m.st : Int), .tuple (m.mv.map moD), .tuple (nats m.ac)]) (ed_var h1 rfl) ed_i (atI_nat (j := 0) rfl)) (ea_cons ed_i (ea_cons ed_i ea_nil))) ⟨0, 300, rfl, rfl, rfl⟩))) (by simp [isIn]; omega)
          (et_not (et_test (ed_call (ea_cons (ed_ixT (ds := [.int (m.st : Int), .tuple (m.mv.map moD), .tuple (nats m.ac)]) (ed_var h1 rfl) ed_i (atI_nat (j := 1) rfl)) (ea_cons ed_i (ea_cons ed_i ea_nil))) ⟨0, 5000, rfl, rfl, rfl⟩))))) (by simp [isRow]; omega) fun H1 s1 => ?_
      exact s_ret (ed_call (ea_cons (ed_var (dp_same s1 _ _ h0) rfl) (ea_cons (ed_var (dp_same s1 _ _ h1) rfl) ea_nil)) ⟨sg, m, rfl, hf, ok, rfl, rfl⟩) fun v H2 s2 hv => q v H2 (s1.trans s2) hv
def Ris_machine : List PyData → PyData → Prop
  | [s, d], r => ∃ (sg : Sg), s = sigD sg ∧ SgOk sg ∧ ((isRow d 3 3 = false ∧ r = .bool false) ∨ ∃ m : Ma, MaOk sg m ∧ d = maD m ∧ r = .bool true)
  | _, _ => False
def YSig2 (K : PySem.W.Frag) : List PyData → Addr → Prop
  | [d, _], C => d = .tuple [] ∧ C = He.ga K "BadSignature"
  | _, _ => False
theorem sc_is_machine : FnScope ["signature", "thing"] ["signature", "thing"] (defScope s_is_machine) := ⟨rfl, rfl, rfl, by decide +kernel, rfl, by decide +kernel, by decide +kernel⟩
theorem ok_is_machine (T : Tx K mg)  : Cl P w K mg base (L2.CX P w) 6 "is_machine" ["signature", "thing"] (spX K Ris_machine (YSig2 K)) := by
  obtain ⟨fd, F⟩ := T.f_is_machine
  refine ⟨_, fd, T.g_is_machine, F.kp, F.bindsN fun _ _ _ _ _ _ us hl => match us, hl with | [_, _], _ => rfl, F.ok sc_is_machine (fun vs H Q E h => ?_) (fun cdv A outer s H vs Q E hr h => ?_)⟩
  · obtain ⟨ds, hd, ⟨r, hR, _⟩ | ⟨C, hR, _⟩⟩ := h
    · match ds, hR with
      | [_, _], _ => exact hd.len
    · match ds, hR with
      | [_, _], _ => exact hd.len
  · refine ⟨_, (pss_cons (ps_expr (G.pe_cl (ok_need_signature T) hr (by decide) (passes_call (takes_of rfl rfl rfl rfl) (fun _ _ _ _ h => h)) (pa_cons (pv 0) pa_nil)))
  (pss_one (ps_ret (G.pe_cl (ok_is_small_machine T) hr (by decide) pass0 (pa_cons (pv 0) (pa_cons (pv 1) pa_nil)))))), ?_⟩
    obtain ⟨ds, hd, ⟨r, hR, q⟩ | ⟨C, hR, q⟩⟩ := h
    · match ds, vs, hd, hR with
      | [d0, d1], [v0, v1], .cons h0 (.cons h1 .nil), hR =>
      obtain ⟨sg, rfl, hs, hR⟩ := hR
      refine s_drop (K := K) (ed_callX (ea_cons (ed_var h0) ea_nil) ⟨⟨sg, hs, rfl⟩, rfl⟩) fun H' s => ?_
      exact s_ret (ed_call (ea_cons (ed_var (dp_same s _ _ h0)) (ea_cons (ed_var (dp_same s _ _ h1)) ea_nil)) ⟨sg, rfl, hs.1.few, hR⟩) fun v H2 s2 hv => q v H2 (s.trans s2) hv
    · match ds, vs, hd, hR with
      | [d0, d1], [v0, v1], .cons h0 (.cons h1 .nil), hR =>
      obtain ⟨rfl, rfl⟩ := hR
      exact er_callX (ea_cons (ed_var h0) ea_nil) ⟨rfl, rfl⟩ q
def Rneed_machine : List PyData → PyData → Prop
  | [s, d], r => ∃ sg, s = sigD sg ∧ SgOk sg ∧ r = .none ∧ ∃ m, MaOk sg m ∧ d = maD m
  | _, _ => False
def Yneed_machine (K : PySem.W.Frag) : List PyData → Addr → Prop
  | [d, e], C => (d = .tuple [] ∧ C = He.ga K "BadSignature") ∨ (isRow e 3 3 = false ∧ C = He.ga K "BadMachine" ∧ ∃ sg, SgOk sg ∧ d = sigD sg)
  | _, _ => False
theorem sc_need_machine : FnScope ["signature", "machine"] ["signature", "machine"] (defScope s_need_machine) := ⟨rfl, rfl, rfl, by decide +kernel, rfl, by decide +kernel, by decide +kernel⟩
theorem ok_need_machine (T : Tx K mg)  : Cl P w K mg base (L2.CX P w) 7 "need_machine" ["signature", "machine"] (spX K Rneed_machine (Yneed_machine K)) := by
  obtain ⟨fd, F⟩ := T.f_need_machine
  refine ⟨_, fd, T.g_need_machine, F.kp, F.bindsN fun _ _ _ _ _ _ us hl => match us, hl with | [_, _], _ => rfl, F.ok sc_need_machine (fun vs H Q E h => ?_) (fun cdv A outer s H vs Q E hr h => ?_)⟩
  · obtain ⟨ds, hd, ⟨r, hR, _⟩ | ⟨C, hR, _⟩⟩ := h
    · match ds, hR with
      | [_, _], _ => exact hd.len
    · match ds, hR with
      | [_, _], _ => exact hd.len
  · refine ⟨_, (pss_one (ps_if (pt_not (pt_val (G.pe_cl (ok_is_machine T) hr (by decide) (passes_call (takes_of rfl rfl rfl rfl) (fun _ _ _ _ h => h)) (pa_cons (pv 0) (pa_cons (pv 1) pa_nil))))) (pss_one (ps_raise rfl (takes_of rfl rfl rfl rfl) (pmk_own PySem.F.excBase_ValueError T.x_BadMachine.1 T.g_BadMachine T.x_BadMachine.2.1 (raises_own T.x_BadMachine.2.2.1 T.x_BadMachine.2.2.2) (by rfl)))) pss_nil)), ?_⟩
    obtain ⟨ds, hd, ⟨r, hR, q⟩ | ⟨C, hR, q⟩⟩ := h
    · match ds, vs, hd, hR with
      | [d0, d1], [v0, v1], .cons h0 (.cons h1 .nil), hR =>
      obtain ⟨sg, rfl, hs, rfl, t, ht, rfl⟩ := hR
      exact s_ifF (et_not (et_B (ed_callX (ea_cons (ed_var h0) (ea_cons (ed_var h1) ea_nil)) ⟨sg, rfl, hs, .inr ⟨t, ht, rfl, rfl⟩⟩))) rfl fun H' s => q _ _ s .non
    · match ds, vs, hd, hR with
      | [d0, d1], [v0, v1], .cons h0 (.cons h1 .nil), hR =>
      rcases hR with ⟨rfl, rfl⟩ | ⟨hn, rfl, sg, hs, rfl⟩
      · exact er_callX (ea_cons (ed_var h0) (ea_cons (ed_var h1) ea_nil)) ⟨rfl, rfl⟩ q
      · exact s_ifT (et_not (et_B (ed_callX (ea_cons (ed_var h0) (ea_cons (ed_var h1) ea_nil)) ⟨sg, rfl, hs, .inl ⟨hn, rfl⟩⟩))) rfl fun H' s => q _ s
end
end G


set_option Elab.async false
set_option linter.all false
set_option maxRecDepth 100000
set_option maxHeartbeats 4000000
namespace G
open PySem PySem.Spec PyProof.Rows L2
section
variable {P : Program} {w : World} {K : PySem.W.Frag} {mg : Str → Option Value} {base : Heap}
/-- a new list comes back -/
def spN (K : PySem.W.Frag) (R : List PyData → List PyData → Prop) : Sp := fun vs H Q _ => ∃ ds rs, DpAll K H vs ds ∧ R ds rs ∧ ∀ p us H', Same H H' → H p = none → H' p = some (.lst us) → DpAll K H' us rs → Q (.ref p) H'
theorem en_call {σ : L2.St} {H : Hp} {R : List PyData → List PyData → Prop} {E : XK} {ts : TA} {ds rs : List PyData} (h : EvA K ts σ H ds) (hR : R ds rs) : EvN K (tCall (spN K R) [] E ts) σ H rs := fun H1 s Q q => h H1 s _ fun vs H2 s2 hv =>
  ⟨ds, rs, by rw [List.append_nil]; exact hv, hR, fun p us H3 s3 hp h3 h4 => q p us H3 (s2.trans s3) (back s2 hp) h3 h4⟩
theorem at_of {l r : List Nat} {a c : Nat} (h : l.drop a = c :: r) : l[a]? = some c ∧ a < l.length ∧ l.drop (a + 1) = r ∧ l.length = a + (r.length + 1) := by
  have h1 : a < l.length := by
    rcases Nat.lt_or_ge a l.length with h1 | h1
    · exact h1
    · rw [List.drop_eq_nil_of_le h1] at h; cases h
  rw [List.drop_eq_getElem_cons h1] at h
  injection h with h2 h3
  have h4 : r.length = l.length - (a + 1) := by rw [← h3, List.length_drop]
  exact ⟨by rw [List.getElem?_eq_getElem h1, h2], h1, h3, by omega⟩
def Rwords_in : List PyData → List PyData → Prop
  | [d], rs => ∃ l : List Nat, l.length ≤ 50000 ∧ d = .str (S l) ∧ rs = (wordsOf l).map wordD
  | _, _ => False
theorem sc_words_in : FnScope ["text", "found", "at", "begin"] ["text"] (defScope s_words_in) := ⟨rfl, rfl, rfl, by decide +kernel, rfl, by decide +kernel, by decide +kernel⟩
theorem ok_words_in (T : Tx K mg)  : Cl P w K mg base CX0 1 "words_in" ["text"] (spN K Rwords_in) := by
  obtain ⟨fd, F⟩ := T.f_words_in
  refine ⟨_, fd, T.g_words_in, F.kp, F.bindsN fun _ _ _ _ _ _ us hl => match us, hl with | [_], _ => rfl, F.ok sc_words_in (fun vs H Q E h => ?_) (fun cdv A outer s H vs Q E hr h => ?_)⟩
  · obtain ⟨ds, rs, hd, hR, _⟩ := h
    match ds, hR with
    | [_], _ => exact hd.len
  · obtain ⟨ds, rs, hd, hR, q⟩ := h
    match ds, vs, hd, hR with
    | [d0], [v0], .cons h0 .nil, hR =>
    refine ⟨_, PSs.nox (pss_cons (ps_par (i := 1) (j := 2) rfl sc_words_in.nd rfl rfl (by decide) rfl rfl (pa_cons (pe_lst pa_nil) (pa_cons pe_int pa_nil)) (by rfl))
  (pss_cons (ps_while PassesOwn.never (pt_cmpR op_lt (pv 2) (pe_callB call_len_str (by rfl) T.b_len PyProof.Rows.Boot.«len» (pa_cons (pv 0) pa_nil)) (nomark _)) (pss_cons (ps_set (i := 3) sc_words_in.nd rfl (by first | exact Or.inl rfl | exact Or.inr rfl) (pv 2))
  (pss_cons (ps_aug (i := 2) sc_words_in.nd rfl (Or.inl rfl) pe_int ip_add)
  (C8.pss_cut (ps_if (pt_cmpR G.op_inS (pe_ix ix_str (pv 0) (pv 3) (fun _ _ => rfl)) (G.pe_ks (by rfl) T.c_RUNS) rfl) (pss_one (ps_while PassesOwn.never (PW.pt (pw_and (pt_cmpR op_lt (pv 2) (pe_callB call_len_str (by rfl) T.b_len PyProof.Rows.Boot.«len» (pa_cons (pv 0) pa_nil)) (nomark _)) (pw_and1 (pt_cmpR G.op_inS (pe_ix ix_str (pv 0) (pv 2) (fun _ _ => rfl)) (G.pe_ks (by rfl) T.c_RUNS) rfl)))) (pss_one (ps_aug (i := 2) sc_words_in.nd rfl (Or.inl rfl) pe_int ip_add)))) (pss_one (ps_if (pt_cmpR op_eq (pe_slice sl_str (pv 0) (po_some (pv 3)) (po_some (pe_op op_add (pv 3) pe_int))) pe_str (nomark _)) (pss_one (ps_aug (i := 2) sc_words_in.nd rfl (Or.inl rfl) pe_int ip_add)) pss_nil)))
  (pss_one (ps_if (pt_cmpR G.op_notInS (pe_ix ix_str (pv 0) (pv 3) (fun _ _ => rfl)) (G.pe_ks (by rfl) T.c_BLANKS) rfl) (pss_one (ps_expr (pe_bm PySem.F.plainAttrs_list PySem.F.slot_list_append PySem.F.type_list_append mt_append (pv 1) (pa_cons (pe_tup (pa_cons (pe_slice sl_str (pv 0) (po_some (pv 3)) (po_some (pv 2))) (pa_cons (pv 3) pa_nil))) pa_nil)))) pss_nil))))))
  (pss_one (ps_ret (pv 1))))), ?_⟩
    obtain ⟨l, hl, rfl, rfl⟩ := hR
    refine s_parN (K := K) (en_lst ea_nil (by decide)) ed_i fun F vs w H' s hn hp hvs hw => ?_
    obtain rfl := dpI hw
    cases hvs
    refine s_while (W := fun m σ' H1 => ∃ (a : Nat) (acc : List (List Nat × Nat)) (us : List V) (x3 : Option V), σ' = [some v0, some (.ref F), some (.int (a : Int)), x3] ∧ Same H H1 ∧ H1 F = some (.lst us) ∧ DpAll K H1 us (acc.map wordD) ∧
      acc ++ wordsF (l.length - a) a (l.drop a) = wordsOf l ∧ a ≤ l.length ∧ acc.length ≤ a ∧ m = l.length - a) (m0 := l.length)
      ⟨0, [], [], none, rfl, s, hp, .nil, by simp [wordsOf], Nat.zero_le _, Nat.le_refl _, rfl⟩ ?_
    rintro m σ' H1 ⟨a, acc, us, x3, rfl, s1, hF, hus, hws, hal, hacc, rfl⟩
    refine ⟨_, et_test (K := K) (ed_lt (ed_vi rfl) (ed_lenS (ed_var (dp_same s1 _ _ h0)) (by rw [S_len]; omega))), fun H2 s2 => ⟨fun hb => ?_, fun hb => ?_⟩⟩
    · have hb := of_decide_eq_true hb
      rw [S_len] at hb
      obtain ⟨c, r, hcr⟩ : ∃ c r, l.drop a = c :: r := ⟨_, _, List.drop_eq_getElem_cons (by omega)⟩
      obtain ⟨hc, ha, hr, hlen⟩ := at_of hcr
      have hd2 : Dp K H2 v0 (.str (S l)) := dp_same (s1.trans s2) _ _ h0
      have hsz : l.length ≤ 100000 := by omega
      refine s_set (K := K) (ed_vi rfl) fun v H3 s3 hv => ?_
      obtain rfl := dpI hv
      refine s_aug (K := K) rfl ed_i fun H4 s4 => ?_
      have s24 := s3.trans s4
      have hd4 : Dp K H4 v0 (.str (S l)) := dp_same s24 _ _ hd2
      refine ⟨fun σ5 H5 => σ5 = [some v0, some (.ref F), some (.int ((a + tok c r : Nat) : Int)), some (.int (a : Int))] ∧ Same H4 H5, ?_, ?_⟩
      · refine s_if (et_test ((ed_inS (ed_sign (ed_var hd4) (ed_vi rfl) hsz hc) ed_s).to (congrArg PyData.bool (inRuns c)))) (fun hrun H5 s5 => ?_) (fun hrun H5 s5 => ?_)
        · refine s_while (W := fun m σ' H6 => ∃ k : Nat, σ' = [some v0, some (.ref F), some (.int ((a + 1 + k : Nat) : Int)), some (.int (a : Int))] ∧ Same H4 H6 ∧ runN r = k + runN (r.drop k) ∧ m = r.length - k ∧ k ≤ r.length) (m0 := r.length) ⟨0, rfl, s5, by simp, rfl, Nat.zero_le _⟩ ?_
          rintro m σ' H6 ⟨k, rfl, s6, hk, rfl, hkl⟩
          have hd6 : Dp K H6 v0 (.str (S l)) := dp_same s6 _ _ hd4
          have hdrop : l.drop (a + 1 + k) = r.drop k := by rw [← hr, List.drop_drop]
          cases hrk : r.drop k with
          | nil =>
            have hkl2 : r.length ≤ k := by
              have := congrArg List.length hrk
              simp at this; omega
            refine ⟨false, (et_andF (et_test (ed_lt (ed_vi rfl) (ed_lenS (ed_var hd6) (by rw [S_len]; omega)))) (by rw [S_len]; simp; omega)), fun H7 s7 => ⟨fun z => (nomatch z), fun _ => ?_⟩⟩
            dsimp only
            refine ⟨?_, s6.trans s7⟩
            rw [hrk] at hk
            simp only [runN, Nat.add_zero] at hk
            unfold tok
            rw [hrun, if_pos rfl, hk, show a + 1 + k = a + (k + 1) by omega]
          | cons c2 r2 =>
            rw [hrk] at hdrop
            obtain ⟨hc2, ha2, hr2, hlen2⟩ := at_of hdrop
            refine ⟨_, et_andT (et_test (ed_lt (ed_vi rfl) (ed_lenS (ed_var hd6) (by rw [S_len]; omega)))) (by rw [S_len]; simp; omega) (et_test ((ed_inS (ed_sign (ed_var hd6) (ed_vi rfl) hsz hc2) ed_s).to (congrArg PyData.bool (inRuns c2)))), fun H7 s7 => ⟨fun hrun2 => ?_, fun hrun2 => ?_⟩⟩
            · refine s_aug (K := K) rfl ed_i fun H8 s8 => ?_
              have hlt : k < r.length := by
                have := congrArg List.length hrk
                simp at this; omega
              refine ⟨r.length - (k + 1), by omega, k + 1, ?_, (s6.trans s7).trans s8, ?_, rfl, hlt⟩
              · have : ((a + 1 + k : Nat) : Int) + 1 = ((a + 1 + (k + 1) : Nat) : Int) := by omega
                rw [this]; rfl
              · rw [hk, hrk]
                have : r.drop (k + 1) = r2 := by rw [← List.drop_drop, hrk]; rfl
                rw [this]
                simp only [runN, hrun2, if_true]
                omega
            · dsimp only
              refine ⟨?_, s6.trans s7⟩
              rw [hrk] at hk
              simp only [runN, hrun2] at hk
              unfold tok
              rw [hrun, if_pos rfl, hk]
              simp only [Bool.false_eq_true, if_false, Nat.add_zero]
              rw [show a + 1 + k = a + (k + 1) by omega]
        · have hd5 : Dp K H5 v0 (.str (S l)) := dp_same s5 _ _ hd4
          have harr : decide (S ((l.drop a).take (a + 2 - a)) = ("->" : Str)) = arrow c r := by
            rw [hcr, Nat.add_sub_cancel_left]
            have e : ("->" : Str) = S [45, 62] := by decide +kernel
            rw [e]
            unfold arrow
            rw [← Bool.decide_and, decide_eq_decide]
            constructor
            · intro h
              have h := S_inj h
              cases r with
              | nil => simp at h
              | cons d r => simp at h ⊢; exact h
            · rintro ⟨rfl, h2⟩
              cases r with
              | nil => simp at h2
              | cons d r => simp at h2; subst h2; rfl
          refine s_if (et_test ((ed_eqS (ed_cutS (ed_var hd5) (ed_vi rfl) ((ed_add (ed_vi rfl) ed_i).to (show _ = PyData.int ((a + 2 : Nat) : Int) from congrArg PyData.int (by omega))) hsz (by omega)) ed_s).to (congrArg PyData.bool harr))) (fun harr H6 s6 => ?_) (fun harr H6 s6 => ?_)
          · refine s_aug (K := K) rfl ed_i fun H7 s7 => ⟨?_, (s5.trans s6).trans s7⟩
            have : tok c r = 2 := by unfold tok; rw [hrun, harr]; rfl
            rw [this, show (a : Int) + 1 + 1 = ((a + 2 : Nat) : Int) by omega]; rfl
          · refine ⟨?_, s5.trans s6⟩
            have : tok c r = 1 := by unfold tok; rw [hrun, harr]; rfl
            rw [this]; rfl
      · rintro σ5 H5 ⟨rfl, s5⟩
        have hd5 : Dp K H5 v0 (.str (S l)) := dp_same s5 _ _ hd4
        have s25 := s24.trans s5
        have hF5 := (s2.trans s25) _ _ hF
        have hus5 := dps_same (s2.trans s25) _ _ hus
        have hS5 : Same H H5 := (s1.trans s2).trans s25
        have htk := tok_le c r
        have htp := tok_pos c r
        have hstep : wordsF (l.length - a) a (l.drop a) = if isBl c then wordsF (l.length - (a + tok c r)) (a + tok c r) (l.drop (a + tok c r)) else ((l.drop a).take (tok c r), a) :: wordsF (l.length - (a + tok c r)) (a + tok c r) (l.drop (a + tok c r)) := by
          have e : l.length - a = (l.length - a - 1) + 1 := by omega
          rw [e, hcr]
          simp only [wordsF]
          have e2 : (c :: r).drop (tok c r) = l.drop (a + tok c r) := by rw [← hcr, List.drop_drop]
          rw [e2, wordsF_more (l.length - a - 1) (l.length - (a + tok c r)) _ _ (by simp; omega) (by simp)]
        have hul : us.length = acc.length := by rw [hus.len, List.length_map]
        refine s_if (et_test ((ed_notInS (ed_sign (ed_var hd5) (ed_vi rfl) hsz hc) ed_s).to (congrArg (fun b : Bool => PyData.bool (!b)) (inBlanks c)))) (fun hbl H6 s6 => ?_) (fun hbl H6 s6 => ?_)
        · have hbl : isBl c = false := by simpa using hbl
          rw [hbl] at hstep
          refine s_append (K := K) (us := us) rfl (s6 _ _ hF5) (d := wordD ((l.drop a).take (tok c r), a)) ((ed_tup (ea_cons (ed_cutS (ed_var (dp_same s6 _ _ hd5)) (ed_vi rfl) (ed_vi rfl) hsz (by omega)) (ea_cons (ed_vi rfl) ea_nil)) (by simp)).to (by rw [Nat.add_sub_cancel_left]; rfl)) (by omega) fun v H7 s7 hF7 hv => ?_
          have hk : Kt H7 (upd H7 F (.lst (us ++ [v]))) := Kt.rfl'.lst hF7
          refine ⟨_, ?_, a + tok c r, acc ++ [((l.drop a).take (tok c r), a)], us ++ [v], _, rfl, ((hS5.trans s6).trans s7).own hn, upd_same, ?_, ?_, by omega, by simp; omega, rfl⟩
          · omega
          · rw [List.map_append]
            exact (dps_kt hk _ _ (wordD_tt _) (dps_same (s6.trans s7) _ _ hus5)).snoc (dp_kt hk _ _ rfl hv)
          · rw [← hws, hstep]
            simp
        · have hbl : isBl c = true := by simpa using hbl
          rw [hbl] at hstep
          refine ⟨_, ?_, a + tok c r, acc, us, _, rfl, hS5.trans s6, s6 _ _ hF5, dps_same s6 _ _ hus5, ?_, by omega, by omega, rfl⟩
          · omega
          · rw [← hws, hstep]
            rfl
    · dsimp only
      have hb := of_decide_eq_false hb
      rw [S_len] at hb
      have e : a = l.length := by omega
      subst e
      have hacc2 : acc = wordsOf l := by
        rw [← hws, List.drop_length, Nat.sub_self]
        simp [wordsF]
      refine ⟨.ref F, rfl, ?_⟩
      exact q F us H2 (s1.trans s2) hn (s2 _ _ hF) (by rw [← hacc2]; exact dps_same s2 _ _ hus)
end
end G


set_option Elab.async false
set_option linter.all false
set_option maxRecDepth 100000
set_option maxHeartbeats 4000000
namespace G
open PySem PySem.Spec PyProof.Rows L2
/-! ### a reader -/
/-- only the object at a may have changed -/
def Mv (a : Addr) (H H' : Hp) : Prop := ∀ b o, b ≠ a → H b = some o → H' b = some o
theorem Mv.refl (a : Addr) (H : Hp) : Mv a H H := fun _ _ _ e => e
theorem Mv.trans {a : Addr} {H H1 H2 : Hp} (x : Mv a H H1) (y : Mv a H1 H2) : Mv a H H2 := fun b o n e => y b o n (x b o n e)
theorem Mv.of {a : Addr} {H H' : Hp} (s : Same H H') : Mv a H H' := fun b o _ e => s b o e
theorem Mv.upd {a : Addr} {H H' : Hp} {o : HO} (x : Mv a H H') : Mv a H (L2.upd H' a o) := fun b u n e => by
  rw [upd_ne n]
  exact x b u n e
theorem Mv.kt {a : Addr} {H H' : Hp} {C dx : Addr} {fs : List (Str × V)} (x : Mv a H H') (h : H a = some (.ins C dx fs)) : Kt H H' := fun b o t e => x b o (fun z => by subst z; rw [h] at e; cases e; exact t) e
/-- other objects too, that were made since H0 -/
theorem Mv.same0 {a : Addr} {H0 H H' : Hp} (s : Same H0 H) (n : H0 a = none) (x : Mv a H H') : Same H0 H' := fun b o e => x b o (fun z => by subst z; rw [n] at e; cases e) (s b o e)
structure RI where
  a : Addr
  C : Addr
  dx : Addr
  W : Addr
  tl : List (Str × V)
  l : List Nat
  ws : List (List Nat × Nat)
def RI.fs (r : RI) (k : Nat) : List (Str × V) := ("text", .str (S r.l)) :: ("words", .ref r.W) :: ("at", .int (k : Int)) :: r.tl
def RI.o (r : RI) (k : Nat) : HO := .ins r.C r.dx (r.fs k)
def RI.w (r : RI) (k : Nat) : List Nat := match r.ws[k]? with
  | some p => p.1
  | none => []
/-- the class and what a tree's reader has besides -/
def RC (K : PySem.W.Frag) (C : Addr) (tl : List (Str × V)) : Prop := (C = He.ga K "Reader" ∧ tl = []) ∨ (C = He.ga K "MachineReader" ∧ ∃ s d, tl = [(("signature" : Str), s), (("symbols" : Str), d)])
structure RI.at (r : RI) (K : PySem.W.Frag) (H : Hp) (k : Nat) : Prop where
  ob : H r.a = some (r.o k)
  wl : ∃ us, H r.W = some (.lst us) ∧ DpAll K H us (r.ws.map wordD)
  cl : RC K r.C r.tl
  few : r.ws.length ≤ 50000
  len : r.l.length ≤ 50000
section
variable {K : PySem.W.Frag} {r : RI} {k k' : Nat} {H H' : Hp} {σ : L2.St} {i : Nat} {C : Addr} {tl : List (Str × V)}
theorem RI.at.ne (h : r.at K H k) : r.W ≠ r.a := fun z => by
  obtain ⟨us, h1, _⟩ := h.wl
  rw [z, h.ob] at h1
  cases h1
theorem RI.at.same (s : Same H H') (h : r.at K H k) : r.at K H' k := by
  obtain ⟨us, h1, h2⟩ := h.wl
  exact ⟨s _ _ h.ob, ⟨us, s _ _ h1, dps_same s _ _ h2⟩, h.cl, h.few, h.len⟩
/-- when only other objects, or only the place, changed -/
theorem RI.at.mv (x : Mv r.a H H') (h : r.at K H k) (e : H' r.a = some (r.o k')) : r.at K H' k' := by
  obtain ⟨us, h1, h2⟩ := h.wl
  exact ⟨e, ⟨us, x _ _ h.ne h1, dps_kt (x.kt h.ob) _ _ (wordD_tt _) h2⟩, h.cl, h.few, h.len⟩
theorem RI.at.step (h : r.at K H k) : r.at K (upd H r.a (r.o k')) k' := h.mv (Mv.refl _ _).upd upd_same
/-- another object of the heap changes -/
theorem RI.at.other {b : Addr} {o : HO} {xs : List V} (h : r.at K H k) (hb : H b = some (.lst xs)) (hW : b ≠ r.W) : r.at K (upd H b o) k := by
  obtain ⟨us, h1, h2⟩ := h.wl
  refine ⟨?_, ⟨us, ?_, dps_kt (Kt.rfl'.lst hb) _ _ (wordD_tt _) h2⟩, h.cl, h.few, h.len⟩
  · rw [upd_ne (fun z => by subst z; rw [h.ob] at hb; cases hb)]; exact h.ob
  · rw [upd_ne (fun z => hW z.symm)]; exact h1
theorem rc_look (c : RC K C tl) {m : Str} (h1 : m ≠ "signature") (h2 : m ≠ "symbols") : tl.lookup m = none := by
  rcases c with ⟨_, rfl⟩ | ⟨_, s, d, rfl⟩
  · rfl
  · rw [List.lookup_cons, beq_false_of_ne h1, List.lookup_cons, beq_false_of_ne h2]; rfl
theorem rc_len (c : RC K C tl) : tl.length ≤ 2 := by
  rcases c with ⟨_, rfl⟩ | ⟨_, s, d, rfl⟩ <;> simp
theorem fs_look (c : RC K r.C r.tl) {m : Str} (h : (m ≠ "text" ∧ m ≠ "words" ∧ m ≠ "at" ∧ m ≠ "signature" ∧ m ≠ "symbols")) : (r.fs k).lookup m = none := by
  unfold RI.fs
  rw [List.lookup_cons, beq_false_of_ne h.1, List.lookup_cons, beq_false_of_ne h.2.1, List.lookup_cons, beq_false_of_ne h.2.2.1]
  exact rc_look c h.2.2.2.1 h.2.2.2.2
theorem fs_at : (r.fs k).lookup ("at" : Str) = some (.int (k : Int)) := rfl
theorem fs_words : (r.fs k).lookup ("words" : Str) = some (.ref r.W) := rfl
theorem fs_text : (r.fs k).lookup ("text" : Str) = some (.str (S r.l)) := rfl
theorem fs_put : putF "at" (.int (k' : Int)) (r.fs k) = r.fs k' := rfl
end
section
variable {K : PySem.W.Frag} {mg : Str → Option Value} {r : RI} {k k' : Nat} {H H' : Hp} {σ : L2.St} {i : Nat} {C : Addr} {tl : List (Str × V)}
theorem rc_cls (T : Tx K mg) (c : RC K C tl) : Cls K C := by
  rcases c with ⟨rfl, _⟩ | ⟨rfl, _⟩
  · exact T.k_Reader
  · exact T.k_MachineReader
theorem rc_at (T : Tx K mg) (c : RC K C tl) : NoAttr K C "at" := by
  rcases c with ⟨rfl, _⟩ | ⟨rfl, _⟩
  · exact T.n_Reader_at
  · exact T.n_MachineReader_at
theorem rc_words (T : Tx K mg) (c : RC K C tl) : NoAttr K C "words" := by
  rcases c with ⟨rfl, _⟩ | ⟨rfl, _⟩
  · exact T.n_Reader_words
  · exact T.n_MachineReader_words
theorem rc_text (T : Tx K mg) (c : RC K C tl) : NoAttr K C "text" := by
  rcases c with ⟨rfl, _⟩ | ⟨rfl, _⟩
  · exact T.n_Reader_text
  · exact T.n_MachineReader_text
/-- a field -/
theorem ed_fld {d : PyData} {f : Str} {v : V} {a dx : Addr} {fs : List (Str × V)} (hv : σ[i]? = some (some (.ref a))) (ho : H a = some (.ins C dx fs)) (hc : Cls K C) (hn : NoAttr K C f) (hf : fs.lookup f = some v) (hd : Dp K H v d) : EvD K (tFld K (tVar i) f) σ H d := fun H1 s Q q =>
  ⟨_, hv, a, C, dx, fs, v, rfl, s _ _ ho, hc, hn, hf, q v H1 (Same.refl H1) (dp_same s _ _ hd)⟩
theorem ed_at (T : Tx K mg) (h : r.at K H k) (hv : σ[i]? = some (some (.ref r.a))) : EvD K (tFld K (tVar i) "at") σ H (.int (k : Int)) := ed_fld hv h.ob (rc_cls T h.cl) (rc_at T h.cl) fs_at (.int _)
theorem ed_words (T : Tx K mg) (h : r.at K H k) (hv : σ[i]? = some (some (.ref r.a))) : EvD K (tFld K (tVar i) "words") σ H (.list (r.ws.map wordD)) := by
  obtain ⟨us, h1, h2⟩ := h.wl
  exact ed_fld hv h.ob (rc_cls T h.cl) (rc_words T h.cl) fs_words (.lst (sq_of h1) h2)
theorem ed_text (T : Tx K mg) (h : r.at K H k) (hv : σ[i]? = some (some (.ref r.a))) : EvD K (tFld K (tVar i) "text") σ H (.str (S r.l)) := ed_fld hv h.ob (rc_cls T h.cl) (rc_text T h.cl) fs_text (.str _)
/-- self.at += 1 -/
theorem s_step (T : Tx K mg) {D : Ends} (h : r.at K H k) (hv : σ[i]? = some (some (.ref r.a))) (q : ∀ H', Mv r.a H H' → r.at K H' (k + 1) → D.nx σ H') : sFldAug K (tVar i) (tC (.int 1)) rAdd "at" D σ H := by
  refine ⟨_, hv, r.a, r.C, r.dx, r.fs k, _, rfl, h.ob, rc_cls T h.cl, rc_at T h.cl, fs_at, (k : Int), 1, rfl, rfl, r.dx, r.fs k, h.ob, ?_, ?_⟩
  · have := rc_len h.cl
    unfold RI.fs
    simp; omega
  · rw [show ((k : Int) + 1) = ((k + 1 : Nat) : Int) by omega, fs_put]
    exact q _ (Mv.refl _ _).upd h.step
/-- e.f = value -/
theorem s_fld {D : Ends} {te : TE} {d : PyData} {f : Str} {a dx : Addr} {fs : List (Str × V)} (hv : σ[i]? = some (some (.ref a))) (ho : H a = some (.ins C dx fs)) (hc : Cls K C) (hn : NoAttr K C f) (hl : fs.length < 1000) (he : EvD K te σ H d)
    (q : ∀ v H', Same H H' → Dp K H' v d → D.nx σ (upd H' a (.ins C dx (putF f v fs)))) : sFld K (tVar i) te f D σ H := he H (Same.refl H) _ fun v H' s hd => ⟨_, hv, a, C, dx, fs, rfl, s _ _ ho, hc, hn, hl, q v H' s hd⟩
theorem s_fldN {D : Ends} {te : TE} {ds : List PyData} {f : Str} {a dx : Addr} {fs : List (Str × V)} (hv : σ[i]? = some (some (.ref a))) (ho : H a = some (.ins C dx fs)) (hc : Cls K C) (hn : NoAttr K C f) (hl : fs.length < 1000) (he : EvN K te σ H ds)
    (q : ∀ p us H', Same H H' → H p = none → H' p = some (.lst us) → DpAll K H' us ds → D.nx σ (upd H' a (.ins C dx (putF f (.ref p) fs)))) : sFld K (tVar i) te f D σ H := he H (Same.refl H) _ fun p us H' s hp hpl hd => ⟨_, hv, a, C, dx, fs, rfl, s _ _ ho, hc, hn, hl, q p us H' s hp hpl hd⟩
/-! ### promises of its methods -/
/-- the next word -/
def spWord (K : PySem.W.Frag) : Sp := fun vs H Q _ => ∃ (r : RI) (k : Nat), vs = [.ref r.a] ∧ r.at K H k ∧ ∀ H', Same H H' → Q (.str (S (r.w k))) H'
def spMark (K : PySem.W.Frag) : Sp := fun vs H Q _ => ∃ (r : RI) (k : Nat), vs = [.ref r.a, .str (S (r.w k))] ∧ r.at K H k ∧ ∀ H', Mv r.a H H' → r.at K H' (k + 1) → Q .non H'
def spGoes (K : PySem.W.Frag) : Sp := fun vs H Q _ => ∃ (r : RI) (k : Nat) (w : List Nat), vs = [.ref r.a, .str (S w)] ∧ r.at K H k ∧ (r.w k ≠ w → ∀ H', Same H H' → Q (.bl false) H') ∧ (r.w k = w → ∀ H', Mv r.a H H' → r.at K H' (k + 1) → Q (.bl true) H')
def spEnd (K : PySem.W.Frag) : Sp := fun vs H Q _ => ∃ (r : RI) (k : Nat), vs = [.ref r.a] ∧ r.at K H k ∧ r.w k = [] ∧ ∀ H', Same H H' → Q .non H'
def spDue (K : PySem.W.Frag) : Sp := fun vs H Q _ => ∃ x, vs = [x, .bl true] ∧ ∀ H', Same H H' → Q .non H'
end
end G

set_option Elab.async false
set_option linter.all false
set_option maxRecDepth 100000
set_option maxHeartbeats 4000000
namespace G
open PySem PySem.Spec PyProof.Rows L2
/-! ### numerals -/
def numOk (l : List Nat) : Bool := match l with
  | [] => false
  | c :: r => (c :: r).all isDg && (decide (c :: r = [48]) || !decide (c = 48))
section
variable {P : Program} {w : World} {K : PySem.W.Frag} {mg : Str → Option Value} {base : Heap}
def Ris_numeral : List PyData → PyData → Prop
  | [d], r => ∃ l : List Nat, l.length ≤ 100000 ∧ d = .str (S l) ∧ r = .bool (numOk l)
  | _, _ => False
theorem str0 : ("0" : Str) = S [48] := by decide +kernel
theorem strN : ("" : Str) = S [] := by decide +kernel
theorem eqS_dec (a b : List Nat) : decide (S a = S b) = decide (a = b) := by
  rw [decide_eq_decide]
  exact ⟨S_inj, fun h => h ▸ rfl⟩
theorem sc_is_numeral : FnScope ["word", "sign"] ["word"] (defScope s_is_numeral) := ⟨rfl, rfl, rfl, by decide +kernel, rfl, by decide +kernel, by decide +kernel⟩
theorem ok_is_numeral (T : Tx K mg)  : Cl P w K mg base CX0 1 "is_numeral" ["word"] (spD K Ris_numeral) := by
  obtain ⟨fd, F⟩ := T.f_is_numeral
  refine ⟨_, fd, T.g_is_numeral, F.kp, F.bindsN fun _ _ _ _ _ _ us hl => match us, hl with | [_], _ => rfl, F.ok sc_is_numeral (fun vs H Q E h => ?_) (fun cdv A outer s H vs Q E hr h => ?_)⟩
  · obtain ⟨ds, r, hd, hR, _⟩ := h
    match ds, hR with
    | [_], _ => exact hd.len
  · obtain ⟨ds, r, hd, hR, q⟩ := h
    match ds, vs, hd, hR with
    | [d0], [v0], .cons h0 .nil, hR =>
    refine ⟨_, PSs.nox (pss_cons (ps_if (PW.pt (pw_or (pt_cmpR op_eq (pv 0) pe_str (nomark _)) (pw_or1 (pt_not (pt_val (pe_callB (cr_all rfl) (by rfl) T.b_all PyProof.Rows.Boot.«all» (pa_cons (pe_lc (own := [("sign", 1)]) (g := (gName 1)) rfl sc_is_numeral.nd (pi_str (pv 0)) (blkOk_by (own := [("sign", 1)]) (N := ["word", "sign"]) (sc := defScope s_is_numeral) (by decide +kernel)) (fun _ _ _ _ _ => (pg_name (i := 1) sc_is_numeral.nd rfl (by first | exact Or.inl rfl | exact Or.inr rfl))) (fun _ _ _ _ _ => pts_nil) (fun _ _ _ _ _ => (pe_cmpR G.op_inS (pv 1) (G.pe_ks (by rfl) T.c_DIGITS) rfl))) pa_nil))))))) (pss_one (ps_ret pe_bl)) pss_nil)
  (pss_one (ps_ret (pe_or (pe_cmpR op_eq (pv 0) pe_str (nomark _)) (pe_one (pe_cmpR op_ne (pe_ix ix_str (pv 0) pe_int (fun _ _ => rfl)) pe_str (nomark _))))))), ?_⟩
    obtain ⟨l, hl, rfl, rfl⟩ := hR
    cases l with
    | nil => exact s_ifT (et_orT (et_test (ed_eqS (ed_var h0) ed_s)) (by rw [strN]; exact decide_eq_true rfl)) rfl fun H' s => s_ret ed_b fun v H2 s2 hv => q v H2 (s.trans s2) hv
    | cons c r =>
      have hall : EvD K (tCB (rAll K) (tCons (tLc (iStr (tVar 0)) (gName 1) tYes (tOp (fun x y H Q => ∃ (c : Nat) (z : Str), x = .str ⟨#[c]⟩ ∧ y = .str z ∧ Q (.bl (decide (c ∈ z.cps.toList))) H) (tVar 1) (tC (.str "0123456789"))) [1]) tNil)) (L2.start ["word", "sign"] [v0]) H (.bool ((c :: r).all isDg)) :=
        ed_allM (c :: r) (fun c => .str ⟨#[c]⟩) isDg (ei_str (ed_var h0)) hl fun c' _ v H1 s hv W hW => hW _ wipe_set1 (ed_inS (ed_var hv) ed_s)
      refine s_if (et_orF (et_test (ed_eqS (ed_var h0) ed_s)) (by rw [strN, eqS_dec]; exact decide_eq_false (by simp)) (et_not (et_test hall))) (fun hc H' s => ?_) (fun hc H' s => ?_)
      · have hc : ((c :: r).all isDg) = false := by simpa only [Bool.not_eq_true'] using hc
        refine s_ret (K := K) ed_b fun v H2 s2 hv => q v H2 (s.trans s2) ?_
        rw [show numOk (c :: r) = false by show ((c :: r).all isDg && _) = false; rw [hc]; rfl]
        exact hv
      · have hc : ((c :: r).all isDg) = true := by simpa only [Bool.not_eq_false'] using hc
        have h0' := dp_same s _ _ h0
        refine s_ret (ed_or (ed_eqS (ed_var h0') ed_s) fun _ => ed_neS (ed_ixS (c := c) (ed_var h0') ed_i (by rw [S_len]; exact hl) (atI_nat (j := 0) rfl)) ed_s) fun v H2 s2 hv => q v H2 (s.trans s2) ?_
        rw [str0, eqS_dec] at hv
        have e2 : decide ((⟨#[c]⟩ : Str) = S [48]) = decide (c = 48) := by
          rw [show (⟨#[c]⟩ : Str) = S [c] from rfl, eqS_dec, decide_eq_decide]
          simp
        rw [e2] at hv
        rw [show numOk (c :: r) = (decide (c :: r = [48]) || !decide (c = 48)) by show ((c :: r).all isDg && _) = _; rw [hc]; rfl]
        exact hv
/-! ### the reader's methods -/
theorem ed_word {r : RI} {k i : Nat} {H : Hp} {σ : L2.St} {E : XK} (h : r.at K H k) (hv : σ[i]? = some (some (.ref r.a))) : EvD K (tMeth r.C "word" (spWord K) [] E (tVar i) tNil) σ H (.str (S (r.w k))) := fun H1 s Q q =>
  ⟨_, hv, r.a, r.dx, r.fs k, rfl, (h.same s).ob, fs_look h.cl (by decide), r, k, rfl, h.same s, fun H' s' => q _ H' s' (.str _)⟩
theorem sc_Reader_word : FnScope ["self"] ["self"] (defScope s_Reader_word) := ⟨rfl, rfl, rfl, by decide +kernel, rfl, by decide +kernel, by decide +kernel⟩
theorem fo_Reader_word {f : Addr} {fd : FuncData} (T : Tx K mg)  (F : FunD K "word" "Reader.word" (defArgs s_Reader_word) (defBody s_Reader_word) (defScope s_Reader_word) [] [] f fd) : FnOk P w K mg base CX0 1 f fd ["self"] (spWord K) := by
  refine F.ok sc_Reader_word (fun vs H Q E h => ?_) (fun cdv A outer s H vs Q E hr h => ?_)
  · obtain ⟨r, k, rfl, _⟩ := h
    rfl
  · refine ⟨_, PSs.nox (pss_one (ps_ret (pe_ifExp (pt_cmpR op_lt (pe_fld (pv 0) rfl) (pe_callB call_len_seq (by rfl) T.b_len PyProof.Rows.Boot.«len» (pa_cons (pe_fld (pv 0) rfl) pa_nil)) (nomark _)) (pe_ix ix_tup (pe_ix ix_list (pe_fld (pv 0) rfl) (pe_fld (pv 0) rfl) (fun _ _ => rfl)) pe_int (fun _ _ => rfl)) pe_str))), ?_⟩
    obtain ⟨r, k, rfl, hr', q⟩ := h
    cases hk : r.ws[k]? with
    | some p =>
      have hlt : k < r.ws.length := (List.getElem?_eq_some_iff.mp hk).1
      refine s_ret (K := K) (d := .str (S (r.w k))) (ed_ifT (et_test (ed_lt (ed_at T hr' rfl) (ed_lenL (ed_words T hr' rfl)))) (by rw [List.length_map]; exact decide_eq_true (by omega)) (ed_ixT (ed_ixL (ed_words T hr' rfl) (ed_at T hr' rfl) (by rw [List.getElem?_map, hk]; rfl)) ed_i ?_)) fun v H2 s2 hv => ?_
      · rw [show r.w k = p.1 by unfold RI.w; rw [hk]]
        exact at0
      · rw [dpS hv]; exact q H2 s2
    | none =>
      have hge : r.ws.length ≤ k := by simpa using hk
      refine s_ret (K := K) (d := .str (S (r.w k))) (ed_ifF (et_test (ed_lt (ed_at T hr' rfl) (ed_lenL (ed_words T hr' rfl)))) (by rw [List.length_map]; exact decide_eq_false (by omega)) ?_) fun v H2 s2 hv => ?_
      · rw [show r.w k = [] by unfold RI.w; rw [hk]]
        exact (ed_s (n := "")).to (congrArg _ strN)
      · rw [dpS hv]; exact q H2 s2
theorem ml_word (T : Tx K mg)  {C : Addr} {tl : List (Str × V)} (c : RC K C tl) : Ml P w K mg base CX0 1 C "word" ["self"] (spWord K) := by
  rcases c with ⟨rfl, _⟩ | ⟨rfl, _⟩
  · obtain ⟨fd, F⟩ := T.f_Reader_word
    exact ⟨_, fd, T.k_Reader, T.m_Reader_word, F.bindsN fun _ _ _ _ _ _ us hl => match us, hl with | [_], _ => rfl, fo_Reader_word T F⟩
  · obtain ⟨fd, F⟩ := T.f_MachineReader_word
    exact ⟨_, fd, T.k_MachineReader, T.m_MachineReader_word, F.bindsN fun _ _ _ _ _ _ us hl => match us, hl with | [_], _ => rfl, fo_Reader_word T F⟩
theorem sc_Reader_mark : FnScope ["self", "word"] ["self", "word"] (defScope s_Reader_mark) := ⟨rfl, rfl, rfl, by decide +kernel, rfl, by decide +kernel, by decide +kernel⟩
theorem fo_Reader_mark {f : Addr} {fd : FuncData} (T : Tx K mg)  (F : FunD K "mark" "Reader.mark" (defArgs s_Reader_mark) (defBody s_Reader_mark) (defScope s_Reader_mark) [] [] f fd) : FnOk P w K mg base CX0 2 f fd ["self", "word"] (spMark K) := by
  refine F.ok sc_Reader_mark (fun vs H Q E h => ?_) (fun cdv A outer s H vs Q E hr h => ?_)
  · obtain ⟨r, k, rfl, _⟩ := h
    rfl
  · obtain ⟨r, k, rfl, hr', q⟩ := h
    have hC := hr'.cl
    refine ⟨_, PSs.nox (pss_cons (ps_if (pt_cmpR op_ne (G.pe_ml0 (G.ml_word T hC) hr (by decide) pass0 (pv 0)) (pv 1) (nomark _)) (pss_one ps_never) pss_nil)
  (pss_one (ps_fldaug (pv 0) pe_int in_add))), ?_⟩
    refine s_ifF (et_test (ed_neS (ed_word hr' rfl) (ed_vs rfl))) (by simp) fun H1 s1 => ?_
    refine s_step T (hr'.same s1) rfl fun H2 m2 h2 => q H2 ((Mv.of s1).trans m2) h2
theorem ml_mark (T : Tx K mg)  {C : Addr} {tl : List (Str × V)} (c : RC K C tl) : Ml P w K mg base CX0 2 C "mark" ["self", "word"] (spMark K) := by
  rcases c with ⟨rfl, _⟩ | ⟨rfl, _⟩
  · obtain ⟨fd, F⟩ := T.f_Reader_mark
    exact ⟨_, fd, T.k_Reader, T.m_Reader_mark, F.bindsN fun _ _ _ _ _ _ us hl => match us, hl with | [_, _], _ => rfl, fo_Reader_mark T F⟩
  · obtain ⟨fd, F⟩ := T.f_MachineReader_mark
    exact ⟨_, fd, T.k_MachineReader, T.m_MachineReader_mark, F.bindsN fun _ _ _ _ _ _ us hl => match us, hl with | [_, _], _ => rfl, fo_Reader_mark T F⟩
theorem sc_Reader_goes_on : FnScope ["self", "word"] ["self", "word"] (defScope s_Reader_goes_on) := ⟨rfl, rfl, rfl, by decide +kernel, rfl, by decide +kernel, by decide +kernel⟩
theorem fo_Reader_goes_on {f : Addr} {fd : FuncData} (T : Tx K mg)  (F : FunD K "goes_on" "Reader.goes_on" (defArgs s_Reader_goes_on) (defBody s_Reader_goes_on) (defScope s_Reader_goes_on) [] [] f fd) : FnOk P w K mg base CX0 2 f fd ["self", "word"] (spGoes K) := by
  refine F.ok sc_Reader_goes_on (fun vs H Q E h => ?_) (fun cdv A outer s H vs Q E hr h => ?_)
  · obtain ⟨r, k, w, rfl, _⟩ := h
    rfl
  · obtain ⟨r, k, w, rfl, hr', qf, qt⟩ := h
    have hC := hr'.cl
    refine ⟨_, PSs.nox (pss_cons (ps_if (pt_cmpR op_ne (G.pe_ml0 (G.ml_word T hC) hr (by decide) pass0 (pv 0)) (pv 1) (nomark _)) (pss_one (ps_ret pe_bl)) pss_nil)
  (pss_cons (ps_fldaug (pv 0) pe_int in_add)
  (pss_one (ps_ret pe_bl)))), ?_⟩
    refine s_if (et_test (ed_neS (ed_word hr' rfl) (ed_vs rfl))) (fun hb H1 s1 => ?_) (fun hb H1 s1 => ?_)
    · have hb : r.w k ≠ w := fun z => by rw [z] at hb; simp at hb
      exact s_ret (K := K) ed_b fun v H2 s2 hv => by rw [dpB hv]; exact qf hb H2 (s1.trans s2)
    · have hb : r.w k = w := by
        by_cases z : r.w k = w
        · exact z
        · simp at hb; exact absurd hb z
      refine s_step T (hr'.same s1) rfl fun H2 m2 h2 => ?_
      dsimp only
      refine s_ret (K := K) (d := .bool true) ed_b ?_
      intro v H3 s3 hv
      rw [dpB hv]
      exact qt hb H3 (((Mv.of s1).trans m2).trans (Mv.of s3)) (h2.same s3)
theorem ml_goes_on (T : Tx K mg)  {C : Addr} {tl : List (Str × V)} (c : RC K C tl) : Ml P w K mg base CX0 2 C "goes_on" ["self", "word"] (spGoes K) := by
  rcases c with ⟨rfl, _⟩ | ⟨rfl, _⟩
  · obtain ⟨fd, F⟩ := T.f_Reader_goes_on
    exact ⟨_, fd, T.k_Reader, T.m_Reader_goes_on, F.bindsN fun _ _ _ _ _ _ us hl => match us, hl with | [_, _], _ => rfl, fo_Reader_goes_on T F⟩
  · obtain ⟨fd, F⟩ := T.f_MachineReader_goes_on
    exact ⟨_, fd, T.k_MachineReader, T.m_MachineReader_goes_on, F.bindsN fun _ _ _ _ _ _ us hl => match us, hl with | [_, _], _ => rfl, fo_Reader_goes_on T F⟩
def numW (n : Nat) : List Nat := TL.numL n
theorem numW_ok : ∀ n : Nat, n < 100 → numOk (numW n) = true ∧ (numW n).length ≤ 2 ∧ (numW n).all (fun c => decide (48 ≤ c) && decide (c ≤ 57)) = true ∧ numW n ≠ [] ∧ NumText.digitsVal (numW n) = n := by decide +kernel
def spNumeral (K : PySem.W.Frag) : Sp := fun vs H Q _ => ∃ (r : RI) (k n m : Nat), vs = [.ref r.a, .int (m : Int)] ∧ r.at K H k ∧ r.w k = numW n ∧ n < 100 ∧ n ≤ m ∧ ∀ H', Mv r.a H H' → r.at K H' (k + 1) → Q (.int (n : Int)) H'
theorem ed_int {K : PySem.W.Frag} {σ : L2.St} {H : Hp} {ta : TE} {n : Nat} (h : EvD K ta σ H (.str (S (numW n)))) (hn : n < 100) : EvD K (tCB (fun xs H Q => ∃ a n, xs = [.str a] ∧ PySem.intText? a = some n ∧ a.length ≤ 640 ∧ Q (.int n) H) (tCons ta tNil)) σ H (.int (n : Int)) := fun H1 s Q q => h H1 s _ fun v H2 s2 hv => by
  obtain ⟨n1, n2, n3, n4, n5⟩ := numW_ok n hn
  have e := SX.int_S n3 n4 (by omega)
  rw [n5] at e
  exact ⟨S (numW n), (n : Int), by rw [dpS hv], e, by rw [S_len]; omega, q _ H2 s2 (.int _)⟩
theorem sc_Reader_numeral : FnScope ["self", "most", "word"] ["self", "most"] (defScope s_Reader_numeral) := ⟨rfl, rfl, rfl, by decide +kernel, rfl, by decide +kernel, by decide +kernel⟩
theorem fo_Reader_numeral {f : Addr} {fd : FuncData} (T : Tx K mg)  (F : FunD K "numeral" "Reader.numeral" (defArgs s_Reader_numeral) (defBody s_Reader_numeral) (defScope s_Reader_numeral) [] [] f fd) : FnOk P w K mg base CX0 2 f fd ["self", "most"] (spNumeral K) := by
  refine F.ok sc_Reader_numeral (fun vs H Q E h => ?_) (fun cdv A outer s H vs Q E hr h => ?_)
  · obtain ⟨r, k, n, m, rfl, _⟩ := h
    rfl
  · obtain ⟨r, k, n, m, rfl, hr', hw, hn, hm, q⟩ := h
    have hC := hr'.cl
    refine ⟨_, PSs.nox (pss_cons (ps_set (i := 2) sc_Reader_numeral.nd rfl (by first | exact Or.inl rfl | exact Or.inr rfl) (G.pe_ml0 (G.ml_word T hC) hr (by decide) pass0 (pv 0)))
  (pss_cons (ps_if (PW.pt (pw_or (pt_not (pt_val (G.pe_cl (ok_is_numeral T) hr (by decide) pass0 (pa_cons (pv 2) pa_nil)))) (pw_or (pt_cmpR op_gt (pe_callB call_len_str (by rfl) T.b_len PyProof.Rows.Boot.«len» (pa_cons (pv 2) pa_nil)) pe_int (nomark _)) (pw_or1 (pt_cmpR op_gt (pe_callTy call_int_str (by rfl) T.b_int PyProof.Rows.Boot.«int» (pa_cons (pv 2) pa_nil)) (pv 1) (nomark _)))))) (pss_one ps_never) pss_nil)
  (pss_cons (ps_fldaug (pv 0) pe_int in_add)
  (pss_one (ps_ret (pe_callTy call_int_str (by rfl) T.b_int PyProof.Rows.Boot.«int» (pa_cons (pv 2) pa_nil))))))), ?_⟩
    obtain ⟨n1, n2, n3, n4, n5⟩ := numW_ok n hn
    refine s_set (ed_word hr' rfl) fun v H1 s1 hv => ?_
    rw [hw] at hv
    obtain rfl := dpS hv
    refine s_ifF (et_orF (et_not (et_test (ed_call (ea_cons (ed_var hv) ea_nil) ⟨_, by omega, rfl, rfl⟩))) (by rw [n1]; rfl) (et_orF (et_test (ed_gt (ed_lenS (ed_var hv) (by rw [S_len]; omega)) ed_i)) (by rw [S_len]; exact decide_eq_false (by omega)) (et_test (ed_gt (ed_int (ed_var hv) hn) (ed_vi rfl))))) (decide_eq_false (by omega)) fun H2 s2 => ?_
    refine s_step T ((hr'.same s1).same s2) rfl fun H3 m3 h3 => ?_
    dsimp only
    refine s_ret (K := K) (d := .int (n : Int)) (ed_int (ed_vs rfl) hn) ?_
    intro v H4 s4 hv4
    rw [dpI hv4]
    exact q H4 ((((Mv.of s1).trans (Mv.of s2)).trans m3).trans (Mv.of s4)) (h3.same s4)
theorem ml_numeral (T : Tx K mg)  {C : Addr} {tl : List (Str × V)} (c : RC K C tl) : Ml P w K mg base CX0 2 C "numeral" ["self", "most"] (spNumeral K) := by
  rcases c with ⟨rfl, _⟩ | ⟨rfl, _⟩
  · obtain ⟨fd, F⟩ := T.f_Reader_numeral
    exact ⟨_, fd, T.k_Reader, T.m_Reader_numeral, F.bindsN fun _ _ _ _ _ _ us hl => match us, hl with | [_, _], _ => rfl, fo_Reader_numeral T F⟩
  · obtain ⟨fd, F⟩ := T.f_MachineReader_numeral
    exact ⟨_, fd, T.k_MachineReader, T.m_MachineReader_numeral, F.bindsN fun _ _ _ _ _ _ us hl => match us, hl with | [_, _], _ => rfl, fo_Reader_numeral T F⟩
theorem sc_Reader_end : FnScope ["self"] ["self"] (defScope s_Reader_end) := ⟨rfl, rfl, rfl, by decide +kernel, rfl, by decide +kernel, by decide +kernel⟩
theorem fo_Reader_end {f : Addr} {fd : FuncData} (T : Tx K mg)  (F : FunD K "end" "Reader.end" (defArgs s_Reader_end) (defBody s_Reader_end) (defScope s_Reader_end) [] [] f fd) : FnOk P w K mg base CX0 2 f fd ["self"] (spEnd K) := by
  refine F.ok sc_Reader_end (fun vs H Q E h => ?_) (fun cdv A outer s H vs Q E hr h => ?_)
  · obtain ⟨r, k, rfl, _⟩ := h
    rfl
  · obtain ⟨r, k, rfl, hr', hw, q⟩ := h
    have hC := hr'.cl
    refine ⟨_, PSs.nox (pss_one (ps_if (pt_cmpR op_ne (G.pe_ml0 (G.ml_word T hC) hr (by decide) pass0 (pv 0)) pe_str (nomark _)) (pss_one ps_never) pss_nil)), ?_⟩
    exact s_ifF (et_test (ed_neS (ed_word hr' rfl) ed_s)) (by rw [hw, strN]; simp) fun H1 s1 => q H1 s1
theorem ml_end (T : Tx K mg)  {C : Addr} {tl : List (Str × V)} (c : RC K C tl) : Ml P w K mg base CX0 2 C "end" ["self"] (spEnd K) := by
  rcases c with ⟨rfl, _⟩ | ⟨rfl, _⟩
  · obtain ⟨fd, F⟩ := T.f_Reader_end
    exact ⟨_, fd, T.k_Reader, T.m_Reader_end, F.bindsN fun _ _ _ _ _ _ us hl => match us, hl with | [_], _ => rfl, fo_Reader_end T F⟩
  · obtain ⟨fd, F⟩ := T.f_MachineReader_end
    exact ⟨_, fd, T.k_MachineReader, T.m_MachineReader_end, F.bindsN fun _ _ _ _ _ _ us hl => match us, hl with | [_], _ => rfl, fo_Reader_end T F⟩
theorem sc_Reader_due : FnScope ["self", "is_right"] ["self", "is_right"] (defScope s_Reader_due) := ⟨rfl, rfl, rfl, by decide +kernel, rfl, by decide +kernel, by decide +kernel⟩
theorem fo_Reader_due {f : Addr} {fd : FuncData} (T : Tx K mg)  (F : FunD K "due" "Reader.due" (defArgs s_Reader_due) (defBody s_Reader_due) (defScope s_Reader_due) [] [] f fd) : FnOk P w K mg base CX0 1 f fd ["self", "is_right"] (spDue K) := by
  refine F.ok sc_Reader_due (fun vs H Q E h => ?_) (fun cdv A outer s H vs Q E hr h => ?_)
  · obtain ⟨x, rfl, _⟩ := h
    rfl
  · obtain ⟨x, rfl, q⟩ := h
    refine ⟨_, PSs.nox (pss_one (ps_if (pt_not (pt_val (pv 1))) (pss_one ps_never) pss_nil)), ?_⟩
    exact s_ifF (et_not (et_test (K := K) (ed_var (.bl true)))) rfl fun H1 s1 => q H1 s1
theorem ml_due (T : Tx K mg)  {C : Addr} {tl : List (Str × V)} (c : RC K C tl) : Ml P w K mg base CX0 1 C "due" ["self", "is_right"] (spDue K) := by
  rcases c with ⟨rfl, _⟩ | ⟨rfl, _⟩
  · obtain ⟨fd, F⟩ := T.f_Reader_due
    exact ⟨_, fd, T.k_Reader, T.m_Reader_due, F.bindsN fun _ _ _ _ _ _ us hl => match us, hl with | [_, _], _ => rfl, fo_Reader_due T F⟩
  · obtain ⟨fd, F⟩ := T.f_MachineReader_due
    exact ⟨_, fd, T.k_MachineReader, T.m_MachineReader_due, F.bindsN fun _ _ _ _ _ _ us hl => match us, hl with | [_, _], _ => rfl, fo_Reader_due T F⟩
/-- what __init__ leaves: the fields of a new reader -/
def spInit (K : PySem.W.Frag) : Sp := fun vs H Q _ => ∃ (a C dx : Addr) (l : List Nat), vs = [.ref a, .str (S l)] ∧ H a = some (.ins C dx []) ∧ Cls K C ∧ NoAttr K C "text" ∧ NoAttr K C "words" ∧ NoAttr K C "at" ∧ l.length ≤ 50000 ∧
  ∀ H' W us, Mv a H H' → H W = none → W ≠ a → H' W = some (.lst us) → DpAll K H' us ((wordsOf l).map wordD) → H' a = some (.ins C dx [(("text" : Str), .str (S l)), (("words" : Str), .ref W), (("at" : Str), .int 0)]) → Q .non H'
theorem sc_Reader___init__ : FnScope ["self", "text"] ["self", "text"] (defScope s_Reader___init__) := ⟨rfl, rfl, rfl, by decide +kernel, rfl, by decide +kernel, by decide +kernel⟩
theorem fo_Reader___init__ {f : Addr} {fd : FuncData} (T : Tx K mg)  (F : FunD K "__init__" "Reader.__init__" (defArgs s_Reader___init__) (defBody s_Reader___init__) (defScope s_Reader___init__) [] [] f fd) : FnOk P w K mg base CX0 2 f fd ["self", "text"] (spInit K) := by
  refine F.ok sc_Reader___init__ (fun vs H Q E h => ?_) (fun cdv A outer s H vs Q E hr h => ?_)
  · obtain ⟨a, C, dx, l, rfl, _⟩ := h
    rfl
  · obtain ⟨a, C, dx, l, rfl, ho, hc, n1, n2, n3, hl, q⟩ := h
    refine ⟨_, PSs.nox (pss_cons (ps_if (pt_not (pt_val (pe_callB call_isi (by rfl) T.b_isinstance PyProof.Rows.Boot.«isinstance» (pa_cons (pv 1) (pa_cons (pe_bltn (v := .ty "str") (by rfl) T.b_str PyProof.Rows.Boot.«str» rfl) pa_nil))))) (pss_one ps_never) pss_nil)
  (pss_cons (ps_fld (pv 0) (pv 1) rfl)
  (pss_cons (ps_fld (pv 0) (G.pe_cl (ok_words_in T) hr (by decide) pass0 (pa_cons (pv 1) pa_nil)) rfl)
  (pss_one (ps_fld (pv 0) pe_int rfl))))), ?_⟩
    refine s_ifF (et_not (et_B (ed_isi (ed_vs (K := K) rfl) (kit_S _)))) rfl fun H1 s1 => ?_
    refine s_fld (K := K) rfl (s1 _ _ ho) hc n1 (by simp) (ed_vs rfl) fun v H2 s2 hv => ?_
    obtain rfl := dpS hv
    have m2 : Mv a H H2 := Mv.of (s1.trans s2)
    refine s_fldN (K := K) rfl upd_same hc n2 (by simp [putF]) (en_call (ea_cons (ed_vs rfl) ea_nil) ⟨l, hl, rfl, rfl⟩) fun W us H3 s3 hW hWl hus => ?_
    have m3 : Mv a H H3 := m2.upd.trans (Mv.of s3)
    have hWa : W ≠ a := fun z => by rw [z, upd_same] at hW; cases hW
    have hW0 : H W = none := by
      cases e : H W with
      | none => rfl
      | some o => rw [m2.upd W o hWa e] at hW; cases hW
    refine s_fld (K := K) rfl upd_same hc n3 (by show (2 : Nat) < 1000; decide) (ed_i (n := 0)) fun v H4 s4 hv4 => ?_
    obtain rfl := dpI hv4
    have k4 : Kt H3 (upd H4 a (.ins C dx (putF "at" (.int 0) (putF "words" (.ref W) (putF "text" (.str (S l)) []))))) := by
      have e3 : H3 a = some (.ins C dx (putF "text" (.str (S l)) [])) := s3 _ _ upd_same
      exact ((Mv.refl a H3).upd.trans (Mv.of s4)).upd.kt e3
    refine q _ W us (((m3.upd).trans (Mv.of s4)).upd) hW0 hWa ?_ (dps_kt k4 _ _ (wordD_tt _) hus) ?_
    · rw [upd_ne hWa]
      refine s4 _ _ ?_
      rw [upd_ne hWa]
      exact hWl
    · exact upd_same
theorem kl_Reader (T : Tx K mg)  : Kl P w K mg base CX0 2 (He.ga K "Reader") "Reader" ["self", "text"] (spInit K) := by
  obtain ⟨fd, F⟩ := T.f_Reader___init__
  exact ⟨_, fd, T.g_Reader, T.mk_Reader, F.bindsN fun _ _ _ _ _ _ us hl => match us, hl with | [_, _], _ => rfl, fo_Reader___init__ T F⟩
end
end G


set_option Elab.async false
set_option linter.all false
set_option maxRecDepth 100000
set_option maxHeartbeats 4000000
namespace G
open PySem PySem.Spec PyProof.Rows L2
section
variable {X : Cx} {CX : CXT} {k j : Nat} {x m : Str} {ps : List Str} {sp : Sp} {E : XK} {t : TA} {ta : TE} {e o : Expr} {es : List Expr} {p pos apos : Pos} {C : Addr} {pl : Sem Bool}
theorem pe_kl (c : Kl X.prog X.w X.K X.mg X.base CX k C x ps sp) (hr : Room j X.A) (hk : k + 1 ≤ j) (hx : Passes CX X E) (ha : PA X (e :: es) t) (hg : Gl X x := by rfl)
    (he : starEach (e :: es) X.env = (false, eval e X.env) :: starEach es X.env := by rfl) (hpl : (backTo pos (starEach es X.env)).any (·.1) = false := by rfl) (hd : (x == ("__debug__" : Str)) = false := by decide) :
    PE X (.Call (.Name x p) (e :: es) [] pos) (tMake C sp [] E t) := by
  obtain ⟨f, fd, h1, h2, h3, h4⟩ := c.ex
  exact pe_make h2 h4 (hr.mono hk) hg h1 h3 .nil hx ha hd he hpl
end
theorem iteT_of {c : Bool} {p q : Prop} (h : c = true) (x : p) : if c = true then p else q := by rw [if_pos h]; exact x
theorem iteF_of {c : Bool} {p q : Prop} (h : ¬ c = true) (x : q) : if c = true then p else q := by rw [if_neg h]; exact x
/-! ### what is still to be read -/
def Rem (r : RI) (k : Nat) (L : List (List Nat)) : Prop := (r.ws.map (·.1)).drop k = L
theorem Rem.w {r : RI} {k : Nat} {w : List Nat} {L : List (List Nat)} (h : Rem r k (w :: L)) : r.w k = w := by
  have h1 : (r.ws.map (·.1))[k]? = some w := by
    have := congrArg (fun l => l[0]?) h
    simpa [Rem] using this
  rw [List.getElem?_map] at h1
  unfold RI.w
  cases e : r.ws[k]? with
  | none => rw [e] at h1; cases h1
  | some p => rw [e] at h1; exact Option.some.inj h1
theorem Rem.next {r : RI} {k : Nat} {w : List Nat} {L : List (List Nat)} (h : Rem r k (w :: L)) : Rem r (k + 1) L := by
  unfold Rem at h ⊢
  rw [← List.drop_drop, h]
  rfl
theorem Rem.nil {r : RI} {k : Nat} (h : Rem r k []) : r.w k = [] := by
  have h1 : r.ws.length ≤ k := by
    have := congrArg List.length h
    simp at this; omega
  unfold RI.w
  rw [List.getElem?_eq_none h1]
/-! ### a reader and a list that grows -/
structure RF (K : PySem.W.Frag) (r : RI) (F : Addr) (H0 H : Hp) (k : Nat) (ds : List PyData) : Prop where
  rd : r.at K H k
  nF : F ≠ r.a
  nW : F ≠ r.W
  s0 : Same H0 H
  n0 : H0 r.a = none
  f0 : H0 F = none
  fl : ∃ us, H F = some (.lst us) ∧ DpAll K H us ds
  tt : tts ds = true
section
variable {K : PySem.W.Frag} {mg : Str → Option Value} {r : RI} {F : Addr} {H0 H H' : Hp} {k k' : Nat} {ds : List PyData} {d : PyData} {v : V} {σ : L2.St} {i : Nat}
theorem RF.same (s : Same H H') (h : RF K r F H0 H k ds) : RF K r F H0 H' k ds := by
  obtain ⟨us, h1, h2⟩ := h.fl
  exact ⟨h.rd.same s, h.nF, h.nW, h.s0.trans s, h.n0, h.f0, ⟨us, s _ _ h1, dps_same s _ _ h2⟩, h.tt⟩
theorem RF.mv (m : Mv r.a H H') (h : RF K r F H0 H k ds) (a : r.at K H' k') : RF K r F H0 H' k' ds := by
  obtain ⟨us, h1, h2⟩ := h.fl
  exact ⟨a, h.nF, h.nW, Mv.same0 h.s0 h.n0 m, h.n0, h.f0, ⟨us, m _ _ h.nF h1, dps_kt (m.kt h.rd.ob) _ _ h.tt h2⟩, h.tt⟩
theorem RF.push {us : List V} (h : RF K r F H0 H k ds) (hu : H F = some (.lst us)) (hd : Dp K H v d) (ht : G.tt d = true) : RF K r F H0 (upd H F (.lst (us ++ [v]))) k (ds ++ [d]) := by
  obtain ⟨us', h1, h2⟩ := h.fl
  rw [hu] at h1
  cases h1
  have hk : Kt H (upd H F (.lst (us ++ [v]))) := Kt.rfl'.lst hu
  exact ⟨h.rd.other hu h.nW, h.nF, h.nW, h.s0.own h.f0, h.n0, h.f0, ⟨_, upd_same, (dps_kt hk _ _ h.tt h2).snoc (dp_kt hk _ _ ht hd)⟩, tts_snoc h.tt ht⟩
/-- what stands at the list's name -/
theorem RF.ed (h : RF K r F H0 H k ds) (hv : σ[i]? = some (some (.ref F))) : EvD K (tVar i) σ H (.list ds) := by
  obtain ⟨us, h1, h2⟩ := h.fl
  exact ed_lstV hv h1 h2
/-- a mark -/
theorem x_mark {te : TE} {E : XK} {Q : VK} {L : List (List Nat)} {w : List Nat} (h : r.at K H k) (hr : Rem r k (w :: L)) (hv : σ[i]? = some (some (.ref r.a))) (he : EvD K te σ H (.str (S w))) (q : ∀ H', Mv r.a H H' → r.at K H' (k + 1) → Rem r (k + 1) L → Q .non H') :
    tMeth r.C "mark" (spMark K) [] E (tVar i) (tCons te tNil) σ H Q :=
  ⟨_, hv, r.a, r.dx, r.fs k, rfl, h.ob, fs_look h.cl (by decide), he H (Same.refl H) _ fun v H1 s1 hd => ⟨r, k, by rw [dpS hd, hr.w]; rfl, h.same s1, fun H' m a => q H' ((Mv.of s1).trans m) a hr.next⟩⟩
/-- goes_on, when it does -/
theorem x_goes {te : TE} {E : XK} {Q : VK} {L : List (List Nat)} {w : List Nat} (h : r.at K H k) (hr : Rem r k (w :: L)) (hv : σ[i]? = some (some (.ref r.a))) (he : EvD K te σ H (.str (S w))) (q : ∀ H', Mv r.a H H' → r.at K H' (k + 1) → Rem r (k + 1) L → Q (.bl true) H') :
    tMeth r.C "goes_on" (spGoes K) [] E (tVar i) (tCons te tNil) σ H Q :=
  ⟨_, hv, r.a, r.dx, r.fs k, rfl, h.ob, fs_look h.cl (by decide), he H (Same.refl H) _ fun v H1 s1 hd => ⟨r, k, w, by rw [dpS hd]; rfl, h.same s1, fun z => absurd hr.w z, fun _ H' m a => q H' ((Mv.of s1).trans m) a hr.next⟩⟩
/-- .. when it does not -/
theorem x_stays {te : TE} {E : XK} {Q : VK} {w : List Nat} (h : r.at K H k) (hr : r.w k ≠ w) (hv : σ[i]? = some (some (.ref r.a))) (he : EvD K te σ H (.str (S w))) (q : ∀ H', Same H H' → Q (.bl false) H') :
    tMeth r.C "goes_on" (spGoes K) [] E (tVar i) (tCons te tNil) σ H Q :=
  ⟨_, hv, r.a, r.dx, r.fs k, rfl, h.ob, fs_look h.cl (by decide), he H (Same.refl H) _ fun v H1 s1 hd => ⟨r, k, w, by rw [dpS hd]; rfl, h.same s1, fun _ H' s => q H' (s1.trans s), fun z => absurd z hr⟩⟩
theorem ed_end {E : XK} (h : r.at K H k) (hr : Rem r k []) (hv : σ[i]? = some (some (.ref r.a))) : EvD K (tMeth r.C "end" (spEnd K) [] E (tVar i) tNil) σ H .none := fun H1 s Q q =>
  ⟨_, hv, r.a, r.dx, r.fs k, rfl, (h.same s).ob, fs_look h.cl (by decide), r, k, rfl, h.same s, hr.nil, fun H' s' => q _ H' s' .non⟩
theorem ed_due {te : TE} {E : XK} (h : r.at K H k) (hv : σ[i]? = some (some (.ref r.a))) (he : EvD K te σ H (.bool true)) : EvD K (tMeth r.C "due" (spDue K) [] E (tVar i) (tCons te tNil)) σ H .none := fun H1 s Q q =>
  ⟨_, hv, r.a, r.dx, r.fs k, rfl, (h.same s).ob, fs_look h.cl (by decide), he H1 s _ fun v H2 s2 hd => ⟨.ref r.a, by rw [dpB hd]; rfl, fun H' s' => q _ H' (s2.trans s') .non⟩⟩
/-! ### texts joined, added -/
theorem ed_join {to te : TE} {a : List Nat} {ys : List (List Nat)} (ho : EvD K to σ H (.str (S a))) (he : EvN K te σ H (ys.map fun y => .str (S y))) (hb : ∀ y ∈ ys, y.length ≤ 10000) (hn : ys.length ≤ 1000) (ha : a.length ≤ 10) :
    EvD K (tM1 (fun x xs H Q => ∃ a p, ∃ ys : List Str, x = .str a ∧ xs = [.ref p] ∧ (SqL K H p (ys.map V.str) ∨ SqT K H p (ys.map V.str)) ∧ (ys.map (·.length)).sum + ys.length * a.length ≤ 16777216 ∧ Q (.str (Txt.join a ys)) H) to te) σ H (.str (S (TL.joinL a ys))) := fun H1 s Q q => by
  have key : ∀ l : List (List Nat), (∀ y ∈ l, y.length ≤ 10000) → (l.map List.length).sum ≤ l.length * 10000 := by
    intro l
    induction l with
    | nil => intro _; simp
    | cons y l ih =>
      intro h
      have := ih fun z hz => h z (List.mem_cons_of_mem _ hz)
      have := h y List.mem_cons_self
      simp [Nat.succ_mul]; omega
  have hk := key ys hb
  have hm : ys.length * 10000 ≤ 1000 * 10000 := Nat.mul_le_mul_right _ hn
  have hm2 : ys.length * a.length ≤ 1000 * 10 := Nat.mul_le_mul hn ha
  refine ho H1 s _ fun x H2 s2 hx => ⟨⟨_, dpS hx⟩, he H2 (s.trans s2) _ fun p vs H3 s3 _ hp hv => ?_⟩
  refine ⟨S a, p, ys.map S, dpS hx, rfl, .inl ?_, ?_, ?_⟩
  · have hv : DpAll K H3 vs ((ys.map S).map .str) := by rw [List.map_map]; exact hv
    rw [← dps_strs hv]
    exact sq_of hp
  · rw [List.map_map, List.length_map, S_len]
    have : (ys.map ((·.length) ∘ S)) = ys.map List.length := List.map_congr_left fun y _ => S_len y
    rw [this]; omega
  · rw [SX.join_S]
    exact q _ H3 (s2.trans s3) (.str _)
theorem ed_catS {ta tb : TE} {a b : List Nat} (ha : EvD K ta σ H (.str (S a))) (hb : EvD K tb σ H (.str (S b))) (hl : a.length + b.length ≤ 100000) : EvD K (tOp (fun x y H Q => ∃ i j, x = .str i ∧ y = .str j ∧ i.length + j.length ≤ sizeLine ∧ Q (.str (i ++ j)) H) ta tb) σ H (.str (S (a ++ b))) :=
  (ed_addS ha hb (by rw [S_len, S_len]; exact hl)).to (by rw [S_cat])
/-- a numeral -/
theorem x_numeral {te : TE} {E : XK} {Q : VK} {L : List (List Nat)} {n m : Nat} (h : r.at K H k) (hr : Rem r k (numW n :: L)) (hn : n < 100) (hm : n ≤ m) (hv : σ[i]? = some (some (.ref r.a))) (he : EvD K te σ H (.int (m : Int))) (q : ∀ H', Mv r.a H H' → r.at K H' (k + 1) → Rem r (k + 1) L → Q (.int (n : Int)) H') :
    tMeth r.C "numeral" (spNumeral K) [] E (tVar i) (tCons te tNil) σ H Q :=
  ⟨_, hv, r.a, r.dx, r.fs k, rfl, h.ob, fs_look h.cl (by decide), he H (Same.refl H) _ fun v H1 s1 hd => ⟨r, k, n, m, by rw [dpI hd]; rfl, h.same s1, hr.w, hn, hm, fun H' m a => q H' ((Mv.of s1).trans m) a hr.next⟩⟩
/-- a new reader and a new list -/
theorem s_newRF (T : Tx K mg) {te : TE} {D : Ends} {E : XK} {l : List Nat} {j : Nat} (he : EvD K te σ H (.str (S l))) (hl : l.length ≤ 50000)
    (q : ∀ a dx W F H', RF K ⟨a, He.ga K "Reader", dx, W, [], l, wordsOf l⟩ F H H' 0 [] → D.nx ((σ.set i (some (.ref a))).set j (some (.ref F))) H') :
    tPar i j (tCons (tMake (He.ga K "Reader") (spInit K) [] E (tCons te tNil)) (tCons (tLst tNil) tNil)) D σ H := by
  refine he H (Same.refl H) _ fun v H1 s1 hv => ?_
  obtain rfl := dpS hv
  intro a dx ha hdx hne
  have e1 : (upd (upd H1 dx (.own a)) a (.ins (He.ga K "Reader") dx [])) a = some (.ins (He.ga K "Reader") dx []) := upd_same
  refine ⟨a, He.ga K "Reader", dx, l, rfl, e1, T.k_Reader, T.n_Reader_text, T.n_Reader_words, T.n_Reader_at, hl, fun H2 W us m hW hWa hWl hus hfs => ⟨rfl, ?_⟩⟩
  have s12 : Same H1 H2 := fun b o e => by
    have hb : b ≠ a := fun z => by rw [z, ha] at e; cases e
    refine m b o hb ?_
    rw [upd_ne hb, upd_ne (fun z => by rw [z, hdx] at e; cases e)]
    exact e
  refine ⟨by simp, fun F hF => ⟨_, _, rfl, q a dx W F _ ?_⟩⟩
  have ha0 : H a = none := back s1 ha
  have hFa : F ≠ a := fun z => by rw [z, hfs] at hF; cases hF
  have hFW : F ≠ W := fun z => by rw [z, hWl] at hF; cases hF
  have sF : Same H2 (upd H2 F (.lst [])) := (Same.refl H2).new hF
  have hF0 : H F = none := back (s1.trans s12) hF
  have hat : (⟨a, He.ga K "Reader", dx, W, [], l, wordsOf l⟩ : RI).at K H2 0 := ⟨hfs, ⟨us, hWl, hus⟩, .inl ⟨rfl, rfl⟩, Nat.le_trans (wordsF_len _ _ _) hl, hl⟩
  exact ⟨hat.same sF, hFa, hFW, (s1.trans s12).trans sF, ha0, hF0, ⟨[], upd_same, .nil⟩, rfl⟩
theorem ed_inD {ta tb : TE} {d : PyData} {ds : List PyData} (ha : EvD K ta σ H d) (hb : EvD K tb σ H (.list ds)) (h1 : SeqAt.shaped d = true) (h2 : SeqAt.shaped (.list ds) = true) : EvD K (tOp (rInD K) ta tb) σ H (.bool (ds.any fun z => PyData.eqv z d)) :=
  ed_op ha hb fun x y H1 _ hx hy Q q => ⟨d, ds, hx, hy, h1, h2, q _ H1 (Same.refl H1) (.bl _)⟩
end
end G

set_option Elab.async false
set_option linter.all false
set_option maxRecDepth 100000
set_option maxHeartbeats 4000000
namespace G
open PySem PySem.Spec PyProof.Rows L2
/-! ### texts and words of signatures -/
def entT (e : Str × Nat) : List Nat := e.1.cps.toList ++ [47] ++ numW e.2
def sigT (sg : Sg) : List Nat := TL.joinL [44, 32] (sg.map entT)
def entW (e : Str × Nat) : List (List Nat) := [e.1.cps.toList, [47], numW e.2]
def sigW : Sg → List (List Nat)
  | [] => []
  | [e] => entW e
  | e :: e2 :: r => entW e ++ [44] :: sigW (e2 :: r)
theorem low_run {l : List Nat} (h : lowL l = true) : l ≠ [] ∧ l.all isRun = true ∧ l.length ≤ 10 := by
  cases l with
  | nil => simp [lowL] at h
  | cons c r =>
    simp only [lowL, Bool.and_eq_true, decide_eq_true_eq] at h
    exact ⟨by simp, h.2, by simp; omega⟩
theorem numW_run : ∀ n : Nat, n < 100 → (numW n).all isRun = true := by decide +kernel
theorem Toks.runL {w : List Nat} {ws : List (List Nat)} {cs : List Nat} (h1 : w ≠ []) (h2 : w.all isRun = true) (hn : ∀ d, cs.head? = some d → isRun d = false) (h : Toks ws cs) : Toks (w :: ws) (w ++ cs) := by
  cases w with
  | nil => exact absurd rfl h1
  | cons c r =>
    have h2 : isRun c = true ∧ r.all isRun = true := by simpa using h2
    exact .run h2.1 h2.2 hn h
theorem Toks.sg {c : Nat} {ws : List (List Nat)} {cs : List Nat} (h : Toks ws cs) (hc : isRun c = false := by decide +kernel) (hb : isBl c = false := by decide +kernel) (ha : decide (c = 45) = false := by decide) : Toks ([c] :: ws) (c :: cs) :=
  .sign hc hb (by unfold G.arrow; rw [ha]; rfl) h
theorem bl32 : isBl 32 = true := by decide +kernel
theorem Toks.sp {ws : List (List Nat)} {cs : List Nat} (h : Toks ws cs) : Toks ws (32 :: cs) := .blank bl32 h
def NoRun (cs : List Nat) : Prop := ∀ d, cs.head? = some d → isRun d = false
theorem nr_nil : NoRun [] := fun d h => by simp at h
theorem nr_cons {c : Nat} {cs : List Nat} (h : isRun c = false) : NoRun (c :: cs) := fun d e => by simp at e; subst e; exact h
theorem run_of {c : Nat} {b : Bool} (h : isRun c = b) : isRun c = b := h
theorem r47 : isRun 47 = false := by decide +kernel
theorem r44 : isRun 44 = false := by decide +kernel
theorem r40 : isRun 40 = false := by decide +kernel
theorem r41 : isRun 41 = false := by decide +kernel
theorem r32 : isRun 32 = false := by decide +kernel
theorem r59 : isRun 59 = false := by decide +kernel
theorem ent_toks {e : Str × Nat} (h1 : lowL e.1.cps.toList = true) (h2 : e.2 ≤ 2) {ws : List (List Nat)} {cs : List Nat} (h : Toks ws cs) (hn : NoRun cs) : Toks (entW e ++ ws) (entT e ++ cs) := by
  obtain ⟨a, b, _⟩ := low_run h1
  have c := (numW_ok e.2 (by omega)).2.2.2.1
  have d := numW_run e.2 (by omega)
  have := Toks.runL a b (nr_cons r47) (Toks.sg (c := 47) (Toks.runL c d hn h))
  simpa [entW, entT] using this
theorem sig_toks : ∀ {sg : Sg}, (∀ e ∈ sg, lowL e.1.cps.toList = true) → (∀ e ∈ sg, e.2 ≤ 2) → Toks (sigW sg) (sigT sg)
  | [], _, _ => .nil
  | [e], h1, h2 => by
    have := ent_toks (h1 e (by simp)) (h2 e (by simp)) .nil nr_nil
    simpa [sigW, sigT, TL.joinL] using this
  | e :: e2 :: r, h1, h2 => by
    have ih := sig_toks (sg := e2 :: r) (fun x hx => h1 x (List.mem_cons_of_mem _ hx)) (fun x hx => h2 x (List.mem_cons_of_mem _ hx))
    have := ent_toks (h1 e (by simp)) (h2 e (by simp)) (Toks.sg (c := 44) ih.sp) (nr_cons r44)
    simpa [sigW, sigT, TL.joinL] using this
theorem entT_len {e : Str × Nat} (h1 : lowL e.1.cps.toList = true) (h2 : e.2 ≤ 2) : (entT e).length ≤ 20 := by
  have a := (low_run h1).2.2
  have b := (numW_ok e.2 (by omega)).2.1
  simp [entT] at *; omega
theorem joinL_len (a : List Nat) (n : Nat) : ∀ ys : List (List Nat), (∀ y ∈ ys, y.length ≤ n) → (TL.joinL a ys).length ≤ ys.length * (n + a.length)
  | [], _ => by simp [TL.joinL]
  | [y], h => by
    have := h y (by simp)
    simp [TL.joinL]; omega
  | y :: z :: r, h => by
    have := h y (by simp)
    have ih := joinL_len a n (z :: r) fun x hx => h x (List.mem_cons_of_mem _ hx)
    simp [TL.joinL, Nat.add_mul] at *; omega
theorem sigT_len {sg : Sg} (h : SgLike sg) : (sigT sg).length ≤ 300 := by
  have := joinL_len [44, 32] 20 (sg.map entT) (fun y hy => by
    obtain ⟨e, he, rfl⟩ := List.mem_map.mp hy
    exact entT_len (h.low e he) (h.ar e he))
  have h2 := h.few
  simp [sigT] at *; omega
end G

set_option Elab.async false
set_option linter.all false
set_option maxRecDepth 100000
set_option maxHeartbeats 4000000
namespace G
open PySem PySem.Spec PyProof.Rows L2
/-! ### trees as texts and words -/
def nameOf (sg : Sg) (f : Nat) : List Nat := match sg[f]? with
  | some e => e.1.cps.toList
  | none => []
def trT (sg : Sg) : Tr → List Nat
  | .n0 f => nameOf sg f
  | .n1 f a => nameOf sg f ++ [40] ++ trT sg a ++ [41]
  | .n2 f a b => nameOf sg f ++ [40] ++ (trT sg a ++ [44, 32] ++ trT sg b) ++ [41]
def trW (sg : Sg) : Tr → List (List Nat)
  | .n0 f => [nameOf sg f]
  | .n1 f a => nameOf sg f :: [40] :: (trW sg a ++ [[41]])
  | .n2 f a b => nameOf sg f :: [40] :: (trW sg a ++ [44] :: (trW sg b ++ [[41]]))
/-- a symbol over its children -/
def mkT (f : Nat) : List Tr → Tr
  | [] => .n0 f
  | [a] => .n1 f a
  | a :: b :: _ => .n2 f a b
theorem mkT_toD (f : Nat) (l : List Tr) (h : l.length ≤ 2) : (mkT f l).toD = .tuple (.int (f : Int) :: l.map Tr.toD) := by
  match l, h with
  | [], _ => rfl
  | [a], _ => rfl
  | [a, b], _ => rfl
  | _ :: _ :: _ :: _, h => simp at h
/-- an open node: its symbol, the children that are done, those that are due behind the running one -/
abbrev Fr := Nat × List Tr × List Tr
def plug : List Fr → Tr → Tr
  | [], t => t
  | (f, cs, rs) :: up, t => plug up (mkT f (cs ++ t :: rs))
/-- what is written behind the running child -/
def contW (sg : Sg) : List Fr → List (List Nat) → List (List Nat)
  | [], L => L
  | (_, _, rs) :: up, L => (rs.flatMap fun c => [44] :: trW sg c) ++ [41] :: contW sg up L
def remS : List Fr → Nat
  | [] => 0
  | (_, _, rs) :: up => (rs.map Tr.size).sum + remS up
structure FrOk (sg : Sg) (p : Fr) : Prop where
  ar : ∃ x, sg[p.1]? = some (x, p.2.1.length + 1 + p.2.2.length)
  few : p.2.1.length + 1 + p.2.2.length ≤ 2
  rs : ∀ c ∈ p.2.2, c.ok sg
/-- closing: pops the frames that are full; stops at a frame that has a child due -/
def closeP : List Fr → Tr → Sum Tr (List Fr × Tr)
  | [], t => .inl t
  | (f, cs, []) :: up, t => closeP up (mkT f (cs ++ [t]))
  | (f, cs, c :: rs) :: up, t => .inr ((f, cs ++ [t], rs) :: up, c)
theorem closeP_plug : ∀ (fs : List Fr) (t : Tr), match closeP fs t with
    | .inl u => u = plug fs t
    | .inr (fs', c) => plug fs' c = plug fs t
  | [], t => rfl
  | (f, cs, []) :: up, t => by
    have := closeP_plug up (mkT f (cs ++ [t]))
    unfold closeP
    cases e : closeP up (mkT f (cs ++ [t])) with
    | inl u => rw [e] at this; exact this
    | inr q => rw [e] at this; exact this
  | (f, cs, c :: rs) :: up, t => by
    show plug ((f, cs ++ [t], rs) :: up) c = plug ((f, cs, c :: rs) :: up) t
    simp [plug]
theorem closeP_len : ∀ (fs : List Fr) (t : Tr) {fs' : List Fr} {c : Tr}, closeP fs t = .inr (fs', c) → fs'.length ≤ fs.length ∧ remS fs' + c.size = remS fs
  | [], t, fs', c, h => by simp [closeP] at h
  | (f, cs, []) :: up, t, fs', c, h => by
    have := closeP_len up (mkT f (cs ++ [t])) (show closeP up (mkT f (cs ++ [t])) = .inr (fs', c) from h)
    simp [remS] at *; omega
  | (f, cs, d :: rs) :: up, t, fs', c, h => by
    simp [closeP] at h
    obtain ⟨rfl, rfl⟩ := h
    simp [remS]; omega
theorem closeP_ok {sg : Sg} : ∀ (fs : List Fr) (t : Tr) {fs' : List Fr} {c : Tr}, (∀ p ∈ fs, FrOk sg p) → closeP fs t = .inr (fs', c) → (∀ p ∈ fs', FrOk sg p) ∧ c.ok sg
  | [], t, fs', c, _, h => by simp [closeP] at h
  | (f, cs, []) :: up, t, fs', c, hk, h => closeP_ok up (mkT f (cs ++ [t])) (fun p hp => hk p (List.mem_cons_of_mem _ hp)) h
  | (f, cs, d :: rs) :: up, t, fs', c, hk, h => by
    simp [closeP] at h
    obtain ⟨rfl, rfl⟩ := h
    have h0 := hk (f, cs, d :: rs) List.mem_cons_self
    refine ⟨fun p hp => ?_, h0.rs d (by simp)⟩
    rcases List.mem_cons.mp hp with rfl | hp
    · obtain ⟨x, hx⟩ := h0.ar
      have e : cs.length + 1 + (d :: rs).length = (cs ++ [t]).length + 1 + rs.length := by simp; omega
      have hx : sg[f]? = some (x, cs.length + 1 + (d :: rs).length) := hx
      refine ⟨⟨x, ?_⟩, ?_, fun c hc => h0.rs c (by simp [show c ∈ rs from hc])⟩
      · show sg[f]? = some (x, (cs ++ [t]).length + 1 + rs.length)
        rw [hx, e]
      · have := h0.few
        show (cs ++ [t]).length + 1 + rs.length ≤ 2
        rw [← e]; exact this
    · exact hk p (List.mem_cons_of_mem _ hp)
theorem mkT_size (f : Nat) (l : List Tr) (h : l.length ≤ 2) : (mkT f l).size = (l.map Tr.size).sum + 1 := by
  match l, h with
  | [], _ => rfl
  | [a], _ => simp [mkT, Tr.size]
  | [a, b], _ => simp [mkT, Tr.size]
  | _ :: _ :: _ :: _, h => simp at h
theorem mem_sum {l : List Tr} {c : Tr} (h : c ∈ l) : c.size ≤ (l.map Tr.size).sum := by
  induction l with
  | nil => cases h
  | cons a r ih =>
    simp only [List.map_cons, List.sum_cons]
    rcases List.mem_cons.mp h with rfl | h
    · omega
    · have := ih h; omega
theorem plug_size : ∀ (fs : List Fr) (t : Tr), (∀ p ∈ fs, p.2.1.length + 1 + p.2.2.length ≤ 2) → t.size + fs.length + remS fs ≤ (plug fs t).size ∧ ∀ p ∈ fs, ∀ c ∈ p.2.1, c.size ≤ (plug fs t).size
  | [], t, _ => ⟨by simp [plug, remS], fun p hp => by cases hp⟩
  | (f, cs, rs) :: up, t, h => by
    have h0 := h (f, cs, rs) List.mem_cons_self
    have hl : (cs ++ t :: rs).length ≤ 2 := by simp at h0 ⊢; omega
    obtain ⟨h1, h2⟩ := plug_size up (mkT f (cs ++ t :: rs)) fun p hp => h p (List.mem_cons_of_mem _ hp)
    rw [mkT_size f _ hl] at h1
    have e : ((cs ++ t :: rs).map Tr.size).sum = (cs.map Tr.size).sum + (t.size + (rs.map Tr.size).sum) := by simp
    rw [e] at h1
    refine ⟨by simp [plug, remS]; omega, fun p hp c hc => ?_⟩
    rcases List.mem_cons.mp hp with rfl | hp
    · have := mem_sum (show c ∈ cs from hc)
      show c.size ≤ (plug up (mkT f (cs ++ t :: rs))).size
      omega
    · exact h2 p hp c hc
theorem kid_nil {sg : Sg} {t : Tr} {x : Str} (h : t.kids = []) (hx : sg[t.hd]? = some (x, t.kids.length)) : t = .n0 t.hd ∧ trW sg t = [x.cps.toList] := by
  cases t with
  | n0 f => exact ⟨rfl, by show [nameOf sg f] = _; unfold nameOf; rw [show sg[f]? = _ from hx]⟩
  | n1 f a => simp [Tr.kids] at h
  | n2 f a b => simp [Tr.kids] at h
theorem kid_cons {sg : Sg} {t a : Tr} {rs : List Tr} {x : Str} (h : t.kids = a :: rs) (hx : sg[t.hd]? = some (x, t.kids.length)) :
    t = mkT t.hd (a :: rs) ∧ trW sg t = x.cps.toList :: [40] :: (trW sg a ++ ((rs.flatMap fun c => [44] :: trW sg c) ++ [[41]])) ∧ t.size = a.size + (rs.map Tr.size).sum + 1 ∧ rs.length ≤ 1 := by
  have hn : nameOf sg t.hd = x.cps.toList := by unfold nameOf; rw [hx]
  cases t with
  | n0 f => simp [Tr.kids] at h
  | n1 f b =>
    simp [Tr.kids] at h
    obtain ⟨rfl, rfl⟩ := h
    have hn : nameOf sg f = x.cps.toList := hn
    exact ⟨rfl, by simp [trW, hn], by simp [Tr.size], by simp⟩
  | n2 f b c =>
    simp [Tr.kids] at h
    obtain ⟨rfl, rfl⟩ := h
    have hn : nameOf sg f = x.cps.toList := hn
    exact ⟨rfl, by simp [trW, hn], by simp [Tr.size], by simp⟩
/-! ### the list of open nodes -/
inductive FrA (K : PySem.W.Frag) (H0 H : Hp) : List Addr → List V → List Fr → Prop
  | nil : FrA K H0 H [] [] []
  | cons {p Lc f : Nat} {us : List V} {cs rs : List Tr} {ls : List Addr} {xs : List V} {fs : List Fr} (h1 : H p = some (.tup [.int (f : Int), .ref Lc])) (h2 : H Lc = some (.lst us)) (h3 : DpAll K H us (cs.map Tr.toD)) (h4 : H0 Lc = none) (h5 : Lc ∉ ls)
      (r : FrA K H0 H ls xs fs) : FrA K H0 H (Lc :: ls) (.ref p :: xs) ((f, cs, rs) :: fs)
theorem toD_tts (cs : List Tr) : tts (cs.map Tr.toD) = true := tts_of fun d hd => by
  obtain ⟨t, _, rfl⟩ := List.mem_map.mp hd
  exact t.toD_tt
theorem FrA.keep {K : PySem.W.Frag} {H0 H H' : Hp} (kt : Kt H H') : ∀ {ls : List Addr} {xs : List V} {fs : List Fr}, FrA K H0 H ls xs fs → (∀ b ∈ ls, ∀ o, H b = some o → H' b = some o) → FrA K H0 H' ls xs fs
  | _, _, _, .nil, _ => .nil
  | _, _, _, .cons h1 h2 h3 h4 h5 r, h => .cons (kt _ _ trivial h1) (h _ (by simp) _ h2) (dps_kt kt _ _ (toD_tts _) h3) h4 h5 (FrA.keep kt r fun b hb => h b (by simp [hb]))
/-- as data -/
def frD (p : Fr) : PyData := .tuple [.int (p.1 : Int), .list (p.2.1.map Tr.toD)]
theorem FrA.dps {K : PySem.W.Frag} {H0 H : Hp} : ∀ {ls : List Addr} {xs : List V} {fs : List Fr}, FrA K H0 H ls xs fs → DpAll K H xs (fs.map frD)
  | _, _, _, .nil => .nil
  | _, _, _, .cons h1 h2 h3 _ _ r => .cons (.tup (st_of h1) (.cons (.int _) (.cons (.lst (sq_of h2) h3) .nil))) r.dps
theorem FrA.len {K : PySem.W.Frag} {H0 H : Hp} {ls : List Addr} {xs : List V} {fs : List Fr} (h : FrA K H0 H ls xs fs) : xs.length = fs.length := by
  rw [h.dps.len, List.length_map]
theorem dps_rev {K : PySem.W.Frag} {H : Hp} : ∀ {xs : List V} {ds : List PyData}, DpAll K H xs ds → DpAll K H xs.reverse ds.reverse
  | _, _, .nil => .nil
  | _, _, .cons a t => by
    rw [List.reverse_cons, List.reverse_cons]
    exact (dps_rev t).snoc a
/-- the list at A holds the frames, the top one last -/
structure AbA (K : PySem.W.Frag) (H0 H : Hp) (A : Addr) (ls : List Addr) (xs : List V) (fs : List Fr) : Prop where
  l : H A = some (.lst xs.reverse)
  a0 : H0 A = none
  nin : A ∉ ls
  f : FrA K H0 H ls xs fs
theorem AbA.keep {K : PySem.W.Frag} {H0 H H' : Hp} {A : Addr} {ls : List Addr} {xs : List V} {fs : List Fr} (h : AbA K H0 H A ls xs fs) (kt : Kt H H') (hA : ∀ b, b = A ∨ b ∈ ls → ∀ o, H b = some o → H' b = some o) : AbA K H0 H' A ls xs fs :=
  ⟨hA A (.inl rfl) _ h.l, h.a0, h.nin, h.f.keep kt fun b hb => hA b (.inr hb)⟩
theorem AbA.same {K : PySem.W.Frag} {H0 H H' : Hp} {A : Addr} {ls : List Addr} {xs : List V} {fs : List Fr} (h : AbA K H0 H A ls xs fs) (s : Same H H') : AbA K H0 H' A ls xs fs := h.keep (Same.kt s) fun b _ o e => s b o e
theorem FrA.there {K : PySem.W.Frag} {H0 H : Hp} : ∀ {ls : List Addr} {xs : List V} {fs : List Fr}, FrA K H0 H ls xs fs → ∀ b ∈ ls, H0 b = none ∧ ∃ us, H b = some (.lst us)
  | _, _, _, .nil, b, hb => by cases hb
  | _, _, _, .cons h1 h2 h3 h4 h5 r, b, hb => by
    rcases List.mem_cons.mp hb with rfl | hb
    · exact ⟨h4, _, h2⟩
    · exact r.there b hb
theorem AbA.mv {K : PySem.W.Frag} {H0 H H' : Hp} {A a : Addr} {ls : List Addr} {xs : List V} {fs : List Fr} {C dx : Addr} {gs : List (Str × V)} (h : AbA K H0 H A ls xs fs) (m : Mv a H H') (ha : H a = some (.ins C dx gs)) : AbA K H0 H' A ls xs fs := by
  refine h.keep (m.kt ha) fun b hb o e => m b o (fun z => ?_) e
  subst z
  rcases hb with rfl | hb
  · rw [h.l] at ha; cases ha
  · obtain ⟨_, us, e2⟩ := h.f.there _ hb
    rw [e2] at ha; cases ha
/-! ### a tree's reader -/
structure TSt (K : PySem.W.Frag) (r : RI) (sg : Sg) (H0 H : Hp) (k : Nat) : Prop where
  at_ : r.at K H k
  C : r.C = He.ga K "MachineReader"
  sgn : ∃ vsg D kvs, r.tl = [(("signature" : Str), vsg), (("symbols" : Str), .ref D)] ∧ Dp K H vsg (sigD sg) ∧ H D = some (.dK kvs) ∧ ∀ (i : Nat) (e : Str × Nat), sg[i]? = some e → valV kvs (Sum.inr e.1) = some (.int (i : Int))
  mv : Mv r.a H0 H
  wo : ∃ o, H0 r.W = some o
theorem sigD_tt (sg : Sg) : tt (sigD sg) = true := by
  show tts (sg.map entD) = true
  exact tts_of fun d hd => by
    obtain ⟨p, _, rfl⟩ := List.mem_map.mp hd
    rfl
section
variable {K : PySem.W.Frag} {mg : Str → Option Value} {r : RI} {sg : Sg} {H0 H H' : Hp} {k k' : Nat} {σ : L2.St} {i : Nat}
theorem TSt.same (h : TSt K r sg H0 H k) (s : Same H H') : TSt K r sg H0 H' k := by
  obtain ⟨vsg, D, kvs, h1, h2, h3, h4⟩ := h.sgn
  exact ⟨h.at_.same s, h.C, ⟨vsg, D, kvs, h1, dp_same s _ _ h2, s _ _ h3, h4⟩, h.mv.trans (Mv.of s), h.wo⟩
theorem TSt.mov (h : TSt K r sg H0 H k) (m : Mv r.a H H') (a : r.at K H' k') : TSt K r sg H0 H' k' := by
  obtain ⟨vsg, D, kvs, h1, h2, h3, h4⟩ := h.sgn
  exact ⟨a, h.C, ⟨vsg, D, kvs, h1, dp_kt (m.kt h.at_.ob) _ _ (sigD_tt sg) h2, m _ _ (fun z => by rw [z, h.at_.ob] at h3; cases h3) h3, h4⟩, h.mv.trans m, h.wo⟩
theorem TSt.set {b : Addr} {o : HO} {us : List V} (h : TSt K r sg H0 H k) (hb : H b = some (.lst us)) (n : H0 b = none) : TSt K r sg H0 (upd H b o) k := by
  obtain ⟨vsg, D, kvs, h1, h2, h3, h4⟩ := h.sgn
  have hW : b ≠ r.W := fun z => by
    obtain ⟨o, e⟩ := h.wo
    rw [← z, n] at e; cases e
  refine ⟨h.at_.other hb hW, h.C, ⟨vsg, D, kvs, h1, dp_kt (Kt.rfl'.lst hb) _ _ (sigD_tt sg) h2, ?_, h4⟩, fun c u hc e => ?_, h.wo⟩
  · rw [upd_ne (fun z => by rw [z, hb] at h3; cases h3)]; exact h3
  · rw [upd_ne (fun z => by rw [z, n] at e; cases e)]; exact h.mv c u hc e
theorem TSt.rebase (h : TSt K r sg H0 H k) : TSt K r sg H H k := by
  obtain ⟨us, e, _⟩ := h.at_.wl
  exact ⟨h.at_, h.C, h.sgn, Mv.refl _ _, _, e⟩
theorem ed_sgn (T : Tx K mg) (h : TSt K r sg H0 H k) (hv : σ[i]? = some (some (.ref r.a))) : EvD K (tFld K (tVar i) "signature") σ H (sigD sg) := by
  obtain ⟨vsg, D, kvs, h1, h2, h3, h4⟩ := h.sgn
  refine ed_fld hv h.at_.ob (rc_cls T h.at_.cl) ?_ ?_ h2
  · rw [h.C]; exact T.n_MachineReader_signature
  · unfold RI.fs
    rw [h1]
    rfl
theorem Mv.back {a b : Addr} {H H' : Hp} {C dx : Addr} {fs : List (Str × V)} (m : Mv a H H') (ha : H' a = some (.ins C dx fs)) (hb : H' b = none) : H b = none := by
  cases e : H b with
  | none => rfl
  | some o => rw [m b o (fun z => by rw [z, ha] at hb; cases hb) e] at hb; cases hb
theorem TSt.ob (h : TSt K r sg H0 H k) : H r.a = some (.ins (He.ga K "MachineReader") r.dx (r.fs k)) := by
  have := h.at_.ob
  unfold RI.o at this
  rw [h.C] at this
  exact this
/-! ### promises -/
def spSymbol (K : PySem.W.Frag) : Sp := fun vs H Q _ => ∃ (r : RI) (k : Nat) (sg : Sg) (H0 : Hp) (f : Nat) (e : Str × Nat), vs = [.ref r.a] ∧ TSt K r sg H0 H k ∧ sg[f]? = some e ∧ r.w k = e.1.cps.toList ∧ ∀ H', Mv r.a H H' → r.at K H' (k + 1) → Q (.int (f : Int)) H'
/-- what closing leaves -/
def spClosed (K : PySem.W.Frag) : Sp := fun vs H Q _ => ∃ (r : RI) (k : Nat) (sg : Sg) (H0 : Hp) (v : V) (t : Tr) (A : Addr) (ls : List Addr) (xs : List V) (fs : List Fr) (L : List (List Nat)), vs = [.ref r.a, v, .ref A] ∧ TSt K r sg H0 H k ∧ Dp K H v t.toD ∧
  AbA K H0 H A ls xs fs ∧ (∀ p ∈ fs, FrOk sg p) ∧ fs.length ≤ 1000 ∧ (∀ p ∈ fs, ∀ c ∈ p.2.1, c.dep ≤ 40) ∧ Rem r k (contW sg fs L) ∧ match closeP fs t with
    | .inl u => ∀ w H' k', TSt K r sg H0 H' k' → Rem r k' L → Dp K H' w u.toD → Q w H'
    | .inr (fs', c) => ∀ H' k' ls' xs', TSt K r sg H0 H' k' → AbA K H0 H' A ls' xs' fs' → Rem r k' (trW sg c ++ contW sg fs' L) → Q .non H'
def spTree (K : PySem.W.Frag) : Sp := fun vs H Q _ => ∃ (r : RI) (k : Nat) (sg : Sg) (T : Tr) (L : List (List Nat)), vs = [.ref r.a] ∧ TSt K r sg H H k ∧ sg.length ≤ 12 ∧ T.ok sg ∧ T.size ≤ 40 ∧ Rem r k (trW sg T ++ L) ∧
  ∀ v H' k', TSt K r sg H H' k' → Rem r k' L → Dp K H' v T.toD → Q v H'
theorem x_symbol {E : XK} {Q : VK} {f : Nat} {e : Str × Nat} {L : List (List Nat)} (ts : TSt K r sg H0 H k) (hf : sg[f]? = some e) (hr : Rem r k (e.1.cps.toList :: L)) (hv : σ[i]? = some (some (.ref r.a))) (q : ∀ H', Mv r.a H H' → TSt K r sg H0 H' (k + 1) → Rem r (k + 1) L → Q (.int (f : Int)) H') :
    tMeth (He.ga K "MachineReader") "symbol" (spSymbol K) [] E (tVar i) tNil σ H Q :=
  ⟨_, hv, r.a, r.dx, r.fs k, rfl, ts.ob, fs_look ts.at_.cl (by decide), r, k, sg, H0, f, e, rfl, ts, hf, hr.w, fun H' m a => q H' m (ts.mov m a) hr.next⟩
theorem x_tree {E : XK} {Q : VK} {T : Tr} {L : List (List Nat)} (ts : TSt K r sg H0 H k) (hsg : sg.length ≤ 12) (ok : T.ok sg) (sz : T.size ≤ 40) (hr : Rem r k (trW sg T ++ L)) (hv : σ[i]? = some (some (.ref r.a))) (q : ∀ v H' k', TSt K r sg H H' k' → Rem r k' L → Dp K H' v T.toD → Q v H') :
    tMeth (He.ga K "MachineReader") "tree" (spTree K) [] E (tVar i) tNil σ H Q :=
  ⟨_, hv, r.a, r.dx, r.fs k, rfl, ts.ob, fs_look ts.at_.cl (by decide), r, k, sg, T, L, rfl, ts.rebase, hsg, ok, sz, hr, q⟩
theorem nameOf_eq {sg : Sg} {f : Nat} {e : Str × Nat} (h : sg[f]? = some e) : nameOf sg f = e.1.cps.toList := by
  unfold nameOf
  rw [h]
theorem TSt.trans {H1 : Hp} (h : TSt K r sg H0 H k) (h1 : TSt K r sg H H1 k') : TSt K r sg H0 H1 k' := ⟨h1.at_, h1.C, h1.sgn, h.mv.trans h1.mv, h.wo⟩
end
end G

set_option Elab.async false
set_option linter.all false
set_option maxRecDepth 100000
set_option maxHeartbeats 4000000
namespace G
open PySem PySem.Spec PyProof.Rows L2
/-! ### machines as texts and words -/
theorem ed_strI {K : PySem.W.Frag} {σ : L2.St} {H : Hp} {ta : TE} {n : Nat} (h : EvD K ta σ H (.int (n : Int))) (hn : n < 1000000) : EvD K (tCB (fun xs H Q => ∃ i, xs = [.int i] ∧ i.natAbs.log2 < 1920 ∧ Q (.str (toString i)) H) (tCons ta tNil)) σ H (.str (S (numW n))) := fun H1 s Q q => h H1 s _ fun v H2 s2 hv => by
  refine ⟨(n : Int), by rw [dpI hv], ?_, ?_⟩
  · have : ((n : Int).natAbs) = n := by simp
    rw [this]
    by_cases h0 : n = 0
    · subst h0; decide
    · have := (Nat.log2_lt (k := 20) h0).mpr (by omega)
      omega
  · have e : (Str.ofString (toString ((n : Nat) : Int))) = S (numW n) := SX.num_S n
    rw [e]
    exact q _ H2 s2 (.str _)
theorem strComma2 : (", " : Str) = S [44, 32] := by decide +kernel
theorem strComma : ("," : Str) = S [44] := by decide +kernel
theorem strColon : (":" : Str) = S [58] := by decide +kernel
theorem strBar : ("|" : Str) = S [124] := by decide +kernel
theorem strSemi2 : ("; " : Str) = S [59, 32] := by decide +kernel
theorem strSemi : (";" : Str) = S [59] := by decide +kernel
theorem strArr : (" -> " : Str) = S [32, 45, 62, 32] := by decide +kernel
theorem strArrow : ("->" : Str) = S [45, 62] := by decide +kernel
theorem strSp : (" " : Str) = S [32] := by decide +kernel
theorem strP : (")" : Str) = S [41] := by decide +kernel
theorem strQ : ("(" : Str) = S [40] := by decide +kernel
def comT (l : List Nat) : List Nat := TL.joinL [44, 32] (l.map numW)
def moT (sg : Sg) (m : Mo) : List Nat := nameOf sg m.1 ++ (if m.2.1 = [] then [] else [40] ++ comT m.2.1 ++ [41]) ++ [32, 45, 62, 32] ++ numW m.2.2
def mvT (sg : Sg) (l : List Mo) : List Nat := TL.joinL [59, 32] (l.map (moT sg))
def maP (sg : Sg) (m : Ma) : List (List Nat) := [numW m.st ++ [58]] ++ (if m.mv = [] then [] else [mvT sg m.mv]) ++ [[124]] ++ (if m.ac = [] then [] else [comT m.ac])
def maT (sg : Sg) (m : Ma) : List Nat := TL.joinL [32] (maP sg m)
def comR : List Nat → List (List Nat)
  | [] => []
  | a :: r => [44] :: numW a :: comR r
def comW : List Nat → List (List Nat)
  | [] => []
  | a :: r => numW a :: comR r
def moW (sg : Sg) (m : Mo) : List (List Nat) := nameOf sg m.1 :: ((if m.2.1 = [] then [] else [40] :: (comW m.2.1 ++ [[41]])) ++ [[45, 62], numW m.2.2])
def tailM (sg : Sg) : List Mo → List (List Nat)
  | [] => []
  | m :: r => [59] :: (moW sg m ++ tailM sg r)
def mvW (sg : Sg) : List Mo → List (List Nat)
  | [] => []
  | m :: r => moW sg m ++ tailM sg r
def maW (sg : Sg) (m : Ma) : List (List Nat) := numW m.st :: [58] :: (mvW sg m.mv ++ [124] :: comW m.ac)
/-! ### lengths -/
theorem numW_len {n : Nat} (h : n < 1000) : (numW n).length ≤ 3 := by
  have key : ∀ n : Nat, n < 1000 → (numW n).length ≤ 3 := by decide +kernel
  exact key n h
theorem comT_len {l : List Nat} (h : ∀ q ∈ l, q < 1000) : (comT l).length ≤ l.length * 5 := by
  have := joinL_len [44, 32] 3 (l.map numW) fun y hy => by
    obtain ⟨q, hq, rfl⟩ := List.mem_map.mp hy
    exact numW_len (h q hq)
  simpa [comT] using this
theorem nameOf_len {sg : Sg} (hs : SgLike sg) {f : Nat} {e : Str × Nat} (h : sg[f]? = some e) : (nameOf sg f).length ≤ 10 := by
  rw [nameOf_eq h]
  have := hs.short _ (List.mem_of_getElem? h)
  simpa [Str.length] using this
theorem moT_len {sg : Sg} (hs : SgLike sg) {st : Nat} {m : Mo} (ok : MoOk sg st m) (h : st ≤ 1000) : (moT sg m).length ≤ 40 := by
  obtain ⟨x, hx⟩ := ok.sym
  have h1 := nameOf_len hs hx
  have h2 := comT_len (l := m.2.1) fun q hq => by have := ok.fr q hq; omega
  have h3 := ok.few
  have h4 := numW_len (n := m.2.2) (by have := ok.to; omega)
  unfold moT
  split <;> simp <;> omega
theorem mvT_len {sg : Sg} (hs : SgLike sg) {m : Ma} (h : ∀ x ∈ m.mv, MoOk sg m.st x) (hst : m.st ≤ 1000) : (mvT sg m.mv).length ≤ m.mv.length * 42 := by
  have := joinL_len [59, 32] 40 (m.mv.map (moT sg)) fun y hy => by
    obtain ⟨x, hx, rfl⟩ := List.mem_map.mp hy
    exact moT_len hs (h x hx) hst
  simpa [mvT] using this
/-! ### shapes -/
theorem nats_lay (l : List Nat) : PyData.canLayAll0 (nats l) = true := by
  induction l with
  | nil => rfl
  | cons a l ih => simp only [nats, List.map_cons] at ih ⊢; simp [PyData.canLayAll0, PyData.canLay0, ih]
theorem nats_shaped (l : List Nat) : SeqAt.shaped (.tuple (nats l)) = true := shaped_of (by simp [PyData.canLay0, nats_lay]) (by have := kd_depth 8 (.tuple (nats l)) (by show kds 7 _ = true; exact nats_kd 7 l); omega)
theorem mos_lay (l : List Mo) : PyData.canLayAll0 (l.map moD) = true := by
  induction l with
  | nil => rfl
  | cons a l ih =>
    have : PyData.canLay0 (moD a) = true := by simp [moD, PyData.canLay0, PyData.canLayAll0, nats_lay]
    simp only [List.map_cons]; simp [PyData.canLayAll0, ih, this]
theorem mos_kds (l : List Mo) : kds 8 (l.map moD) = true := by
  induction l with
  | nil => rfl
  | cons a l ih => simp only [List.map_cons, kds, Bool.and_eq_true]; exact ⟨moD_kd a, ih⟩
theorem mos_shaped (l : List Mo) : SeqAt.shaped (.tuple (l.map moD)) = true := shaped_of (by simp [PyData.canLay0, mos_lay]) (by have := kd_depth 9 (.tuple (l.map moD)) (by show kds 8 _ = true; exact mos_kds l); omega)
theorem nats_nil (l : List Nat) : (nats l).isEmpty = decide (l = []) := by cases l <;> simp [nats]
theorem mos_nil (l : List Mo) : (l.map moD).isEmpty = decide (l = []) := by cases l <;> simp
end G

set_option Elab.async false
set_option linter.all false
set_option maxRecDepth 100000
set_option maxHeartbeats 4000000
namespace G
open PySem PySem.Spec PyProof.Rows L2
theorem hu1 {k : Nat} {A : Around} (r : Room k A) : A.units + 1 < cLine := by have := r.un; omega
section
variable {K : PySem.W.Frag} {mg : Str → Option Value} {r : RI} {sg : Sg} {H0 H H' : Hp} {k k' : Nat} {σ : L2.St} {i : Nat}
theorem ed_dget (T : Tx K mg) {te : TE} {f : Nat} {e : Str × Nat} (h : TSt K r sg H0 H k) (hv : σ[i]? = some (some (.ref r.a))) (hf : sg[f]? = some e) (he : EvD K te σ H (.str e.1)) : EvD K (tDGet1 (tFld K (tVar i) "symbols") te) σ H (.int (f : Int)) := fun H1 s Q q => by
  obtain ⟨vsg, D, kvs, h1, h2, h3, h4⟩ := (h.same s).sgn
  refine ⟨_, hv, r.a, r.C, r.dx, r.fs k, .ref D, rfl, (h.same s).at_.ob, rc_cls T h.at_.cl, ?_, ?_, D, rfl, .inl ⟨kvs, .inl h3⟩, he H1 s _ fun v H2 s2 hv => ⟨some (.int (f : Int)), ?_, q _ H2 s2 (.int _)⟩⟩
  · rw [h.C]; exact T.n_MachineReader_symbols
  · unfold RI.fs
    rw [h1]
    rfl
  · rw [dpS hv, ← h4 f e hf]
    exact DGet.k (k := Sum.inr e.1) (s2 _ _ h3)
end
section
variable {P : Program} {w : World} {K : PySem.W.Frag} {mg : Str → Option Value} {base : Heap}
theorem sc_TreeReader_symbol : FnScope ["self", "symbol"] ["self"] (defScope s_TreeReader_symbol) := ⟨rfl, rfl, rfl, by decide +kernel, rfl, by decide +kernel, by decide +kernel⟩
theorem fo_TreeReader_symbol {f : Addr} {fd : FuncData} (T : Tx K mg)  (F : FunD K "symbol" "TreeReader.symbol" (defArgs s_TreeReader_symbol) (defBody s_TreeReader_symbol) (defScope s_TreeReader_symbol) [] [] f fd) : FnOk P w K mg base CX0 2 f fd ["self"] (spSymbol K) := by
  refine F.ok sc_TreeReader_symbol (fun vs H Q E h => ?_) (fun cdv A outer s H vs Q E hr h => ?_)
  · obtain ⟨r, k, sg, H0, f, e, rfl, _⟩ := h
    rfl
  · obtain ⟨r, k, sg, H0, f, e, rfl, ts, hf, hw, q⟩ := h
    have hC := ts.at_.cl
    refine ⟨_, PSs.nox (pss_cons (ps_set (i := 1) sc_TreeReader_symbol.nd rfl (by first | exact Or.inl rfl | exact Or.inr rfl) (pe_dget1 (G.hu1 hr) (pe_fld (pv 0) rfl) (G.pe_ml0 (G.ml_word T hC) hr (by decide) pass0 (pv 0)) ⟨rfl, rfl, rfl, rfl⟩))
  (pss_cons (ps_if (pt_cmpR op_isN (pv 1) pe_non (nomark _)) (pss_one ps_never) pss_nil)
  (pss_cons (ps_fldaug (pv 0) pe_int in_add)
  (pss_one (ps_ret (pv 1)))))), ?_⟩
    refine s_set (ed_dget T ts rfl hf ((ed_word ts.at_ rfl).to (by rw [hw]))) fun v H1 s1 hv => ?_
    obtain rfl := dpI hv
    have ts := ts.same s1
    refine s_ifF (et_test (ed_isN (ed_vi (K := K) (n := (f : Int)) rfl))) rfl fun H2 s2 => ?_
    have ts := ts.same s2
    refine s_step T ts.at_ rfl fun H3 m3 a3 => ?_
    dsimp only
    refine s_ret (K := K) (d := .int (f : Int)) (ed_vi rfl) ?_
    intro v H4 s4 hv4
    rw [dpI hv4]
    exact q H4 ((((Mv.of s1).trans (Mv.of s2)).trans m3).trans (Mv.of s4)) (a3.same s4)
theorem ml_symbol (T : Tx K mg)  : Ml P w K mg base CX0 2 (He.ga K "MachineReader") "symbol" ["self"] (spSymbol K) := by
  obtain ⟨fd, F⟩ := T.f_MachineReader_symbol
  exact ⟨_, fd, T.k_MachineReader, T.m_MachineReader_symbol, F.bindsN fun _ _ _ _ _ _ us hl => match us, hl with | [_], _ => rfl, fo_TreeReader_symbol T F⟩
end
end G


set_option Elab.async false
set_option linter.all false
set_option maxRecDepth 100000
set_option maxHeartbeats 4000000
namespace G
open PySem PySem.Spec PyProof.Rows L2
section
variable {P : Program} {w : World} {K : PySem.W.Frag} {mg : Str → Option Value} {base : Heap}
theorem ed_comT {σ : L2.St} {H : Hp} {to : TE} {l : List Nat} {te : TE} {wi : TI} {g : TG} {vs : List Nat} (ho : EvD K to σ H (.str (S [44, 32]))) (hl : l.length ≤ 100) (hq : ∀ q ∈ l, q < 1000) (h : EvN K (tLc wi g tYes te vs) σ H (l.map fun q => .str (S (numW q)))) :
    EvD K (tM1 (fun x xs H Q => ∃ a p, ∃ ys : List Str, x = .str a ∧ xs = [.ref p] ∧ (SqL K H p (ys.map V.str) ∨ SqT K H p (ys.map V.str)) ∧ (ys.map (·.length)).sum + ys.length * a.length ≤ 16777216 ∧ Q (.str (Txt.join a ys)) H) to (tLc wi g tYes te vs)) σ H (.str (S (comT l))) := by
  refine ed_join (ys := l.map numW) ho ?_ (fun y hy => ?_) (by simp; omega) (by decide)
  · rw [List.map_map]; exact h
  · obtain ⟨q, hq2, rfl⟩ := List.mem_map.mp hy
    have := numW_len (hq q hq2)
    omega
def Rwritten_move : List PyData → PyData → Prop
  | [s, d], r => ∃ (sg : Sg) (st : Nat) (m : Mo), s = sigD sg ∧ SgLike sg ∧ MoOk sg st m ∧ st ≤ 1000 ∧ d = moD m ∧ r = .str (S (moT sg m))
  | _, _ => False
theorem sc_written_move : FnScope ["signature", "move", "symbol", "froms", "to", "name", "state"] ["signature", "move"] (defScope s_written_move) := ⟨rfl, rfl, rfl, by decide +kernel, rfl, by decide +kernel, by decide +kernel⟩
theorem ok_written_move (T : Tx K mg)  : Cl P w K mg base CX0 2 "written_move" ["signature", "move"] (spD K Rwritten_move) := by
  obtain ⟨fd, F⟩ := T.f_written_move
  refine ⟨_, fd, T.g_written_move, F.kp, F.bindsN fun _ _ _ _ _ _ us hl => match us, hl with | [_, _], _ => rfl, F.ok sc_written_move (fun vs H Q E h => ?_) (fun cdv A outer s H vs Q E hr h => ?_)⟩
  · obtain ⟨ds, r, hd, hR, _⟩ := h
    match ds, hR with
    | [_, _], _ => exact hd.len
  · obtain ⟨ds, r, hd, hR, q⟩ := h
    match ds, vs, hd, hR with
    | [d0, d1], [v0, v1], .cons h0 (.cons h1 .nil), hR =>
    refine ⟨_, PSs.nox (pss_cons (ps_asg (pv 1) (pg_tup rfl (pgs_cons (pg_name (i := 2) sc_written_move.nd rfl (by first | exact Or.inl rfl | exact Or.inr rfl)) (pgs_cons (pg_name (i := 3) sc_written_move.nd rfl (by first | exact Or.inl rfl | exact Or.inr rfl)) (pgs_cons (pg_name (i := 4) sc_written_move.nd rfl (by first | exact Or.inl rfl | exact Or.inr rfl)) pgs_nil)))))
  (pss_cons (ps_set (i := 5) sc_written_move.nd rfl (by first | exact Or.inl rfl | exact Or.inr rfl) (pe_ix ix_tup (pe_ix ix_tup (pv 0) (pv 2) (fun _ _ => rfl)) pe_int (fun _ _ => rfl)))
  (pss_cons (ps_if (pt_cmpR (op_neD hr.units) (pv 3) (pe_tup pa_nil) (nomark _)) (pss_one (ps_set (i := 5) sc_written_move.nd rfl (by first | exact Or.inl rfl | exact Or.inr rfl) (pe_op op_add_str (pe_op op_add_str (pe_op op_add_str (pv 5) pe_str) (pe_join pe_str (pe_lc (own := [("state", 6)]) (g := (gName 6)) rfl sc_written_move.nd (pi_tup (pv 3)) (blkOk_by (own := [("state", 6)]) (N := ["signature", "move", "symbol", "froms", "to", "name", "state"]) (sc := defScope s_written_move) (by decide +kernel)) (fun _ _ _ _ _ => (pg_name (i := 6) sc_written_move.nd rfl (by first | exact Or.inl rfl | exact Or.inr rfl))) (fun _ _ _ _ _ => pts_nil) (fun _ _ _ _ _ => (pe_callTy call_str_int (by rfl) T.b_str PyProof.Rows.Boot.«str» (pa_cons (pv 6) pa_nil)))))) pe_str))) pss_nil)
  (pss_one (ps_ret (pe_op op_add_str (pe_op op_add_str (pv 5) pe_str) (pe_callTy call_str_int (by rfl) T.b_str PyProof.Rows.Boot.«str» (pa_cons (pv 4) pa_nil)))))))), ?_⟩
    obtain ⟨sg, st, m, rfl, hs, ok, hst, rfl, rfl⟩ := hR
    obtain ⟨x, hx⟩ := ok.sym
    have hfew := ok.few
    have hfr : ∀ q ∈ m.2.1, q < 1000 := fun q hq => by have := ok.fr q hq; omega
    have hto : m.2.2 < 1000 := by have := ok.to; omega
    have hn := nameOf_eq hx
    have hnl := nameOf_len hs hx
    have hc := comT_len hfr
    have hnt := numW_len hto
    refine (ed_var (K := K) (i := 1) h1 rfl) H (Same.refl H) _ fun v H1 s1 hv => g_trip hv fun v2 v3 v4 e2 e3 e4 => ?_
    have k0 := dp_same s1 _ _ h0
    refine s_set (K := K) (d := .str (S (nameOf sg m.1))) ((ed_ixT (ds := [.str x, .int ((m.2.1.length : Nat) : Int)]) (ed_ixT (ds := sg.map entD) (ed_var k0 rfl) (ed_var e2 rfl) (sig_at hx)) ed_i at0).to (by rw [hn])) fun v5 H2 s2 h5 => ?_
    have e3 := dp_same s2 _ _ e3
    have e4 := dp_same s2 _ _ e4
    refine s_if (et_test (ed_neD (ed_var e3 rfl) (ed_tup ea_nil (by decide)) (nats_shaped _) shaped_nilT)) (fun hb H3 s3 => ?_) (fun hb H3 s3 => ?_)
    · rw [eqv_nilT, nats_nil] at hb
      have hne : m.2.1 ≠ [] := by simpa using hb
      have e3 := dp_same s3 _ _ e3
      have e4 := dp_same s3 _ _ e4
      have h5 := dp_same s3 _ _ h5
      have hcm := ed_comT (K := K) (σ := [some v0, some v1, some v2, some v3, some v4, some v5, none]) (H := H3) (l := m.2.1) (te := tCB (fun xs H Q => ∃ i, xs = [.int i] ∧ i.natAbs.log2 < 1920 ∧ Q (.str (toString i)) H) (tCons (tVar 6) tNil)) (wi := iTup K (tVar 3)) (g := gName 6) (vs := [6]) ((ed_s (n := ", ")).to (congrArg _ strComma2)) (by omega) hfr
        (en_lcM m.2.1 (fun q => .int (q : Int)) (fun q => .str (S (numW q))) (ei_tup (ed_var e3 rfl)) (by omega) (fun _ _ => rfl) fun q hq v H4 s4 hv W hW => hW _ wipe_set1 (ed_strI (ed_var hv rfl) (by have := hfr q hq; omega)))
      refine s_set (K := K) (ed_catS (ed_catS (ed_catS (b := [40]) (ed_var h5 rfl) ((ed_s (n := "(")).to (congrArg _ strQ)) (by simp; omega)) hcm (by simp; omega)) ((ed_s (n := ")")).to (congrArg _ strP)) (by simp; omega)) fun v6 H4 s4 h6 => ?_
      refine s_ret (ed_catS (ed_catS (ed_var h6 rfl) ((ed_s (n := " -> ")).to (congrArg _ strArr)) (by simp; omega)) (ed_strI (ed_var (dp_same s4 _ _ e4) rfl) (by omega)) (by simp; omega)) fun v7 H5 s5 h7 => q v7 H5 ((((s1.trans s2).trans s3).trans s4).trans s5) ?_
      have e : moT sg m = nameOf sg m.1 ++ [40] ++ comT m.2.1 ++ [41] ++ [32, 45, 62, 32] ++ numW m.2.2 := by unfold moT; rw [if_neg hne]; simp
      rw [e]; exact h7
    · rw [eqv_nilT, nats_nil] at hb
      have hne : m.2.1 = [] := by simpa using hb
      have e4 := dp_same s3 _ _ e4
      have h5 := dp_same s3 _ _ h5
      refine s_ret (ed_catS (ed_catS (ed_var h5 rfl) ((ed_s (n := " -> ")).to (congrArg _ strArr)) (by simp; omega)) (ed_strI (ed_var e4 rfl) (by omega)) (by simp; omega)) fun v7 H5 s5 h7 => q v7 H5 (((s1.trans s2).trans s3).trans s5) ?_
      have e : moT sg m = nameOf sg m.1 ++ [32, 45, 62, 32] ++ numW m.2.2 := by unfold moT; rw [if_pos hne]; simp
      rw [e]; exact h7
/-- what can be written -/
structure MaW (sg : Sg) (m : Ma) : Prop where
  st : m.st ≤ 300
  fm : m.mv.length ≤ 60
  fa : m.ac.length ≤ 60
  mo : ∀ x ∈ m.mv, MoOk sg m.st x
  ac : ∀ q ∈ m.ac, q < m.st
theorem MaOk.wr {sg : Sg} {m : Ma} (h : MaOk sg m) : MaW sg m := ⟨h.st, h.fm, h.fa, h.mo, h.ac⟩
def Rwritten_machine : List PyData → PyData → Prop
  | [s, d], r => ∃ (sg : Sg) (m : Ma), s = sigD sg ∧ SgLike sg ∧ MaW sg m ∧ d = maD m ∧ r = .str (S (maT sg m))
  | _, _ => False
theorem sc_written_machine : FnScope ["signature", "machine", "states", "moves", "accepted", "words", "move", "state"] ["signature", "machine"] (defScope s_written_machine) := ⟨rfl, rfl, rfl, by decide +kernel, rfl, by decide +kernel, by decide +kernel⟩
theorem ok_written_machine (T : Tx K mg)  : Cl P w K mg base CX0 3 "written_machine" ["signature", "machine"] (spD K Rwritten_machine) := by
  obtain ⟨fd, F⟩ := T.f_written_machine
  refine ⟨_, fd, T.g_written_machine, F.kp, F.bindsN fun _ _ _ _ _ _ us hl => match us, hl with | [_, _], _ => rfl, F.ok sc_written_machine (fun vs H Q E h => ?_) (fun cdv A outer s H vs Q E hr h => ?_)⟩
  · obtain ⟨ds, r, hd, hR, _⟩ := h
    match ds, hR with
    | [_, _], _ => exact hd.len
  · obtain ⟨ds, r, hd, hR, q⟩ := h
    match ds, vs, hd, hR with
    | [d0, d1], [v0, v1], .cons h0 (.cons h1 .nil), hR =>
    refine ⟨_, PSs.nox (pss_cons (ps_asg (pv 1) (pg_tup rfl (pgs_cons (pg_name (i := 2) sc_written_machine.nd rfl (by first | exact Or.inl rfl | exact Or.inr rfl)) (pgs_cons (pg_name (i := 3) sc_written_machine.nd rfl (by first | exact Or.inl rfl | exact Or.inr rfl)) (pgs_cons (pg_name (i := 4) sc_written_machine.nd rfl (by first | exact Or.inl rfl | exact Or.inr rfl)) pgs_nil)))))
  (pss_cons (ps_set (i := 5) sc_written_machine.nd rfl (by first | exact Or.inl rfl | exact Or.inr rfl) (pe_lst (pa_cons (pe_op op_add_str (pe_callTy call_str_int (by rfl) T.b_str PyProof.Rows.Boot.«str» (pa_cons (pv 2) pa_nil)) pe_str) pa_nil)))
  (C8.pss_cut (ps_if (pt_cmpR (op_neD hr.units) (pv 3) (pe_tup pa_nil) (nomark _)) (pss_one (ps_expr (pe_bm PySem.F.plainAttrs_list PySem.F.slot_list_append PySem.F.type_list_append mt_append (pv 5) (pa_cons (pe_join pe_str (pe_lc (own := [("move", 6)]) (g := (gName 6)) rfl sc_written_machine.nd (pi_tup (pv 3)) (blkOk_by (own := [("move", 6)]) (N := ["signature", "machine", "states", "moves", "accepted", "words", "move", "state"]) (sc := defScope s_written_machine) (by decide +kernel)) (fun _ _ _ _ _ => (pg_name (i := 6) sc_written_machine.nd rfl (by first | exact Or.inl rfl | exact Or.inr rfl))) (fun _ _ _ _ _ => pts_nil) (fun _ _ _ _ _ => (show PE _ _ (tCall (spD K Rwritten_move) [] E0 (tCons (tVar 0) (tCons (tVar 6) tNil))) from (G.pe_cl (ok_written_move T) hr (by decide) pass0 (pa_cons (pv 0) (pa_cons (pv 6) pa_nil))))))) pa_nil)))) pss_nil)
  (pss_cons (ps_expr (pe_bm PySem.F.plainAttrs_list PySem.F.slot_list_append PySem.F.type_list_append mt_append (pv 5) (pa_cons pe_str pa_nil)))
  (C8.pss_cut (ps_if (pt_cmpR (op_neD hr.units) (pv 4) (pe_tup pa_nil) (nomark _)) (pss_one (ps_expr (pe_bm PySem.F.plainAttrs_list PySem.F.slot_list_append PySem.F.type_list_append mt_append (pv 5) (pa_cons (pe_join pe_str (pe_lc (own := [("state", 7)]) (g := (gName 7)) rfl sc_written_machine.nd (pi_tup (pv 4)) (blkOk_by (own := [("state", 7)]) (N := ["signature", "machine", "states", "moves", "accepted", "words", "move", "state"]) (sc := defScope s_written_machine) (by decide +kernel)) (fun _ _ _ _ _ => (pg_name (i := 7) sc_written_machine.nd rfl (by first | exact Or.inl rfl | exact Or.inr rfl))) (fun _ _ _ _ _ => pts_nil) (fun _ _ _ _ _ => (pe_callTy call_str_int (by rfl) T.b_str PyProof.Rows.Boot.«str» (pa_cons (pv 7) pa_nil))))) pa_nil)))) pss_nil)
  (pss_one (ps_ret (pe_join pe_str (pv 5))))))))), ?_⟩
    obtain ⟨sg, m, rfl, hs, ok, rfl, rfl⟩ := hR
    have hst := ok.st
    have hfm := ok.fm
    have hfa := ok.fa
    have hac : ∀ q ∈ m.ac, q < 1000 := fun q hq => by have := ok.ac q hq; omega
    have hmvl := mvT_len hs ok.mo (by omega)
    have hacl := comT_len hac
    have hsl := numW_len (n := m.st) (by omega)
    refine (ed_var (K := K) (i := 1) h1 rfl) H (Same.refl H) _ fun v H1 s1 hv => g_trip hv fun v2 v3 v4 e2 e3 e4 => ?_
    have k0 := dp_same s1 _ _ h0
    refine s_setN (K := K) (en_lst (ea_cons (ed_catS (b := [58]) (ed_strI (ed_var e2 rfl) (by omega)) ((ed_s (n := ":")).to (congrArg _ strColon)) (by simp; omega)) ea_nil) (by simp)) fun W us H2 s2 hW hWl hus => ?_
    have nW : H W = none := back s1 hW
    have fin : ∀ (H6 : Hp) (ws : List V) (ps : List (List Nat)) (D : Ends), D.rt = Q → Same H H6 → H6 W = some (.lst ws) → DpAll K H6 ws (ps.map fun p => .str (S p)) → (ps = maP sg m) → (tRet (tM1 (fun x xs H Q => ∃ a p, ∃ ys : List Str, x = .str a ∧ xs = [.ref p] ∧ (SqL K H p (ys.map V.str) ∨ SqT K H p (ys.map V.str)) ∧ (ys.map (·.length)).sum + ys.length * a.length ≤ 16777216 ∧ Q (.str (Txt.join a ys)) H) (tC (.str " ")) (tVar 5))) D [some v0, some v1, some v2, some v3, some v4, some (.ref W), none, none] H6 := fun H6 ws ps D hD s6 hl hdp e => by
      subst e
      have hb : ∀ y ∈ maP sg m, y.length ≤ 10000 := fun y hy => by
        unfold maP at hy
        simp only [List.mem_append, List.mem_singleton] at hy
        rcases hy with ((rfl | hy) | rfl) | hy
        · simp; omega
        · split at hy
          · cases hy
          · rw [List.mem_singleton.mp hy]; omega
        · simp
        · split at hy
          · cases hy
          · rw [List.mem_singleton.mp hy]; omega
      have hn : (maP sg m).length ≤ 4 := by
        unfold maP
        split <;> split <;> simp
      have hk : (((maP sg m).map List.length).sum) ≤ (maP sg m).length * 10000 := by
        have key : ∀ l : List (List Nat), (∀ y ∈ l, y.length ≤ 10000) → (l.map List.length).sum ≤ l.length * 10000 := by
          intro l
          induction l with
          | nil => intro _; simp
          | cons y l ih =>
            intro h
            have := ih fun z hz => h z (List.mem_cons_of_mem _ hz)
            have := h y List.mem_cons_self
            simp [Nat.succ_mul]; omega
        exact key _ hb
      have hws : ws = ((maP sg m).map S).map V.str := dps_strs (by rw [List.map_map]; exact hdp)
      refine ⟨⟨_, rfl⟩, _, rfl, " ", W, (maP sg m).map S, rfl, rfl, .inl ?_, ?_, ?_⟩
      · rw [← hws]; exact sq_of hl
      · rw [List.map_map, List.length_map]
        have e1 : ((maP sg m).map ((·.length) ∘ S)) = (maP sg m).map List.length := List.map_congr_left fun y _ => S_len y
        have e2 : (" " : Str).length = 1 := by decide +kernel
        rw [e1, e2]; omega
      · rw [strSp, SX.join_S, hD]
        exact q _ H6 s6 (.str _)
    have e3 := dp_same s2 _ _ e3
    have e4 := dp_same s2 _ _ e4
    have k0 := dp_same s2 _ _ k0
    have app : ∀ (te : TE) (D : Ends) (H4 : Hp) (ws : List V) (ps : List (List Nat)) (y : List Nat), EvD K te [some v0, some v1, some v2, some v3, some v4, some (.ref W), none, none] H4 (.str (S y)) → Same H H4 → H4 W = some (.lst ws) → DpAll K H4 ws (ps.map fun p => .str (S p)) → ps.length ≤ 5 →
        (∀ (H5 : Hp) (ws : List V), Same H H5 → Mv W H4 H5 → Kt H4 H5 → H5 W = some (.lst ws) → DpAll K H5 ws ((ps ++ [y]).map fun p => .str (S p)) → D.nx [some v0, some v1, some v2, some v3, some v4, some (.ref W), none, none] H5) →
        tDrop (tBM K "list" rAppend (tVar 5) (tCons te tNil)) D [some v0, some v1, some v2, some v3, some v4, some (.ref W), none, none] H4 := fun te D H4 ws ps y he s4 hl hdp hps k => by
      refine s_append (K := K) rfl hl he (by rw [hdp.len]; simp; omega) fun v H5 s5 h5 hv => ?_
      have hk : Kt H5 (upd H5 W (.lst (ws ++ [v]))) := Kt.rfl'.lst h5
      refine k _ _ ((s4.trans s5).own nW) ((Mv.of s5).trans (Mv.refl _ _).upd) ((Same.kt s5).trans hk) upd_same ?_
      rw [List.map_append]
      exact (dps_kt hk _ _ (tts_of fun d hd => by obtain ⟨p, _, rfl⟩ := List.mem_map.mp hd; rfl) (dps_same s5 _ _ hdp)).snoc (dp_kt hk _ _ rfl hv)
    refine ⟨fun σ2 H4 => ∃ ws, σ2 = [some v0, some v1, some v2, some v3, some v4, some (.ref W), none, none] ∧ Same H H4 ∧ Kt H2 H4 ∧ H4 W = some (.lst ws) ∧ DpAll K H4 ws (([numW m.st ++ [58]] ++ (if m.mv = [] then [] else [mvT sg m.mv])).map fun p => .str (S p)), ?_, ?_⟩
    · refine s_if (et_test (ed_neD (ed_var e3 rfl) (ed_tup ea_nil (by decide)) (mos_shaped _) shaped_nilT)) (fun hb H3 s3 => ?_) (fun hb H3 s3 => ?_)
      · rw [eqv_nilT, mos_nil] at hb
        have hne : m.mv ≠ [] := by simpa using hb
        refine app _ _ H3 us [numW m.st ++ [58]] (mvT sg m.mv) ?_ ((s1.trans s2).trans s3) (s3 _ _ hWl) (dps_same s3 _ _ hus) (by simp) fun H5 ws s5 _ k5 hl hdp => ⟨ws, rfl, s5, (Same.kt s3).trans k5, hl, by rw [if_neg hne]; exact hdp⟩
        refine ed_join (ys := m.mv.map (moT sg)) ((ed_s (n := "; ")).to (congrArg _ strSemi2)) ?_ (fun y hy => ?_) (by simp; omega) (by decide)
        · rw [List.map_map]
          exact en_lcM m.mv moD (fun x => .str (S (moT sg x))) (ei_tup (ed_var (dp_same s3 _ _ e3) rfl)) (by omega) (fun _ _ => rfl) fun x hx v H4 s4 hv W hW => hW _ wipe_set1
            (ed_call (ea_cons (ed_var (dp_same s4 _ _ (dp_same s3 _ _ k0)) rfl) (ea_cons (ed_var hv rfl) ea_nil)) ⟨sg, m.st, x, rfl, hs, ok.mo x hx, by omega, rfl, rfl⟩)
        · obtain ⟨x, hx, rfl⟩ := List.mem_map.mp hy
          have := moT_len hs (ok.mo x hx) (by omega)
          omega
      · rw [eqv_nilT, mos_nil] at hb
        have hne : m.mv = [] := by simpa using hb
        exact ⟨us, rfl, (s1.trans s2).trans s3, Same.kt s3, s3 _ _ hWl, by rw [if_pos hne]; exact dps_same s3 _ _ hus⟩
    rintro σ2 H4 ⟨ws4, rfl, s4, kt4, hl4, hdp4⟩
    have c4 : (([numW m.st ++ [58]] ++ (if m.mv = [] then [] else [mvT sg m.mv])) : List (List Nat)).length ≤ 2 := by split <;> simp
    generalize hp4 : (([numW m.st ++ [58]] ++ (if m.mv = [] then [] else [mvT sg m.mv])) : List (List Nat)) = P4 at hdp4 c4
    refine app _ _ H4 ws4 P4 [124] ((ed_s (n := "|")).to (congrArg _ strBar)) s4 hl4 hdp4 (by omega) fun H5 ws5 s5 _ kt5 hl5 hdp5 => ?_
    have e4 := dp_kt (kt4.trans kt5) _ _ (by show tts _ = true; exact nats_tt _) e4
    refine ⟨fun σ2 H6 => ∃ ws, σ2 = [some v0, some v1, some v2, some v3, some v4, some (.ref W), none, none] ∧ Same H H6 ∧ H6 W = some (.lst ws) ∧ DpAll K H6 ws ((maP sg m).map fun p => .str (S p)), ?_, ?_⟩
    · refine s_if (et_test (ed_neD (ed_var e4 rfl) (ed_tup ea_nil (by decide)) (nats_shaped _) shaped_nilT)) (fun hb H6 s6 => ?_) (fun hb H6 s6 => ?_)
      · rw [eqv_nilT, nats_nil] at hb
        have hne : m.ac ≠ [] := by simpa using hb
        have eP : P4 ++ [[124]] ++ [comT m.ac] = maP sg m := by unfold maP; rw [if_neg hne, hp4]
        refine app _ _ H6 ws5 (P4 ++ [[124]]) (comT m.ac) ?_ (s5.trans s6) (s6 _ _ hl5) (dps_same s6 _ _ hdp5) (by simp; omega) fun H7 ws s7 _ _ hl hdp => ⟨ws, rfl, s7, hl, by rw [← eP]; exact hdp⟩
        exact ed_comT ((ed_s (n := ", ")).to (congrArg _ strComma2)) (by omega) hac
          (en_lcM m.ac (fun q => .int (q : Int)) (fun q => .str (S (numW q))) (ei_tup (ed_var (dp_same s6 _ _ e4) rfl)) (by omega) (fun _ _ => rfl) fun q hq v H4 s4 hv W hW => hW _ wipe_set1 (ed_strI (ed_var hv rfl) (by have := hac q hq; omega)))
      · rw [eqv_nilT, nats_nil] at hb
        have hne : m.ac = [] := by simpa using hb
        have eP : P4 ++ [[124]] = maP sg m := by unfold maP; rw [if_pos hne, hp4]; simp
        exact ⟨ws5, rfl, s5.trans s6, s6 _ _ hl5, by rw [← eP]; exact dps_same s6 _ _ hdp5⟩
    rintro σ2 H6 ⟨ws6, rfl, s6, hl6, hdp6⟩
    exact fin H6 ws6 _ _ rfl s6 hl6 hdp6 rfl
def Rwrite_machine : List PyData → PyData → Prop
  | [s, d], r => ∃ (sg : Sg) (m : Ma), s = sigD sg ∧ SgOk sg ∧ MaOk sg m ∧ d = maD m ∧ r = .str (S (maT sg m))
  | _, _ => False
theorem sc_write_machine : FnScope ["signature", "machine"] ["signature", "machine"] (defScope s_write_machine) := ⟨rfl, rfl, rfl, by decide +kernel, rfl, by decide +kernel, by decide +kernel⟩
theorem ok_write_machine (T : Tx K mg)  : Cl P w K mg base (L2.CX P w) 8 "write_machine" ["signature", "machine"] (spX K Rwrite_machine (Yneed_machine K)) := by
  obtain ⟨fd, F⟩ := T.f_write_machine
  refine ⟨_, fd, T.g_write_machine, F.kp, F.bindsN fun _ _ _ _ _ _ us hl => match us, hl with | [_, _], _ => rfl, F.ok sc_write_machine (fun vs H Q E h => ?_) (fun cdv A outer s H vs Q E hr h => ?_)⟩
  · obtain ⟨ds, hd, ⟨r, hR, _⟩ | ⟨C, hR, _⟩⟩ := h
    · match ds, hR with
      | [_, _], _ => exact hd.len
    · match ds, hR with
      | [_, _], _ => exact hd.len
  · refine ⟨_, (pss_cons (ps_expr (G.pe_cl (ok_need_machine T) hr (by decide) (passes_call (takes_of rfl rfl rfl rfl) (fun _ _ _ _ h => h)) (pa_cons (pv 0) (pa_cons (pv 1) pa_nil))))
  (pss_one (ps_ret (G.pe_cl (ok_written_machine T) hr (by decide) pass0 (pa_cons (pv 0) (pa_cons (pv 1) pa_nil)))))), ?_⟩
    obtain ⟨ds, hd, ⟨r, hR, q⟩ | ⟨C, hR, q⟩⟩ := h
    · match ds, vs, hd, hR with
      | [d0, d1], [v0, v1], .cons h0 (.cons h1 .nil), hR =>
      obtain ⟨sg, m, rfl, hs, ok, rfl, rfl⟩ := hR
      refine s_drop (K := K) (ed_callX (ea_cons (ed_var h0) (ea_cons (ed_var h1) ea_nil)) ⟨sg, rfl, hs, rfl, m, ok, rfl⟩) fun H1 s1 => ?_
      exact s_ret (ed_call (ea_cons (ed_var (dp_same s1 _ _ h0)) (ea_cons (ed_var (dp_same s1 _ _ h1)) ea_nil)) ⟨sg, m, rfl, hs.1, ok.wr, rfl, rfl⟩) fun v H2 s2 hv => q v H2 (s1.trans s2) hv
    · match ds, vs, hd, hR with
      | [d0, d1], [v0, v1], .cons h0 (.cons h1 .nil), hR =>
      exact er_callX (ea_cons (ed_var h0) (ea_cons (ed_var h1) ea_nil)) hR q
end
end G


set_option Elab.async false
set_option linter.all false
set_option maxRecDepth 100000
set_option maxHeartbeats 4000000
namespace G
open PySem PySem.Spec PyProof.Rows L2
/-- what cells hold, in the base -/
structure BCells (cl : List (Str × Addr)) (fr : List Str) (ws : List (Option V)) (B : Heap) : Prop where
  len : ws.length = fr.length
  all : ∀ y c, cl.lookup y = some c → ∃ v, B.IsCell c v
  inj : ∀ x y c, cl.lookup x = some c → cl.lookup y = some c → x = y
  has : ∀ (i : Nat) (y : Str), fr[i]? = some y → ∃ c, cl.lookup y = some c ∧ ∀ v, ws[i]? = some (some v) → ∃ u, L2.RelV v u ∧ B.IsCell c (some u)
theorem BCells.at {cl : List (Str × Addr)} {fr : List Str} {ws : List (Option V)} {B h : Heap} {H : Hp} (c : BCells cl fr ws B) (bs : ∀ b o, B.get? b = some o → h.get? b = some o ∧ H b = none) : NdefX.CellsAt cl fr ws h H where
  len := c.len
  all := fun y a e => by
    obtain ⟨v, o, ho, hd⟩ := c.all y a e
    exact ⟨(bs a o ho).2, v, o, (bs a o ho).1, hd⟩
  inj := c.inj
  has := fun i y e => by
    obtain ⟨a, h1, h2⟩ := c.has i y e
    refine ⟨a, h1, fun v hv => ?_⟩
    obtain ⟨u, r, o, ho, hd⟩ := h2 v hv
    exact ⟨u, r, o, (bs a o ho).1, hd⟩
end G

set_option Elab.async false
set_option linter.all false
set_option maxRecDepth 100000
set_option maxHeartbeats 4000000
namespace G
open PySem PySem.Spec PyProof.Rows L2
/-- a def of the head that has a closure: its cells stand in the base -/
theorem fn_clo {CX : CXT} {P : Program} {w : World} {K : PySem.W.Frag} {mg : Str → Option Value} {base : Heap} {k : Nat} {f : Addr} {F : NdefX.NF} {oc : Value} {od an : Option Addr} {osl : Array (Option Value)} {doc pm ctv : Value} {N ps fr : List Str} {ws : List (Option V)} {sp : Sp}
    (lk : K.lookup f = some ⟨oc, od, .func (PySem.W.fnX F.name F.qual F.params F.body F.scope F.cl .none .none doc pm an (.ref F.c) ctv), osl⟩) (hcd : PySem.W.codeIn K (.ref F.c) F.qual = true) (S : NdefX.NScope N ps fr F.scope) (bc : BCells F.cl fr ws base) (len : ∀ vs H Q E, sp vs H Q E → vs.length = ps.length)
    (hbody : ∀ (A : Around) (outer : List Env) (s : Shared) (H : Hp) (vs : List V) (Q : VK) (E : XK), Room k (A.deeper (NdefX.envF F f s.heap.objs.size)) → sp vs H Q E →
      ∃ t, PSs (NdefX.ncx CX P w K mg base N F f A outer s H E) F.body t ∧ t { nx := fun _ H' => Q .non H', rt := Q } (NdefX.startF N vs ws) H) :
    FnOk P w K mg base CX (k + 1) f (PySem.W.fnX F.name F.qual F.params F.body F.scope F.cl .none .none doc pm an (.ref F.c) ctv) ps sp := by
  refine ⟨len, fun A outer s H args us vs Q E hr e0 hb r hsp => ?_⟩
  have hl := len _ _ _ _ hsp
  have KX : K.In s.heap := e0.mod.kin.keeps fun b o e => (e0.bs b o e).1
  have lim : s.heap.NoLimit := e0.mod.nolimit.keeps fun b o e => (e0.bs b o e).1
  have C := bc.at (h := s.heap) (H := H) e0.bs
  refine codeAny_call_function hr.depth (KX _ _ lk) rfl S.co S.gen rfl (PySem.W.codeRec_of KX hcd) (hb _ _ _ _ ?_)
  refine wpAny_newFunctionEnv S.nocell (fun ⟨n, _⟩ hy => S.par n (List.of_mem_zip hy).1) (fun h₁ hns hsb => ⟨lim.fresh _ hsb, ?_⟩) S.kind
  show codeAny _ _ (.func F.body (NdefX.envF F f s.heap.objs.size)) _ _
  refine codeAny_func ?_
  have kp : ∀ b o, s.heap.get? b = some o → h₁.get? b = some o := fun b o e => hsb.extBut b o (Nat.ne_of_lt (Heap.lt_size e)) (Heap.get?_push_of_some _ e)
  obtain ⟨t, ht, hq⟩ := hbody A outer s H vs Q E (hr.deeper _) hsp
  have I : Inv (NdefX.ncx CX P w K mg base N F f A outer s H E) [] (NdefX.startF N vs ws) H { s with heap := h₁, toks := s.toks + (ps.zip us).length } := NdefX.inv_startN S hr.hd e0 hl r C hns kp
  refine wpAny_mono (ht.run [] _ (NdefX.startF N vs ws) H _ I hq) (fun fl s' hs => ?_) fun e s' hs => hs
  have fin : ∀ {σ' : L2.St} {H' : Hp} {v : V} {u : Value}, Inv (NdefX.ncx CX P w K mg base N F f A outer s H E) [] σ' H' s' → L2.RelV v u → Q v H' → CE outer P w H s Q u s' :=
    fun {σ' H' v u} J rv q => ⟨v, H', J.os, J.bare, J.base, J.hok, rv, q⟩
  cases fl with
  | ret u =>
    obtain ⟨v, σ', H', J, rv, q⟩ := hs
    exact fin J rv q
  | next =>
    obtain ⟨σ', H', J, q⟩ := hs
    exact fin (v := V.non) (u := Value.none) J rfl q
  | brk =>
    obtain ⟨_, _, _, q⟩ := hs
    exact False.elim q
  | cont =>
    obtain ⟨_, _, _, q⟩ := hs
    exact False.elim q
theorem code_ref' {K : PySem.W.Frag} {cd : Value} {q : Str} (h : PySem.W.codeIn K cd q = true) : ∃ c, cd = .ref c := by
  cases cd with
  | ref c => exact ⟨c, rfl⟩
  | _ => cases h
/-- what the head says of TreeReader.__init__ -/
theorem clo_fd {K : PySem.W.Frag} {mg : Str → Option Value} (T : Tx K mg) : ∃ (c cc : Addr) (oc : Value) (od an : Option Addr) (osl : Array (Option Value)) (doc pm ctv : Value),
    K.lookup (He.fAd K ("TreeReader", some "__init__")) = some ⟨oc, od, .func (PySem.W.fnX "__init__" "TreeReader.__init__" (defArgs s_TreeReader___init__) (defBody s_TreeReader___init__) (defScope s_TreeReader___init__) [("__class__", cc)] .none .none doc pm an (.ref c) ctv), osl⟩ ∧
    PySem.W.codeIn K (.ref c) "TreeReader.__init__" = true ∧ (∃ o1 o2 sl, K.lookup cc = some ⟨o1, o2, .cell (some (.ref (He.ga K "TreeReader"))), sl⟩) ∧ fileB K (.ref c) "/claim/cut.py" = true := by
  have h1 := (Bool.and_eq_true_iff.mp T.more).1
  have h2 := T.clo
  unfold clB at h1
  simp only [csY, cvY, List.map_cons, List.map_nil, List.cons.injEq, and_true] at h2
  unfold fnC at h2
  cases e : K.lookup (He.fAd K ("TreeReader", some "__init__")) with
  | none => rw [e] at h1; cases h1
  | some o =>
    obtain ⟨oc, od, dat, osl⟩ := o
    rw [e] at h1 h2
    cases dat with
    | func fd =>
      obtain ⟨nm, qn, pr, bd, sc, gl, cl, dv, kv, doc, pm, an, cdv, ct, bn⟩ := fd
      have h2 : (some (nm, qn, pr, bd, sc, gl, bn) : FnC) = some (("__init__" : Str), ("TreeReader.__init__" : Str), defArgs s_TreeReader___init__, FuncBody.stmts (defBody s_TreeReader___init__), defScope s_TreeReader___init__, mainGlobals, builtinsNs) := h2
      have h2 := Option.some.inj h2
      simp only [Prod.mk.injEq] at h2
      obtain ⟨rfl, rfl, rfl, rfl, rfl, rfl, rfl⟩ := h2
      dsimp only at h1
      simp only [Bool.and_eq_true, decide_eq_true_eq] at h1
      obtain ⟨⟨⟨⟨a1, rfl⟩, rfl⟩, a4⟩, a5⟩ := h1
      match cl, a5 with
      | [(x, c)], a5 =>
        simp only [Bool.and_eq_true, decide_eq_true_eq] at a5
        obtain ⟨rfl, a6⟩ := a5
        obtain ⟨cc, rfl⟩ := code_ref' a1
        refine ⟨cc, c, oc, od, an, osl, doc, pm, ct, rfl, a1, ?_, a4⟩
        unfold cellB at a6
        cases e2 : K.lookup c with
        | none => rw [e2] at a6; cases a6
        | some o2 =>
          obtain ⟨o1, o2, dat, sl⟩ := o2
          rw [e2] at a6
          cases dat with
          | cell v =>
            cases v with
            | none => cases a6
            | some u => exact ⟨o1, o2, sl, by rw [of_decide_eq_true a6]⟩
          | _ => cases a6
    | _ => cases h1
end G

set_option Elab.async false
set_option linter.all false
set_option maxRecDepth 100000
set_option maxHeartbeats 4000000
namespace G
open PySem PySem.Spec PyProof.Rows L2
theorem inv_addPin {X : Cx} {pins : List (Addr × Obj)} {σ : L2.St} {H : Hp} {s : Shared} {b : Addr} {o : Obj} (I : Inv X pins σ H s) (h1 : s.heap.get? b = some o) (h2 : H b = none) (h3 : b ≠ X.env.locals) (h4 : b ∉ X.fs) (h5 : ∀ v, o.data ≠ .cell v) : Inv X ((b, o) :: pins) σ H s :=
  ⟨I.ok, I.os, I.bare, I.base, I.loc, I.cell, I.free, I.freeC, fun p hp => by
    rcases List.mem_append.mp hp with h | h
    · exact I.pin p (List.mem_append_left _ h)
    · rcases List.mem_cons.mp h with rfl | h
      · exact ⟨h1, h2, h3, h4, h5⟩
      · exact I.pin p (List.mem_append_right _ h), I.hok, I.len⟩
theorem inv_dropPin {X : Cx} {pins : List (Addr × Obj)} {σ : L2.St} {H : Hp} {s : Shared} {p : Addr × Obj} (I : Inv X (p :: pins) σ H s) : Inv X pins σ H s :=
  ⟨I.ok, I.os, I.bare, I.base, I.loc, I.cell, I.free, I.freeC, fun q hq => by
    rcases List.mem_append.mp hq with h | h
    · exact I.pin q (List.mem_append_left _ h)
    · exact I.pin q (List.mem_append_right _ (List.mem_cons_of_mem _ h)), I.hok, I.len⟩
/-- super().__init__(e) at the body's level -/
theorem super_first {CX CX2 : CXT} {P : Program} {w : World} {K : PySem.W.Frag} {mg : Str → Option Value} {base : Heap} {N : List Str} {F : NdefX.NF} {f : Addr} {A : Around} {outer : List Env} {s₀ : Shared} {H₀ : Hp} {E₀ : XK}
    {pins : List (Addr × Obj)} {σ : L2.St} {H : Hp} {s : Shared} {cc a dx f2 C D Co : Addr} {oc ccl cl : Value} {od cdd cld : Option Addr} {osl ccs csl : Array (Option Value)} {fd fd2 : FuncData} {ar : Arg} {vs : Array Value} {file : Str} {tf : Tok} {cd cdo : ClassData}
    {fs : List (Str × V)} {k j : Nat} {ps : List Str} {sp : Sp} {e : Expr} {t : TA} {p0 p1 ap pos ep : Pos} {Q : Flow → Shared → Prop}
    (I : Inv (NdefX.ncx CX P w K mg base N F f A outer s₀ H₀ E₀) pins σ H s)
    (hk : F.scope.kind = .function) (hks : F.scope.names.lookup ("super" : Str) = some NameKind.globalImplicit) (hkc : F.scope.names.lookup ("__class__" : Str) = some NameKind.free) (hka : F.scope.names.lookup ("self" : Str) = some NameKind.local)
    (lk : K.lookup f = some ⟨oc, od, .func fd, osl⟩) (har : (fd.params.posonlyargs ++ fd.params.args).head? = some ar) (har2 : ar.arg = "self")
    (lc : K.lookup F.c = some ⟨ccl, cdd, .fields vs, ccs⟩) (hvs : vs[2]? = some (.str file tf)) (hfile : ((P.main.file : Str) == file) = true) (htop : (P.main.scope.names.lookup ("super" : Str)).isSome = false)
    (hcl : F.cl.lookup ("__class__" : Str) = some cc) (lcc : K.lookup cc = some ⟨cl, cld, .cell (some (.ref C)), csl⟩) (hcd : PySem.W.clsIn K C = some cd) (hcdo : PySem.W.clsIn K Co = some cdo) (hmem : cdo.mro.isEmpty = false ∧ cdo.mro.contains (.ref C) = true) (hdrop : (cdo.mro.dropWhile (· != .ref C)).drop 1 = [.ref D, .type "object"]) (hst : PySem.W.nsIn K cStatics "thirdparty.any" = some none)
    (hal : PySem.W.alongIn K "__init__" [.ref D, .type "object"] = some (some (.ref f2))) (hfn : PySem.W.isFn K (.ref f2) = true) (hfn2 : PySem.W.fnIn K f2 = true) (hms : mg "super" = none)
    (hN : N[0]? = some ("self" : Str)) (hσ : σ[0]? = some (some (.ref a))) (hH : H a = some (.ins Co dx fs))
    (G2 : FnOk P w K mg base CX0 k f2 fd2 ps sp) (hr : Room j (A.deeper (NdefX.envF F f s₀.heap.objs.size))) (hkj : k ≤ j) (hb : Binds K fd2 ps []) (ha : PA (NdefX.ncx CX P w K mg base N F f A outer s₀ H₀ E₀) [e] t)
    (q : t σ H fun vs H1 => sp (.ref a :: vs) H1 (fun _ H2 => ∀ s2, Inv (NdefX.ncx CX P w K mg base N F f A outer s₀ H₀ E₀) pins σ H2 s2 → Q .next s2) fun _ _ _ => False)
    (he : starEach [e] (NdefX.envF F f s₀.heap.objs.size) = (false, eval e (NdefX.envF F f s₀.heap.objs.size)) :: starEach [] (NdefX.envF F f s₀.heap.objs.size) := by rfl)
    (hi : interactive (NdefX.envF F f s₀.heap.objs.size) = false := by rfl) (hsw : swapsWith (.Call (.Attribute (.Call (.Name "super" p0) [] [] p1) "__init__" ap) [e] [] pos) none ep.line (NdefX.envF F f s₀.heap.objs.size) = pure false := by rfl)
    (hm : eval (.Call (.Attribute (.Call (.Name "super" p0) [] [] p1) "__init__" ap) [e] [] pos) (NdefX.envF F f s₀.heap.objs.size) = (do
      let ov ← attributeBase (.Call (.Name "super" p0) [] [] p1) "__init__" (NdefX.envF F f s₀.heap.objs.size) (eval (.Call (.Name "super" p0) [] [] p1) (NdefX.envF F f s₀.heap.objs.size))
      standAt ap.atName
      let (g, first) ← holding [ov] (getMethod ov "__init__" (plainOf (.Call (.Name "super" p0) [] [] p1) (NdefX.envF F f s₀.heap.objs.size)))
      callWith pos g first (backTo pos (starEach [e] (NdefX.envF F f s₀.heap.objs.size))) []) := by rfl) :
    _root_.PySem.wpAt (model P w) (A.deeper (NdefX.envF F f s₀.heap.objs.size)) (.func F.body (NdefX.envF F f s₀.heap.objs.size)) (exec (.Expr (.Call (.Attribute (.Call (.Name "super" p0) [] [] p1) "__init__" ap) [e] [] pos) ep) (NdefX.envF F f s₀.heap.objs.size)) Q (NdefX.ncx CX P w K mg base N F f A outer s₀ H₀ E₀).xe s := by
  have X : K.In s.heap := I.kIn
  have hC : ∃ oC, s.heap.get? C = some oC ∧ oC.data = .cls cd := by
    unfold PySem.W.clsIn at hcd
    split at hcd
    · rename_i c d cd' sl ho
      cases hcd
      exact ⟨_, X _ _ ho, rfl⟩
    · cases hcd
  obtain ⟨oC, hC1, hC2⟩ := hC
  obtain ⟨hdx, _, _, hobj, mA, hns, hrel, hwi⟩ := I.hok a _ hH
  obtain ⟨m, hnsL, hlook⟩ := I.loc
  obtain ⟨u, ru, lu⟩ := hlook 0 "self" (.ref a) hN hσ (.inl hka)
  have hmself : m ("self" : Str) = some (.ref a) := by
    obtain rfl : u = Value.ref a := ru
    rcases lu with ⟨_, h⟩ | ⟨h, _⟩
    · exact h
    · rcases h with h | h
      · exact absurd (hka.symm.trans h) (by simp)
      · exact absurd (hka.symm.trans h) (by simp)
  refine ks_wpAt_Expr_any (ks_wpAt_MethodCall (pl := plainOf (.Call (.Name "super" p0) [] [] p1) (NdefX.envF F f s₀.heap.objs.size)) ?_ hm) hi hsw
  refine ks_wpAt_super_base (env := NdefX.envF F f s₀.heap.objs.size) hks hkc (by decide) rfl (X _ _ lk) rfl har rfl (X _ _ lc) rfl hvs hfile htop ?_
  obtain ⟨mb, b1, b2⟩ := I.mod.blt
  refine PySem.W.ks_loadName_global hk hks (Calls.loadGlobal_builtin (by exact I.mod.glob.keeps I.bk) hms (by exact b1.keeps I.bk) ((b2 _ (by decide)).trans PyProof.Rows.Boot.«super») ⟨rfl, ?_⟩)
  refine wpAny_loadName_free hk hkc hcl ⟨_, X _ _ lcc, rfl⟩ ?_
  rw [har2]
  refine wpAny_loadName_local hk hka hnsL hmself ?_
  refine ks_wpAny_isType_cls hC1 hC2 ⟨rfl, ?_⟩
  have hCo : ∃ oC, s.heap.get? Co = some oC ∧ oC.data = .cls cdo := by
    unfold PySem.W.clsIn at hcdo
    split at hcdo
    · rename_i c d cd' sl ho
      cases hcdo
      exact ⟨_, X _ _ ho, rfl⟩
    · cases hcdo
  obtain ⟨oCo, hCo1, hCo2⟩ := hCo
  have hsub : PySem.W.mroIn K Co (.ref C) = some true := by
    unfold PySem.W.mroIn
    rw [hcdo]
    show (if cdo.mro.isEmpty = true then none else some (cdo.mro.contains (.ref C))) = some true
    rw [hmem.1, hmem.2]
    rfl
  obtain ⟨hh, g, d, tk, os⟩ := s
  refine ks_wpAny_call_super hC1 hC2 hobj rfl (fun c e => by cases e) (PySem.W.looks_mroIn X hsub) fun h1 e1 k1 => ?_
  have X1 : K.In h1 := X.keeps k1
  have I1 : Inv (NdefX.ncx CX P w K mg base N F f A outer s₀ H₀ E₀) pins σ H ⟨h1, g, d, tk, os⟩ := I.kept (h' := h1) (t' := tk) k1
  obtain ⟨of, hof, hofc⟩ : ∃ of, h1.get? f2 = some of ∧ of.cls = .type "function" := by
    have ht : (K.lookup f2).map (·.cls) = some (.type "function") := beq_iff_eq.mp hfn
    cases z : K.lookup f2 with
    | none => rw [z] at ht; cases ht
    | some o => rw [z] at ht; exact ⟨o, X1 _ _ z, Option.some.inj ht⟩
  have hne : a ≠ Co := fun z => by
    rw [z] at hobj
    rw [hobj] at hCo1
    cases hCo1
    cases hCo2
  refine ks_wpAny_getMethod_super e1 (PySem.W.looks_opaque X1 hst) (l₀ := cdo.mro) (fun A Q E s k q => wpAny_bind ((PySem.W.looks_clsIn X1 hcdo) A _ E s k (wpAny_pure q))) (l := [.ref D, .type "object"]) hdrop X1 hal hof hofc hne (by decide) ?_
  have s2k : ∀ b u, h1.get? b = some u → (h1.push { cls := .type "method", data := .fields #[.ref f2, .ref a] }).get? b = some u := fun b u e => Heap.get?_push_of_some _ e
  have hq1 : (h1.push { cls := .type "method", data := .fields #[.ref f2, .ref a] }).get? h1.objs.size = some { cls := .type "method", data := .fields #[.ref f2, .ref a] } := Heap.get?_push_at rfl rfl
  have I2 : Inv (NdefX.ncx CX P w K mg base N F f A outer s₀ H₀ E₀) ((h1.objs.size, { cls := .type "method", data := .fields #[.ref f2, .ref a] }) :: pins) σ H ⟨h1.push { cls := .type "method", data := .fields #[.ref f2, .ref a] }, g, d, tk + 1, os⟩ :=
    inv_addPin (I1.kept (h' := h1.push { cls := .type "method", data := .fields #[.ref f2, .ref a] }) (t' := tk + 1) s2k) hq1 (I1.hok.fresh (Nat.le_refl _)) (fun z => absurd I1.lt (by rw [← z]; exact Nat.lt_irrefl _)) (I1.nofs (Nat.le_refl _)) (fun v z => by cases z)
  have hs : wpAny (model P w) (A.deeper (NdefX.envF F f s₀.heap.objs.size)) (spliced (backTo pos (starEach [e] (NdefX.envF F f s₀.heap.objs.size)))) (fun vs s' => PySem.W.MethP K h1.objs.size f2 (.ref a) s'.heap ∧ wpAny (model P w) (A.deeper (NdefX.envF F f s₀.heap.objs.size)) (call (.ref h1.objs.size) ([] ++ vs)) (fun _ => Q Flow.next) (NdefX.ncx CX P w K mg base N F f A outer s₀ H₀ E₀).xe s') (NdefX.ncx CX P w K mg base N F f A outer s₀ H₀ E₀).xe
      ⟨h1.push { cls := .type "method", data := .fields #[.ref f2, .ref a] }, g, d, tk + 1, os⟩ := by
    refine thn (ha.run pos _ _ σ H _ I2 q) fun us s3 ⟨zs, H3, I3, r3, q3⟩ => ?_
    have hpin := (I3.pin _ (List.mem_append_right _ List.mem_cons_self)).1
    refine ⟨⟨hpin, I3.kIn⟩, ?_⟩
    have I4 := inv_dropPin I3
    have rv : Vals (V.ref a :: zs) (Value.ref a :: us) := .cons rfl r3
    have hl : (Value.ref a :: us).length = ps.length := by rw [← rv.length]; exact G2.len _ _ _ _ q3
    have b := hb s3 (Value.ref a :: us) I3.kIn (by rw [List.append_nil]; exact hl)
    rw [List.append_nil] at b
    refine wpAny_call (ks_codeAny_call_bound hpin (codeAny_mono (G2.run _ _ s3 H3 ⟨Value.ref a :: us, []⟩ _ _ _ _ (hr.mono hkj) I4.env0 b rv q3) fun r s' hq => ?_))
    cases r with
    | error e => exact hq.elim
    | ok fl =>
      cases fl with
      | ret u =>
        obtain ⟨v, H', I5, rv5, q5⟩ := I4.after hq
        exact q5 _ I5
      | next => exact False.elim hq
      | brk => exact False.elim hq
      | cont => exact False.elim hq
  rw [he] at hs ⊢
  exact PySem.W.callWith_of (P := PySem.W.MethP K h1.objs.size f2 (.ref a)) rfl (PySem.W.keeps_M hfn2) (PySem.Calls.evalArgs_plain hs)
end G

set_option Elab.async false
set_option linter.all false
set_option maxRecDepth 100000
set_option maxHeartbeats 4000000
namespace G
open PySem PySem.Spec PyProof.Rows L2
/-! ### enumerate(a tuple) -/
theorem meets_enum1 {v : Value} {o : Obj} {H : Heap → Prop} (B : Begins v o H) :
    Meets (Builtin.«enumerate.__new__» ⟨[.type "enumerate", v], []⟩) (fun _ R s => H s.heap ∧
      R (.ok (.ret (.ref (s.heap.push o).objs.size))) { s with heap := (s.heap.push o).push { cls := .type "enumerate", data := .fields #[.none, .bool false, .ref s.heap.objs.size, rawInt 0, .none, .none] } }) :=
  .of_wp fun prog w A R s h => by
    obtain ⟨hp, g, d, tk, os⟩ := s; obtain ⟨h1, h⟩ := h
    have hsub := sub_enumerate
    have q1 : ∀ {A' : Around} {E : Value → Shared → Prop} {Q : Value → Shared → Prop}, Q (.ref hp.objs.size) ⟨hp.push o, g, d, tk, os⟩ → wpAny (model prog w) A' (pyIter v) Q E ⟨hp, g, d, tk, os⟩ :=
      fun q => B.iter prog w _ _ ⟨hp, g, d, tk, os⟩ _ h1 q
    wp_walk using q1
    refine wpAny_stack_any fun st => wpAny_pure ?_
    split
    · rename_i c _ _ _ _ _
      cases (c == Value.type "enumerate")
      · wp_walk using q1
        exact ⟨_, rfl, h⟩
      · wp_walk using q1
        exact ⟨_, rfl, h⟩
    · wp_walk using q1
      exact ⟨_, rfl, h⟩
section
variable {prog : Program} {w : World} {A : Around} {E : Value → Shared → Prop} {s : Shared}
theorem enum_begins1 {v : Value} {o : Obj} {H : Heap → Prop} {Q : Value → Shared → Prop} (B : Begins v o H) (h1 : H s.heap)
    (h : ∀ h', IsEnum h' (s.heap.objs.size + 1) s.heap.objs.size 0 .none → h'.get? s.heap.objs.size = some o → h'.objs.size = s.heap.objs.size + 2 →
      (∀ b o, s.heap.get? b = some o → h'.get? b = some o) → Q (.ref (s.heap.objs.size + 1)) { s with heap := h' }) :
    wpAny (model prog w) A (call (.type "enumerate") [v]) Q E s := by
  refine callType_new F.called_enumerate (by decide) (F.typeCall_enumerate_1 _) (F.newCall_enumerate_1 _) (fun obj => F.args_object_init_2 obj _) F.entry_enumerate_new
    (meets_enum1 B) ⟨h1, ?_⟩
  have hz : (s.heap.push o).objs.size = s.heap.objs.size + 1 := Heap.size_push ..
  show _ ∧ _
  rw [hz]
  have he : IsEnum ((s.heap.push o).push { cls := .type "enumerate", data := .fields #[.none, .bool false, .ref s.heap.objs.size, rawInt 0, .none, .none] }) (s.heap.objs.size + 1) s.heap.objs.size 0 .none := by
    have := Heap.get?_push_size (s.heap.push o) (o := { cls := .type "enumerate", data := .fields #[.none, .bool false, .ref s.heap.objs.size, rawInt 0, .none, .none] }) rfl
    rw [hz] at this; exact this
  refine ⟨⟨_, he, rfl⟩, h _ he (Heap.get?_push_of_some _ (Heap.get?_push_size _ B.free)) (by rw [Heap.size_push, hz]) fun b o x => Heap.get?_push_of_some _ (Heap.get?_push_of_some _ x)⟩
end
/-- the tuple at a at each turn, each item in a new pair -/
def IteT (K : PySem.W.Frag) (a : Addr) : It :=
  ⟨fun i H => ∃ (xs : List V) (x : V), SqT K H a xs ∧ xs[i]? = some x, fun i H v H' => ∃ T x, v = .ref T ∧ H T = none ∧ H' = upd H T (.tup [.int (i : Nat), x]) ∧ ∀ xs, SqT K H a xs → xs[i]? = some x, fun i H => ∃ xs : List V, SqT K H a xs ∧ xs.length ≤ i⟩
theorem turn_enumT {P : Program} {w : World} {K : PySem.W.Frag} {elts : List Expr} {kk : Nat} {tpos : Pos} (a e it : Addr) :
    Turn P w K (.Tuple elts kk tpos) (IteT K a) [e, it] e (fun i h => (∃ old, IsEnum h e it ((i : Nat) : Int) old) ∧ h.IsTupleIter it a i ∧ e ≠ it) where
  mem := by simp
  obj := fun i h st b hb => by
    obtain ⟨⟨old, he⟩, ⟨o, ho, hc, hd⟩, _⟩ := st
    have e' : b = e ∨ b = it := by simpa using hb
    rcases e' with z | z
    · rw [z]; exact ⟨_, he, fun v q => nomatch q⟩
    · rw [z]; exact ⟨o, ho, fun v q => by rw [hd] at q; cases q⟩
  keep := fun i h h' st k => let ⟨⟨old, he⟩, hi, hne⟩ := st; ⟨⟨old, k e (by simp) _ he⟩, hi.at fun o q => k it (by simp) o q, hne⟩
  item := by
    intro X hP hw hK hc i pins s σ H E I hf st hg
    subst hP hw hK
    obtain ⟨⟨old, he⟩, hit, hne⟩ := st
    obtain ⟨xs, x, hq, hx⟩ := hg
    obtain ⟨its, rv, p, hz⟩ := I.tuple hq
    obtain ⟨u, hu, ru⟩ := rv.get hx
    have hel : e < s.heap.objs.size := Heap.lt_size he
    have hil : it < s.heap.objs.size := by obtain ⟨_, q, _⟩ := hit; exact Heap.lt_size q
    have hai : a ≠ it := fun z => by
      obtain ⟨o1, e1, c1, _⟩ := p
      obtain ⟨o2, e2, c2, _⟩ := hit
      rw [z, e2] at e1
      cases e1
      rw [c2] at c1
      exact absurd (Value.type.inj c1) (by decide)
    have hae : e ≠ a := fun z => by
      obtain ⟨o1, e1, c1, _⟩ := p
      rw [← z, he] at e1
      cases e1
      exact absurd (Value.type.inj c1) (by decide)
    have hu' : its.toArray[i]? = some u := by simpa using hu
    refine wpAny_pyNext_enum_itemC (c := (i : Int)) (Draws.tuple (prog := X.prog) (w := X.w) (A := X.A.in1) (show X.A.handled = none from I.ok.hd hc) it a hai its.toArray) he ⟨hit, p⟩ (by
      have := (Array.getElem?_eq_some_iff.mp hu').1
      exact this) hne (by simp [hne, hae]) fun x' h' tk hP ho st' hT hsz hk => ?_
    have hxu : u = x' := Option.some.inj (hu'.symm.trans hP)
    subst hxu
    refine ⟨_, rfl, wpAny_letOwnedTupleGo_enum (s := { s with heap := h', toks := tk + 1 }) ho fun h'' he' sb => ?_⟩
    have hT2 : h''.get? s.heap.objs.size = some { cls := .type "tuple", data := .seq #[.int i tk, u] } := (sb.2 _ (Nat.ne_of_gt hel)).trans hT
    have new : ObjOk X.prog X.w (upd H s.heap.objs.size (.tup [.int (i : Nat), x])) h'' s.heap.objs.size (.tup [.int (i : Nat), x]) :=
      ⟨by show 2 ≤ sizeLine; decide, [.int i tk, u], .cons ⟨_, rfl⟩ (.cons ru .nil), ⟨_, hT2, rfl, _, rfl⟩⟩
    have I1 : Inv X pins σ (upd H s.heap.objs.size (.tup [.int (i : Nat), x])) { s with heap := h'', toks := tk + 1 } :=
      I.turnedNew (ch := [e, it]) (fun b ob hb q => (sb.2 b (fun z => hb (by simp [z]))).trans (hk b ob (fun z => hb (by simp [z])) (fun z => hb (by simp [z])) q)) hf (Nat.le_refl _) new
    refine ⟨.ref s.heap.objs.size, _, I1, rfl, ⟨_, x, rfl, I.hok.fresh (Nat.le_refl _), rfl, fun ys hy => by rw [I.tuple_inj hy hq]; exact hx⟩, ⟨⟨u, ?_⟩, st'.1.at fun o q => (sb.2 it (Ne.symm hne)).trans q, hne⟩, fun b hb => ?_⟩
    · have e1 : ((i + 1 : Nat) : Int) = (i : Int) + 1 := by omega
      rw [e1]; exact he'
    · have hb' : b < s.heap.objs.size := by
        have e' : b = e ∨ b = it := by simpa using hb
        rcases e' with z | z
        · rw [z]; exact hel
        · rw [z]; exact hil
      rw [upd_ne (Nat.ne_of_lt hb')]
      exact (hf b hb).1
  done := by
    intro X hP hw hK hc i pins s σ H E I hf st hg
    subst hP hw hK
    obtain ⟨⟨old, he⟩, hit, hne⟩ := st
    obtain ⟨xs, hq, hx⟩ := hg
    obtain ⟨its, rv, p, hz⟩ := I.tuple hq
    obtain ⟨f0, f1, f2, f3, f4, f5⟩ := hf it (by simp)
    have hl := rv.length
    have D : Draws X.prog X.w X.A.in1 it [it, a] i (fun _ _ => False) (fun j h => j = i ∧ h.IsTupleIter it a i ∧ h.IsTuple a its.toArray) :=
      { live := fun _ _ st => let ⟨o, ho, _⟩ := st.2.1; ⟨o, ho⟩
        frame := fun _ _ _ st hk => ⟨st.1, st.2.1.at fun o q => hk it (by simp) o q, st.2.2.at fun o q => hk a (by simp) o q⟩
        item := fun j s Q E hj st hQ => absurd st.1 (Nat.ne_of_lt hj)
        done := fun s Q E st hE => wpAny_nextOf_tuple_end (show X.A.handled = none from I.ok.hd hc) st.2.1 st.2.2 (by simp; omega) hE }
    exact wpAny_pyNext_enum_endD D he ⟨rfl, hit, p⟩ fun h' eb => ⟨rfl, I.turned (t' := s.toks) (fun b o hb q => eb b o hb q) f0 f1 f3 f4 f5⟩
  self := fun A i s Q E st h => let ⟨⟨_, he⟩, _⟩ := st; wpAny_pyIter_enum he h
def iEnumT (K : PySem.W.Frag) (ta : TA) : TI := fun σ H R => ta σ H fun vs H1 => ∃ a xs, vs = [.ref a] ∧ SqT K H1 a xs ∧ R (IteT K a) H1
theorem pi_enumT {X : Cx} {e : Expr} {ta : TA} {p pos tpos : Pos} {elts : List Expr} {kk : Nat} (hg : Gl X "enumerate") (hm : X.mg "enumerate" = none) (ha : PA X [e] ta) (hs : starEach [e] X.env = [(false, eval e X.env)] := by rfl) :
    PI X (.Tuple elts kk tpos) (.Call (.Name "enumerate" p) [e] [] pos) (iEnumT X.K ta) := by
  refine ⟨fun pins s σ H R I h => ?_⟩
  refine Call_ (ld_blt I hg hm boot_enumerate (PyProof.Rows.callWith_type1 (thn (ha.run pos pins s σ H _ I h) fun us s1 ⟨vs, H1, I1, r1, q1⟩ => ?_) hs rfl))
  obtain ⟨a, xs, rfl, hq, q⟩ := q1
  rw [Vals.ref1 r1]
  obtain ⟨its, rv, pt, hz⟩ := I1.tuple hq
  refine enum_begins1 (begins_tuple a its.toArray) pt fun h' he hit hsz hk => wpAny_pyIter_enum he ?_
  have I2 : Inv X pins σ H1 { s1 with heap := h' } := I1.kept (t' := s1.toks) hk
  refine ⟨s1.heap.objs.size + 1, [s1.heap.objs.size + 1, s1.heap.objs.size], _, _, H1, rfl, I2, turn_enumT a (s1.heap.objs.size + 1) s1.heap.objs.size, ⟨⟨.none, he⟩, ⟨_, hit, rfl, rfl⟩, Nat.succ_ne_self _⟩, fun b hb => ?_, q⟩
  have hle : s1.heap.objs.size ≤ b := by
    rcases List.mem_cons.mp hb with z | z
    · rw [z]; exact Nat.le_succ _
    · rw [List.mem_singleton.mp z]; exact Nat.le_refl _
  exact I1.fpOk hle (I1.hok.fresh hle)
/-! ### .. as data -/
def enumD (xs : List PyData) (i : Nat) : PyData := .tuple [.int (i : Int), xs.getD i .none]
section
variable {K : PySem.W.Frag} {σ : L2.St} {H H' : Hp} {tl te : TE}
theorem wk_enumT {a : Addr} {vs : List V} {xs : List PyData} (hs : SqT K H a vs) (hv : DpAll K H vs xs) : WkD K (IteT K a) H ((List.range xs.length).map (enumD xs)) where
  goes := fun i H1 hi s => by
    have : i < vs.length := by rw [hv.len]; simpa using hi
    exact ⟨vs, vs[i], same_sqt s hs, by simp [this]⟩
  stops := fun H1 s => ⟨vs, same_sqt s hs, by rw [hv.len]; simp⟩
  yields := fun i H1 x H2 d hd s y => by
    obtain ⟨T, x', rfl, hT, rfl, y⟩ := y
    have h1 := y vs (same_sqt s hs)
    have hi : i < xs.length := by
      have := (List.getElem?_eq_some_iff.mp hd).1
      simpa using this
    have e : d = enumD xs i := by
      rw [List.getElem?_map, List.getElem?_range hi] at hd
      exact (Option.some.inj hd).symm
    subst e
    have hx : xs[i]? = some (xs.getD i .none) := by rw [List.getD_eq_getElem?_getD, List.getElem?_eq_getElem hi]; rfl
    obtain ⟨v, h2, h3⟩ := hv.get hx
    rw [h1] at h2
    cases h2
    have s2 : Same H1 (upd H1 T (.tup [.int (i : Nat), x'])) := (Same.refl H1).new hT
    exact ⟨s2, .tup (st_of upd_same) (.cons (.int _) (.cons (dp_same (s.trans s2) _ _ h3) .nil))⟩
theorem ei_enumT {xs : List PyData} (h : EvD K tl σ H (.tuple xs)) : EvI K (iEnumT K (tCons tl tNil)) σ H ((List.range xs.length).map (enumD xs)) := fun H1 s R q => h H1 s _ fun v H2 s2 hv => by
  obtain ⟨a, vs, rfl, hs, hvs⟩ := dp_tup hv
  exact ⟨a, vs, rfl, hs, q _ H2 s2 (wk_enumT hs hvs)⟩
end
end G

set_option Elab.async false
set_option linter.all false
set_option maxRecDepth 100000
set_option maxHeartbeats 4000000
namespace G
open PySem PySem.Spec PyProof.Rows L2
/-- a def of the head that has a closure, and whose first statement is run at the body's level -/
theorem fn_cloS {CX : CXT} {P : Program} {w : World} {K : PySem.W.Frag} {mg : Str → Option Value} {base : Heap} {k : Nat} {f : Addr} {F : NdefX.NF} {oc : Value} {od an : Option Addr} {osl : Array (Option Value)} {doc pm ctv : Value} {N ps fr : List Str} {ws : List (Option V)} {sp : Sp} {st : Stmt} {rest : List Stmt}
    (lk : K.lookup f = some ⟨oc, od, .func (PySem.W.fnX F.name F.qual F.params F.body F.scope F.cl .none .none doc pm an (.ref F.c) ctv), osl⟩) (hcd : PySem.W.codeIn K (.ref F.c) F.qual = true) (S : NdefX.NScope N ps fr F.scope) (bc : Mod K mg base → BCells F.cl fr ws base) (len : ∀ vs H Q E, sp vs H Q E → vs.length = ps.length)
    (hF : F.body = st :: rest)
    (hbody : ∀ (A : Around) (outer : List Env) (s : Shared) (H : Hp) (vs : List V) (Q : VK) (E : XK), Room k (A.deeper (NdefX.envF F f s.heap.objs.size)) → sp vs H Q E → ∀ s1, Inv (NdefX.ncx CX P w K mg base N F f A outer s H E) [] (NdefX.startF N vs ws) H s1 →
      _root_.PySem.wpAt (model P w) (A.deeper (NdefX.envF F f s.heap.objs.size)) (.func F.body (NdefX.envF F f s.heap.objs.size)) (exec st (NdefX.envF F f s.heap.objs.size))
        (fun fl s2 => fl = .next ∧ ∃ σ2 H2 t, Inv (NdefX.ncx CX P w K mg base N F f A outer s H E) [] σ2 H2 s2 ∧ PSs (NdefX.ncx CX P w K mg base N F f A outer s H E) rest t ∧ t { nx := fun _ H' => Q .non H', rt := Q } σ2 H2) (NdefX.ncx CX P w K mg base N F f A outer s H E).xe s1) :
    FnOk P w K mg base CX (k + 1) f (PySem.W.fnX F.name F.qual F.params F.body F.scope F.cl .none .none doc pm an (.ref F.c) ctv) ps sp := by
  refine ⟨len, fun A outer s H args us vs Q E hr e0 hb r hsp => ?_⟩
  have hl := len _ _ _ _ hsp
  have KX : K.In s.heap := e0.mod.kin.keeps fun b o e => (e0.bs b o e).1
  have lim : s.heap.NoLimit := e0.mod.nolimit.keeps fun b o e => (e0.bs b o e).1
  have C := (bc e0.mod).at (h := s.heap) (H := H) e0.bs
  refine codeAny_call_function hr.depth (KX _ _ lk) rfl S.co S.gen rfl (PySem.W.codeRec_of KX hcd) (hb _ _ _ _ ?_)
  refine wpAny_newFunctionEnv S.nocell (fun ⟨n, _⟩ hy => S.par n (List.of_mem_zip hy).1) (fun h₁ hns hsb => ⟨lim.fresh _ hsb, ?_⟩) S.kind
  show codeAny _ _ (.func F.body (NdefX.envF F f s.heap.objs.size)) _ _
  have kp : ∀ b o, s.heap.get? b = some o → h₁.get? b = some o := fun b o e => hsb.extBut b o (Nat.ne_of_lt (Heap.lt_size e)) (Heap.get?_push_of_some _ e)
  have I : Inv (NdefX.ncx CX P w K mg base N F f A outer s H E) [] (NdefX.startF N vs ws) H { s with heap := h₁, toks := s.toks + (ps.zip us).length } := NdefX.inv_startN S hr.hd e0 hl r C hns kp
  have fin : ∀ {σ' : L2.St} {H' : Hp} {v : V} {u : Value} {s' : Shared}, Inv (NdefX.ncx CX P w K mg base N F f A outer s H E) [] σ' H' s' → L2.RelV v u → Q v H' → CE outer P w H s Q u s' :=
    fun {σ' H' v u s'} J rv q => ⟨v, H', J.os, J.bare, J.base, J.hok, rv, q⟩
  have step := hbody A outer s H vs Q E (hr.deeper _) hsp _ I
  refine ks_codeAny_funcAt ?_
  rw [show execs F.body (NdefX.envF F f s.heap.objs.size) = execs (st :: rest) (NdefX.envF F f s.heap.objs.size) by rw [hF]]
  refine ks_wpAt_execs_cons (ks_wpAt_mono step (fun fl s2 h2 => ?_) fun e s' hs => hs)
  obtain ⟨rfl, σ2, H2, t, I2, ht, hq⟩ := h2
  refine wpAt_of_wpAny (wpAny_mono (ht.run [] _ _ _ _ I2 hq) (fun fl s' hs => ?_) fun e s' hs => hs)
  cases fl with
  | ret u =>
    obtain ⟨v, σ', H', J, rv, q⟩ := hs
    exact fin J rv q
  | next =>
    obtain ⟨σ', H', J, q⟩ := hs
    exact fin (v := V.non) (u := Value.none) J rfl q
  | brk =>
    obtain ⟨_, _, _, q⟩ := hs
    exact False.elim q
  | cont =>
    obtain ⟨_, _, _, q⟩ := hs
    exact False.elim q
/-! ### the symbols' dict -/
theorem symD {K : PySem.W.Frag} {x0 x2 x3 x4 x5 x6 : Option V} {H : Hp} {sg : Sg} {v : V} (hd : Dp K H v (sigD sg)) (nd : (sg.map (·.1)).Nodup) (few : sg.length ≤ 12) {Q : VK}
    (q : ∀ D kvs H', Same H H' → H D = none → H' D = some (.dK kvs) → (∀ (m : Nat) (e : Str × Nat), sg[m]? = some e → valV kvs (Sum.inr e.1) = some (.int (m : Int))) → Q (.ref D) H') :
    tDc (iEnumT K (tCons (tVar 1) tNil)) (gTup K 2 (gCons (gName 4) (gCons (gTup K 2 (gCons (gName 5) (gCons (gName 6) gNil))) gNil))) tYes (tVar 5) (tVar 4) [4, 5, 6] [x0, some v, x2, x3, x4, x5, x6] H Q := by
  have key := ei_enumT (K := K) (σ := [x0, some v, x2, x3, x4, x5, x6]) (H := H) (tl := tVar 1) (xs := sg.map entD) (ed_var (show Dp K H v (.tuple (sg.map entD)) from hd) rfl)
  refine key H (Same.refl H) _ fun J H2 s2 w D hD => ?_
  have hlen : (List.map (enumD (sg.map entD)) (List.range (sg.map entD).length)).length = sg.length := by simp
  refine ⟨fun a m H' => m = sg.length - a ∧ a ≤ sg.length ∧ Same H2 H' ∧ ∃ kvs, H' D = some (.dK kvs) ∧ kvs.length ≤ a ∧ ∀ (m : Nat) (e : Str × Nat), m < a → sg[m]? = some e → valV kvs (Sum.inr e.1) = some (.int (m : Int)),
    ⟨sg.length, by simp, Nat.zero_le _, (Same.refl H2).new hD, [], upd_same, Nat.le_refl _, fun m e hm => absurd hm (Nat.not_lt_zero _)⟩, ?_⟩
  rintro a m H3 ⟨rfl, hal, s3, kvs, hk, hkl, hkv⟩
  by_cases hlt : a < sg.length
  · refine .inr ⟨w.goes a H3 (by rw [hlen]; exact hlt) s3, fun H' => a + 1 ≤ sg.length ∧ Same H2 H' ∧ ∃ kvs, H' D = some (.dK kvs) ∧ kvs.length ≤ a + 1 ∧ ∀ (m : Nat) (e : Str × Nat), m < a + 1 → sg[m]? = some e → valV kvs (Sum.inr e.1) = some (.int (m : Int)),
      fun H' ⟨x, y⟩ => ⟨sg.length - (a + 1), by omega, rfl, x, y⟩, fun x H4 y => ?_⟩
    obtain ⟨e, he⟩ : ∃ e, sg[a]? = some e := ⟨_, List.getElem?_eq_getElem hlt⟩
    have hx : (List.map (enumD (sg.map entD)) (List.range (sg.map entD).length))[a]? = some (.tuple [.int (a : Int), entD e]) := by
      rw [List.getElem?_map, List.getElem?_range (by simpa using hlt)]
      show some (enumD (sg.map entD) a) = _
      unfold enumD
      rw [List.getD_eq_getElem?_getD, List.getElem?_map, he]
      rfl
    obtain ⟨s4, hxd⟩ := w.yields a H3 x H4 _ hx s3 y
    obtain ⟨b, xs, rfl, hs, hvs⟩ := dp_tup hxd
    cases hvs with
    | cons h1 t1 =>
      cases t1 with
      | cons h2 t2 =>
        cases t2
        obtain rfl := dpI h1
        obtain ⟨b2, ys, rfl, hs2, hvs2⟩ := dp_tup (show Dp K H4 _ (.tuple [.str e.1, .int (e.2 : Int)]) from h2)
        cases hvs2 with
        | cons g1 t1 =>
          cases t1 with
          | cons g2 t2 =>
            cases t2
            obtain rfl := dpS g1
            obtain rfl := dpI g2
            refine ⟨b, _, rfl, hs, rfl, _, _, rfl, _, _, rfl, ⟨b2, _, rfl, hs2, rfl, _, _, rfl, _, _, rfl, rfl, rfl, rfl, ?_⟩⟩
            refine et_yes H4 (Same.refl _) _ fun H5 s5 => iteT ⟨_, rfl, _, rfl, kvs, Sum.inr e.1, rfl, (s4.trans s5) _ _ hk, sz_lt (by omega), hlt, fun c o hc => ?_, _, upd_same, ?_, fun m e' hm he' => ?_⟩
            · rw [upd_ne (ne_of_none hc hD)]
              exact ((s3.trans s4).trans s5) _ _ hc
            · have : ∀ (l : List (Key × V)) (k : Key) (v : V), (putK l k v).length ≤ l.length + 1 := fun l k v => by
                unfold putK
                split <;> simp
              have := this kvs (Sum.inr e.1) (.int (a : Int))
              omega
            · rw [valV_put]
              by_cases hma : m = a
              · subst hma
                rw [he] at he'
                cases he'
                rw [if_pos rfl]
              · have hne : ¬ (Sum.inr e'.1 : Key) = Sum.inr e.1 := fun z => by
                  injection z with z
                  have a1 : (sg.map (·.1))[m]? = some e'.1 := by rw [List.getElem?_map, he']; rfl
                  have a2 : (sg.map (·.1))[a]? = some e.1 := by rw [List.getElem?_map, he]; rfl
                  rw [z] at a1
                  exact hma ((List.getElem?_inj (List.getElem?_eq_some_iff.mp a1).1 nd).mp (a1.trans a2.symm))
                rw [if_neg hne]
                exact hkv m e' (by omega) he'
  · obtain rfl : a = sg.length := by omega
    refine .inl ⟨?_, q D kvs H3 (s2.trans s3) (back s2 hD) hk fun m e he => hkv m e (List.getElem?_eq_some_iff.mp he).1 he⟩
    have := w.stops H3 s3
    rwa [hlen] at this
end G

set_option Elab.async false
set_option linter.all false
set_option maxRecDepth 100000
set_option maxHeartbeats 4000000
namespace G
open PySem PySem.Spec PyProof.Rows L2
/-! ### a new tree's reader -/
def trI (K : PySem.W.Frag) (a dx W D : Addr) (vsg : V) (l : List Nat) : RI := ⟨a, He.ga K "MachineReader", dx, W, [(("signature" : Str), vsg), (("symbols" : Str), .ref D)], l, wordsOf l⟩
def spTInit (K : PySem.W.Frag) : Sp := fun vs H Q _ => ∃ (a dx : Addr) (vsg : V) (l : List Nat) (sg : Sg), vs = [.ref a, vsg, .str (S l)] ∧ H a = some (.ins (He.ga K "MachineReader") dx []) ∧ SgLike sg ∧ Dp K H vsg (sigD sg) ∧ l.length ≤ 50000 ∧
  ∀ H' W D, Mv a H H' → H W = none → TSt K (trI K a dx W D vsg l) sg H' H' 0 → Q .non H'
section
variable {K : PySem.W.Frag} {mg : Str → Option Value} {sg : Sg} {H0 H H' : Hp} {σ : L2.St} {i j : Nat} {l : List Nat}
theorem x_treeReader {te1 te2 : TE} {E : XK} {Q : VK} (h1 : EvD K te1 σ H (sigD sg)) (h2 : EvD K te2 σ H (.str (S l))) (hs : SgLike sg) (hl : l.length ≤ 50000)
    (q : ∀ a dx W D vsg H', Same H H' → H a = none → H W = none → TSt K (trI K a dx W D vsg l) sg H' H' 0 → Q (.ref a) H') : tMake (He.ga K "MachineReader") (spTInit K) [] E (tCons te1 (tCons te2 tNil)) σ H Q := by
  refine h1 H (Same.refl H) _ fun vsg H1 s1 hv1 => h2 H1 s1 _ fun v2 H2 s2 hv2 => ?_
  obtain rfl := dpS hv2
  intro a dx ha hdx hne
  have s3 : Same H2 (upd (upd H2 dx (.own a)) a (.ins (He.ga K "MachineReader") dx [])) := ((Same.refl H2).own hdx).own ha
  refine ⟨a, dx, vsg, l, sg, rfl, upd_same, hs, dp_same (s2.trans s3) _ _ hv1, hl, fun H' W D m hW ts => ⟨rfl, ?_⟩⟩
  have s12 := s1.trans s2
  have sH : Same H2 H' := fun b o e => m b o (fun z => by rw [z, ha] at e; cases e) (s3 b o e)
  exact q a dx W D vsg H' (s12.trans sH) (back s12 ha) (back (s12.trans s3) hW) ts
theorem s_treeReader {te1 te2 : TE} {E : XK} {D0 : Ends} (h1 : EvD K te1 σ H (sigD sg)) (h2 : EvD K te2 σ H (.str (S l))) (hs : SgLike sg) (hl : l.length ≤ 50000)
    (q : ∀ a dx W D vsg H', Same H H' → H a = none → H W = none → TSt K (trI K a dx W D vsg l) sg H' H' 0 → D0.nx (σ.set i (some (.ref a))) H') : tAsg (tMake (He.ga K "MachineReader") (spTInit K) [] E (tCons te1 (tCons te2 tNil))) (gName i) D0 σ H :=
  x_treeReader h1 h2 hs hl q
theorem s_newTR {te1 te2 : TE} {E : XK} {D0 : Ends} (h1 : EvD K te1 σ H (sigD sg)) (h2 : EvD K te2 σ H (.str (S l))) (hs : SgLike sg) (hl : l.length ≤ 50000)
    (q : ∀ a dx W D vsg F Hb H', Hb F = none → TSt K (trI K a dx W D vsg l) sg Hb H' 0 → RF K (trI K a dx W D vsg l) F H H' 0 [] → D0.nx ((σ.set i (some (.ref a))).set j (some (.ref F))) H') :
    tPar i j (tCons (tMake (He.ga K "MachineReader") (spTInit K) [] E (tCons te1 (tCons te2 tNil))) (tCons (tLst tNil) tNil)) D0 σ H := by
  have key := x_treeReader (E := E) (Q := fun v H1 => (tCons (tLst tNil) tNil) σ H1 fun vs H2 => ∃ v' w, v :: vs = [v', w] ∧ D0.nx ((σ.set i (some v')).set j (some w)) H2) h1 h2 hs hl fun a dx W D vsg H2 s2 ha hW ts => ?_
  exact key
  refine ⟨by simp, fun F hF => ⟨_, _, rfl, q a dx W D vsg F H2 _ hF (ts.same ((Same.refl H2).new hF)) ?_⟩⟩
  have hFa : F ≠ a := fun z => by rw [z] at hF; rw [show H2 a = _ from ts.ob] at hF; cases hF
  obtain ⟨us, hWl, hus⟩ := ts.at_.wl
  have hFW : F ≠ W := fun z => by rw [z] at hF; rw [show H2 W = _ from hWl] at hF; cases hF
  have sF : Same H2 (upd H2 F (.lst [])) := (Same.refl H2).new hF
  exact ⟨ts.at_.same sF, hFa, hFW, s2.trans sF, ha, back s2 hF, ⟨[], upd_same, .nil⟩, rfl⟩
end
section
variable {P : Program} {w : World} {K : PySem.W.Frag} {mg : Str → Option Value} {base : Heap}
/-- the program's file, as super() asks for it -/
structure PF (P : Program) : Prop where
  file : ((P.main.file : Str) == "/claim/cut.py") = true
  top : (P.main.scope.names.lookup ("super" : Str)).isSome = false
theorem supB_eq {c d e : Str} (h : supB3 K c d e = true) : ∃ cd, PySem.W.clsIn K (He.ga K c) = some cd ∧ cd.mro = [.ref (He.ga K c), .ref (He.ga K d), .ref (He.ga K e), .type "object"] ∧ PySem.W.nsIn K cStatics "thirdparty.any" = some none ∧
    PySem.W.alongIn K "__init__" [.ref (He.ga K e), .type "object"] = some (some (.ref (He.ma K (He.ga K e) "__init__"))) ∧ PySem.W.isFn K (.ref (He.ma K (He.ga K e) "__init__")) = true ∧ He.ma K (He.ga K c) "__init__" = He.ma K (He.ga K d) "__init__" ∧ He.ga K c ≠ He.ga K d := by
  unfold supB3 at h
  simp only [Bool.and_eq_true, decide_eq_true_eq] at h
  obtain ⟨⟨⟨⟨⟨h1, h2⟩, h3⟩, h4⟩, h5⟩, h6⟩ := h
  cases z : PySem.W.clsIn K (He.ga K c) with
  | none => rw [z] at h1; cases h1
  | some cd =>
    rw [z] at h1
    exact ⟨cd, rfl, of_decide_eq_true h1, h2, h3, h4, h5, h6⟩
theorem fileB_eq {c : Addr} {file : Str} (h : fileB K (.ref c) file = true) : ∃ ccl cdd vs ccs tf, K.lookup c = some ⟨ccl, cdd, .fields vs, ccs⟩ ∧ vs[2]? = some (.str file tf) := by
  unfold fileB at h
  dsimp only at h
  cases e : K.lookup c with
  | none => rw [e] at h; cases h
  | some o =>
    obtain ⟨a1, a2, dat, a4⟩ := o
    rw [e] at h
    cases dat with
    | fields vs =>
      dsimp only at h
      cases el : vs.toList with
      | nil => rw [el] at h; cases h
      | cons x l =>
        cases l with
        | nil => rw [el] at h; cases h
        | cons y l =>
          cases l with
          | nil => rw [el] at h; cases h
          | cons z l =>
            rw [el] at h
            cases z with
            | str f tf =>
              obtain rfl := of_decide_eq_true h
              exact ⟨a1, a2, vs, a4, tf, rfl, by rw [← Array.getElem?_toList, el]; rfl⟩
            | _ => cases h
    | _ => cases h
theorem dropTo {a b : Addr} {l : List Value} (h : a ≠ b) : (((Value.ref a :: .ref b :: l) : List Value).dropWhile (· != .ref b)).drop 1 = l := by
  have e1 : (Value.ref a != .ref b) = true := by
    rw [bne_iff_ne]
    intro z
    injection z with z
    exact h z
  have e2 : (Value.ref b != .ref b) = false := by simp
  simp only [List.dropWhile, e1, e2, List.drop]
theorem scN_TreeReader___init__ : NdefX.NScope ["self", "signature", "text", "__class__", "symbol", "name", "arity"] ["self", "signature", "text"] ["__class__"] (defScope s_TreeReader___init__) := NdefX.nscope_by (by decide +kernel)
theorem fo_TreeReader___init__ (T : Tx K mg) (hP : PF P) : ∃ fd, K.lookup (He.fAd K ("TreeReader", some "__init__")) = K.lookup (He.fAd K ("TreeReader", some "__init__")) ∧ Binds K fd ["self", "signature", "text"] [] ∧ FnOk P w K mg base CX0 4 (He.fAd K ("TreeReader", some "__init__")) fd ["self", "signature", "text"] (spTInit K) := by
  obtain ⟨c, cc, oc, od, an, osl, doc, pm, ctv, lk, hcd, ⟨o1, o2, sl, lcc⟩, hfile⟩ := clo_fd T
  obtain ⟨ccl, cdd, cvs, ccs, tf, lc, hvs⟩ := fileB_eq hfile
  obtain ⟨cdo, hclo, hmro, hst, hal, hfn, hma, hne3⟩ := supB_eq (Bool.and_eq_true_iff.mp T.more).2
  obtain ⟨cd, hcl⟩ : ∃ cd, PySem.W.clsIn K (He.ga K "TreeReader") = some cd := by
    have h := T.k_TreeReader.hd
    unfold PySem.W.hasDictIn at h
    cases e : PySem.W.clsIn K (He.ga K "TreeReader") with
    | some cd => exact ⟨cd, rfl⟩
    | none => rw [e] at h; cases h
  obtain ⟨fd2, F2⟩ := T.f_Reader___init__
  have n1 : (defScope s_TreeReader___init__).names.lookup ("super" : Str) = some NameKind.globalImplicit := by decide +kernel
  have n2 : (defScope s_TreeReader___init__).names.lookup ("__class__" : Str) = some NameKind.free := by decide +kernel
  have n3 : (defScope s_TreeReader___init__).names.lookup ("self" : Str) = some NameKind.local := by decide +kernel
  have hfn2 : PySem.W.fnIn K (He.ma K (He.ga K "Reader") "__init__") = true := by
    obtain ⟨_, _, _, _, _, _, _, _, _, _, _, lk2, _⟩ := F2.ex
    have lk2 : K.lookup (He.ma K (He.ga K "Reader") "__init__") = _ := lk2
    unfold PySem.W.fnIn
    rw [lk2]
  refine ⟨_, rfl, .all fun us hl => ?_, fn_cloS (F := ⟨"__init__", "TreeReader.__init__", defArgs s_TreeReader___init__, defBody s_TreeReader___init__, defScope s_TreeReader___init__, [("__class__", cc)], c⟩) (k := 3) (ws := [none]) lk hcd scN_TreeReader___init__ (fun M => ?_) (fun vs H Q E h => ?_) rfl fun A outer s H vs Q E hr hsp s1 I => ?_⟩
  · match us, hl with
    | [_, _, _], _ => rfl
  · refine ⟨rfl, fun y e he => ?_, fun x y e hx hy => ?_, fun i y hy => ?_⟩
    · have : e = cc := by
        rw [List.lookup_cons] at he
        split at he
        · exact (Option.some.inj he).symm
        · cases he
      subst this
      exact ⟨_, _, M.kin _ _ lcc, rfl⟩
    · have key : ∀ z, List.lookup z [(("__class__" : Str), cc)] = some e → z = ("__class__" : Str) := fun z hz => by
        rw [List.lookup_cons] at hz
        split at hz
        · rename_i q
          exact eq_of_beq q
        · cases hz
      rw [key x hx, key y hy]
    · match i, hy with
      | 0, hy =>
        obtain rfl : ("__class__" : Str) = y := Option.some.inj hy
        exact ⟨cc, rfl, fun v hv => by cases hv⟩
      | i + 1, hy => simp at hy
  · obtain ⟨a, dx, vsg, l, sg, rfl, _⟩ := h
    rfl
  · obtain ⟨a, dx, vsg, l, sg, rfl, ho, hs, hvsg, hl, q⟩ := hsp
    refine super_first (CX2 := CX0) I rfl n1 n2 n3 lk rfl rfl lc hvs hP.file hP.top rfl lcc hcl hclo ⟨by rw [hmro]; rfl, by rw [hmro]; simp⟩ (by rw [hmro]; exact dropTo hne3) hst hal hfn hfn2 T.b_super rfl rfl ho (fo_Reader___init__ T F2) hr (by decide)
      (F2.bindsN fun _ _ _ _ _ _ us hl => match us, hl with | [_, _], _ => rfl) (pa_cons (pv 2) pa_nil) ?_
    refine ⟨_, rfl, a, He.ga K "MachineReader", dx, l, rfl, ho, T.k_MachineReader, T.n_MachineReader_text, T.n_MachineReader_words, T.n_MachineReader_at, hl, fun H1 W us m1 hW hWa hWl hus hfs s2 I2 => ?_⟩
    refine ⟨rfl, _, H1, _, I2, pss_cons (ps_fld (pv 0) (pv 1) rfl) (pss_one (ps_fld (pv 0) (pe_dc (own := [("symbol", 4), ("name", 5), ("arity", 6)]) (g := gTup K 2 (gCons (gName 4) (gCons (gTup K 2 (gCons (gName 5) (gCons (gName 6) gNil))) gNil))) rfl scN_TreeReader___init__.nd (pi_enumT (by rfl) T.b_enumerate (pa_cons (pv 1) pa_nil))
      (blkOk_by (own := [("symbol", 4), ("name", 5), ("arity", 6)]) (N := ["self", "signature", "text", "__class__", "symbol", "name", "arity"]) (sc := defScope s_TreeReader___init__) (by decide +kernel))
      (fun _ _ _ _ _ => pg_tup rfl (pgs_cons (pg_name (i := 4) scN_TreeReader___init__.nd rfl (by first | exact Or.inl rfl | exact Or.inr rfl)) (pgs_cons (pg_tup rfl (pgs_cons (pg_name (i := 5) scN_TreeReader___init__.nd rfl (by first | exact Or.inl rfl | exact Or.inr rfl)) (pgs_cons (pg_name (i := 6) scN_TreeReader___init__.nd rfl (by first | exact Or.inl rfl | exact Or.inr rfl)) pgs_nil))) pgs_nil)))
      (fun _ _ _ _ _ => pts_nil) (fun _ _ _ _ _ => pv 5) (fun _ _ _ _ _ => pv 4)) rfl)), ?_⟩
    have hv1 : Dp K H1 vsg (sigD sg) := dp_kt (m1.kt ho) _ _ (sigD_tt sg) hvsg
    refine ⟨vsg, rfl, _, rfl, a, He.ga K "MachineReader", dx, _, rfl, hfs, T.k_MachineReader, T.n_MachineReader_signature, by show (3 : Nat) < 1000; decide, ?_⟩
    have hWl2 : (upd H1 a (.ins (He.ga K "MachineReader") dx (putF "signature" vsg [(("text" : Str), .str (S l)), (("words" : Str), .ref W), (("at" : Str), .int 0)]))) W = some (.lst us) := by
      rw [upd_ne hWa]; exact hWl
    have m2 : Mv a H1 (upd H1 a (.ins (He.ga K "MachineReader") dx (putF "signature" vsg [(("text" : Str), .str (S l)), (("words" : Str), .ref W), (("at" : Str), .int 0)]))) := (Mv.refl a H1).upd
    have hv2 := dp_kt (m2.kt hfs) _ _ (sigD_tt sg) hv1
    have hus2 := dps_kt (m2.kt hfs) _ _ (wordD_tt _) hus
    have ho2 : (upd H1 a (.ins (He.ga K "MachineReader") dx (putF "signature" vsg [(("text" : Str), .str (S l)), (("words" : Str), .ref W), (("at" : Str), .int 0)]))) a = _ := upd_same
    generalize upd H1 a (.ins (He.ga K "MachineReader") dx (putF "signature" vsg [(("text" : Str), .str (S l)), (("words" : Str), .ref W), (("at" : Str), .int 0)])) = H2 at *
    dsimp only [List.map]
    unfold sFld
    refine symD (K := K) (x0 := some (.ref a)) (x2 := some (.str (S l))) (x3 := none) (x4 := none) (x5 := none) (x6 := none) hv2 hs.nd hs.few fun D kvs H3 s3 hD hDl hkv => ?_
    refine ⟨_, rfl, a, He.ga K "MachineReader", dx, _, rfl, s3 _ _ ho2, T.k_MachineReader, T.n_MachineReader_symbols, by show (4 : Nat) < 1000; decide, ?_⟩
    have ho3 := s3 _ _ ho2
    have hDa : D ≠ a := fun z => by rw [z, ho2] at hD; cases hD
    have m3 : Mv a H3 (upd H3 a (.ins (He.ga K "MachineReader") dx (putF "symbols" (.ref D) (putF "signature" vsg [(("text" : Str), .str (S l)), (("words" : Str), .ref W), (("at" : Str), .int 0)])))) := (Mv.refl a H3).upd
    have hv4 := dp_kt (m3.kt ho3) _ _ (sigD_tt sg) (dp_same s3 _ _ hv2)
    have hus4 := dps_kt (m3.kt ho3) _ _ (wordD_tt _) (dps_same s3 _ _ hus2)
    refine q _ W D (((m1.trans m2).trans (Mv.of s3)).trans m3) hW ⟨⟨?_, ⟨us, ?_, hus4⟩, .inr ⟨rfl, _, _, rfl⟩, Nat.le_trans (wordsF_len _ _ _) hl, hl⟩, rfl, ⟨vsg, D, kvs, rfl, hv4, ?_, hkv⟩, Mv.refl _ _, .lst us, ?_⟩
    · exact upd_same
    · show (upd H3 a _) W = _
      rw [upd_ne hWa]; exact s3 _ _ hWl2
    · rw [upd_ne hDa]; exact hDl
    · show (upd H3 a _) W = _
      rw [upd_ne hWa]; exact s3 _ _ hWl2
theorem kl_MachineReader (T : Tx K mg) (hP : PF P) : Kl P w K mg base CX0 4 (He.ga K "MachineReader") "MachineReader" ["self", "signature", "text"] (spTInit K) := by
  obtain ⟨fd, _, hb, F⟩ := fo_TreeReader___init__ (w := w) (base := base) T hP
  obtain ⟨cdo, hclo, hmro, hst, hal, hfn, hma, hne3⟩ := supB_eq (Bool.and_eq_true_iff.mp T.more).2
  have mk := T.mk_MachineReader
  rw [hma] at mk
  exact ⟨_, fd, T.g_MachineReader, mk, hb, F⟩
end
end G

set_option Elab.async false
set_option linter.all false
set_option maxRecDepth 100000
set_option maxHeartbeats 4000000
namespace G
open PySem PySem.Spec PyProof.Rows L2
theorem vals_snoc : ∀ {vs : List V} {us : List Value} {v : V} {u : Value}, Vals vs us → RelV v u → Vals (vs ++ [v]) (us ++ [u])
  | _, _, _, _, .nil, h => .cons h .nil
  | _, _, _, _, .cons a t, h => .cons a (vals_snoc t h)
theorem vals_rev : ∀ {vs : List V} {us : List Value}, Vals vs us → Vals vs.reverse us.reverse
  | _, _, .nil => .nil
  | _, _, .cons a t => by
    rw [List.reverse_cons, List.reverse_cons]
    exact vals_snoc (vals_rev t) a
theorem kbn_rev {K : PySem.W.Frag} {x qual : Str} {params : Arguments} {body : List Stmt} {scope : Scope} {kws : List (Str × V)} {f : Addr} {fd : FuncData} {ps ks : List Str} (F : FunD K x qual params body scope [] kws f fd)
    (h : ∀ (kV doc pm : Value) (an : Option Addr) (cdv ct : Value) (ws : List Value), ws.length = ks.length → bindArgs (PySem.W.fnOf x qual params body scope .none kV doc pm an cdv ct) ⟨[], ks.zip ws⟩ = pure (ps.zip ws.reverse)) : KBn K fd ps 0 ks (fun _ ws => ws.reverse) (fun _ zs => zs.reverse) := by
  obtain ⟨oc, od, dV, kV, doc, pm, an, cdv, ct, osl, rfl, lk, hcd, hD, hK⟩ := F.ex
  rcases hD with ⟨_, rfl⟩ | ⟨e, _⟩
  · refine ⟨fun s us ws X l1 l2 => ?_, fun _ r => vals_rev r⟩
    obtain rfl := List.length_eq_zero_iff.mp l1
    exact .of_eq (h kV doc pm an cdv ct ws l2)
  · exact absurd rfl e
/-- a def that is called by two keywords, too, in the other order -/
structure ClK (P : Program) (w : World) (K : PySem.W.Frag) (mg : Str → Option Value) (base : Heap) (CX : CXT) (k : Nat) (x : Str) (ps ks : List Str) (sp : Sp) : Prop where
  ex : ∃ (f : Addr) (fd : FuncData), mg x = some (.ref f) ∧ PySem.W.keepIn K (.ref f) = true ∧ Binds K fd ps [] ∧ FnOk P w K mg base CX k f fd ps sp ∧ KBn K fd ps 0 ks (fun _ ws => ws.reverse) (fun _ zs => zs.reverse)
theorem ClK.cl {P : Program} {w : World} {K : PySem.W.Frag} {mg : Str → Option Value} {base : Heap} {CX : CXT} {k : Nat} {x : Str} {ps ks : List Str} {sp : Sp} (c : ClK P w K mg base CX k x ps ks sp) : Cl P w K mg base CX k x ps sp := by
  obtain ⟨f, fd, h1, h2, h3, h4, _⟩ := c.ex
  exact ⟨f, fd, h1, h2, h3, h4⟩
section
variable {X : Cx} {CX : CXT} {k j n : Nat} {f : Addr} {fd : FuncData} {ps ks : List Str} {sp : Sp} {E : XK} {x : Str} {p pos : Pos} {kws : List Keyword} {tk : TA} {g : List Value → List Value → List Value} {gV : List V → List V → List V}
/-- f(k = v, ..) -/
theorem pe_callN0 (F : FnOk X.prog X.w X.K X.mg X.base CX k f fd ps sp) (hr : Room k X.A) (hg : Gl X x) (hm : X.mg x = some (.ref f)) (hk : PySem.W.keepIn X.K (.ref f) = true) (hb : KBn X.K fd ps 0 ks g gV) (hx : Passes CX X E)
    (hkw : PK X kws tk) (hall : (backToKw pos (keywordEach kws X.env)).all (·.1.isSome) = true := by rfl) (hks : (backToKw pos (keywordEach kws X.env)).filterMap (·.1) = ks := by rfl)
    (hdb : (x == ("__debug__" : Str)) = false := by decide) (hpl : ((backTo pos (starEach [] X.env)).any (·.1) || (backToKw pos (keywordEach kws X.env)).any (·.1.isNone)) = false := by rfl) :
    PE X (.Call (.Name x p) [] kws pos) (tCallN 0 ks.length sp gV E tNil tk) := by
  refine ⟨fun pins s σ H Q I h => ?_⟩
  refine wpAny_Call_Name_kw (ld_glob I hg hm ?_ hdb)
  refine PySem.W.callWith_KW0 (h₀ := X.base) I.ok.mod.kin hk hall ?_ hpl
  refine thn (hkw.run pos pins s σ H _ I h) fun ws s2 ⟨zs, H2, I2, rz, l1, l2, q2⟩ => ⟨I2.kIn, ?_⟩
  rw [hks]
  exact run_fnN (us := []) (vs := []) F hr hb hx I2 .nil rz rfl l2 q2
theorem pe_clK (c : ClK X.prog X.w X.K X.mg X.base CX k x ps ks sp) (hr : Room j X.A) (hk : k ≤ j) (hx : Passes CX X E) (hkw : PK X kws tk) (hg : Gl X x := by rfl)
    (hall : (backToKw pos (keywordEach kws X.env)).all (·.1.isSome) = true := by rfl) (hks : (backToKw pos (keywordEach kws X.env)).filterMap (·.1) = ks := by rfl)
    (hdb : (x == ("__debug__" : Str)) = false := by decide) (hpl : ((backTo pos (starEach [] X.env)).any (·.1) || (backToKw pos (keywordEach kws X.env)).any (·.1.isNone)) = false := by rfl) :
    PE X (.Call (.Name x p) [] kws pos) (tCallN 0 ks.length sp (fun _ zs => zs.reverse) E tNil tk) := by
  obtain ⟨f, fd, h1, h2, h3, h4, h5⟩ := c.ex
  exact pe_callN0 h4 (hr.mono hk) hg h1 h2 h5 hx hkw hall hks hdb hpl
end
end G

set_option Elab.async false
set_option linter.all false
set_option maxRecDepth 100000
set_option maxHeartbeats 4000000
namespace G
open PySem PySem.Spec PyProof.Rows L2
/-! ### a list that is made here -/
structure GL (K : PySem.W.Frag) (H0 H : Hp) (A : Addr) (ds : List PyData) : Prop where
  n : H0 A = none
  l : ∃ us, H A = some (.lst us) ∧ DpAll K H us ds
  tt : tts ds = true
section
variable {K : PySem.W.Frag} {mg : Str → Option Value} {H0 H H' : Hp} {A a : Addr} {ds : List PyData} {d : PyData} {v : V} {us : List V} {σ : L2.St} {i : Nat} {te : TE} {D : Ends}
theorem GL.same (h : GL K H0 H A ds) (s : Same H H') : GL K H0 H' A ds := by
  obtain ⟨us, h1, h2⟩ := h.l
  exact ⟨h.n, ⟨us, s _ _ h1, dps_same s _ _ h2⟩, h.tt⟩
theorem GL.mv {C dx : Addr} {fs : List (Str × V)} (h : GL K H0 H A ds) (m : Mv a H H') (ha : H a = some (.ins C dx fs)) : GL K H0 H' A ds := by
  obtain ⟨us, h1, h2⟩ := h.l
  exact ⟨h.n, ⟨us, m _ _ (fun z => by rw [z, ha] at h1; cases h1) h1, dps_kt (m.kt ha) _ _ h.tt h2⟩, h.tt⟩
theorem GL.push (h : GL K H0 H A ds) (hA : H A = some (.lst us)) (hv : Dp K H v d) (ht : G.tt d = true) : GL K H0 (upd H A (.lst (us ++ [v]))) A (ds ++ [d]) := by
  obtain ⟨us', h1, h2⟩ := h.l
  rw [hA] at h1
  cases h1
  have hk : Kt H (upd H A (.lst (us ++ [v]))) := Kt.rfl'.lst hA
  exact ⟨h.n, ⟨_, upd_same, (dps_kt hk _ _ h.tt h2).snoc (dp_kt hk _ _ ht hv)⟩, tts_snoc h.tt ht⟩
theorem GL.other {b : Addr} {o : HO} {xs : List V} (h : GL K H0 H A ds) (hb : H b = some (.lst xs)) (hne : b ≠ A) : GL K H0 (upd H b o) A ds := by
  obtain ⟨us, h1, h2⟩ := h.l
  exact ⟨h.n, ⟨us, by rw [upd_ne (fun z => hne z.symm)]; exact h1, dps_kt (Kt.rfl'.lst hb) _ _ h.tt h2⟩, h.tt⟩
theorem GL.ed (h : GL K H0 H A ds) (hv : σ[i]? = some (some (.ref A))) : EvD K (tVar i) σ H (.list ds) := by
  obtain ⟨us, h1, h2⟩ := h.l
  exact ed_lstV hv h1 h2
/-- x.append(..) -/
theorem s_appX (hv : σ[i]? = some (some (.ref A))) (hA : H A = some (.lst us)) (he : te σ H fun v H2 => ∃ us, H2 A = some (.lst us) ∧ us.length < 100000 ∧ D.nx σ (upd H2 A (.lst (us ++ [v])))) (hm : ∀ Q Q' : VK, (∀ v H, Q v H → Q' v H) → te σ H Q → te σ H Q') :
    tDrop (tBM K "list" rAppend (tVar i) (tCons te tNil)) D σ H :=
  ⟨_, hv, lst_ty hA, hm _ _ (fun v H2 ⟨us, h1, h2, h3⟩ => ⟨A, us, v, rfl, rfl, h1, sz_lt h2, h3⟩) he⟩
theorem s_forR {n l : Nat} {ts : TS} (W : Nat → L2.St → Hp → Prop) (he : EvD K te σ H (.int (n : Int))) (hn : n ≤ 1000000) (h0 : ∀ H', Same H H' → W 0 σ H')
    (step : ∀ i σ' H', i < n → W i σ' H' → ts { D with nx := fun σ2 H2 => W (i + 1) σ2 H2, ct := fun σ2 H2 => W (i + 1) σ2 H2, bk := D.nx } (σ'.set l (some (.int (i : Int)))) H') (fin : ∀ σ' H', W n σ' H' → D.nx σ' H') :
    tFor (iRng1 (tCons te tNil)) (gName l) ts D σ H := by
  refine he H (Same.refl H) _ fun v H1 s1 hv => ⟨n, by rw [dpI hv], by omega, by omega, ?_⟩
  refine ⟨fun i m σ' H' => m = n - i ∧ i ≤ n ∧ W i σ' H', ⟨n, rfl, Nat.zero_le _, h0 H1 s1⟩, ?_⟩
  rintro i m σ' H2 ⟨rfl, hi, hw⟩
  by_cases hlt : i < n
  · refine .inr ⟨show i < ((n : Int)).toNat by simpa using hlt, fun σ2 H2 => i + 1 ≤ n ∧ W (i + 1) σ2 H2, fun σ2 H2 ⟨a, b⟩ => ⟨n - (i + 1), by omega, rfl, a, b⟩, fun x H3 y => ?_⟩
    obtain ⟨rfl, rfl⟩ := y
    have := step i σ' H3 hlt hw
    rw [show (0 + (i : Int)) = (i : Int) by omega]
    have e : (fun σ2 H2 => i + 1 ≤ n ∧ W (i + 1) σ2 H2) = fun σ2 H2 => W (i + 1) σ2 H2 := by
      funext σ2 H2
      exact propext ⟨fun h => h.2, fun h => ⟨hlt, h⟩⟩
    rw [e]
    exact this
  · have : i = n := by omega
    subst this
    exact .inl ⟨show ((i : Int)).toNat ≤ i by simp, fin _ _ hw⟩
end
/-! ### promises of the methods -/
def spStates (K : PySem.W.Frag) : Sp := fun vs H Q _ => ∃ (r : RI) (k : Nat) (sg : Sg) (st : Nat) (l : List Nat) (L : List (List Nat)), vs = [.ref r.a, .int (st : Int), .int ((l.length : Nat) : Int)] ∧ TSt K r sg H H k ∧ st ≤ 99 ∧ (∀ q ∈ l, q < st) ∧ l.length ≤ 50 ∧ Rem r k (comW l ++ L) ∧
  ∀ v H' k', TSt K r sg H H' k' → Rem r k' L → Dp K H' v (.tuple (nats l)) → Q v H'
def spMove (K : PySem.W.Frag) : Sp := fun vs H Q _ => ∃ (r : RI) (k : Nat) (sg : Sg) (st : Nat) (m : Mo) (L : List (List Nat)), vs = [.ref r.a, .int (st : Int)] ∧ TSt K r sg H H k ∧ st ≤ 99 ∧ MoOk sg st m ∧ Rem r k (moW sg m ++ L) ∧
  ∀ v H' k', TSt K r sg H H' k' → Rem r k' L → Dp K H' v (moD m) → Q v H'
/-- what is read, and what comes of it -/
structure MaRd (sg : Sg) (m m' : Ma) : Prop where
  st : m.st ≤ 99
  fm : m.mv.length ≤ 63
  fa : m.ac.length ≤ 63
  mo : ∀ x ∈ m.mv, MoOk sg m.st x
  ac : ∀ q ∈ m.ac, q < m.st
  st' : m'.st = m.st
  am : Asc (m'.mv.map moD)
  nm : m'.mv.Nodup
  mm : ∀ x, x ∈ m'.mv ↔ x ∈ m.mv
  aa : Asc (nats m'.ac)
  na : m'.ac.Nodup
  ma : ∀ x, x ∈ m'.ac ↔ x ∈ m.ac
def spMachine (K : PySem.W.Frag) : Sp := fun vs H Q _ => ∃ (r : RI) (k : Nat) (sg : Sg) (m m' : Ma), vs = [.ref r.a] ∧ TSt K r sg H H k ∧ SgLike sg ∧ MaRd sg m m' ∧ Rem r k (maW sg m) ∧
  ∀ v H' k', TSt K r sg H H' k' → Rem r k' [] → Dp K H' v (maD m') → Q v H'
section
variable {K : PySem.W.Frag} {mg : Str → Option Value} {r : RI} {sg : Sg} {H0 H H' : Hp} {k k' : Nat} {σ : L2.St} {i : Nat} {L : List (List Nat)} {te te2 : TE}
theorem x_states {E : XK} {Q : VK} {st : Nat} {l : List Nat} (ts : TSt K r sg H0 H k) (hst : st ≤ 99) (hq : ∀ q ∈ l, q < st) (hl : l.length ≤ 50) (hr : Rem r k (comW l ++ L)) (hv : σ[i]? = some (some (.ref r.a))) (h1 : EvD K te σ H (.int (st : Int))) (h2 : EvD K te2 σ H (.int ((l.length : Nat) : Int)))
    (q : ∀ v H' k', TSt K r sg H0 H' k' → Rem r k' L → Dp K H' v (.tuple (nats l)) → Q v H') : tMeth (He.ga K "MachineReader") "states" (spStates K) [] E (tVar i) (tCons te (tCons te2 tNil)) σ H Q :=
  ⟨_, hv, r.a, r.dx, r.fs k, rfl, ts.ob, fs_look ts.at_.cl (by decide), h1 H (Same.refl H) _ fun v1 H1 s1 d1 => h2 H1 s1 _ fun v2 H2 s2 d2 =>
    ⟨r, k, sg, st, l, L, by rw [dpI d1, dpI d2]; rfl, (ts.same (s1.trans s2)).rebase, hst, hq, hl, hr, fun v H' k' ts' rem hd => q v H' k' ((ts.same (s1.trans s2)).trans ts') rem hd⟩⟩
theorem x_move {E : XK} {Q : VK} {st : Nat} {m : Mo} (ts : TSt K r sg H0 H k) (hst : st ≤ 99) (ok : MoOk sg st m) (hr : Rem r k (moW sg m ++ L)) (hv : σ[i]? = some (some (.ref r.a))) (h1 : EvD K te σ H (.int (st : Int)))
    (q : ∀ v H' k', Mv r.a H H' → TSt K r sg H0 H' k' → Rem r k' L → Dp K H' v (moD m) → Q v H') : tMeth (He.ga K "MachineReader") "move" (spMove K) [] E (tVar i) (tCons te tNil) σ H Q :=
  ⟨_, hv, r.a, r.dx, r.fs k, rfl, ts.ob, fs_look ts.at_.cl (by decide), h1 H (Same.refl H) _ fun v1 H1 s1 d1 =>
    ⟨r, k, sg, st, m, L, by rw [dpI d1]; rfl, (ts.same s1).rebase, hst, ok, hr, fun v H' k' ts' rem hd => q v H' k' ((Mv.of s1).trans ts'.mv) ((ts.same s1).trans ts') rem hd⟩⟩
theorem x_machine {E : XK} {Q : VK} {m m' : Ma} (ts : TSt K r sg H0 H k) (hs : SgLike sg) (ok : MaRd sg m m') (hr : Rem r k (maW sg m)) (hv : σ[i]? = some (some (.ref r.a)))
    (q : ∀ v H' k', TSt K r sg H0 H' k' → Rem r k' [] → Dp K H' v (maD m') → Q v H') : tMeth (He.ga K "MachineReader") "machine" (spMachine K) [] E (tVar i) tNil σ H Q :=
  ⟨_, hv, r.a, r.dx, r.fs k, rfl, ts.ob, fs_look ts.at_.cl (by decide), r, k, sg, m, m', rfl, ts.rebase, hs, ok, hr, fun v H' k' ts' rem hd => q v H' k' (ts.trans ts') rem hd⟩
theorem comR_take (l : List Nat) {i : Nat} {a : Nat} (h : l[i]? = some a) : comR (l.drop i) = [44] :: numW a :: comR (l.drop (i + 1)) := by
  have : l.drop i = a :: l.drop (i + 1) := by
    obtain ⟨hl, e⟩ := List.getElem?_eq_some_iff.mp h
    rw [List.drop_eq_getElem_cons hl, e]
  rw [this]; rfl
theorem nats_take (l : List Nat) {i : Nat} {a : Nat} (h : l[i]? = some a) : nats (l.take (i + 1)) = nats (l.take i) ++ [.int (a : Int)] := by
  rw [List.take_succ, h]
  simp [nats]
end
section
variable {P : Program} {w : World} {K : PySem.W.Frag} {mg : Str → Option Value} {base : Heap}
theorem sc_MachineReader_states : FnScope ["self", "states", "many", "found", "k"] ["self", "states", "many"] (defScope s_MachineReader_states) := ⟨rfl, rfl, rfl, by decide +kernel, rfl, by decide +kernel, by decide +kernel⟩
theorem fo_MachineReader_states {f : Addr} {fd : FuncData} (T : Tx K mg)  (F : FunD K "states" "MachineReader.states" (defArgs s_MachineReader_states) (defBody s_MachineReader_states) (defScope s_MachineReader_states) [] [] f fd) : FnOk P w K mg base CX0 3 f fd ["self", "states", "many"] (spStates K) := by
  refine F.ok sc_MachineReader_states (fun vs H Q E h => ?_) (fun cdv A outer s H vs Q E hr h => ?_)
  · obtain ⟨r, k, sg, st, l, L, rfl, _⟩ := h
    rfl
  · obtain ⟨r, k0, sg, st, l, L, rfl, ts, hst, hq, hl, rem, q⟩ := h
    have hC := ts.at_.cl
    refine ⟨_, PSs.nox (pss_cons (ps_set (i := 3) sc_MachineReader_states.nd rfl (by first | exact Or.inl rfl | exact Or.inr rfl) (pe_lst pa_nil))
  (pss_cons (ps_for PassesOwn.never rfl (pi_range1 (by rfl) T.b_range (pa_cons (pv 2) pa_nil)) (pg_name (i := 4) sc_MachineReader_states.nd rfl (by first | exact Or.inl rfl | exact Or.inr rfl)) (pss_cons (ps_if (pt_cmpR op_gt (pv 4) pe_int (nomark _)) (pss_one (ps_expr (G.pe_ml (G.ml_mark T hC) hr (by decide) pass0 (pv 0) (pa_cons pe_str pa_nil)))) pss_nil)
  (pss_one (ps_expr (pe_bm PySem.F.plainAttrs_list PySem.F.slot_list_append PySem.F.type_list_append mt_append (pv 3) (pa_cons (G.pe_ml (G.ml_numeral T hC) hr (by decide) pass0 (pv 0) (pa_cons (pe_op op_sub (pv 1) pe_int) pa_nil)) pa_nil))))))
  (pss_one (ps_ret (pe_callTy call_tuple_of (by rfl) T.b_tuple PyProof.Rows.Boot.«tuple» (pa_cons (pv 3) pa_nil)))))), ?_⟩
    refine s_setN (K := K) (en_lst ea_nil (by decide)) fun A us H1 s1 hA hAl hus => ?_
    have ts := ts.same s1
    have gl : GL K H H1 A (nats (l.take 0)) := ⟨hA, ⟨us, hAl, by simpa [nats] using hus⟩, rfl⟩
    refine s_forR (n := l.length) (fun i σ' H' => ∃ (k : Nat) (x4 : Option V), σ' = [some (.ref r.a), some (.int (st : Int)), some (.int ((l.length : Nat) : Int)), some (.ref A), x4] ∧ TSt K r sg H H' k ∧ GL K H H' A (nats (l.take i)) ∧ Rem r k ((if i = 0 then comW l else comR (l.drop i)) ++ L))
      (ed_vi (K := K) rfl) (by omega) (fun H2 s2 => ⟨k0, none, rfl, ts.same s2, gl.same s2, by rw [if_pos rfl]; exact rem⟩) ?_ ?_
    · rintro i σ' H2 hi ⟨k, x4, rfl, ts, gl, rem⟩
      obtain ⟨a, ha⟩ : ∃ a, l[i]? = some a := ⟨_, List.getElem?_eq_getElem hi⟩
      have hqa : a < st := hq a (List.mem_of_getElem? ha)
      have num : ∀ (H3 : Hp) (k : Nat) (D : Ends) (x4 : Option V), TSt K r sg H H3 k → GL K H H3 A (nats (l.take i)) → Rem r k (numW a :: comR (l.drop (i + 1)) ++ L) → (∀ H4 k', TSt K r sg H H4 k' → GL K H H4 A (nats (l.take (i + 1))) → Rem r k' (comR (l.drop (i + 1)) ++ L) → D.nx [some (.ref r.a), some (.int (st : Int)), some (.int ((l.length : Nat) : Int)), some (.ref A), x4] H4) →
          tDrop (tBM K "list" rAppend (tVar 3) (tCons (tMeth r.C "numeral" (spNumeral K) [] E0 (tVar 0) (tCons (tOp (rI0 fun i j => .int (i - j)) (tVar 1) (tC (.int 1))) tNil)) tNil)) D [some (.ref r.a), some (.int (st : Int)), some (.int ((l.length : Nat) : Int)), some (.ref A), x4] H3 := fun H3 k D x4 ts gl rem kk => by
        obtain ⟨us, hAl, _⟩ := gl.l
        refine ⟨_, rfl, lst_ty hAl, ?_⟩
        refine x_numeral (m := st - 1) ts.at_ rem (by omega) (by omega) rfl ((ed_sub (ed_vi rfl) ed_i).to (by congr 1; omega)) fun H4 m4 a4 rem4 => ?_
        have gl4 := gl.mv m4 ts.at_.ob
        obtain ⟨us4, hAl4, hus4⟩ := gl4.l
        refine ⟨A, us4, _, rfl, rfl, hAl4, sz_lt (by rw [hus4.len, nats_len]; simp; omega), ?_⟩
        refine kk _ _ ((ts.mov m4 a4).set hAl4 gl.n) ?_ rem4
        rw [nats_take l ha]
        exact gl4.push hAl4 (.int _) rfl
      by_cases h0 : i = 0
      · subst h0
        rw [if_pos rfl] at rem
        have e0 : comW l = numW a :: comR (l.drop 1) := by
          cases l with
          | nil => simp at hi
          | cons b l => simp at ha; subst ha; rfl
        rw [e0] at rem
        refine s_ifF (et_test (K := K) (ed_gt (ed_vi rfl) ed_i)) (by simp) fun H3 s3 => ?_
        exact num H3 k _ _ (ts.same s3) (gl.same s3) rem fun H4 k' ts4 gl4 rem4 => ⟨k', _, rfl, ts4, gl4, by rw [if_neg (by omega)]; exact rem4⟩
      · rw [if_neg h0, comR_take l ha] at rem
        refine s_ifT (et_test (K := K) (ed_gt (ed_vi rfl) ed_i)) (by simp; omega) fun H3 s3 => ?_
        refine x_mark (ts.same s3).at_ rem rfl ((ed_s (n := ",")).to (congrArg _ strComma)) fun H4 m4 a4 rem4 => ?_
        exact num H4 (k + 1) _ _ ((ts.same s3).mov m4 a4) ((gl.same s3).mv m4 (ts.same s3).at_.ob) rem4 fun H5 k' ts5 gl5 rem5 => ⟨k', _, rfl, ts5, gl5, by rw [if_neg (by omega)]; exact rem5⟩
    · rintro σ' H2 ⟨k, x4, rfl, ts, gl, rem⟩
      rw [List.take_length] at gl
      have rem : Rem r k L := by
        by_cases h0 : l.length = 0
        · rw [if_pos h0] at rem
          have : l = [] := List.length_eq_zero_iff.mp h0
          rw [this] at rem; exact rem
        · rw [if_neg h0, List.drop_length] at rem; exact rem
      exact s_ret (ed_tupL (gl.ed rfl)) fun v H3 s3 hv => q v H3 k (ts.same s3) rem hv
theorem ml_states (T : Tx K mg)  : Ml P w K mg base CX0 3 (He.ga K "MachineReader") "states" ["self", "states", "many"] (spStates K) := by
  obtain ⟨fd, F⟩ := T.f_MachineReader_states
  exact ⟨_, fd, T.k_MachineReader, T.m_MachineReader_states, F.bindsN fun _ _ _ _ _ _ us hl => match us, hl with | [_, _, _], _ => rfl, fo_MachineReader_states T F⟩
theorem sc_MachineReader_move : FnScope ["self", "states", "symbol", "froms"] ["self", "states"] (defScope s_MachineReader_move) := ⟨rfl, rfl, rfl, by decide +kernel, rfl, by decide +kernel, by decide +kernel⟩
theorem fo_MachineReader_move {f : Addr} {fd : FuncData} (T : Tx K mg)  (F : FunD K "move" "MachineReader.move" (defArgs s_MachineReader_move) (defBody s_MachineReader_move) (defScope s_MachineReader_move) [] [] f fd) : FnOk P w K mg base CX0 4 f fd ["self", "states"] (spMove K) := by
  refine F.ok sc_MachineReader_move (fun vs H Q E h => ?_) (fun cdv A outer s H vs Q E hr h => ?_)
  · obtain ⟨r, k, sg, st, m, L, rfl, _⟩ := h
    rfl
  · obtain ⟨r, k0, sg, st, m, L, rfl, ts, hst, ok, rem, q⟩ := h
    have hC := ts.at_.cl
    refine ⟨_, PSs.nox (pss_cons (ps_par (i := 2) (j := 3) rfl sc_MachineReader_move.nd rfl rfl (by decide) rfl rfl (pa_cons (G.pe_ml0 (G.ml_symbol T) hr (by decide) pass0 (pv 0)) (pa_cons (pe_tup pa_nil) pa_nil)) (by rfl))
  (pss_cons (ps_if (pt_cmpR op_gt (pe_ix ix_tup (pe_ix ix_tup (pe_fld (pv 0) rfl) (pv 2) (fun _ _ => rfl)) pe_int (fun _ _ => rfl)) pe_int (nomark _)) (pss_cons (ps_expr (G.pe_ml (G.ml_mark T hC) hr (by decide) pass0 (pv 0) (pa_cons pe_str pa_nil)))
  (pss_cons (ps_set (i := 3) sc_MachineReader_move.nd rfl (by first | exact Or.inl rfl | exact Or.inr rfl) (G.pe_ml (G.ml_states T) hr (by decide) pass0 (pv 0) (pa_cons (pv 1) (pa_cons (pe_ix ix_tup (pe_ix ix_tup (pe_fld (pv 0) rfl) (pv 2) (fun _ _ => rfl)) pe_int (fun _ _ => rfl)) pa_nil))))
  (pss_one (ps_expr (G.pe_ml (G.ml_mark T hC) hr (by decide) pass0 (pv 0) (pa_cons pe_str pa_nil)))))) pss_nil)
  (pss_cons (ps_expr (G.pe_ml (G.ml_mark T hC) hr (by decide) pass0 (pv 0) (pa_cons pe_str pa_nil)))
  (pss_one (ps_ret (pe_tup (pa_cons (pv 2) (pa_cons (pv 3) (pa_cons (G.pe_ml (G.ml_numeral T hC) hr (by decide) pass0 (pv 0) (pa_cons (pe_op op_sub (pv 1) pe_int) pa_nil)) pa_nil))))))))), ?_⟩
    obtain ⟨x, hx⟩ := ok.sym
    have hfew := ok.few
    have hto := ok.to
    have rem : Rem r k0 (x.cps.toList :: ((if m.2.1 = [] then [] else [40] :: (comW m.2.1 ++ [[41]])) ++ ([45, 62] :: numW m.2.2 :: L))) := by
      unfold moW at rem
      rw [nameOf_eq hx] at rem
      simpa using rem
    have last : ∀ (H3 : Hp) (k : Nat) (D : Ends) (w : V), D.rt = Q → TSt K r sg H H3 k → Dp K H3 w (.tuple (nats m.2.1)) → Rem r k ([45, 62] :: numW m.2.2 :: L) →
        tDrop (tMeth r.C "mark" (spMark K) [] E0 (tVar 0) (tCons (tC (.str "->")) tNil)) { D with nx := fun σ' H' => tRet (tTup (tCons (tVar 2) (tCons (tVar 3) (tCons (tMeth r.C "numeral" (spNumeral K) [] E0 (tVar 0) (tCons (tOp (rI0 fun i j => .int (i - j)) (tVar 1) (tC (.int 1))) tNil)) tNil)))) D σ' H' } [some (.ref r.a), some (.int (st : Int)), some (.int (m.1 : Int)), some w] H3 := fun H3 k D w hD ts hw rem => by
      refine x_mark ts.at_ rem rfl ((ed_s (n := "->")).to (congrArg _ strArrow)) fun H4 m4 a4 rem4 => ?_
      refine ⟨_, rfl, _, rfl, ?_⟩
      refine x_numeral (m := st - 1) (ts.mov m4 a4).at_ rem4 (by omega) (by omega) rfl ((ed_sub (ed_vi rfl) ed_i).to (by congr 1; omega)) fun H5 m5 a5 rem5 => ?_
      refine ⟨sz_of (by simp), fun p hp => ?_⟩
      have s5 : Same H5 (upd H5 p (.tup [.int (m.1 : Int), w, .int (m.2.2 : Int)])) := (Same.refl H5).new hp
      rw [hD]
      refine q _ _ _ (((ts.mov m4 a4).mov m5 a5).same s5) rem5 (.tup (st_of upd_same) (.cons (.int _) (.cons ?_ (.cons (.int _) .nil))))
      exact dp_same s5 _ _ (dp_kt (m5.kt a4.ob) _ _ (by show tts _ = true; exact nats_tt _) (dp_kt (m4.kt ts.at_.ob) _ _ (by show tts _ = true; exact nats_tt _) hw))
    refine x_symbol ts hx rem rfl fun H1 m1 ts1 rem1 => ?_
    refine (ed_tup (K := K) (ds := []) ea_nil (by decide)) H1 (Same.refl H1) _ fun w0 H2 s2 hw0 => ⟨_, _, rfl, ?_⟩
    have ts2 := ts1.same s2
    have dar : ∀ {H3 : Hp} {k : Nat} {x3 : Option V}, TSt K r sg H H3 k → EvD K (tOp (rIxT K) (tOp (rIxT K) (tFld K (tVar 0) "signature") (tVar 2)) (tC (.int 1))) [some (.ref r.a), some (.int (st : Int)), some (.int (m.1 : Int)), x3] H3 (.int ((m.2.1.length : Nat) : Int)) := fun ts => ed_ixT (ds := [.str x, .int ((m.2.1.length : Nat) : Int)]) (ed_ixT (ds := sg.map entD) (ed_sgn T ts rfl) (ed_vi rfl) (sig_at hx)) ed_i at1
    by_cases hne : m.2.1 = []
    · rw [if_pos hne] at rem1
      refine s_ifF (et_test (K := K) (ed_gt (dar ts2) ed_i)) (by simp [hne]) fun H3 s3 => ?_
      exact last H3 _ _ w0 rfl (ts2.same s3) (dp_same s3 _ _ (by rw [hne]; exact hw0)) rem1
    · rw [if_neg hne] at rem1
      have hpos : 0 < m.2.1.length := List.length_pos_iff.mpr hne
      refine s_ifT (et_test (K := K) (ed_gt (dar ts2) ed_i)) (by simp; omega) fun H3 s3 => ?_
      have ts3 := ts2.same s3
      refine x_mark ts3.at_ rem1 rfl ((ed_s (n := "(")).to (congrArg _ strQ)) fun H4 m4 a4 rem4 => ?_
      have ts4 := ts3.mov m4 a4
      have rem4 : Rem r (k0 + 1 + 1) (comW m.2.1 ++ ([41] :: ([45, 62] :: numW m.2.2 :: L))) := by simpa using rem4
      refine x_states ts4 hst ok.fr (by omega) rem4 rfl (ed_vi rfl) (dar ts4) fun v H5 k5 ts5 rem5 hv => ?_
      refine x_mark ts5.at_ rem5 rfl ((ed_s (n := ")")).to (congrArg _ strP)) fun H6 m6 a6 rem6 => ?_
      exact last H6 _ _ v rfl (ts5.mov m6 a6) (dp_kt (m6.kt ts5.at_.ob) _ _ (by show tts _ = true; exact nats_tt _) hv) rem6
theorem ml_move (T : Tx K mg)  : Ml P w K mg base CX0 4 (He.ga K "MachineReader") "move" ["self", "states"] (spMove K) := by
  obtain ⟨fd, F⟩ := T.f_MachineReader_move
  exact ⟨_, fd, T.k_MachineReader, T.m_MachineReader_move, F.bindsN fun _ _ _ _ _ _ us hl => match us, hl with | [_, _], _ => rfl, fo_MachineReader_move T F⟩
end
end G


set_option Elab.async false
set_option linter.all false
set_option maxRecDepth 100000
set_option maxHeartbeats 4000000
namespace G
open PySem PySem.Spec PyProof.Rows L2
theorem moW_head {sg : Sg} (hs : SgLike sg) {st : Nat} {m : Mo} (ok : MoOk sg st m) : ∃ w ws, moW sg m = w :: ws ∧ w ≠ [] ∧ w ≠ [124] := by
  obtain ⟨x, hx⟩ := ok.sym
  refine ⟨_, _, rfl, ?_⟩
  rw [nameOf_eq hx]
  obtain ⟨h1, h2, _⟩ := low_run (hs.low _ (List.mem_of_getElem? hx))
  refine ⟨h1, fun z => ?_⟩
  have h2 : (x.cps.toList).all isRun = true := h2
  rw [z] at h2
  exact absurd h2 (by decide +kernel)
theorem comW_head {a : Nat} {l : List Nat} : comW (a :: l) = numW a :: comR l := rfl
theorem numW_ne {n : Nat} (h : n < 100) : numW n ≠ [] := (numW_ok n h).2.2.2.1
theorem mos_take (l : List Mo) {i : Nat} {a : Mo} (h : l[i]? = some a) : (l.take (i + 1)).map moD = (l.take i).map moD ++ [moD a] := by
  rw [List.take_succ, h]
  simp
theorem tailM_drop (sg : Sg) (l : List Mo) {i : Nat} {a : Mo} (h : l[i]? = some a) : tailM sg (l.drop i) = [59] :: (moW sg a ++ tailM sg (l.drop (i + 1))) := by
  have : l.drop i = a :: l.drop (i + 1) := by
    obtain ⟨hl, e⟩ := List.getElem?_eq_some_iff.mp h
    rw [List.drop_eq_getElem_cons hl, e]
  rw [this]; rfl
section
variable {P : Program} {w : World} {K : PySem.W.Frag} {mg : Str → Option Value} {base : Heap}
theorem sc_MachineReader_machine : FnScope ["self", "states", "moves", "accepted"] ["self"] (defScope s_MachineReader_machine) := ⟨rfl, rfl, rfl, by decide +kernel, rfl, by decide +kernel, by decide +kernel⟩
theorem fo_MachineReader_machine {f : Addr} {fd : FuncData} (T : Tx K mg)  (F : FunD K "machine" "MachineReader.machine" (defArgs s_MachineReader_machine) (defBody s_MachineReader_machine) (defScope s_MachineReader_machine) [] [] f fd) : FnOk P w K mg base CX0 5 f fd ["self"] (spMachine K) := by
  refine F.ok sc_MachineReader_machine (fun vs H Q E h => ?_) (fun cdv A outer s H vs Q E hr h => ?_)
  · obtain ⟨r, k, sg, m, m', rfl, _⟩ := h
    rfl
  · obtain ⟨r, k0, sg, m, m', rfl, ts, hs, ok, rem, q⟩ := h
    have hC := ts.at_.cl
    refine ⟨_, PSs.nox (pss_cons (ps_par3 (i := 1) (j := 2) (l := 3) rfl sc_MachineReader_machine.nd rfl rfl rfl (by decide) (by decide) (by decide) rfl rfl rfl (pa_cons (G.pe_ml (G.ml_numeral T hC) hr (by decide) pass0 (pv 0) (pa_cons (G.pe_ki (by rfl) T.c_MOST_STATES) pa_nil)) (pa_cons (pe_lst pa_nil) (pa_cons (pe_lst pa_nil) pa_nil))) (by rfl))
  (pss_cons (ps_expr (G.pe_ml (G.ml_mark T hC) hr (by decide) pass0 (pv 0) (pa_cons pe_str pa_nil)))
  (C8.pss_cut (ps_if (pt_cmpR op_ne (G.pe_ml0 (G.ml_word T hC) hr (by decide) pass0 (pv 0)) pe_str (nomark _)) (pss_cons (ps_expr (pe_bm PySem.F.plainAttrs_list PySem.F.slot_list_append PySem.F.type_list_append mt_append (pv 2) (pa_cons (G.pe_ml (G.ml_move T) hr (by decide) pass0 (pv 0) (pa_cons (pv 1) pa_nil)) pa_nil)))
  (pss_one (ps_while PassesOwn.never (pt_val (G.pe_ml (G.ml_goes_on T hC) hr (by decide) pass0 (pv 0) (pa_cons pe_str pa_nil))) (pss_one (ps_expr (pe_bm PySem.F.plainAttrs_list PySem.F.slot_list_append PySem.F.type_list_append mt_append (pv 2) (pa_cons (G.pe_ml (G.ml_move T) hr (by decide) pass0 (pv 0) (pa_cons (pv 1) pa_nil)) pa_nil))))))) pss_nil)
  (pss_cons (ps_expr (G.pe_ml (G.ml_mark T hC) hr (by decide) pass0 (pv 0) (pa_cons pe_str pa_nil)))
  (C8.pss_cut (ps_if (pt_cmpR op_ne (G.pe_ml0 (G.ml_word T hC) hr (by decide) pass0 (pv 0)) pe_str (nomark _)) (pss_cons (ps_expr (pe_bm PySem.F.plainAttrs_list PySem.F.slot_list_append PySem.F.type_list_append mt_append (pv 3) (pa_cons (G.pe_ml (G.ml_numeral T hC) hr (by decide) pass0 (pv 0) (pa_cons (pe_op op_sub (pv 1) pe_int) pa_nil)) pa_nil)))
  (pss_one (ps_while PassesOwn.never (pt_val (G.pe_ml (G.ml_goes_on T hC) hr (by decide) pass0 (pv 0) (pa_cons pe_str pa_nil))) (pss_one (ps_expr (pe_bm PySem.F.plainAttrs_list PySem.F.slot_list_append PySem.F.type_list_append mt_append (pv 3) (pa_cons (G.pe_ml (G.ml_numeral T hC) hr (by decide) pass0 (pv 0) (pa_cons (pe_op op_sub (pv 1) pe_int) pa_nil)) pa_nil))))))) pss_nil)
  (pss_one (ps_ret (pe_tup (pa_cons (pv 1) (pa_cons (pe_callTy call_tuple_of (by rfl) T.b_tuple PyProof.Rows.Boot.«tuple» (pa_cons (G.pe_sortedSet rfl (G.hu70 hr) (by rfl) T.b_sorted (by rfl) T.b_set (pv 2)) pa_nil)) (pa_cons (pe_callTy call_tuple_of (by rfl) T.b_tuple PyProof.Rows.Boot.«tuple» (pa_cons (G.pe_sortedSet rfl (G.hu70 hr) (by rfl) T.b_sorted (by rfl) T.b_set (pv 3)) pa_nil)) pa_nil))))))))))), ?_⟩
    have hst := ok.st
    have hfm := ok.fm
    have hfa := ok.fa
    refine x_numeral (m := 300) ts.at_ rem (by omega) (by omega) rfl ed_i fun H1 m1 a1 rem1 => ?_
    have ts1 := ts.mov m1 a1
    refine (en_lst (K := K) ea_nil (by decide)) H1 (Same.refl H1) _ fun A us H2 s2 hA hAl hus => ?_
    refine (en_lst (K := K) ea_nil (by decide)) H2 (Same.refl H2) _ fun B vs H3 s3 hB hBl hvs => ?_
    refine ⟨_, _, _, rfl, ?_⟩
    cases hus
    cases hvs
    have hA0 : H A = none := m1.back a1.ob hA
    have hB0 : H B = none := m1.back a1.ob (back s2 hB)
    have hAB : A ≠ B := fun z => by rw [← z, hAl] at hB; cases hB
    have ts3 := (ts1.same s2).same s3
    have glA : GL K H H3 A [] := ⟨hA0, ⟨[], s3 _ _ hAl, .nil⟩, rfl⟩
    have glB : GL K H H3 B [] := ⟨hB0, ⟨[], hBl, .nil⟩, rfl⟩
    refine x_mark ts3.at_ rem1 rfl ((ed_s (n := ":")).to (congrArg _ strColon)) fun H4 m4 a4 rem4 => ?_
    have ts4 := ts3.mov m4 a4
    have glA := glA.mv m4 ts3.at_.ob
    have glB := glB.mv m4 ts3.at_.ob
    have addM : ∀ (H5 : Hp) (k i : Nat) (x : Mo) (D : Ends) (Lr : List (List Nat)), m.mv[i]? = some x → TSt K r sg H H5 k → GL K H H5 A ((m.mv.take i).map moD) → GL K H H5 B [] → Rem r k (moW sg x ++ Lr) → (∀ H6 k', TSt K r sg H H6 k' → GL K H H6 A ((m.mv.take (i + 1)).map moD) → GL K H H6 B [] → Rem r k' Lr → D.nx [some (.ref r.a), some (.int (m.st : Int)), some (.ref A), some (.ref B)] H6) →
        tDrop (tBM K "list" rAppend (tVar 2) (tCons (tMeth (He.ga K "MachineReader") "move" (spMove K) [] E0 (tVar 0) (tCons (tVar 1) tNil)) tNil)) D [some (.ref r.a), some (.int (m.st : Int)), some (.ref A), some (.ref B)] H5 := fun H5 k i x D Lr hx ts glA glB rem kk => by
      obtain ⟨us, hAl, _⟩ := glA.l
      refine ⟨_, rfl, lst_ty hAl, ?_⟩
      refine x_move ts (by omega) (ok.mo x (List.mem_of_getElem? hx)) rem rfl (ed_vi rfl) fun v H6 k6 hm ts6 rem6 hv => ?_
      have keep : ∀ {C : Addr} {ds : List PyData}, GL K H H5 C ds → GL K H H6 C ds := fun g => g.mv hm ts.at_.ob
      have gA6 := keep glA
      have gB6 := keep glB
      obtain ⟨us6, hAl6, hus6⟩ := gA6.l
      have hi : i < m.mv.length := (List.getElem?_eq_some_iff.mp hx).1
      refine ⟨A, us6, _, rfl, rfl, hAl6, sz_lt (by rw [hus6.len]; simp; omega), ?_⟩
      refine kk _ _ (ts6.set hAl6 gA6.n) ?_ (gB6.other hAl6 hAB) rem6
      rw [mos_take m.mv hx]
      exact gA6.push hAl6 hv (moD_tt x)
    have addA : ∀ (H5 : Hp) (k i : Nat) (x : Nat) (D : Ends) (Lr : List (List Nat)), m.ac[i]? = some x → TSt K r sg H H5 k → GL K H H5 A (m.mv.map moD) → GL K H H5 B (nats (m.ac.take i)) → Rem r k (numW x :: Lr) → (∀ H6 k', TSt K r sg H H6 k' → GL K H H6 A (m.mv.map moD) → GL K H H6 B (nats (m.ac.take (i + 1))) → Rem r k' Lr → D.nx [some (.ref r.a), some (.int (m.st : Int)), some (.ref A), some (.ref B)] H6) →
        tDrop (tBM K "list" rAppend (tVar 3) (tCons (tMeth r.C "numeral" (spNumeral K) [] E0 (tVar 0) (tCons (tOp (rI0 fun i j => .int (i - j)) (tVar 1) (tC (.int 1))) tNil)) tNil)) D [some (.ref r.a), some (.int (m.st : Int)), some (.ref A), some (.ref B)] H5 := fun H5 k i x D Lr hx ts glA glB rem kk => by
      obtain ⟨us, hBl, _⟩ := glB.l
      have hlt := ok.ac x (List.mem_of_getElem? hx)
      refine ⟨_, rfl, lst_ty hBl, ?_⟩
      refine x_numeral (m := m.st - 1) ts.at_ rem (by omega) (by omega) rfl ((ed_sub (ed_vi rfl) ed_i).to (by congr 1; omega)) fun H6 m6 a6 rem6 => ?_
      have gA6 := glA.mv m6 ts.at_.ob
      have gB6 := glB.mv m6 ts.at_.ob
      obtain ⟨us6, hBl6, hus6⟩ := gB6.l
      have hi : i < m.ac.length := (List.getElem?_eq_some_iff.mp hx).1
      refine ⟨B, us6, _, rfl, rfl, hBl6, sz_lt (by rw [hus6.len, nats_len]; simp; omega), ?_⟩
      refine kk _ _ ((ts.mov m6 a6).set hBl6 gB6.n) (gA6.other hBl6 (Ne.symm hAB)) ?_ rem6
      rw [nats_take m.ac hx]
      exact gB6.push hBl6 (.int _) rfl
    refine ⟨fun σ2 H5 => ∃ k, σ2 = [some (.ref r.a), some (.int (m.st : Int)), some (.ref A), some (.ref B)] ∧ TSt K r sg H H5 k ∧ GL K H H5 A (m.mv.map moD) ∧ GL K H H5 B [] ∧ Rem r k ([124] :: comW m.ac), ?_, ?_⟩
    · cases hmv : m.mv with
      | nil =>
        rw [hmv] at rem4
        refine s_ifF (et_test (K := K) (ed_neS (ed_word ts4.at_ rfl) ed_s)) (by rw [Rem.w rem4, strBar]; simp) fun H5 s5 => ⟨_, rfl, ts4.same s5, glA.same s5, glB.same s5, rem4⟩
      | cons p rest =>
        have rem4 : Rem r (k0 + 1 + 1) (moW sg p ++ (tailM sg (m.mv.drop 1) ++ ([124] :: comW m.ac))) := by
          rw [hmv] at rem4 ⊢
          show Rem r _ (moW sg p ++ (tailM sg rest ++ _))
          rw [← List.append_assoc]
          exact rem4
        rw [← hmv]
        have hp : m.mv[0]? = some p := by rw [hmv]; rfl
        obtain ⟨w1, ws1, hw1, hne1, hne2⟩ := moW_head hs (ok.mo p (by rw [hmv]; exact List.mem_cons_self))
        refine s_ifT (et_test (K := K) (ed_neS (ed_word ts4.at_ rfl) ed_s)) (by
          rw [hw1] at rem4
          rw [Rem.w rem4, strBar, eqS_dec]; simp [hne2]) fun H5 s5 => ?_
        refine addM H5 _ 0 p _ _ hp (ts4.same s5) (glA.same s5) (glB.same s5) rem4 fun H6 k6 ts6 gA6 gB6 rem6 => ?_
        refine ⟨fun n σ' H' => ∃ (i k : Nat), σ' = [some (.ref r.a), some (.int (m.st : Int)), some (.ref A), some (.ref B)] ∧ TSt K r sg H H' k ∧ GL K H H' A ((m.mv.take i).map moD) ∧ GL K H H' B [] ∧ Rem r k (tailM sg (m.mv.drop i) ++ ([124] :: comW m.ac)) ∧ i ≤ m.mv.length ∧ n = m.mv.length - i,
          ⟨_, 1, k6, rfl, ts6, gA6, gB6, rem6, by rw [hmv]; simp, rfl⟩, ?_⟩
        rintro n σ' H7 ⟨i, k, rfl, ts, gA, gB, rem, hi, rfl⟩
        cases hx : m.mv[i]? with
        | none =>
          have hil : i = m.mv.length := by
            have := List.getElem?_eq_none_iff.mp hx
            omega
          subst hil
          rw [List.drop_length] at rem
          rw [List.take_length] at gA
          refine x_stays ts.at_ (w := [59]) (by rw [Rem.w rem]; decide) rfl ((ed_s (n := ";")).to (congrArg _ strSemi)) fun H8 s8 => ?_
          exact ⟨false, rfl, iteF ⟨k, rfl, ts.same s8, gA.same s8, gB.same s8, rem⟩⟩
        | some x =>
          have hlt := (List.getElem?_eq_some_iff.mp hx).1
          rw [tailM_drop sg m.mv hx] at rem
          refine x_goes ts.at_ rem rfl ((ed_s (n := ";")).to (congrArg _ strSemi)) fun H8 m8 a8 rem8 => ?_
          refine ⟨true, rfl, iteT ⟨_, fun _ _ x => x, ?_⟩⟩
          have rem8 : Rem r (k + 1) (moW sg x ++ (tailM sg (m.mv.drop (i + 1)) ++ ([124] :: comW m.ac))) := by
            rw [← List.append_assoc]
            exact rem8
          refine addM H8 _ i x _ _ hx (ts.mov m8 a8) (gA.mv m8 ts.at_.ob) (gB.mv m8 ts.at_.ob) rem8 fun H9 k9 ts9 gA9 gB9 rem9 => ?_
          exact ⟨_, by omega, i + 1, k9, rfl, ts9, gA9, gB9, rem9, hlt, rfl⟩
    rintro σ2 H5 ⟨k5, rfl, ts5, gA5, gB5, rem5⟩
    refine x_mark ts5.at_ rem5 rfl ((ed_s (n := "|")).to (congrArg _ strBar)) fun H6 m6 a6 rem6 => ?_
    have ts6 := ts5.mov m6 a6
    have gA6 := gA5.mv m6 ts5.at_.ob
    have gB6 := gB5.mv m6 ts5.at_.ob
    refine ⟨fun σ2 H7 => ∃ k, σ2 = [some (.ref r.a), some (.int (m.st : Int)), some (.ref A), some (.ref B)] ∧ TSt K r sg H H7 k ∧ GL K H H7 A (m.mv.map moD) ∧ GL K H H7 B (nats m.ac) ∧ Rem r k [], ?_, ?_⟩
    · cases hac : m.ac with
      | nil =>
        rw [hac] at rem6
        refine s_ifF (et_test (K := K) (ed_neS (ed_word ts6.at_ rfl) ed_s)) (by rw [Rem.nil rem6, strN]; simp) fun H7 s7 => ⟨_, rfl, ts6.same s7, gA6.same s7, gB6.same s7, rem6⟩
      | cons p rest =>
        have rem6 : Rem r (k5 + 1) (numW p :: (comR (m.ac.drop 1))) := by
          rw [hac] at rem6 ⊢
          exact rem6
        rw [← hac]
        have hp : m.ac[0]? = some p := by rw [hac]; rfl
        have hlt := ok.ac p (by rw [hac]; exact List.mem_cons_self)
        refine s_ifT (et_test (K := K) (ed_neS (ed_word ts6.at_ rfl) ed_s)) (by
          rw [Rem.w rem6, strN, eqS_dec]; simp [numW_ne (n := p) (by omega)]) fun H7 s7 => ?_
        refine addA H7 _ 0 p _ _ hp (ts6.same s7) (gA6.same s7) (gB6.same s7) rem6 fun H8 k8 ts8 gA8 gB8 rem8 => ?_
        refine ⟨fun n σ' H' => ∃ (i k : Nat), σ' = [some (.ref r.a), some (.int (m.st : Int)), some (.ref A), some (.ref B)] ∧ TSt K r sg H H' k ∧ GL K H H' A (m.mv.map moD) ∧ GL K H H' B (nats (m.ac.take i)) ∧ Rem r k (comR (m.ac.drop i)) ∧ i ≤ m.ac.length ∧ n = m.ac.length - i,
          ⟨_, 1, k8, rfl, ts8, gA8, gB8, rem8, by rw [hac]; simp, rfl⟩, ?_⟩
        rintro n σ' H9 ⟨i, k, rfl, ts, gA, gB, rem, hi, rfl⟩
        cases hx : m.ac[i]? with
        | none =>
          have hil : i = m.ac.length := by
            have := List.getElem?_eq_none_iff.mp hx
            omega
          subst hil
          rw [List.drop_length] at rem
          rw [List.take_length] at gB
          refine x_stays ts.at_ (w := [44]) (by rw [Rem.nil rem]; simp) rfl ((ed_s (n := ",")).to (congrArg _ strComma)) fun H10 s10 => ?_
          exact ⟨false, rfl, iteF ⟨k, rfl, ts.same s10, gA.same s10, gB.same s10, rem⟩⟩
        | some x =>
          have hlt := (List.getElem?_eq_some_iff.mp hx).1
          rw [comR_take m.ac hx] at rem
          refine x_goes ts.at_ rem rfl ((ed_s (n := ",")).to (congrArg _ strComma)) fun H10 m10 a10 rem10 => ?_
          refine ⟨true, rfl, iteT ⟨_, fun _ _ x => x, ?_⟩⟩
          refine addA H10 _ i x _ _ hx (ts.mov m10 a10) (gA.mv m10 ts.at_.ob) (gB.mv m10 ts.at_.ob) rem10 fun H11 k11 ts11 gA11 gB11 rem11 => ?_
          exact ⟨_, by omega, i + 1, k11, rfl, ts11, gA11, gB11, rem11, hlt, rfl⟩
    rintro σ2 H7 ⟨k7, rfl, ts7, gA7, gB7, rem7⟩
    refine ⟨_, rfl, ?_⟩
    dsimp only [tCons, tCB, tNil]
    refine ed_sortedSet (K := K) (gA7.ed (i := 2) rfl) (by rw [List.length_map]; omega) (.inr ⟨fun d hd => ?_, mos_alike _⟩) fun es pA us8 H8 s8 srtA hpA _ hdA => ?_
    · obtain ⟨x, _, rfl⟩ := List.mem_map.mp hd
      exact ⟨⟨_, _, rfl⟩, moD_kd x⟩
    obtain ⟨mvL, rfl, ascA, ndA, memA⟩ := srt_mos srtA
    obtain rfl : mvL = m'.mv := asc_mos_one ascA ok.am ndA ok.nm fun x => (memA x).trans (ok.mm x).symm
    refine ⟨pA, us8, rfl, .inl ⟨sq_of hpA, fun tA htA => ?_⟩⟩
    have s9 : Same H8 (upd H8 tA (.tup us8)) := (Same.refl H8).new htA
    have dA : Dp K (upd H8 tA (.tup us8)) (.ref tA) (.tuple (m'.mv.map moD)) := .tup (st_of upd_same) (dps_same s9 _ _ hdA)
    have s79 := s8.trans s9
    generalize upd H8 tA (.tup us8) = H9 at s9 dA s79
    refine ed_sortedSet (K := K) ((gB7.same s79).ed (i := 3) rfl) (by rw [nats_len]; omega) (.inl ⟨_, nats_eq m.ac⟩) fun es pB us10 H10 s10 srtB hpB _ hdB => ?_
    obtain ⟨acL, rfl, ascB, ndB, memB⟩ := srt_nats srtB
    obtain rfl : acL = m'.ac := asc_nats_one ascB ok.aa ndB ok.na fun x => (memB x).trans (ok.ma x).symm
    refine ⟨pB, us10, rfl, .inl ⟨sq_of hpB, fun tB htB => ?_⟩⟩
    have s11 : Same H10 (upd H10 tB (.tup us10)) := (Same.refl H10).new htB
    have dB : Dp K (upd H10 tB (.tup us10)) (.ref tB) (.tuple (nats m'.ac)) := .tup (st_of upd_same) (dps_same s11 _ _ hdB)
    refine ⟨sz_of (by simp), fun p hp => ?_⟩
    have s12 : Same (upd H10 tB (.tup us10)) (upd (upd H10 tB (.tup us10)) p (.tup [.int (m.st : Int), .ref tA, .ref tB])) := (Same.refl _).new hp
    refine q _ _ k7 ((((ts7.same s79).same s10).same s11).same s12) rem7 (.tup (st_of upd_same) ?_)
    exact .cons (by rw [ok.st']; exact .int _) (.cons (dp_same ((s10.trans s11).trans s12) _ _ dA) (.cons (dp_same s12 _ _ dB) .nil))
theorem ml_machine (T : Tx K mg)  : Ml P w K mg base CX0 5 (He.ga K "MachineReader") "machine" ["self"] (spMachine K) := by
  obtain ⟨fd, F⟩ := T.f_MachineReader_machine
  exact ⟨_, fd, T.k_MachineReader, T.m_MachineReader_machine, F.bindsN fun _ _ _ _ _ _ us hl => match us, hl with | [_], _ => rfl, fo_MachineReader_machine T F⟩
def Rread_machine : List PyData → PyData → Prop
  | [s, d], r => ∃ (l : List Nat) (sg : Sg) (m m' : Ma), s = sigD sg ∧ SgOk sg ∧ d = .str (S l) ∧ l.length ≤ 50000 ∧ (wordsOf l).map (·.1) = maW sg m ∧ MaRd sg m m' ∧ MaOk sg m' ∧ r = maD m'
  | _, _ => False
theorem sc_read_machine : FnScope ["signature", "text", "reader", "found"] ["signature", "text"] (defScope s_read_machine) := ⟨rfl, rfl, rfl, by decide +kernel, rfl, by decide +kernel, by decide +kernel⟩
theorem okK_read_machine (T : Tx K mg) (hP : PF P)  : ClK P w K mg base (L2.CX P w) 7 "read_machine" ["signature", "text"] ["text", "signature"] (spX K Rread_machine (YSig2 K)) := by
  obtain ⟨fd, F⟩ := T.f_read_machine
  refine ⟨_, fd, T.g_read_machine, F.kp, F.bindsN fun _ _ _ _ _ _ us hl => match us, hl with | [_, _], _ => rfl, F.ok sc_read_machine (fun vs H Q E h => ?_) (fun cdv A outer s H vs Q E hr h => ?_), kbn_rev F (fun _ _ _ _ _ _ ws hl => match ws, hl with | [_, _], _ => rfl)⟩
  · obtain ⟨ds, hd, ⟨r, hR, _⟩ | ⟨C, hR, _⟩⟩ := h
    · match ds, hR with
      | [_, _], _ => exact hd.len
    · match ds, hR with
      | [_, _], _ => exact hd.len
  · have hC : ∀ v D, RC K (He.ga K "MachineReader") [(("signature" : Str), v), (("symbols" : Str), .ref D)] := fun v D => .inr ⟨rfl, v, .ref D, rfl⟩
    refine ⟨_, (pss_cons (ps_expr (G.pe_cl (ok_need_signature T) hr (by decide) (passes_call (takes_of rfl rfl rfl rfl) (fun _ _ _ _ h => h)) (pa_cons (pv 0) pa_nil)))
  (pss_cons (ps_set (i := 2) sc_read_machine.nd rfl (by first | exact Or.inl rfl | exact Or.inr rfl) (G.pe_kl (G.kl_MachineReader T hP) hr (by decide) pass0 (pa_cons (pv 0) (pa_cons (pv 1) pa_nil))))
  (pss_cons (ps_set (i := 3) sc_read_machine.nd rfl (by first | exact Or.inl rfl | exact Or.inr rfl) (G.pe_ml0 (G.ml_machine T) hr (by decide) pass0 (pv 2)))
  (pss_cons (ps_expr (G.pe_ml0 (G.ml_end T (.inr ⟨rfl, .non, .non, rfl⟩)) hr (by decide) pass0 (pv 2)))
  (pss_cons (ps_expr (G.pe_ml (G.ml_due T (.inr ⟨rfl, .non, .non, rfl⟩)) hr (by decide) pass0 (pv 2) (pa_cons (G.pe_cl (ok_is_small_machine T) hr (by decide) pass0 (pa_cons (pv 0) (pa_cons (pv 3) pa_nil))) pa_nil)))
  (pss_one (ps_ret (pv 3)))))))), ?_⟩
    obtain ⟨ds, hd, ⟨r, hR, q⟩ | ⟨C, hR, q⟩⟩ := h
    · match ds, vs, hd, hR with
      | [d0, d1], [v0, v1], .cons h0 (.cons h1 .nil), hR =>
      obtain ⟨l, sg, m, m', rfl, hs, rfl, hl, hw, hm, hok, rfl⟩ := hR
      refine s_drop (K := K) (ed_callX (ea_cons (ed_var h0) ea_nil) ⟨⟨sg, hs, rfl⟩, rfl⟩) fun H1 s1 => ?_
      refine s_treeReader (ed_var (dp_same s1 _ _ h0)) (ed_var (dp_same s1 _ _ h1)) hs.1 hl fun a dx W D vsg H2 s2 ha hW ts => ?_
      have rem : Rem (trI K a dx W D vsg l) 0 (maW sg m) := by
        unfold Rem
        show ((wordsOf l).map (·.1)).drop 0 = _
        rw [hw]; simp
      refine x_machine ts hs.1 hm rem rfl fun v H3 k3 ts3 rem3 hv3 => ?_
      have s3 : Same H1 H3 := Mv.same0 s2 ha ts3.mv
      refine s_drop (K := K) (ed_end ts3.at_ rem3 rfl) fun H4 s4 => ?_
      have h04 := dp_same ((s1.trans s3).trans s4) _ _ h0
      have hv4 := dp_same s4 _ _ hv3
      refine s_drop (K := K) (ed_due (ts3.same s4).at_ rfl (ed_call (ea_cons (ed_var h04 rfl) (ea_cons (ed_var hv4 rfl) ea_nil)) ⟨sg, rfl, hs.1.few, .inr ⟨m', hok, rfl, rfl⟩⟩)) fun H5 s5 => ?_
      exact s_ret (ed_var (dp_same s5 _ _ hv4) rfl) fun v5 H6 s6 hv5 => q v5 H6 ((((s1.trans s3).trans s4).trans s5).trans s6) hv5
    · match ds, vs, hd, hR with
      | [d0, d1], [v0, v1], .cons h0 (.cons h1 .nil), hR =>
      obtain ⟨rfl, rfl⟩ := hR
      exact er_callX (ea_cons (ed_var h0) ea_nil) ⟨rfl, rfl⟩ q
theorem ok_read_machine (T : Tx K mg) (hP : PF P)  : Cl P w K mg base (L2.CX P w) 7 "read_machine" ["signature", "text"] (spX K Rread_machine (YSig2 K)) := (okK_read_machine T hP).cl
end
end G


set_option Elab.async false
set_option linter.all false
set_option maxRecDepth 100000
set_option maxHeartbeats 4000000
namespace G
open PySem PySem.Spec PyProof.Rows L2
theorem run_small : ∀ c ∈ smallL ++ digL, c < 128 := by decide +kernel
theorem low_strOk {x : Str} (h : lowL x.cps.toList = true) : PyData.strOk x = true := by
  have h2 := (low_run h).2.1
  unfold PyData.strOk
  rw [← Array.all_toList, List.all_eq_true]
  intro c hc
  have h3 := List.all_eq_true.mp h2 c hc
  have h4 : c ∈ smallL ++ digL := by
    unfold isRun isSm isDg at h3
    rw [Bool.or_eq_true, decide_eq_true_eq, decide_eq_true_eq] at h3
    exact List.mem_append.mpr h3
  have := run_small c h4
  exact decide_eq_true (by omega)
theorem str_lay (ds : List Str) (h : ∀ x ∈ ds, lowL x.cps.toList = true) : SeqAt.shaped (.list (ds.map .str)) = true := shaped_list (n := 1) (fun d hd => by
  obtain ⟨x, hx, rfl⟩ := List.mem_map.mp hd
  exact ⟨by simp [PyData.canLay0, low_strOk (h x hx)], by simp [PyData.depth]⟩) (by decide)
theorem str_sh {x : Str} (h : lowL x.cps.toList = true) : SeqAt.shaped (.str x) = true := shaped_of (by simp [PyData.canLay0, low_strOk h]) (by simp [PyData.depth])
theorem entD_tt (l : Sg) : tts (l.map entD) = true := tts_of fun d hd => by
  obtain ⟨p, _, rfl⟩ := List.mem_map.mp hd
  rfl
def Rread_signature : List PyData → PyData → Prop
  | [d], r => ∃ (l : List Nat) (sg : Sg), d = .str (S l) ∧ l.length ≤ 50000 ∧ (wordsOf l).map (·.1) = sigW sg ∧ SgOk sg ∧ r = sigD sg
  | _, _ => False
end G

set_option Elab.async false
set_option linter.all false
set_option maxRecDepth 100000
set_option maxHeartbeats 4000000
namespace G
open PySem PySem.Spec PyProof.Rows L2
/-! ### the jug -/
def Jg (K : PySem.W.Frag) (H : Hp) (j L : Addr) (n : Nat) : Prop := ∃ (ns : List Int) (at_ : Nat) (cell : Int), H j = some (.lst [.ref L, .int (at_ : Int), .int cell]) ∧ L ≠ j ∧ H L = some (.lst (ns.map V.int)) ∧ 0 ≤ cell ∧ at_ + n ≤ 10000000
theorem Jg.mono {K : PySem.W.Frag} {H : Hp} {j L : Addr} {n m : Nat} (h : Jg K H j L n) (hm : m ≤ n) : Jg K H j L m := by
  obtain ⟨ns, a, c, h1, h2, h3, h4, h5⟩ := h
  exact ⟨ns, a, c, h1, h2, h3, h4, by omega⟩
theorem Mv.ktL {a : Addr} {H H' : Hp} {us : List V} (x : Mv a H H') (h : H a = some (.lst us)) : Kt H H' := fun b o t e => x b o (fun z => by subst z; rw [h] at e; cases e; exact t) e
theorem Jg.kt {K : PySem.W.Frag} {H H' : Hp} {j L : Addr} {n : Nat} (h : Jg K H j L n) (x : Mv j H H') : Kt H H' := by
  obtain ⟨ns, a, c, h1, _⟩ := h
  exact x.ktL h1
theorem Jg.same {K : PySem.W.Frag} {H H' : Hp} {j L : Addr} {n : Nat} (s : Same H H') (h : Jg K H j L n) : Jg K H' j L n := by
  obtain ⟨ns, a, c, h1, h2, h3, h4, h5⟩ := h
  exact ⟨ns, a, c, s _ _ h1, h2, s _ _ h3, h4, h5⟩
theorem Jg.other {K : PySem.W.Frag} {H : Hp} {j L : Addr} {n : Nat} {b : Addr} {o : HO} (h : Jg K H j L n) (h1 : b ≠ j) (h2 : b ≠ L) : Jg K (upd H b o) j L n := by
  obtain ⟨ns, a, c, e1, e2, e3, e4, e5⟩ := h
  exact ⟨ns, a, c, by rw [upd_ne h1.symm]; exact e1, e2, by rw [upd_ne h2.symm]; exact e3, e4, e5⟩
theorem Jg.there {K : PySem.W.Frag} {H : Hp} {j L : Addr} {n : Nat} (h : Jg K H j L n) {b : Addr} (hb : H b = none) : b ≠ j ∧ b ≠ L := by
  obtain ⟨ns, a, c, e1, e2, e3, e4, e5⟩ := h
  exact ⟨fun z => (by rw [z, e1] at hb; cases hb), fun z => (by rw [z, e3] at hb; cases hb)⟩
theorem Mv.own {a b : Addr} {H H' : Hp} {o : HO} (x : Mv a H H') (h : H b = none) : Mv a H (L2.upd H' b o) := fun c u hc e => by
  rw [upd_ne (ne_of_none e h)]
  exact x c u hc e
/-- a list of ints is not the jug -/
theorem Jg.ints {K : PySem.W.Frag} {H H' : Hp} {j L : Addr} {n : Nat} (h : Jg K H j L n) (m : Mv j H H') {p : Addr} {is : List Int} (hs : SqL K H p (is.map V.int)) : SqL K H' p (is.map V.int) := by
  obtain ⟨ns, a, c, e1, _⟩ := h
  have ne : ∀ o, H p = some o → (∀ xs, o = .lst xs → xs = is.map V.int) → p ≠ j := fun o ho hx z => by
    rw [z, e1] at ho
    cases ho
    have := hx _ rfl
    cases is with
    | nil => simp at this
    | cons i r => simp at this
  rcases hs with (h | ⟨o, h⟩) | h
  · exact .inl (.inl (m _ _ (ne _ h fun xs e => by cases e; rfl) h))
  · exact .inl (.inr ⟨o, m _ _ (ne _ h fun xs e => by cases e) h⟩)
  · exact .inr h
def CPowW (i j : Int) : Prop := 0 ≤ j ∧ (Builtin.Int.intBits i : Int) * j ≤ 2 ^ 27
theorem op_powW {X : Cx} : OpR X (binaryOp .Pow) (rI CPowW fun i j => .int (i ^ j.toNat)) := opI fun _ _ _ _ _ _ _ hc q => PyProof.Rows.pow_int hc.1 hc.2 q
theorem bits_small {x : Int} (h0 : 0 ≤ x) (h : x < 2 ^ 100) : (Builtin.Int.intBits x : Int) * 3 ≤ 2 ^ 27 := by
  have h1 : x.natAbs < 2 ^ 100 := by omega
  have h2 : Builtin.Int.intBits x ≤ 101 := by
    unfold Builtin.Int.intBits
    split
    · omega
    · rename_i hz
      have hz : x.natAbs ≠ 0 := fun z => hz (by rw [Int.natAbs_eq_zero.mp z]; rfl)
      have := (Nat.log2_lt (k := 100) hz).mpr h1
      omega
  omega
section
variable {K : PySem.W.Frag} {σ : L2.St} {H H' : Hp} {ta tb te : TE} {d e : PyData} {D : Ends}
theorem ed_mul {i j : Int} (ha : EvD K ta σ H (.int i)) (hb : EvD K tb σ H (.int j)) (hc : CMul i j) : EvD K (tOp (rI CMul fun i j => .int (i * j)) ta tb) σ H (.int (i * j)) := ed_I ha hb hc fun _ => .int _
theorem ed_powW {i j : Int} (ha : EvD K ta σ H (.int i)) (hb : EvD K tb σ H (.int j)) (hc : CPowW i j) : EvD K (tOp (rI CPowW fun i j => .int (i ^ j.toNat)) ta tb) σ H (.int (i ^ j.toNat)) := ed_I ha hb hc fun _ => .int _
theorem ed_modN {i j : Int} (ha : EvD K ta σ H (.int i)) (hb : EvD K tb σ H (.int j)) (hc : j ≠ 0) : EvD K (tOp (rI (fun _ j => j ≠ 0) fun i j => .int (i.fmod j)) ta tb) σ H (.int (i.fmod j)) := ed_I ha hb hc fun _ => .int _
theorem ed_fdivN {i j : Int} (ha : EvD K ta σ H (.int i)) (hb : EvD K tb σ H (.int j)) (hc : CDivN i j) : EvD K (tOp (rI CDivN fun i j => .int (i.fdiv j)) ta tb) σ H (.int (i.fdiv j)) := ed_I ha hb hc fun _ => .int _
theorem ed_intI {i : Int} (ha : EvD K ta σ H (.int i)) : EvD K (tCB (fun xs H Q => (∃ i, xs = [.int i] ∧ Q (.int i) H) ∨ ∃ k, xs = [.bl k] ∧ Q (.int (if k = true then 1 else 0)) H) (tCons ta tNil)) σ H (.int i) := fun H1 s Q q => ha H1 s _ fun v H2 s2 hv => .inl ⟨i, by rw [dpI hv], q _ H2 s2 (.int _)⟩
theorem ed_intB {b : Bool} (ha : EvD K ta σ H (.bool b)) : EvD K (tCB (fun xs H Q => (∃ i, xs = [.int i] ∧ Q (.int i) H) ∨ ∃ k, xs = [.bl k] ∧ Q (.int (if k = true then 1 else 0)) H) (tCons ta tNil)) σ H (.int (if b = true then 1 else 0)) := fun H1 s Q q => ha H1 s _ fun v H2 s2 hv => .inr ⟨b, by rw [dpB hv], q _ H2 s2 (.int _)⟩
theorem ed_abs {i : Int} (ha : EvD K ta σ H (.int i)) : EvD K (tCB (fun xs H Q => ∃ i, xs = [.int i] ∧ Q (.int (if i < 0 then -i else i)) H) (tCons ta tNil)) σ H (.int (if i < 0 then -i else i)) := fun H1 s Q q => ha H1 s _ fun v H2 s2 hv => ⟨i, by rw [dpI hv], q _ H2 s2 (.int _)⟩
/-- x[k] = .. of a list at a name -/
theorem s_item {i k : Nat} {p : Addr} {xs : List V} (hv : σ[i]? = some (some (.ref p))) (hp : H p = some (.lst xs)) (hk : k < xs.length) (he : EvD K te σ H d) (q : ∀ v H', Same H H' → Dp K H' v d → D.nx σ (upd H' p (.lst (xs.set k v)))) : tAsg te (gSub (tVar i) (tC (.int (k : Int))) rSetL) D σ H :=
  he H (Same.refl H) _ fun v H' s hd => ⟨_, hv, p, xs, (k : Int), k, rfl, rfl, s _ _ hp, by unfold ixN; rw [if_pos (by omega), if_pos (by omega)]; simp, q v H' s hd⟩
end
section
variable {P : Program} {w : World} {K : PySem.W.Frag} {mg : Str → Option Value} {base : Heap}
/-- a draw -/
def spTake (K : PySem.W.Frag) : Sp := fun vs H Q _ => ∃ (j L : Addr) (n m : Nat), vs = [.ref j, .int (m : Int)] ∧ Jg K H j L (n + 1) ∧ 1 ≤ m ∧ m ≤ 1000 ∧ ∀ H' (g : Nat), Mv j H H' → Jg K H' j L n → g < m → Q (.int (g : Int)) H'
theorem sc__law_take : FnScope ["jug", "many", "at", "cell", "got"] ["jug", "many"] (defScope s__law_take) := ⟨rfl, rfl, rfl, by decide +kernel, rfl, by decide +kernel, by decide +kernel⟩
theorem ok__law_take (T : Tx K mg)  : Cl P w K mg base CX0 1 "_law_take" ["jug", "many"] (spTake K) := by
  obtain ⟨fd, F⟩ := T.f__law_take
  refine ⟨_, fd, T.g__law_take, F.kp, F.bindsN fun _ _ _ _ _ _ us hl => match us, hl with | [_, _], _ => rfl, F.ok sc__law_take (fun vs H Q E h => ?_) (fun cdv A outer s H vs Q E hr h => ?_)⟩
  · obtain ⟨j, L, n, m, rfl, _⟩ := h
    rfl
  · refine ⟨_, PSs.nox (C8.pss_cut (ps_if (pt_cmpR op_eq (pe_ix ix_list (pv 0) pe_int (fun _ _ => rfl)) pe_int (nomark _)) (pss_cons (ps_set (i := 2) sc__law_take.nd rfl (by first | exact Or.inl rfl | exact Or.inr rfl) (pe_ix ix_list (pv 0) pe_int (fun _ _ => rfl)))
  (pss_cons (ps_set (i := 3) sc__law_take.nd rfl (by first | exact Or.inl rfl | exact Or.inr rfl) (pe_op op_add (pe_op op_mul pe_int (pv 2)) pe_int))
  (C8.pss_cut (ps_if (pt_cmpR op_lt (pv 2) (pe_callB call_len_seq (by rfl) T.b_len PyProof.Rows.Boot.«len» (pa_cons (pe_ix ix_list (pv 0) pe_int (fun _ _ => rfl)) pa_nil)) (nomark _)) (pss_one (ps_set (i := 3) sc__law_take.nd rfl (by first | exact Or.inl rfl | exact Or.inr rfl) (pe_op op_add (pe_op op_mul pe_int (pe_callB call_abs (by rfl) T.b_abs PyProof.Rows.Boot.«abs» (pa_cons (pe_ix ix_list (pe_ix ix_list (pv 0) pe_int (fun _ _ => rfl)) (pv 2) (fun _ _ => rfl)) pa_nil))) (pe_callTy call_int1 (by rfl) T.b_int PyProof.Rows.Boot.«int» (pa_cons (pe_cmpR op_lt (pe_ix ix_list (pe_ix ix_list (pv 0) pe_int (fun _ _ => rfl)) (pv 2) (fun _ _ => rfl)) pe_int (nomark _)) pa_nil))))) pss_nil)
  (C8.pss_cut (ps_if (pt_cmpR op_lt (pv 3) (pe_op G.op_powW pe_int pe_int) (nomark _)) (pss_one (ps_set (i := 3) sc__law_take.nd rfl (by first | exact Or.inl rfl | exact Or.inr rfl) (pe_op op_modN (pe_callTy call_int1 (by rfl) T.b_int PyProof.Rows.Boot.«int» (pa_cons (pe_op G.op_powW (pe_op op_add (pe_op op_add (pe_op op_mul (pv 3) pe_int) (pe_op op_mul (pv 2) pe_int)) pe_int) pe_int) pa_nil)) pe_int))) pss_nil)
  (pss_cons (ps_asg (pe_op op_add (pv 2) pe_int) (pg_sub (pv 0) pe_int set_list))
  (pss_one (ps_asg (pv 3) (pg_sub (pv 0) pe_int set_list)))))))) pss_nil)
  (pss_cons (ps_set (i := 4) sc__law_take.nd rfl (by first | exact Or.inl rfl | exact Or.inr rfl) (pe_op op_modN (pe_callTy call_int1 (by rfl) T.b_int PyProof.Rows.Boot.«int» (pa_cons (pe_ix ix_list (pv 0) pe_int (fun _ _ => rfl)) pa_nil)) (pv 1)))
  (pss_cons (ps_asg (pe_op op_fdivN (pe_ix ix_list (pv 0) pe_int (fun _ _ => rfl)) (pv 1)) (pg_sub (pv 0) pe_int set_list))
  (pss_one (ps_ret (pv 4)))))), ?_⟩
    obtain ⟨j, L, n, m, rfl, hj, hm, hm2, q⟩ := h
    obtain ⟨ns, at_, cell, hjl, hLj, hL, hcell, hat⟩ := hj
    have jd : ∀ {H' : Hp} {c : Int}, H' j = some (.lst [.ref L, .int (at_ : Int), .int c]) → H' L = some (.lst (ns.map V.int)) → Dp K H' (.ref j) (.list [.list (ns.map .int), .int (at_ : Int), .int c]) := fun h1 h2 => .lst (sq_of h1) (.cons (.lst (sq_of h2) (ints_dps ns)) (.cons (.int _) (.cons (.int _) .nil)))
    refine ⟨fun σ2 H2 => ∃ (x2 x3 : Option V) (a2 : Nat) (c2 : Int), σ2 = [some (.ref j), some (.int (m : Int)), x2, x3, none] ∧ Mv j H H2 ∧ H2 j = some (.lst [.ref L, .int (a2 : Int), .int c2]) ∧ H2 L = some (.lst (ns.map V.int)) ∧ 0 ≤ c2 ∧ a2 + n ≤ 10000000, ?_, ?_⟩
    · refine s_if (et_test (ed_eqI (ed_ixL (i := 2) (ed_var (jd hjl hL)) (ed_i (n := 2)) rfl) ed_i)) (fun _ H1 s1 => ?_) (fun _ H1 s1 => ?_)
      · have h1 := s1 _ _ hjl
        have hL1 := s1 _ _ hL
        refine s_set (K := K) (ed_ixL (i := 1) (ed_var (jd h1 hL1)) (ed_i (n := 1)) rfl) fun v H2 s2 hv => ?_
        obtain rfl := dpI hv
        have h2 := s2 _ _ h1
        have hL2 := s2 _ _ hL1
        refine s_set (K := K) (d := .int (3 * (at_ : Int) + 5)) (ed_add (ed_mul ed_i (ed_vi rfl) (.inl (by decide))) ed_i) fun v H3 s3 hv => ?_
        obtain rfl := dpI hv
        have h3 := s3 _ _ h2
        have hL3 := s3 _ _ hL2
        refine ⟨fun σ2 H4 => ∃ c : Int, 0 ≤ c ∧ σ2 = [some (.ref j), some (.int (m : Int)), some (.int (at_ : Int)), some (.int c), none] ∧ Same H3 H4, ?_, ?_⟩
        · refine s_if (et_test (ed_lt (ed_vi rfl) (ed_lenL (ed_ixL (i := 0) (ed_var (jd h3 hL3)) (ed_i (n := 0)) rfl)))) (fun hb H4 s4 => ?_) (fun _ H4 s4 => ⟨_, by omega, rfl, s4⟩)
          have hb := of_decide_eq_true hb
          rw [List.length_map] at hb
          have hlt : at_ < ns.length := by omega
          have d4 := jd (s4 _ _ h3) (s4 _ _ hL3)
          have ex : EvD K _ [some (.ref j), some (.int (m : Int)), some (.int (at_ : Int)), some (.int (3 * (at_ : Int) + 5)), none] H4 (.int ns[at_]) := ed_ixL (i := at_) (ed_ixL (i := 0) (ed_var (i := 0) d4) (ed_i (n := 0)) rfl) (ed_vi (i := 2) rfl) (by rw [List.getElem?_map, List.getElem?_eq_getElem hlt]; rfl)
          refine s_set (K := K) (ed_add (ed_mul ed_i (ed_abs ex) (.inl (by decide))) (ed_intB (ed_lt ex ed_i))) fun v H5 s5 hv => ?_
          obtain rfl := dpI hv
          refine ⟨_, ?_, rfl, s4.trans s5⟩
          split <;> split <;> omega
        · rintro σ2 H4 ⟨c, hc, rfl, s4⟩
          refine ⟨fun σ2 H5 => ∃ c : Int, 0 ≤ c ∧ σ2 = [some (.ref j), some (.int (m : Int)), some (.int (at_ : Int)), some (.int c), none] ∧ Same H3 H5, ?_, ?_⟩
          · refine s_if (et_test (K := K) (ed_lt (ed_vi rfl) (ed_powW ed_i ed_i ⟨by decide, by decide⟩))) (fun hb H5 s5 => ?_) (fun _ H5 s5 => ⟨c, hc, rfl, s4.trans s5⟩)
            have hb := of_decide_eq_true hb
            have hb : c < 10 ^ 18 := hb
            refine s_set (K := K) (ed_modN (ed_intI (ed_powW (ed_add (ed_add (ed_mul (ed_vi rfl) ed_i (.inr (by decide))) (ed_mul (ed_vi rfl) ed_i (.inr (by decide)))) ed_i) ed_i ⟨by decide, bits_small (by omega) (by omega)⟩)) ed_i (by decide)) fun v H6 s6 hv => ?_
            obtain rfl := dpI hv
            refine ⟨_, ?_, rfl, (s4.trans s5).trans s6⟩
            exact Int.fmod_nonneg_of_pos _ (by decide)
          · rintro σ2 H5 ⟨c, hc, rfl, s5⟩
            have h5 := s5 _ _ h3
            have hL5 := s5 _ _ hL3
            refine s_item (k := 1) rfl h5 (by simp) (ed_add (ed_vi (K := K) rfl) ed_i) fun v H6 s6 hv => ?_
            obtain rfl := dpI hv
            have e6 : (upd H6 j (.lst [.ref L, .int ((at_ : Int) + 1), .int cell])) j = some (.lst [.ref L, .int ((at_ : Int) + 1), .int cell]) := upd_same
            refine s_item (k := 2) rfl e6 (by simp) (ed_vi (K := K) rfl) fun v H7 s7 hv => ?_
            obtain rfl := dpI hv
            have m6 : Mv j H H6 := Mv.of (((((s1.trans s2).trans s3).trans s5)).trans s6)
            refine ⟨_, _, at_ + 1, c, rfl, (m6.upd.trans (Mv.of s7)).upd, ?_, ?_, hc, by omega⟩
            · rw [show ((at_ + 1 : Nat) : Int) = (at_ : Int) + 1 by omega]
              exact upd_same
            · rw [upd_ne hLj]
              refine s7 _ _ ?_
              rw [upd_ne hLj]
              exact s6 _ _ hL5
      · exact ⟨none, none, at_, cell, rfl, Mv.of s1, s1 _ _ hjl, s1 _ _ hL, hcell, by omega⟩
    · rintro σ2 H2 ⟨x2, x3, a2, c2, rfl, m2, h2, hL2, hc2, ha2⟩
      have d2 : Dp K H2 (.ref j) (.list [.list (ns.map .int), .int (a2 : Int), .int c2]) := .lst (sq_of h2) (.cons (.lst (sq_of hL2) (ints_dps ns)) (.cons (.int _) (.cons (.int _) .nil)))
      refine s_set (K := K) (ed_modN (ed_intI (ed_ixL (i := 2) (ed_var d2) (ed_i (n := 2)) rfl)) (ed_vi rfl) (by omega)) fun v H3 s3 hv => ?_
      obtain rfl := dpI hv
      have d3 := dp_same s3 _ _ d2
      refine s_item (k := 2) rfl (s3 _ _ h2) (by simp) (ed_fdivN (ed_ixL (i := 2) (ed_var d3) (ed_i (n := 2)) rfl) (ed_vi rfl) ⟨by omega, by omega⟩) fun v H4 s4 hv => ?_
      obtain rfl := dpI hv
      have hm0 : (0 : Int) < (m : Int) := by omega
      have hg1 := Int.fmod_nonneg_of_pos c2 hm0
      have hg2 := Int.fmod_lt_of_pos c2 hm0
      refine ⟨_, rfl, ?_⟩
      have hge : ((c2.fmod (m : Int)).toNat : Int) = c2.fmod (m : Int) := Int.toNat_of_nonneg hg1
      have q2 := q (upd H4 j (.lst ([V.ref L, .int (a2 : Int), .int c2].set 2 (.int (c2.fdiv (m : Int)))))) (c2.fmod (m : Int)).toNat ((m2.trans (Mv.of (s3.trans s4))).upd) ⟨ns, a2, c2.fdiv (m : Int), upd_same, hLj, by rw [upd_ne hLj]; exact s4 _ _ (s3 _ _ hL2), Int.fdiv_nonneg hc2 (by omega), ha2⟩ (by omega)
      rw [hge] at q2
      exact q2
end
end G


set_option Elab.async false
set_option linter.all false
set_option maxRecDepth 100000
set_option maxHeartbeats 4000000
namespace G
open PySem PySem.Spec PyProof.Rows L2
section
variable {K : PySem.W.Frag} {σ : L2.St} {H H' : Hp} {ta tb te : TE} {d e : PyData} {D : Ends}
/-- a draw, in an expression -/
theorem x_take {E : XK} {Q : VK} {i j L n m : Nat} (hj : Jg K H j L (n + 1)) (hv : σ[i]? = some (some (.ref j))) (hm : 1 ≤ m) (hm2 : m ≤ 1000) (he : EvD K te σ H (.int (m : Int))) (q : ∀ H' (g : Nat), Mv j H H' → Jg K H' j L n → g < m → Q (.int (g : Int)) H') :
    tCall (spTake K) [] E (tCons (tVar i) (tCons te tNil)) σ H Q :=
  ⟨_, hv, he H (Same.refl H) _ fun v H1 s1 hd => ⟨j, L, n, m, by rw [dpI hd]; rfl, hj.same s1, hm, hm2, fun H' g mv => q H' g ((Mv.of s1).trans mv)⟩⟩
end
section
variable {P : Program} {w : World} {K : PySem.W.Frag} {mg : Str → Option Value} {base : Heap}
def spJug (K : PySem.W.Frag) : Sp := fun vs H Q _ => ∃ (a : Addr) (ns : List Int), vs = [.ref a] ∧ SqL K H a (ns.map V.int) ∧ ∀ j L H', Same H H' → H j = none → Jg K H' j L 10000000 → Q (.ref j) H'
theorem sc__law_jug : FnScope ["script"] ["script"] (defScope s__law_jug) := ⟨rfl, rfl, rfl, by decide +kernel, rfl, by decide +kernel, by decide +kernel⟩
theorem ok__law_jug (T : Tx K mg)  : Cl P w K mg base CX0 1 "_law_jug" ["script"] (spJug K) := by
  obtain ⟨fd, F⟩ := T.f__law_jug
  refine ⟨_, fd, T.g__law_jug, F.kp, F.bindsN fun _ _ _ _ _ _ us hl => match us, hl with | [_], _ => rfl, F.ok sc__law_jug (fun vs H Q E h => ?_) (fun cdv A outer s H vs Q E hr h => ?_)⟩
  · obtain ⟨a, ns, rfl, _⟩ := h
    rfl
  · refine ⟨_, PSs.nox (pss_one (ps_ret (pe_lst (pa_cons (pe_callTy call_list_of (by rfl) T.b_list PyProof.Rows.Boot.«list» (pa_cons (pv 0) pa_nil)) (pa_cons pe_int (pa_cons pe_int pa_nil)))))), ?_⟩
    obtain ⟨a, ns, rfl, ha, q⟩ := h
    refine ⟨_, rfl, a, ns.map V.int, rfl, .inl ha, fun L hL => ⟨by show 3 ≤ sizeLine; rw [sizeLine_eq]; omega, fun j hj => ?_⟩⟩
    have s1 : Same H (upd H L (.lst (ns.map V.int))) := (Same.refl H).new hL
    have s2 : Same (upd H L (.lst (ns.map V.int))) (upd (upd H L (.lst (ns.map V.int))) j (.lst [.ref L, .int 0, .int 0])) := (Same.refl _).new hj
    have hLj : L ≠ j := fun z => by rw [← z, upd_same] at hj; cases hj
    exact q j L _ (s1.trans s2) (back s1 hj) ⟨ns, 0, 0, upd_same, hLj, s2 _ _ upd_same, by decide, by decide⟩
/-- the shapes that are drawn -/
def shp : Nat → List Nat
  | 0 => [0, 1]
  | 1 => [0, 0, 1]
  | 2 => [0, 0, 2]
  | 3 => [0, 1, 2]
  | _ => [0, 0, 1, 2]
def spLSig (K : PySem.W.Frag) : Sp := fun vs H Q _ => ∃ (j L : Addr) (n : Nat), vs = [.ref j, .int 5] ∧ Jg K H j L (n + 9) ∧ ∀ v H' sg, Mv j H H' → Jg K H' j L n → SgOk sg → sg.length ≤ 4 → Dp K H' v (sigD sg) → Q v H'
theorem shp_ok : ∀ g, g < 5 → (shp g).length ≤ 4 ∧ 2 ≤ (shp g).length ∧ (shp g)[0]? = some 0 ∧ ∀ x ∈ shp g, x ≤ 2 := by decide
def letL : List Nat := [97, 98, 99, 100, 101, 102, 103, 104]
def xyzL : List Nat := [120, 121, 122, 48, 49]
theorem letS : ("abcdefgh" : Str) = S letL := by decide +kernel
theorem xyzS : ("xyz01" : Str) = S xyzL := by decide +kernel
def nmL (a b k : Nat) : List Nat := letL.getD a 97 :: (xyzL.take b ++ numW k)
theorem nmL_low : ∀ a, a < 8 → ∀ b, b < 5 → ∀ k, k < 4 → lowL (nmL a b k) = true ∧ (nmL a b k).length ≤ 6 ∧ (nmL a b k).getLast? = some (48 + k) := by decide +kernel
/-- the entries so far -/
structure SgPre (sg : Sg) (sh : List Nat) (k : Nat) : Prop where
  len : sg.length = k
  ent : ∀ i e, sg[i]? = some e → (∃ a b, a < 8 ∧ b < 5 ∧ e.1 = S (nmL a b i)) ∧ sh[i]? = some e.2
theorem SgPre.ok {sg : Sg} {sh : List Nat} {k : Nat} (h : SgPre sg sh k) (hk : k = sh.length) (h4 : sh.length ≤ 4) (h2 : 2 ≤ sh.length) (h0 : sh[0]? = some 0) (har : ∀ x ∈ sh, x ≤ 2) : SgOk sg ∧ sg.length ≤ 4 := by
  have hl := h.len
  have nm : ∀ e ∈ sg, lowL e.1.cps.toList = true ∧ e.1.length ≤ 10 := fun e he => by
    obtain ⟨i, hi, rfl⟩ := List.getElem_of_mem he
    obtain ⟨⟨a, b, ha, hb, e1⟩, _⟩ := h.ent i _ (List.getElem?_eq_getElem hi)
    obtain ⟨z1, z2, _⟩ := nmL_low a ha b hb i (by omega)
    rw [e1]
    exact ⟨z1, by rw [S_len]; omega⟩
  refine ⟨⟨⟨fun z => by rw [z] at hl; simp at hl; omega, by omega, fun e he => (nm e he).1, fun e he => (nm e he).2, fun e he => ?_, ?_⟩, ?_⟩, by omega⟩
  · obtain ⟨i, hi, rfl⟩ := List.getElem_of_mem he
    obtain ⟨_, e2⟩ := h.ent i _ (List.getElem?_eq_getElem hi)
    exact har _ (List.mem_of_getElem? e2)
  · rw [List.nodup_iff_pairwise_ne, List.pairwise_iff_getElem]
    intro i j hi hj hij
    rw [List.length_map] at hi hj
    rw [List.getElem_map, List.getElem_map]
    intro z
    obtain ⟨⟨a, b, ha, hb, e1⟩, _⟩ := h.ent i _ (List.getElem?_eq_getElem hi)
    obtain ⟨⟨a2, b2, ha2, hb2, e2⟩, _⟩ := h.ent j _ (List.getElem?_eq_getElem hj)
    rw [e1, e2] at z
    have z := S_inj z
    have l1 := (nmL_low a ha b hb i (by omega)).2.2
    have l2 := (nmL_low a2 ha2 b2 hb2 j (by omega)).2.2
    rw [z, l2] at l1
    have := Option.some.inj l1
    omega
  · have hlt : 0 < sg.length := by omega
    refine ⟨sg[0], List.getElem_mem hlt, ?_⟩
    obtain ⟨_, e2⟩ := h.ent 0 _ (List.getElem?_eq_getElem hlt)
    rw [h0] at e2
    exact (Option.some.inj e2).symm
def natsD (l : List Nat) : List PyData := l.map fun (i : Nat) => PyData.int (i : Int)
def natsV (l : List Nat) : List V := (l.map fun (i : Nat) => (i : Int)).map V.int
theorem natsD_eq (l : List Nat) : natsD l = (l.map fun (i : Nat) => (i : Int)).map .int := by simp [natsD]
def shpsD : List PyData := [.list (natsD (shp 0)), .list (natsD (shp 1)), .list (natsD (shp 2)), .list (natsD (shp 3)), .list (natsD (shp 4))]
theorem shps_at : ∀ g, g < 5 → shpsD[g]? = some (.list (natsD (shp g)))
  | 0, _ => rfl
  | 1, _ => rfl
  | 2, _ => rfl
  | 3, _ => rfl
  | 4, _ => rfl
  | n + 5, h => by omega
theorem sc__law_signature : FnScope ["jug", "shapes", "shape", "found", "k"] ["jug", "shapes"] (defScope s__law_signature) := ⟨rfl, rfl, rfl, by decide +kernel, rfl, by decide +kernel, by decide +kernel⟩
theorem ok__law_signature (T : Tx K mg)  : Cl P w K mg base CX0 2 "_law_signature" ["jug", "shapes"] (spLSig K) := by
  obtain ⟨fd, F⟩ := T.f__law_signature
  refine ⟨_, fd, T.g__law_signature, F.kp, F.bindsN fun _ _ _ _ _ _ us hl => match us, hl with | [_, _], _ => rfl, F.ok sc__law_signature (fun vs H Q E h => ?_) (fun cdv A outer s H vs Q E hr h => ?_)⟩
  · obtain ⟨j, L, n, rfl, _⟩ := h
    rfl
  · refine ⟨_, PSs.nox (pss_cons (ps_set (i := 2) sc__law_signature.nd rfl (by first | exact Or.inl rfl | exact Or.inr rfl) (pe_ix ix_list (pe_lst (pa_cons (pe_lst (pa_cons pe_int (pa_cons pe_int pa_nil))) (pa_cons (pe_lst (pa_cons pe_int (pa_cons pe_int (pa_cons pe_int pa_nil)))) (pa_cons (pe_lst (pa_cons pe_int (pa_cons pe_int (pa_cons pe_int pa_nil)))) (pa_cons (pe_lst (pa_cons pe_int (pa_cons pe_int (pa_cons pe_int pa_nil)))) (pa_cons (pe_lst (pa_cons pe_int (pa_cons pe_int (pa_cons pe_int (pa_cons pe_int pa_nil))))) pa_nil)))))) (G.pe_cl (ok__law_take T) hr (by decide) pass0 (pa_cons (pv 0) (pa_cons (pv 1) pa_nil))) (fun _ _ => rfl)))
  (pss_cons (ps_set (i := 3) sc__law_signature.nd rfl (by first | exact Or.inl rfl | exact Or.inr rfl) (pe_lst pa_nil))
  (pss_cons (ps_for PassesOwn.never rfl (pi_range1 (by rfl) T.b_range (pa_cons (pe_callB call_len_seq (by rfl) T.b_len PyProof.Rows.Boot.«len» (pa_cons (pv 2) pa_nil)) pa_nil)) (pg_name (i := 4) sc__law_signature.nd rfl (by first | exact Or.inl rfl | exact Or.inr rfl)) (pss_one (ps_expr (pe_bm PySem.F.plainAttrs_list PySem.F.slot_list_append PySem.F.type_list_append mt_append (pv 3) (pa_cons (pe_tup (pa_cons (pe_op op_add_str (pe_op op_add_str (pe_ix ix_str pe_str (G.pe_cl (ok__law_take T) hr (by decide) pass0 (pa_cons (pv 0) (pa_cons pe_int pa_nil))) (fun _ _ => rfl)) (pe_slice sl_str pe_str po_none (po_some (G.pe_cl (ok__law_take T) hr (by decide) pass0 (pa_cons (pv 0) (pa_cons pe_int pa_nil)))))) (pe_callTy call_str_int (by rfl) T.b_str PyProof.Rows.Boot.«str» (pa_cons (pv 4) pa_nil))) (pa_cons (pe_ix ix_list (pv 2) (pv 4) (fun _ _ => rfl)) pa_nil))) pa_nil)))))
  (pss_one (ps_ret (pe_callTy call_tuple_of (by rfl) T.b_tuple PyProof.Rows.Boot.«tuple» (pa_cons (pv 3) pa_nil))))))), ?_⟩
    obtain ⟨j, L, n, rfl, hj, q⟩ := h
    have key : EvN K (tLst (tCons (tLst (tCons (tC (.int 0)) (tCons (tC (.int 1)) tNil))) (tCons (tLst (tCons (tC (.int 0)) (tCons (tC (.int 0)) (tCons (tC (.int 1)) tNil)))) (tCons (tLst (tCons (tC (.int 0)) (tCons (tC (.int 0)) (tCons (tC (.int 2)) tNil)))) (tCons (tLst (tCons (tC (.int 0)) (tCons (tC (.int 1)) (tCons (tC (.int 2)) tNil)))) (tCons (tLst (tCons (tC (.int 0)) (tCons (tC (.int 0)) (tCons (tC (.int 1)) (tCons (tC (.int 2)) tNil))))) tNil)))))) [some (.ref j), some (.int 5), none, none, none] H shpsD := by
      refine en_lst (ea_cons (ed_ofN (en_lst (ds := natsD (shp 0)) (ea_cons ed_i (ea_cons ed_i ea_nil)) (by decide))) (ea_cons (ed_ofN (en_lst (ds := natsD (shp 1)) (ea_cons ed_i (ea_cons ed_i (ea_cons ed_i ea_nil))) (by decide))) (ea_cons (ed_ofN (en_lst (ds := natsD (shp 2)) (ea_cons ed_i (ea_cons ed_i (ea_cons ed_i ea_nil))) (by decide))) (ea_cons (ed_ofN (en_lst (ds := natsD (shp 3)) (ea_cons ed_i (ea_cons ed_i (ea_cons ed_i ea_nil))) (by decide))) (ea_cons (ed_ofN (en_lst (ds := natsD (shp 4)) (ea_cons ed_i (ea_cons ed_i (ea_cons ed_i (ea_cons ed_i ea_nil)))) (by decide))) ea_nil))))) (by decide)
    unfold tSeq tAsg
    refine key H (Same.refl H) _ fun Lp us H1 s1 hLp hl hus => ?_
    have hj1 := hj.same s1
    refine x_take (n := n + 8) (m := 5) hj1 rfl (by decide) (by decide) (ed_vi rfl) fun H2 g m2 hj2 hg => ?_
    have hLj := (hj.there hLp).1
    obtain ⟨v, hv1, hv2⟩ := hus.get (shps_at g hg)
    refine ⟨Lp, us, (g : Int), v, rfl, rfl, sq_of (m2 _ _ hLj hl), atI_nat hv1, ?_⟩
    cases hv2 with
    | lst hs hvs =>
      rename_i p vs
      rw [natsD_eq] at hvs
      have hvs := dps_ints hvs
      subst hvs
      have hs2 := hj1.ints m2 hs
      obtain ⟨g1, g2, g3, g4⟩ := shp_ok g hg
      generalize shp g = sh at hs2 g1 g2 g3 g4
      have mH2 : Mv j H H2 := (Mv.of s1).trans m2
      clear hus hv1 hl key hs
      refine s_setN (K := K) (en_lst ea_nil (by decide)) fun F us H3 s3 hF hFl hus => ?_
      cases hus
      have mH3 : Mv j H H3 := mH2.trans (Mv.of s3)
      have hF0 : H F = none := by
        cases e : H F with
        | none => rfl
        | some o =>
          by_cases z : F = j
          · exact absurd z (hj2.there hF).1
          · rw [mH2 F o z e] at hF; cases hF
      obtain ⟨hFj, hFL⟩ := hj2.there hF
      have hpF : p ≠ F ∨ ∀ H', SqL K H' p ((sh.map fun (i : Nat) => (i : Int)).map V.int) := by
        rcases hs2 with (h | ⟨o, h⟩) | h
        · exact .inl fun z => by rw [z, hF] at h; cases h
        · exact .inl fun z => by rw [z, hF] at h; cases h
        · exact .inr fun _ => .inr h
      have shL : ∀ {H' : Hp}, SqL K H' p ((sh.map fun (i : Nat) => (i : Int)).map V.int) → Dp K H' (.ref p) (.list (natsD sh)) := fun h => .lst h (by rw [natsD_eq]; exact ints_dps _)
      have shlen : (natsD sh).length = sh.length := by simp [natsD]
      refine s_forR (n := sh.length) (fun i σ' H' => ∃ (sg : Sg) (us : List V) (x4 : Option V), σ' = [some (.ref j), some (.int 5), some (.ref p), some (.ref F), x4] ∧ Mv j H H' ∧ Jg K H' j L (n + 2 * (sh.length - i)) ∧ H' F = some (.lst us) ∧ DpAll K H' us (sg.map entD) ∧ SgPre sg sh i ∧ SqL K H' p ((sh.map fun (i : Nat) => (i : Int)).map V.int))
        ((ed_lenL (ed_var (shL (s3.seq hs2)))).to (by rw [shlen])) (by omega) (fun H4 s4 => ⟨[], [], none, rfl, mH3.trans (Mv.of s4), ((hj2.same s3).same s4).mono (by omega), s4 _ _ hFl, .nil, ⟨rfl, fun i e h => by simp at h⟩, s4.seq (s3.seq hs2)⟩) ?_ ?_
      · rintro i σ' H4 hi ⟨sg, us, x4, rfl, m4, hj4, hF4, hus4, pre, hs4⟩
        have hul : us.length = i := by rw [hus4.len, List.length_map, pre.len]
        have e2 : n + 2 * (sh.length - i) = (n + 2 * (sh.length - (i + 1))) + 1 + 1 := by omega
        rw [e2] at hj4
        refine ⟨_, rfl, lst_ty hF4, ?_⟩
        refine x_take (m := 8) hj4 rfl (by decide) (by decide) ed_i fun H5 a m5 hj5 ha => ?_
        have hla : letL[a]? = some (letL.getD a 97) := by
          have : a < letL.length := by simpa [letL] using ha
          rw [List.getD_eq_getElem?_getD, List.getElem?_eq_getElem this]; rfl
        refine ⟨S letL, (a : Int), letL.getD a 97, by rw [letS], rfl, by rw [S_len]; decide, atI_nat hla, ?_⟩
        refine x_take (m := 5) hj5 rfl (by decide) (by decide) ed_i fun H6 b m6 hj6 hb => ?_
        refine ⟨(b : Int), rfl, S xyzL, by rw [xyzS], by rw [S_len]; decide, ?_⟩
        have ecut : cutS (S xyzL) none (some (b : Int)) = S (xyzL.take b) := by
          unfold cutS
          rw [S_len, HT.sIx_none, HT.sIx_nat]
          have : b ≤ xyzL.length := by show b ≤ 5; omega
          rw [Nat.min_eq_left this]
          simp
        rw [ecut]
        refine ⟨_, _, rfl, rfl, ?_, ?_⟩
        · rw [show (⟨#[letL.getD a 97]⟩ : Str) = S [letL.getD a 97] from rfl, S_len, S_len]
          have : (xyzL.take b).length ≤ 5 := by simp [xyzL]; omega
          exact sz_of (by simp; omega)
        rw [show (⟨#[letL.getD a 97]⟩ : Str) = S [letL.getD a 97] from rfl, S_cat]
        have hil : i < 4 := by omega
        refine (ed_strI (K := K) (σ := [some (.ref j), some (.int 5), some (.ref p), some (.ref F), some (.int (i : Int))]) (ed_vi (i := 4) rfl) (by omega)) H6 (Same.refl H6) _ fun vk H7 s7 hvk => ?_
        refine ⟨_, _, rfl, dpS hvk, ?_, ?_⟩
        · rw [S_len, S_len]
          have : (xyzL.take b).length ≤ 5 := by simp [xyzL]; omega
          have := (numW_ok i (by omega)).2.1
          exact sz_of (by simp; omega)
        rw [S_cat]
        have m47 : Mv j H4 H7 := (m5.trans m6).trans (Mv.of s7)
        have hs7 := hj4.ints m47 hs4
        obtain ⟨y, hy⟩ : ∃ y, sh[i]? = some y := ⟨_, List.getElem?_eq_getElem hi⟩
        have eix : EvD K (tOp (rIxL K) (tVar 2) (tVar 4)) [some (.ref j), some (.int 5), some (.ref p), some (.ref F), some (.int (i : Int))] H7 (.int (y : Int)) := ed_ixL (i := i) (ed_var (i := 2) (shL hs7)) (ed_vi (i := 4) rfl) (by simp [natsD, hy])
        refine eix H7 (Same.refl H7) _ fun vy H8 s8 hvy => ?_
        obtain rfl := dpI hvy
        refine ⟨by show 2 ≤ sizeLine; rw [sizeLine_eq]; omega, fun pp hpp => ?_⟩
        have m48 : Mv j H4 H8 := m47.trans (Mv.of s8)
        have hF8 := m48 _ _ hFj hF4
        have hFpp : F ≠ pp := fun z => by rw [← z, hF8] at hpp; cases hpp
        have s9 : Same H8 (upd H8 pp (.tup [.str (S ([letL.getD a 97] ++ xyzL.take b ++ numW i)), .int (y : Int)])) := (Same.refl H8).new hpp
        have hj9 := ((hj6.same s7).same s8).same s9
        refine ⟨F, us, .ref pp, rfl, rfl, s9 _ _ hF8, sz_lt (by omega), ?_⟩
        have hus9 := dps_same s9 _ _ (dps_kt (hj4.kt m48) _ _ (entD_tt sg) hus4)
        have hd9 : Dp K (upd H8 pp (.tup [.str (S ([letL.getD a 97] ++ xyzL.take b ++ numW i)), .int (y : Int)])) (.ref pp) (entD (S (nmL a b i), y)) := .tup (st_of upd_same) (.cons (.str _) (.cons (.int _) .nil))
        have hF9 := s9 _ _ hF8
        have hs9 := s9.seq (s8.seq hs7)
        have m49 := m48.trans (Mv.of s9)
        generalize upd H8 pp (.tup [.str (S ([letL.getD a 97] ++ xyzL.take b ++ numW i)), .int (y : Int)]) = H9 at hus9 hd9 hF9 hs9 hj9 m49
        have k9 : Kt H9 (upd H9 F (.lst (us ++ [.ref pp]))) := Kt.rfl'.lst hF9
        refine ⟨sg ++ [(S (nmL a b i), y)], us ++ [.ref pp], _, rfl, (m4.trans m49).own hF0, hj9.other hFj hFL, upd_same, ?_, ⟨by simp [pre.len], fun i2 e he => ?_⟩, ?_⟩
        · rw [List.map_append]
          exact (dps_kt k9 _ _ (entD_tt sg) hus9).snoc (dp_kt k9 _ _ rfl hd9)
        · rcases Nat.lt_or_ge i2 sg.length with h | h
          · rw [List.getElem?_append_left h] at he
            exact pre.ent i2 e he
          · rw [List.getElem?_append_right h] at he
            have : i2 - sg.length = 0 := by
              rcases Nat.eq_zero_or_pos (i2 - sg.length) with z | z
              · exact z
              · rw [List.getElem?_eq_none (by simp; omega)] at he; cases he
            rw [this] at he
            obtain rfl := Option.some.inj he
            have ei : i2 = i := by have := pre.len; omega
            subst ei
            exact ⟨⟨a, b, ha, hb, rfl⟩, hy⟩
        · rcases hpF with e | e
          · rcases hs9 with (h | ⟨o, h⟩) | h
            · refine .inl (.inl ?_)
              show upd H9 F _ p = _
              rw [upd_ne e]; exact h
            · refine .inl (.inr ⟨o, ?_⟩)
              show upd H9 F _ p = _
              rw [upd_ne e]; exact h
            · exact .inr h
          · exact e _
      · rintro σ' H4 ⟨sg, us, x4, rfl, m4, hj4, hF4, hus4, pre, hs4⟩
        obtain ⟨ok, len⟩ := pre.ok rfl g1 g2 g3 g4
        refine s_ret (K := K) (ed_tupL (ed_lstV rfl hF4 hus4)) fun v H5 s5 hv => ?_
        exact q v H5 sg (m4.trans (Mv.of s5)) ((hj4.same s5).mono (by omega)) ok len hv
end
end G


set_option Elab.async false
set_option linter.all false
set_option maxRecDepth 100000
set_option maxHeartbeats 4000000
namespace G
open PySem PySem.Spec PyProof.Rows L2
theorem Kt.of {H H' : Hp} (s : Same H H') : Kt H H' := fun b o _ e => s b o e
theorem tts_mem : ∀ {l : List PyData} {d : PyData}, tts l = true → d ∈ l → tt d = true
  | [], _, _, h => by cases h
  | a :: l, d, t, h => by
    simp only [tts, Bool.and_eq_true] at t
    rcases List.mem_cons.mp h with rfl | h
    · exact t.1
    · exact tts_mem t.2 h
structure WkJ (K : PySem.W.Frag) (j : Addr) (J : It) (H0 : Hp) (xs : List PyData) : Prop where
  goes : ∀ i H, i < xs.length → Mv j H0 H → J.go i H
  stops : ∀ H, Mv j H0 H → J.stop xs.length H
  yields : ∀ i H x H' d, xs[i]? = some d → Mv j H0 H → Kt H0 H → J.yld i H x H' → H' = H ∧ Dp K H' x d
def EvJ (K : PySem.W.Frag) (j : Addr) (wi : TI) (σ : L2.St) (H : Hp) (xs : List PyData) : Prop := ∀ R : It → Hp → Prop, (∀ J H2, Same H H2 → WkJ K j J H2 xs → R J H2) → wi σ H R
section
variable {K : PySem.W.Frag} {σ : L2.St} {H H' : Hp} {ta tb te tl : TE} {d e : PyData} {D : Ends} {j L : Addr}
theorem j_lc {wi : TI} {g : TG} {vs : List Nat} {xs : List PyData} {m c : Nat} {φ : Nat → PyData → Prop} {Q : VK}
    (hj : Jg K H j L (m + xs.length * c)) (hl : xs.length ≤ 1000) (htt : ∀ i d, φ i d → tt d = true) (hi : EvJ K j wi σ H xs)
    (hel : ∀ i x v H1 m', xs[i]? = some x → Mv j H H1 → Dp K H1 v x → Jg K H1 j L (m' + c) → ∀ W : L2.St → Hp → Prop, (∀ σ2, wipe σ2 vs = wipe σ vs → (∀ Q : VK, (∀ y H2 d, Mv j H1 H2 → Jg K H2 j L m' → Dp K H2 y d → φ i d → Q y H2) → te σ2 H1 Q) → W σ2 H1) → g v (wipe σ vs) H1 W)
    (q : ∀ p us ds H', Mv j H H' → Jg K H' j L m → H p = none → H' p = some (.lst us) → DpAll K H' us ds → ds.length = xs.length → (∀ i d, ds[i]? = some d → φ i d) → Q (.ref p) H') : tLc wi g tYes te vs σ H Q := by
  refine hi _ fun J H2 s2 w D hD => ?_
  obtain ⟨hDj, hDL⟩ := (hj.same s2).there hD
  refine ⟨fun n k H' => k = xs.length - n ∧ n ≤ xs.length ∧ Mv j H2 H' ∧ Kt H2 H' ∧ Jg K H' j L (m + (xs.length - n) * c) ∧ ∃ acc ds, H' D = some (.lst acc) ∧ DpAll K H' acc ds ∧ ds.length = n ∧ ∀ i d, ds[i]? = some d → φ i d,
    ⟨xs.length, rfl, Nat.zero_le _, Mv.of ((Same.refl H2).new hD), Kt.of ((Same.refl H2).new hD), (hj.same s2).same ((Same.refl H2).new hD), [], [], upd_same, .nil, rfl, fun i d h => by simp at h⟩, ?_⟩
  rintro n k H3 ⟨rfl, hn, m3, k3, hj3, acc, ds, hacc, hdp, hdl, hφ⟩
  by_cases hlt : n < xs.length
  · refine .inr ⟨w.goes n H3 hlt m3, fun H' => n + 1 ≤ xs.length ∧ Mv j H2 H' ∧ Kt H2 H' ∧ Jg K H' j L (m + (xs.length - (n + 1)) * c) ∧ ∃ acc ds, H' D = some (.lst acc) ∧ DpAll K H' acc ds ∧ ds.length = n + 1 ∧ ∀ i d, ds[i]? = some d → φ i d, fun H' ⟨a, b⟩ => ⟨xs.length - (n + 1), by omega, rfl, a, b⟩, fun x H4 y => ?_⟩
    have hx : xs[n]? = some xs[n] := by simp [hlt]
    obtain ⟨e4, hxd⟩ := w.yields n H3 x H4 _ hx m3 k3 y
    have s4 : Same H3 H4 := by rw [e4]; exact Same.refl _
    have hj4 := hj3.same s4
    have e : m + (xs.length - n) * c = (m + (xs.length - (n + 1)) * c) + c := by
      have : xs.length - n = (xs.length - (n + 1)) + 1 := by omega
      rw [this, Nat.add_mul]; omega
    rw [e] at hj4
    refine hel n _ x H4 _ hx ((Mv.of s2).trans (m3.trans (Mv.of s4))) hxd hj4 _ fun σ2 hw he => ⟨hw, ?_⟩
    unfold tYes
    dsimp only
    simp only [if_true]
    refine he _ fun z H5 d m5 hj5 hz hd => ?_
    have hacc5 := m5 _ _ hDj (s4 _ _ hacc)
    have k45 := hj4.kt m5
    have hal := hdp.len
    have htts : tts ds = true := tts_of fun d hd => by
      obtain ⟨i, hi, rfl⟩ := List.getElem_of_mem hd
      exact htt i _ (hφ i _ (List.getElem?_eq_getElem hi))
    have hk : Kt H5 (L2.upd H5 D (.lst (acc ++ [z]))) := Kt.rfl'.lst hacc5
    refine ⟨acc, hacc5, sz_lt (by omega), hlt, ((m3.trans (Mv.of s4)).trans m5).own hD, ?_, hj5.other hDj hDL, acc ++ [z], ds ++ [d], upd_same, ?_, by simp [hdl], fun i d' hd' => ?_⟩
    · exact ((k3.trans (Kt.of s4)).trans k45).trans hk
    · exact (dps_kt hk _ _ htts (dps_kt k45 _ _ htts (dps_same s4 _ _ hdp))).snoc (dp_kt hk _ _ (htt _ _ hd) hz)
    · rcases Nat.lt_or_ge i ds.length with h | h
      · rw [List.getElem?_append_left h] at hd'
        exact hφ i d' hd'
      · rw [List.getElem?_append_right h] at hd'
        have : i - ds.length = 0 := by
          rcases Nat.eq_zero_or_pos (i - ds.length) with z | z
          · exact z
          · rw [List.getElem?_eq_none (by simp; omega)] at hd'; cases hd'
        rw [this] at hd'
        obtain rfl := Option.some.inj hd'
        have : i = n := by omega
        subst this
        exact hd
  · have e : n = xs.length := by omega
    subst e
    rw [Nat.sub_self, Nat.zero_mul] at hj3
    exact .inl ⟨w.stops H3 m3, q D acc ds H3 ((Mv.of s2).trans m3) hj3 (back s2 hD) hacc hdp hdl hφ⟩
theorem ej_range {n : Int} (h : EvD K ta σ H (.int n)) (hn : n ≤ 1000000) (h0 : 0 ≤ n) : EvJ K j (iRng1 (tCons ta tNil)) σ H (intsD n.toNat) := fun R q => h H (Same.refl H) _ fun v H2 s2 hv =>
  ⟨n, by rw [dpI hv], by omega, by omega, q _ H2 s2
    { goes := fun i H3 hi _ => by show i < n.toNat; simpa [intsD] using hi
      stops := fun H3 _ => by show n.toNat ≤ _; simp [intsD]
      yields := fun i H3 y H4 d hd _ _ hy => by
        obtain ⟨e, e2⟩ := hy
        subst e e2
        have hi : i < n.toNat := by
          have := (List.getElem?_eq_some_iff.mp hd).1
          simpa [intsD] using this
        have : d = .int (0 + (i : Int)) := by
          have e3 : (intsD n.toNat)[i]? = some (.int (i : Int)) := by simp [intsD, hi]
          rw [e3] at hd
          rw [← Option.some.inj hd]; simp
        rw [this]
        exact ⟨rfl, .int _⟩ }⟩
/-- over a list at a name that is not the jug -/
theorem ej_list {i : Nat} {p : Addr} {us : List V} {xs : List PyData} (hi : σ[i]? = some (some (.ref p))) (hp : H p = some (.lst us)) (hpj : p ≠ j) (hv : DpAll K H us xs) (htt : tts xs = true) : EvJ K j (iList K (tVar i)) σ H xs := fun R q =>
  ⟨_, hi, p, rfl, ⟨us, sq_of hp⟩, q _ H (Same.refl H)
    { goes := fun i H1 hi s => by
        have : i < us.length := by rw [hv.len]; exact hi
        exact ⟨us, us[i], sq_of (s _ _ hpj hp), by simp [this]⟩
      stops := fun H1 s => ⟨us, sq_of (s _ _ hpj hp), by rw [hv.len]; exact Nat.le_refl _⟩
      yields := fun i H1 x H2 d hd s k y => by
        obtain ⟨e, y⟩ := y
        subst e
        have h1 := y us (sq_of (s _ _ hpj hp))
        obtain ⟨v, h2, h3⟩ := hv.get hd
        rw [h1] at h2
        cases h2
        refine ⟨rfl, dp_kt k d x ?_ h3⟩
        exact tts_mem htt (List.mem_of_getElem? hd) }⟩
end

/-- the arity of a symbol -/
def arOf (sg : Sg) (i : Nat) : Int := match sg[i]? with
  | some e => (e.2 : Int)
  | none => 0
theorem arOf_at {sg : Sg} {i : Nat} {e : Str × Nat} (h : sg[i]? = some e) : arOf sg i = (e.2 : Int) := by simp [arOf, h]
section
variable {K : PySem.W.Frag} {σ : L2.St} {H H' : Hp} {ta tb te tl : TE}
theorem ed_ar {sg : Sg} {i a b : Nat} {v : V} {e : Str × Nat} (hv : Dp K H v (sigD sg)) (ha : σ[a]? = some (some v)) (hb : σ[b]? = some (some (.int (i : Int)))) (he : sg[i]? = some e) : EvD K (tOp (rIxT K) (tOp (rIxT K) (tVar a) (tVar b)) (tC (.int 1))) σ H (.int (arOf sg i)) :=
  (ed_ixT (d := .int (e.2 : Int)) (ed_ixT (d := entD e) (ed_var (i := a) hv ha) (ed_vi (i := b) hb) (atI_nat (by rw [List.getElem?_map, he]; rfl))) ed_i rfl).to (by rw [arOf_at he])
theorem op_in {r : R2} {Q : VK} (h : ta σ H fun x H1 => tb σ H1 fun y H2 => r x y H2 Q) : tOp r ta tb σ H Q := h
theorem ret_in {D : Ends} (h : te σ H D.rt) : tRet te D σ H := h
theorem name_in {W : L2.St → Hp → Prop} {i : Nat} {v : V} (h : W (σ.set i (some v)) H) : gName i v σ H W := h
theorem cb_in {r : List V → Hp → VK → Prop} {ts : TA} {Q : VK} (h : ts σ H fun xs H1 => r xs H1 Q) : tCB r ts σ H Q := h
theorem one_in {Q : List V → Hp → Prop} (h : te σ H fun v H1 => Q [v] H1) : tCons te tNil σ H Q := h
theorem catA_of {x y : V} {xs ys : List PyData} {Q : VK} (hx : Dp K H x (.tuple xs)) (hy : Dp K H y (.tuple ys)) (hl : xs.length + ys.length ≤ 1000) (q : ∀ v H', Same H H' → Dp K H' v (.tuple (xs ++ ys)) → Q v H') : rCatA K x y H Q := by
  have h := ed_catT (K := K) (σ := [some x, some y]) (ta := tVar 0) (tb := tVar 1) (ed_var hx) (ed_var hy) hl H (Same.refl H) Q q
  obtain ⟨v, hv, w, hw, h⟩ := h
  cases hv
  cases hw
  exact h
end
section
variable {K : PySem.W.Frag} {σ : L2.St} {H H' : Hp} {ta tb te tl : TE} {d e : PyData} {D : Ends} {j L : Addr}
theorem ed_notInD {ds : List PyData} (ha : EvD K ta σ H d) (hb : EvD K tb σ H (.list ds)) (h1 : SeqAt.shaped d = true) (h2 : SeqAt.shaped (.list ds) = true) : EvD K (tOp (rNotInD K) ta tb) σ H (.bool (!ds.any fun z => PyData.eqv z d)) :=
  ed_op ha hb fun x y H1 _ hx hy Q q => ⟨d, ds, hx, hy, h1, h2, q _ H1 (Same.refl H1) (.bl _)⟩
theorem seq_in {a b : TS} (h : a { D with nx := b D } σ H) : tSeq a b D σ H := h
/-- for i in range(a draw) -/
theorem s_forX {l : Nat} {ts : TS} (W : Nat → Nat → L2.St → Hp → Prop) (he : ∀ Q : VK, (∀ (n : Nat) H1, n ≤ 1000000 → W n 0 σ H1 → Q (.int (n : Int)) H1) → te σ H Q)
    (step : ∀ n i σ' H', i < n → W n i σ' H' → ts { D with nx := fun σ2 H2 => W n (i + 1) σ2 H2, ct := fun σ2 H2 => W n (i + 1) σ2 H2, bk := D.nx } (σ'.set l (some (.int (i : Int)))) H') (fin : ∀ n σ' H', W n n σ' H' → D.nx σ' H') :
    tFor (iRng1 (tCons te tNil)) (gName l) ts D σ H := by
  refine he _ fun n H1 hn h0 => ⟨n, rfl, by omega, by omega, ?_⟩
  refine ⟨fun i m σ' H' => m = n - i ∧ i ≤ n ∧ W n i σ' H', ⟨n, rfl, Nat.zero_le _, h0⟩, ?_⟩
  rintro i m σ' H2 ⟨rfl, hi, hw⟩
  by_cases hlt : i < n
  · refine .inr ⟨show i < ((n : Int)).toNat by simpa using hlt, fun σ2 H2 => i + 1 ≤ n ∧ W n (i + 1) σ2 H2, fun σ2 H2 ⟨a, b⟩ => ⟨n - (i + 1), by omega, rfl, a, b⟩, fun x H3 y => ?_⟩
    obtain ⟨rfl, rfl⟩ := y
    have := step n i σ' H3 hlt hw
    rw [show (0 + (i : Int)) = (i : Int) by omega]
    have e : (fun σ2 H2 => i + 1 ≤ n ∧ W n (i + 1) σ2 H2) = fun σ2 H2 => W n (i + 1) σ2 H2 := by
      funext σ2 H2
      exact propext ⟨fun h => h.2, fun h => ⟨hlt, h⟩⟩
    rw [e]
    exact this
  · have : i = n := by omega
    subst this
    exact .inl ⟨show ((i : Int)).toNat ≤ i by simp, fin _ _ _ hw⟩
end
end G

set_option Elab.async false
set_option linter.all false
set_option maxRecDepth 100000
set_option maxHeartbeats 4000000
namespace G
open PySem PySem.Spec PyProof.Rows L2
theorem smallR (c : Nat) : decide (c ∈ ("abcdefghijklmnopqrstuvwxyz0123456789" : Str).cps.toList) = isRun c := inRuns c
section
variable {K : PySem.W.Frag} {σ : L2.St} {H H' : Hp} {ta tb te tl : TE} {d e : PyData} {D : Ends}
theorem s_par3N {i j l : Nat} {t1 t2 t3 : TE} {d1 d3 : PyData} {ds : List PyData} (h1 : EvD K t1 σ H d1) (h2 : EvN K t2 σ H ds) (h3 : EvD K t3 σ H d3) (q : ∀ v p vs w H', Same H H' → Dp K H' v d1 → H p = none → H' p = some (.lst vs) → DpAll K H' vs ds → Dp K H' w d3 → D.nx (((σ.set i (some v)).set j (some (.ref p))).set l (some w)) H') : tPar3 i j l (tCons t1 (tCons t2 (tCons t3 tNil))) D σ H :=
  h1 H (Same.refl H) _ fun v H1 s1 hv => h2 H1 s1 _ fun p vs H2 s2 hn hp hvs => h3 H2 (s1.trans s2) _ fun w H3 s3 hw => ⟨_, _, _, rfl, q v p vs w H3 ((s1.trans s2).trans s3) (dp_same (s2.trans s3) _ _ hv) (back s1 hn) (s3 _ _ hp) (dps_same s3 _ _ hvs) hw⟩
end
section
variable {P : Program} {w : World} {K : PySem.W.Frag} {mg : Str → Option Value} {base : Heap}
theorem sc__law_words : FnScope ["text", "small", "found", "at", "end"] ["text"] (defScope s__law_words) := ⟨rfl, rfl, rfl, by decide +kernel, rfl, by decide +kernel, by decide +kernel⟩
theorem ok__law_words (T : Tx K mg)  : Cl P w K mg base CX0 1 "_law_words" ["text"] (spN K Rwords_in) := by
  obtain ⟨fd, F⟩ := T.f__law_words
  refine ⟨_, fd, T.g__law_words, F.kp, F.bindsN fun _ _ _ _ _ _ us hl => match us, hl with | [_], _ => rfl, F.ok sc__law_words (fun vs H Q E h => ?_) (fun cdv A outer s H vs Q E hr h => ?_)⟩
  · obtain ⟨ds, rs, hd, hR, _⟩ := h
    match ds, hR with
    | [_], _ => exact hd.len
  · obtain ⟨ds, rs, hd, hR, q⟩ := h
    match ds, vs, hd, hR with
    | [d0], [v0], .cons h0 .nil, hR =>
    refine ⟨_, PSs.nox (pss_cons (ps_par3 (i := 1) (j := 2) (l := 3) rfl sc__law_words.nd rfl rfl rfl (by decide) (by decide) (by decide) rfl rfl rfl (pa_cons pe_str (pa_cons (pe_lst pa_nil) (pa_cons pe_int pa_nil))) (by rfl))
  (pss_cons (ps_while PassesOwn.never (pt_cmpR op_lt (pv 3) (pe_callB call_len_str (by rfl) T.b_len PyProof.Rows.Boot.«len» (pa_cons (pv 0) pa_nil)) (nomark _)) (pss_cons (ps_set (i := 4) sc__law_words.nd rfl (by first | exact Or.inl rfl | exact Or.inr rfl) (pe_op op_add (pv 3) pe_int))
  (C8.pss_cut (ps_while PassesOwn.never (PW.pt (pw_and (pt_cmpR G.op_inS (pe_ix ix_str (pv 0) (pv 3) (fun _ _ => rfl)) (pv 1) rfl) (pw_and (pt_cmpR op_lt (pv 4) (pe_callB call_len_str (by rfl) T.b_len PyProof.Rows.Boot.«len» (pa_cons (pv 0) pa_nil)) (nomark _)) (pw_and1 (pt_cmpR G.op_inS (pe_ix ix_str (pv 0) (pv 4) (fun _ _ => rfl)) (pv 1) rfl))))) (pss_one (ps_set (i := 4) sc__law_words.nd rfl (by first | exact Or.inl rfl | exact Or.inr rfl) (pe_op op_add (pv 4) pe_int))))
  (C8.pss_cut (ps_if (pt_cmpR op_eq (pe_slice sl_str (pv 0) (po_some (pv 3)) (po_some (pe_op op_add (pv 3) pe_int))) pe_str (nomark _)) (pss_one (ps_set (i := 4) sc__law_words.nd rfl (by first | exact Or.inl rfl | exact Or.inr rfl) (pe_op op_add (pv 3) pe_int))) pss_nil)
  (pss_cons (ps_if (pt_cmpR G.op_notInS (pe_ix ix_str (pv 0) (pv 3) (fun _ _ => rfl)) pe_str rfl) (pss_one (ps_expr (pe_bm PySem.F.plainAttrs_list PySem.F.slot_list_append PySem.F.type_list_append mt_append (pv 2) (pa_cons (pe_tup (pa_cons (pe_slice sl_str (pv 0) (po_some (pv 3)) (po_some (pv 4))) (pa_cons (pv 3) pa_nil))) pa_nil)))) pss_nil)
  (pss_one (ps_set (i := 3) sc__law_words.nd rfl (by first | exact Or.inl rfl | exact Or.inr rfl) (pv 4))))))))
  (pss_one (ps_ret (pv 2))))), ?_⟩
    obtain ⟨l, hl, rfl, rfl⟩ := hR
    refine s_par3N (K := K) ed_s (en_lst ea_nil (by decide)) ed_i fun vs0 F vs w H' s hs0 hn hp hvs hw => ?_
    obtain rfl := dpI hw
    obtain rfl := dpS hs0
    cases hvs
    refine s_while (W := fun m σ' H1 => ∃ (a : Nat) (acc : List (List Nat × Nat)) (us : List V) (x3 : Option V), σ' = [some v0, some (.str "abcdefghijklmnopqrstuvwxyz0123456789"), some (.ref F), some (.int (a : Int)), x3] ∧ Same H H1 ∧ H1 F = some (.lst us) ∧ DpAll K H1 us (acc.map wordD) ∧
      acc ++ wordsF (l.length - a) a (l.drop a) = wordsOf l ∧ a ≤ l.length ∧ acc.length ≤ a ∧ m = l.length - a) (m0 := l.length)
      ⟨0, [], [], none, rfl, s, hp, .nil, by simp [wordsOf], Nat.zero_le _, Nat.le_refl _, rfl⟩ ?_
    rintro m σ' H1 ⟨a, acc, us, x3, rfl, s1, hF, hus, hws, hal, hacc, rfl⟩
    refine ⟨_, et_test (K := K) (ed_lt (ed_vi rfl) (ed_lenS (ed_var (dp_same s1 _ _ h0)) (by rw [S_len]; omega))), fun H2 s2 => ⟨fun hb => ?_, fun hb => ?_⟩⟩
    · have hb := of_decide_eq_true hb
      rw [S_len] at hb
      obtain ⟨c, r, hcr⟩ : ∃ c r, l.drop a = c :: r := ⟨_, _, List.drop_eq_getElem_cons (by omega)⟩
      obtain ⟨hc, ha, hr, hlen⟩ := at_of hcr
      have hd2 : Dp K H2 v0 (.str (S l)) := dp_same (s1.trans s2) _ _ h0
      have hsz : l.length ≤ 100000 := by omega
      refine s_set (K := K) (ed_add (ed_vi rfl) ed_i) fun v H4 s24 hv => ?_
      obtain rfl := dpI hv
      have hd4 : Dp K H4 v0 (.str (S l)) := dp_same s24 _ _ hd2
      refine ⟨fun σ5 H5 => σ5 = [some v0, some (.str "abcdefghijklmnopqrstuvwxyz0123456789"), some (.ref F), some (.int (a : Int)), some (.int ((a + 1 + (if isRun c then runN r else 0) : Nat) : Int))] ∧ Same H4 H5, ?_, ?_⟩
      · by_cases hrun : isRun c = true
        · rw [if_pos hrun]
          refine s_while (W := fun m σ' H6 => ∃ k : Nat, σ' = [some v0, some (.str "abcdefghijklmnopqrstuvwxyz0123456789"), some (.ref F), some (.int (a : Int)), some (.int ((a + 1 + k : Nat) : Int))] ∧ Same H4 H6 ∧ runN r = k + runN (r.drop k) ∧ m = r.length - k ∧ k ≤ r.length) (m0 := r.length) ⟨0, rfl, Same.refl _, by simp, rfl, Nat.zero_le _⟩ ?_
          rintro m σ' H6 ⟨k, rfl, s6, hk, rfl, hkl⟩
          have hd6 : Dp K H6 v0 (.str (S l)) := dp_same s6 _ _ hd4
          have hdrop : l.drop (a + 1 + k) = r.drop k := by rw [← hr, List.drop_drop]
          have t1 : EvT _ [some v0, some (.str "abcdefghijklmnopqrstuvwxyz0123456789"), some (.ref F), some (.int (a : Int)), some (.int ((a + 1 + k : Nat) : Int))] H6 (isRun c) := et_test ((ed_inS (K := K) (ed_sign (ed_var (i := 0) hd6) (ed_vi (i := 3) rfl) hsz hc) (ed_var (i := 1) (.str _))).to (congrArg PyData.bool (smallR c)))
          cases hrk : r.drop k with
          | nil =>
            have hkl2 : r.length ≤ k := by
              have := congrArg List.length hrk
              simp at this; omega
            refine ⟨false, et_andT t1 hrun (et_andF (et_test (ed_lt (ed_vi rfl) (ed_lenS (ed_var hd6) (by rw [S_len]; omega)))) (by rw [S_len]; simp; omega)), fun H7 s7 => ⟨fun z => (nomatch z), fun _ => ?_⟩⟩
            dsimp only
            refine ⟨?_, s6.trans s7⟩
            rw [hrk] at hk
            simp only [runN, Nat.add_zero] at hk
            rw [hk]
          | cons c2 r2 =>
            rw [hrk] at hdrop
            obtain ⟨hc2, ha2, hr2, hlen2⟩ := at_of hdrop
            refine ⟨_, et_andT t1 hrun (et_andT (et_test (ed_lt (ed_vi rfl) (ed_lenS (ed_var hd6) (by rw [S_len]; omega)))) (by rw [S_len]; simp; omega) (et_test ((ed_inS (ed_sign (ed_var hd6) (ed_vi rfl) hsz hc2) (ed_var (.str _))).to (congrArg PyData.bool (smallR c2))))), fun H7 s7 => ⟨fun hrun2 => ?_, fun hrun2 => ?_⟩⟩
            · refine s_set (K := K) (ed_add (ed_vi rfl) ed_i) fun v H8 s8 hv => ?_
              obtain rfl := dpI hv
              have hlt : k < r.length := by
                have := congrArg List.length hrk
                simp at this; omega
              refine ⟨r.length - (k + 1), by omega, k + 1, ?_, (s6.trans s7).trans s8, ?_, rfl, hlt⟩
              · have : ((a + 1 + k : Nat) : Int) + 1 = ((a + 1 + (k + 1) : Nat) : Int) := by omega
                rw [this]; rfl
              · rw [hk, hrk]
                have : r.drop (k + 1) = r2 := by rw [← List.drop_drop, hrk]; rfl
                rw [this]
                simp only [runN, hrun2, if_true]
                omega
            · dsimp only
              refine ⟨?_, s6.trans s7⟩
              rw [hrk] at hk
              simp only [runN, hrun2] at hk
              rw [hk]
              simp only [Bool.false_eq_true, if_false, Nat.add_zero]
        · have hrun : isRun c = false := by simpa using hrun
          rw [hrun]
          simp only [Bool.false_eq_true, if_false, Nat.add_zero]
          refine s_while (W := fun m σ' H6 => σ' = [some v0, some (.str "abcdefghijklmnopqrstuvwxyz0123456789"), some (.ref F), some (.int (a : Int)), some (.int ((a + 1 : Nat) : Int))] ∧ Same H4 H6) (m0 := 0) ⟨rfl, Same.refl _⟩ ?_
          rintro m σ' H6 ⟨rfl, s6⟩
          have hd6 : Dp K H6 v0 (.str (S l)) := dp_same s6 _ _ hd4
          exact ⟨false, et_andF (et_test ((ed_inS (K := K) (ed_sign (ed_var (i := 0) hd6) (ed_vi (i := 3) rfl) hsz hc) (ed_var (i := 1) (.str _))).to (congrArg PyData.bool (smallR c)))) hrun, fun H7 s7 => ⟨fun z => (nomatch z), fun _ => ⟨rfl, s6.trans s7⟩⟩⟩
      · rintro σ5 H5 ⟨rfl, s5⟩
        refine ⟨fun σ5 H6 => σ5 = [some v0, some (.str "abcdefghijklmnopqrstuvwxyz0123456789"), some (.ref F), some (.int (a : Int)), some (.int ((a + tok c r : Nat) : Int))] ∧ Same H4 H6, ?_, ?_⟩
        · have hd5 : Dp K H5 v0 (.str (S l)) := dp_same s5 _ _ hd4
          have harr : decide (S ((l.drop a).take (a + 2 - a)) = ("->" : Str)) = arrow c r := by
            rw [hcr, Nat.add_sub_cancel_left]
            have e : ("->" : Str) = S [45, 62] := by decide +kernel
            rw [e]
            unfold arrow
            rw [← Bool.decide_and, decide_eq_decide]
            constructor
            · intro h
              have h := S_inj h
              cases r with
              | nil => simp at h
              | cons d r => simp at h ⊢; exact h
            · rintro ⟨rfl, h2⟩
              cases r with
              | nil => simp at h2
              | cons d r => simp at h2; subst h2; rfl
          have noarr : isRun c = true → arrow c r = false := fun h => by
            unfold arrow
            have : c ≠ 45 := fun z => by rw [z] at h; revert h; decide +kernel
            rw [decide_eq_false this]; rfl
          refine s_if (et_test ((ed_eqS (K := K) (ed_cutS (ed_var hd5) (ed_vi rfl) ((ed_add (ed_vi rfl) ed_i).to (show _ = PyData.int ((a + 2 : Nat) : Int) from congrArg PyData.int (by omega))) hsz (by omega)) ed_s).to (congrArg PyData.bool harr))) (fun harr H6 s6 => ?_) (fun harr H6 s6 => ?_)
          · refine s_set (K := K) (ed_add (ed_vi rfl) ed_i) fun v H7 s7 hv => ?_
            obtain rfl := dpI hv
            refine ⟨?_, (s5.trans s6).trans s7⟩
            have hnr : isRun c = false := by
              cases e : isRun c with
              | false => rfl
              | true => rw [noarr e] at harr; cases harr
            have : tok c r = 2 := by unfold tok; rw [hnr, harr]; rfl
            rw [this, show (a : Int) + 2 = ((a + 2 : Nat) : Int) by omega]; rfl
          · refine ⟨?_, s5.trans s6⟩
            have : tok c r = 1 + (if isRun c then runN r else 0) := by
              unfold tok
              split
              · omega
              · rw [harr]; rfl
            rw [this, Nat.add_assoc]
        · rintro σ5 H5 ⟨rfl, s5⟩
          have hd5 : Dp K H5 v0 (.str (S l)) := dp_same s5 _ _ hd4
          have s25 := s24.trans s5
          have hF5 := (s2.trans s25) _ _ hF
          have hus5 := dps_same (s2.trans s25) _ _ hus
          have hS5 : Same H H5 := (s1.trans s2).trans s25
          have htk := tok_le c r
          have htp := tok_pos c r
          have hstep : wordsF (l.length - a) a (l.drop a) = if isBl c then wordsF (l.length - (a + tok c r)) (a + tok c r) (l.drop (a + tok c r)) else ((l.drop a).take (tok c r), a) :: wordsF (l.length - (a + tok c r)) (a + tok c r) (l.drop (a + tok c r)) := by
            have e : l.length - a = (l.length - a - 1) + 1 := by omega
            rw [e, hcr]
            simp only [wordsF]
            have e2 : (c :: r).drop (tok c r) = l.drop (a + tok c r) := by rw [← hcr, List.drop_drop]
            rw [e2, wordsF_more (l.length - a - 1) (l.length - (a + tok c r)) _ _ (by simp; omega) (by simp)]
          have hul : us.length = acc.length := by rw [hus.len, List.length_map]
          refine s_if (et_test ((ed_notInS (K := K) (ed_sign (ed_var hd5) (ed_vi rfl) hsz hc) ed_s).to (congrArg (fun b : Bool => PyData.bool (!b)) (inBlanks c)))) (fun hbl H6 s6 => ?_) (fun hbl H6 s6 => ?_)
          · have hbl : isBl c = false := by simpa using hbl
            rw [hbl] at hstep
            refine s_append (K := K) (us := us) rfl (s6 _ _ hF5) (d := wordD ((l.drop a).take (tok c r), a)) ((ed_tup (ea_cons (ed_cutS (ed_var (dp_same s6 _ _ hd5)) (ed_vi rfl) (ed_vi rfl) hsz (by omega)) (ea_cons (ed_vi rfl) ea_nil)) (by simp)).to (by rw [Nat.add_sub_cancel_left]; rfl)) (by omega) fun v H7 s7 hF7 hv => ?_
            have hk : Kt H7 (upd H7 F (.lst (us ++ [v]))) := Kt.rfl'.lst hF7
            refine s_set (K := K) (ed_vi rfl) fun v2 H8 s8 hv2 => ?_
            obtain rfl := dpI hv2
            refine ⟨_, ?_, a + tok c r, acc ++ [((l.drop a).take (tok c r), a)], us ++ [v], _, rfl, ((hS5.trans s6).trans s7).own hn |>.trans s8, s8 _ _ upd_same, ?_, ?_, by omega, by simp; omega, rfl⟩
            · omega
            · rw [List.map_append]
              exact dps_same s8 _ _ ((dps_kt hk _ _ (wordD_tt _) (dps_same (s6.trans s7) _ _ hus5)).snoc (dp_kt hk _ _ rfl hv))
            · rw [← hws, hstep]
              simp
          · have hbl : isBl c = true := by simpa using hbl
            rw [hbl] at hstep
            refine s_set (K := K) (ed_vi rfl) fun v2 H8 s8 hv2 => ?_
            obtain rfl := dpI hv2
            refine ⟨_, ?_, a + tok c r, acc, us, _, rfl, (hS5.trans s6).trans s8, (s6.trans s8) _ _ hF5, dps_same (s6.trans s8) _ _ hus5, ?_, by omega, by omega, rfl⟩
            · omega
            · rw [← hws, hstep]
              rfl
    · dsimp only
      have hb := of_decide_eq_false hb
      rw [S_len] at hb
      have e : a = l.length := by omega
      subst e
      have hacc2 : acc = wordsOf l := by
        rw [← hws, List.drop_length, Nat.sub_self]
        simp [wordsF]
      refine ⟨.ref F, rfl, ?_⟩
      exact q F us H2 (s1.trans s2) hn (s2 _ _ hF) (by rw [← hacc2]; exact dps_same s2 _ _ hus)
end
end G


set_option Elab.async false
set_option linter.all false
set_option maxRecDepth 100000
set_option maxHeartbeats 4000000
namespace G
open PySem PySem.Spec PyProof.Rows L2
/-! ### loose texts -/
theorem Toks.blanks {ws : List (List Nat)} : ∀ {b cs : List Nat}, b.all isBl = true → Toks ws cs → Toks ws (b ++ cs)
  | [], _, _, h => h
  | c :: b, cs, hb, h => by
    have hb : isBl c = true ∧ b.all isBl = true := by simpa using hb
    exact .blank hb.1 (Toks.blanks hb.2 h)
def GoodB (b : List Nat) : Prop := b ≠ [] ∧ b.all isBl = true
theorem GoodB.nr {b cs : List Nat} (h : GoodB b) : NoRun (b ++ cs) := by
  obtain ⟨h1, h2⟩ := h
  cases b with
  | nil => exact absurd rfl h1
  | cons c b =>
    have h2 : isBl c = true ∧ b.all isBl = true := by simpa using h2
    exact nr_cons (blank_not_run h2.1)
theorem GoodB.na {b cs : List Nat} {c : Nat} (h : GoodB b) : G.arrow c (b ++ cs) = false := by
  obtain ⟨h1, h2⟩ := h
  cases b with
  | nil => exact absurd rfl h1
  | cons d b =>
    have h2 : isBl d = true ∧ b.all isBl = true := by simpa using h2
    unfold G.arrow
    have : d ≠ 62 := fun z => by rw [z] at h2; exact absurd h2.1 (by decide +kernel)
    have e : decide ((d :: b ++ cs).head? = some 62) = false := decide_eq_false fun z => this (Option.some.inj z)
    rw [e, Bool.and_false]
def looseL (ws bs : List (List Nat)) : List Nat := (List.zipWith (· ++ ·) ws bs).flatten
theorem Toks.loose {ws : List (List Nat)} {cs : List Nat} (h : Toks ws cs) : ∀ bs : List (List Nat), bs.length = ws.length → (∀ b ∈ bs, GoodB b) → Toks ws (looseL ws bs) := by
  induction h with
  | nil => intro bs hl _; exact .nil
  | blank hc h ih => exact ih
  | @run c w ws cs hc hw hn h ih =>
    intro bs hl hb
    cases bs with
    | nil => simp at hl
    | cons b bs =>
      have := ih bs (by simpa using hl) fun x hx => hb x (List.mem_cons_of_mem _ hx)
      have hg := hb b List.mem_cons_self
      have := Toks.run (cs := b ++ looseL ws bs) hc hw hg.nr (this.blanks hg.2)
      simpa [looseL] using this
  | @sign c ws cs hc hb2 ha h ih =>
    intro bs hl hb
    cases bs with
    | nil => simp at hl
    | cons b bs =>
      have := ih bs (by simpa using hl) fun x hx => hb x (List.mem_cons_of_mem _ hx)
      have hg := hb b List.mem_cons_self
      have := Toks.sign (cs := b ++ looseL ws bs) hc hb2 hg.na (this.blanks hg.2)
      simpa [looseL] using this
  | @arrow ws cs h ih =>
    intro bs hl hb
    cases bs with
    | nil => simp at hl
    | cons b bs =>
      have := ih bs (by simpa using hl) fun x hx => hb x (List.mem_cons_of_mem _ hx)
      have hg := hb b List.mem_cons_self
      have := Toks.arrow (cs := b ++ looseL ws bs) (this.blanks hg.2)
      simpa [looseL] using this
theorem looseL_snoc {ws bs : List (List Nat)} {w b : List Nat} (h : ws.length = bs.length) : looseL (ws ++ [w]) (bs ++ [b]) = looseL ws bs ++ w ++ b := by
  unfold looseL
  rw [List.zipWith_append h]
  simp
theorem wordsF_sum : ∀ (f at_ : Nat) (l : List Nat), ((wordsF f at_ l).map fun p => p.1.length).sum ≤ l.length
  | 0, _, _ => by simp [wordsF]
  | _ + 1, _, [] => by simp [wordsF]
  | f + 1, at_, c :: r => by
    have h := wordsF_sum f (at_ + tok c r) ((c :: r).drop (tok c r))
    have h2 : ((c :: r).drop (tok c r)).length = (c :: r).length - tok c r := List.length_drop
    have h3 : ((c :: r).take (tok c r)).length = min (tok c r) (c :: r).length := List.length_take
    simp only [wordsF]
    split
    · omega
    · simp only [List.map_cons, List.sum_cons]
      omega
/-! ### picks, and walks that draw -/
section
variable {K : PySem.W.Frag} {σ : L2.St} {H H' : Hp} {ta tb te tl : TE} {d e : PyData} {D : Ends} {j L : Addr}
theorem x_pick {ds : List PyData} {i n m : Nat} {E : XK} {Q : VK} (hk : EvN K tl σ H ds) (hj : Jg K H j L (n + 1)) (hv : σ[i]? = some (some (.ref j))) (hm : ds.length = m) (h1 : 1 ≤ m) (h2 : m ≤ 1000) (htt : tts ds = true)
    (q : ∀ v H' d, Mv j H H' → Jg K H' j L n → d ∈ ds → Dp K H' v d → Q v H') : tOp (rIxL K) tl (tCall (spTake K) [] E (tCons (tVar i) (tCons (tC (.int (m : Int))) tNil))) σ H Q := by
  refine hk H (Same.refl H) _ fun p us H1 s1 hp hl hus => ?_
  have hj1 := hj.same s1
  refine x_take hj1 hv h1 h2 ed_i fun H2 g m2 hj2 hg => ?_
  have hpj := (hj.there hp).1
  have hgd : ds[g]? = some (ds[g]'(by omega)) := List.getElem?_eq_getElem (by omega)
  obtain ⟨v, hv1, hv2⟩ := hus.get hgd
  have hmem : ds[g]'(by omega) ∈ ds := List.getElem_mem _
  exact ⟨p, us, (g : Int), v, rfl, rfl, sq_of (m2 _ _ hpj hl), atI_nat hv1, q v H2 _ ((Mv.of s1).trans m2) hj2 hmem (dp_kt (hj1.kt m2) _ _ (tts_mem htt hmem) hv2)⟩
theorem ej_listN {n : Nat} {xs : List PyData} (h : EvN K te σ H xs) (hj : Jg K H j L n) (htt : tts xs = true) : EvJ K j (iList K te) σ H xs := fun R q => h H (Same.refl H) _ fun p us H1 s1 hp hl hus => by
  have hpj := (hj.there hp).1
  exact ⟨p, rfl, ⟨us, sq_of hl⟩, q _ H1 s1
    { goes := fun i H2 hi s => by
        have : i < us.length := by rw [hus.len]; exact hi
        exact ⟨us, us[i], sq_of (s _ _ hpj hl), by simp [this]⟩
      stops := fun H2 s => ⟨us, sq_of (s _ _ hpj hl), by rw [hus.len]; exact Nat.le_refl _⟩
      yields := fun i H2 x H3 d hd s k y => by
        obtain ⟨e, y⟩ := y
        subst e
        have h1 := y us (sq_of (s _ _ hpj hl))
        obtain ⟨v, h2, h3⟩ := hus.get hd
        rw [h1] at h2
        cases h2
        exact ⟨rfl, dp_kt k d x (tts_mem htt (List.mem_of_getElem? hd)) h3⟩ }⟩
theorem s_forJ {wi : TI} {g : TG} {ts : TS} {xs : List PyData} (W : Nat → L2.St → Hp → Prop) (hi : EvJ K j wi σ H xs) (h0 : ∀ H', Same H H' → W 0 σ H') (hjug : ∀ i σ' H', W i σ' H' → ∃ n, Jg K H' j L n)
    (step : ∀ i x v σ' H1, xs[i]? = some x → W i σ' H1 → Dp K H1 v x → g v σ' H1 fun σ2 H2 => ts { D with nx := fun σ3 H3 => Mv j H1 H3 ∧ W (i + 1) σ3 H3, ct := fun σ3 H3 => Mv j H1 H3 ∧ W (i + 1) σ3 H3, bk := D.nx } σ2 H2) (fin : ∀ σ' H', W xs.length σ' H' → D.nx σ' H') :
    tFor wi g ts D σ H := by
  refine hi _ fun J H2 s2 w => ?_
  refine ⟨fun i m σ' H' => m = xs.length - i ∧ i ≤ xs.length ∧ Mv j H2 H' ∧ Kt H2 H' ∧ W i σ' H', ⟨xs.length, rfl, Nat.zero_le _, Mv.refl _ _, Kt.rfl', h0 _ s2⟩, ?_⟩
  rintro i m σ' H3 ⟨rfl, hil, m3, k3, hw⟩
  by_cases hlt : i < xs.length
  · refine .inr ⟨w.goes i H3 hlt m3, fun σ4 H4 => Mv j H3 H4 ∧ W (i + 1) σ4 H4, fun σ4 H4 ⟨a, b⟩ => ?_, fun x H4 y => ?_⟩
    · obtain ⟨n, hj⟩ := hjug _ _ _ hw
      exact ⟨xs.length - (i + 1), by omega, rfl, hlt, m3.trans a, k3.trans (hj.kt a), b⟩
    · obtain ⟨rfl, hxd⟩ := w.yields i H3 x H4 _ (List.getElem?_eq_getElem hlt) m3 k3 y
      exact step i _ x σ' H4 (List.getElem?_eq_getElem hlt) hw hxd
  · have e : i = xs.length := by omega
    subst e
    exact .inl ⟨w.stops H3 m3, fin _ _ hw⟩
end
def spLoose (K : PySem.W.Frag) : Sp := fun vs H Q _ => ∃ (j L : Addr) (m : Nat) (l : List Nat) (ws : List (List Nat)), vs = [.ref j, .str (S l)] ∧ l.length ≤ 12000 ∧ Toks ws l ∧ Jg K H j L (m + 1 + l.length) ∧
  ∀ H' l', Mv j H H' → Jg K H' j L m → Toks ws l' → l'.length ≤ 2 + 4 * l.length → Q (.str (S l')) H'
def blA : List PyData := [.str (S [32]), .str (S []), .str (S [10, 32])]
def blB : List PyData := [.str (S [32]), .str (S [10]), .str (S [32, 32]), .str (S [32, 10, 32])]
theorem blA_ok : ∀ d ∈ blA, ∃ b : List Nat, d = .str (S b) ∧ b.all isBl = true ∧ b.length ≤ 2 := by
  intro d hd
  simp only [blA, List.mem_cons, List.not_mem_nil, or_false] at hd
  rcases hd with rfl | rfl | rfl
  · exact ⟨_, rfl, by decide +kernel, by decide⟩
  · exact ⟨_, rfl, by decide +kernel, by decide⟩
  · exact ⟨_, rfl, by decide +kernel, by decide⟩
theorem blB_ok : ∀ d ∈ blB, ∃ b : List Nat, d = .str (S b) ∧ GoodB b ∧ b.length ≤ 3 := by
  intro d hd
  simp only [blB, List.mem_cons, List.not_mem_nil, or_false] at hd
  rcases hd with rfl | rfl | rfl | rfl
  · exact ⟨_, rfl, ⟨by decide, by decide +kernel⟩, by decide⟩
  · exact ⟨_, rfl, ⟨by decide, by decide +kernel⟩, by decide⟩
  · exact ⟨_, rfl, ⟨by decide, by decide +kernel⟩, by decide⟩
  · exact ⟨_, rfl, ⟨by decide, by decide +kernel⟩, by decide⟩
theorem bs1 : (" " : Str) = S [32] := by decide +kernel
theorem bs2 : ("" : Str) = S [] := by decide +kernel
theorem bs3 : ("\n " : Str) = S [10, 32] := by decide +kernel
theorem bs4 : ("\n" : Str) = S [10] := by decide +kernel
theorem bs5 : ("  " : Str) = S [32, 32] := by decide +kernel
theorem bs6 : (" \n " : Str) = S [32, 10, 32] := by decide +kernel
section
variable {P : Program} {w : World} {K : PySem.W.Frag} {mg : Str → Option Value} {base : Heap}
theorem sc__law_loose : FnScope ["jug", "text", "found", "word", "place"] ["jug", "text"] (defScope s__law_loose) := ⟨rfl, rfl, rfl, by decide +kernel, rfl, by decide +kernel, by decide +kernel⟩
theorem ok__law_loose (T : Tx K mg)  : Cl P w K mg base CX0 39 "_law_loose" ["jug", "text"] (spLoose K) := by
  obtain ⟨fd, F⟩ := T.f__law_loose
  refine ⟨_, fd, T.g__law_loose, F.kp, F.bindsN fun _ _ _ _ _ _ us hl => match us, hl with | [_, _], _ => rfl, F.ok sc__law_loose (fun vs H Q E h => ?_) (fun cdv A outer s H vs Q E hr h => ?_)⟩
  · obtain ⟨j, L, m, l, ws, rfl, _⟩ := h
    rfl
  · refine ⟨_, PSs.nox (pss_cons (ps_set (i := 2) sc__law_loose.nd rfl (by first | exact Or.inl rfl | exact Or.inr rfl) (pe_ix ix_list (pe_lst (pa_cons pe_str (pa_cons pe_str (pa_cons pe_str pa_nil)))) (G.pe_cl (ok__law_take T) hr (by decide) pass0 (pa_cons (pv 0) (pa_cons pe_int pa_nil))) (fun _ _ => rfl)))
  (pss_cons (ps_for PassesOwn.never rfl (pi_list (G.pe_cl (ok__law_words T) hr (by decide) pass0 (pa_cons (pv 1) pa_nil))) (pg_tup rfl (pgs_cons (pg_name (i := 3) sc__law_loose.nd rfl (by first | exact Or.inl rfl | exact Or.inr rfl)) (pgs_cons (pg_name (i := 4) sc__law_loose.nd rfl (by first | exact Or.inl rfl | exact Or.inr rfl)) pgs_nil))) (pss_one (ps_set (i := 2) sc__law_loose.nd rfl (by first | exact Or.inl rfl | exact Or.inr rfl) (pe_op op_add_str (pe_op op_add_str (pv 2) (pv 3)) (pe_ix ix_list (pe_lst (pa_cons pe_str (pa_cons pe_str (pa_cons pe_str (pa_cons pe_str pa_nil))))) (G.pe_cl (ok__law_take T) hr (by decide) pass0 (pa_cons (pv 0) (pa_cons pe_int pa_nil))) (fun _ _ => rfl))))))
  (pss_one (ps_ret (pv 2))))), ?_⟩
    obtain ⟨j, L, m, l, ws, rfl, hl, htk, hj, q⟩ := h
    have hws : (wordsOf l).map (·.1) = ws := htk.words'
    have hlen : (wordsOf l).length ≤ l.length := wordsF_len _ _ _
    have hsum : ((wordsOf l).map fun p => p.1.length).sum ≤ l.length := wordsF_sum _ _ _
    rw [show m + 1 + l.length = (m + l.length) + 1 by omega] at hj
    unfold tAsg tSeq
    refine x_pick (K := K) (ds := blA) (m := 3) (en_lst (ea_cons ((ed_s (n := " ")).to (congrArg _ bs1)) (ea_cons ((ed_s (n := "")).to (congrArg _ bs2)) (ea_cons ((ed_s (n := "\n ")).to (congrArg _ bs3)) ea_nil))) (by decide)) hj rfl rfl (by decide) (by decide) rfl fun v H1 d m1 hj1 hd hv => ?_
    obtain ⟨b0, rfl, hb0, hb0l⟩ := blA_ok d hd
    obtain rfl := dpS hv
    refine name_in ?_
    dsimp only
    refine s_forJ (K := K) (j := j) (xs := (wordsOf l).map wordD) (fun i σ' H' => ∃ (bs : List (List Nat)) (acc : List Nat) (x3 x4 : Option V), σ' = [some (.ref j), some (.str (S l)), some (.str (S acc)), x3, x4] ∧ acc = b0 ++ looseL (ws.take i) bs ∧ Mv j H H' ∧ Jg K H' j L (m + (l.length - i)) ∧ bs.length = i ∧ (∀ b ∈ bs, GoodB b) ∧ acc.length ≤ 2 + (((wordsOf l).take i).map fun p => p.1.length).sum + 3 * i)
      (ej_listN (en_call (ea_cons (ed_var (i := 1) (.str _)) ea_nil) ⟨l, by omega, rfl, rfl⟩) hj1 (wordD_tt _)) (fun H2 s2 => ⟨[], b0, none, none, rfl, by simp [looseL], m1.trans (Mv.of s2), (hj1.same s2).mono (by omega), rfl, fun b hb => (by cases hb), by simp; omega⟩) (fun i σ' H' ⟨_, _, _, _, _, _, _, h, _⟩ => ⟨_, h⟩) ?_ ?_
    · rintro i x v σ' H1 hx ⟨bs, acc, x3, x4, rfl, hacc, m1, hj1, hbs, hgood, hal⟩ hv
      rw [List.getElem?_map] at hx
      cases hp : (wordsOf l)[i]? with
      | none => rw [hp] at hx; cases hx
      | some p =>
        rw [hp] at hx
        obtain rfl := Option.some.inj hx
        obtain ⟨hil, hpe⟩ := List.getElem?_eq_some_iff.mp hp
        have hwl : ws.length = (wordsOf l).length := by rw [← hws, List.length_map]
        have hsp : ((wordsOf l).take (i + 1)).map (fun p => p.1.length) = ((wordsOf l).take i).map (fun p => p.1.length) ++ [p.1.length] := by rw [List.take_succ, hp]; simp
        have hwp : ws.take (i + 1) = ws.take i ++ [p.1] := by
          have : ws[i]? = some p.1 := by rw [← hws, List.getElem?_map, hp]; rfl
          rw [List.take_succ, this]; rfl
        have hsle : (((wordsOf l).take (i + 1)).map (fun p => p.1.length)).sum ≤ l.length := by
          have h1 : (((wordsOf l).take (i + 1)).map (fun p => p.1.length)).sum + (((wordsOf l).drop (i + 1)).map (fun p => p.1.length)).sum = ((wordsOf l).map fun p => p.1.length).sum := by
            rw [← List.sum_append, ← List.map_append, List.take_append_drop]
          omega
        have hsle2 := hsle
        rw [hsp, List.sum_append] at hsle2
        simp only [List.sum_cons, List.sum_nil] at hsle2
        refine g_pair hv fun w1 w2 e1 e2 => ?_
        refine op_in ?_
        refine (ed_catS (K := K) (σ := [some (.ref j), some (.str (S l)), some (.str (S acc)), some w1, some w2]) (a := acc) (b := p.1) (ed_var (i := 2) (.str _)) (ed_var (i := 3) e1) (by omega)) H1 (Same.refl H1) _ fun v2 H2 s2 hv2 => ?_
        have hj2 := hj1.same s2
        rw [show m + (l.length - i) = (m + (l.length - (i + 1))) + 1 by omega] at hj2
        refine x_pick (K := K) (ds := blB) (m := 4) (en_lst (ea_cons ((ed_s (n := " ")).to (congrArg _ bs1)) (ea_cons ((ed_s (n := "\n")).to (congrArg _ bs4)) (ea_cons ((ed_s (n := "  ")).to (congrArg _ bs5)) (ea_cons ((ed_s (n := " \n ")).to (congrArg _ bs6)) ea_nil)))) (by decide)) hj2 rfl rfl (by decide) (by decide) rfl fun v3 H3 d m3 hj3 hd hv3 => ?_
        obtain ⟨b, rfl, hb, hbl⟩ := blB_ok d hd
        refine ⟨S (acc ++ p.1), S b, dpS hv2, dpS hv3, sz_of (by rw [S_len, S_len, List.length_append]; omega), ?_⟩
        rw [S_cat]
        refine name_in ?_
        refine ⟨(Mv.of s2).trans m3, bs ++ [b], acc ++ p.1 ++ b, _, _, rfl, ?_, (m1.trans (Mv.of s2)).trans m3, hj3, by simp [hbs], fun b' hb' => ?_, ?_⟩
        · rw [hwp, looseL_snoc (by rw [List.length_take, hbs]; omega), hacc]
          simp
        · rcases List.mem_append.mp hb' with h | h
          · exact hgood _ h
          · obtain rfl := List.mem_singleton.mp h
            exact hb
        · rw [hsp, List.sum_append]
          simp only [List.length_append, List.sum_cons, List.sum_nil]
          omega
    · rintro σ' H2 ⟨bs, acc, x3, x4, rfl, hacc, m2, hj2, hbs, hgood, hal⟩
      rw [List.length_map] at hbs hacc hal hj2
      have hwl : ws.length = (wordsOf l).length := by rw [← hws, List.length_map]
      rw [← hwl, List.take_length] at hacc
      rw [List.take_length] at hal
      refine s_ret (K := K) (ed_var (i := 2) (.str _)) fun v H3 s3 hv => ?_
      obtain rfl := dpS hv
      refine q H3 acc (m2.trans (Mv.of s3)) ((hj2.same s3).mono (by omega)) ?_ (by omega)
      rw [hacc]
      exact Toks.blanks hb0 (htk.loose bs (by omega) hgood)
end
end G


set_option Elab.async false
set_option linter.all false
set_option maxRecDepth 100000
set_option maxHeartbeats 4000000
namespace G
open PySem PySem.Spec PyProof.Rows L2
def sdP : Nat → PyData → Prop
  | _, .int _ => True
  | _, .str s => PyData.strOk s = true
  | n + 1, .tuple ds => ds.length ≤ 100 ∧ ∀ d ∈ ds, sdP n d
  | _, _ => False
theorem kit2 {K : PySem.W.Frag} {t a b : Value} {x y : Bool} (h1 : PySem.W.kitOne K t a = some x) (h2 : PySem.W.kitOne K t b = some y) : PySem.W.kitAny K t [a, b] = some (x || y) := by
  unfold PySem.W.kitAny
  simp [h1, h2, PySem.W.kitAny]
  cases x <;> cases y <;> rfl
section
variable {K : PySem.W.Frag} {σ : L2.St} {H H' : Hp} {ta tb te tl : TE} {d e : PyData} {D : Ends}
theorem next_in (h : D.nx σ H) : tNext D σ H := h
theorem ed_isIS (ha : EvD K ta σ H d) : EvD K (tCB (rIsiT K) (tCons ta (tCons (tTup (tCons (tC (.ty "int")) (tCons (tC (.ty "str")) tNil))) tNil))) σ H (.bool (isI d || isS d)) := fun H1 s Q q => ha H1 s _ fun v H2 s2 hv => by
  refine ⟨by show 2 ≤ sizeLine; rw [sizeLine_eq]; omega, fun p hp => ?_⟩
  have s3 : Same H2 (upd H2 p (.tup [.ty "int", .ty "str"])) := (Same.refl H2).new hp
  refine ⟨v, p, [.ty "int", .ty "str"], .type (tyD d), [.type "int", .type "str"], isI d || isS d, rfl, upd_same, .cons (.ty _) (.cons (.ty _) .nil), dp_ty (dp_same s3 _ _ hv), ?_, q _ _ (s2.trans s3) (.bl _)⟩
  exact kit2 (kit_I d) (kit_S d)
end
def Rsame (N : Nat) : List PyData → PyData → Prop
  | [a, b], r => a = b ∧ (∃ n, N = n + 1 ∧ sdP n a) ∧ r = .bool true
  | _, _ => False
theorem sdP_shape {n : Nat} {d : PyData} (h : sdP n d) (ht : isT d = false) : SeqAt.shaped d = true ∧ PyData.eqv d d = true ∧ (isI d || isS d) = true ∧ isN d = false := by
  cases d with
  | int i => exact ⟨shaped_of rfl (by simp [PyData.depth]), by simp [PyData.eqv], rfl, rfl⟩
  | str x => exact ⟨shaped_of (by cases n <;> simpa [PyData.canLay0, sdP] using h) (by simp [PyData.depth]), by simp [PyData.eqv], rfl, rfl⟩
  | tuple ds => cases ht
  | none => cases n <;> exact h.elim
  | bool b => cases n <;> exact h.elim
  | list ds => cases n <;> exact h.elim
  | dict kv => cases n <;> exact h.elim
section
variable {P : Program} {w : World} {K : PySem.W.Frag} {mg : Str → Option Value} {base : Heap}
theorem sc__law_same : FnScope ["found", "due", "k"] ["found", "due"] (defScope s__law_same) := ⟨rfl, rfl, rfl, by decide +kernel, rfl, by decide +kernel, by decide +kernel⟩
theorem ok__law_same (T : Tx K mg) (n : Nat) (ih : Cl P w K mg base CX0 (40 + n) "_law_same" ["found", "due"] (spD K (Rsame n)))  : Cl P w K mg base CX0 (40 + n + 1) "_law_same" ["found", "due"] (spD K (Rsame (n + 1))) := by
  obtain ⟨fd, F⟩ := T.f__law_same
  refine ⟨_, fd, T.g__law_same, F.kp, F.bindsN fun _ _ _ _ _ _ us hl => match us, hl with | [_, _], _ => rfl, F.ok sc__law_same (fun vs H Q E h => ?_) (fun cdv A outer s H vs Q E hr h => ?_)⟩
  · obtain ⟨ds, r, hd, hR, _⟩ := h
    match ds, hR with
    | [_, _], _ => exact hd.len
  · obtain ⟨ds, r, hd, hR, q⟩ := h
    match ds, vs, hd, hR with
    | [d0, d1], [v0, v1], .cons h0 (.cons h1 .nil), hR =>
    refine ⟨_, PSs.nox (pss_cons (ps_if (PW.pt (pw_or (pt_cmpR op_isN (pv 1) pe_non (nomark _)) (pw_or1 (pt_cmpR op_isN (pv 0) pe_non (nomark _))))) (pss_one (ps_ret (pe_and (pe_cmpR op_isN (pv 0) pe_non (nomark _)) (pe_one (pe_cmpR op_isN (pv 1) pe_non (nomark _)))))) pss_nil)
  (pss_cons (ps_if (pt_val (pe_callB call_isi (by rfl) T.b_isinstance PyProof.Rows.Boot.«isinstance» (pa_cons (pv 1) (pa_cons (pe_bltn (v := .ty "tuple") (by rfl) T.b_tuple PyProof.Rows.Boot.«tuple» rfl) pa_nil)))) (pss_cons (ps_if (PW.pt (pw_or (pt_not (pt_val (pe_callB call_isi (by rfl) T.b_isinstance PyProof.Rows.Boot.«isinstance» (pa_cons (pv 0) (pa_cons (pe_bltn (v := .ty "tuple") (by rfl) T.b_tuple PyProof.Rows.Boot.«tuple» rfl) pa_nil))))) (pw_or1 (pt_cmpR op_ne (pe_callB call_len_seq (by rfl) T.b_len PyProof.Rows.Boot.«len» (pa_cons (pv 0) pa_nil)) (pe_callB call_len_seq (by rfl) T.b_len PyProof.Rows.Boot.«len» (pa_cons (pv 1) pa_nil)) (nomark _))))) (pss_one (ps_ret pe_bl)) pss_nil)
  (pss_one (ps_ret (pe_cmpR (op_eqD hr.units) (pe_lc (own := [("k", 2)]) (g := (gName 2)) rfl sc__law_same.nd (pi_range1 (by rfl) T.b_range (pa_cons (pe_callB call_len_seq (by rfl) T.b_len PyProof.Rows.Boot.«len» (pa_cons (pv 1) pa_nil)) pa_nil)) (blkOk_by (own := [("k", 2)]) (N := ["found", "due", "k"]) (sc := defScope s__law_same) (by decide +kernel)) (fun _ _ _ _ _ => (pg_name (i := 2) sc__law_same.nd rfl (by first | exact Or.inl rfl | exact Or.inr rfl))) (fun _ _ _ _ _ => pts_one (show PT _ _ (tNot (tB (tCall (spD K (Rsame n)) [] E0 (tCons (tOp (rIxT K) (tVar 0) (tVar 2)) (tCons (tOp (rIxT K) (tVar 1) (tVar 2)) tNil))))) from (pt_not (pt_val (G.pe_cl ih hr (by omega) pass0 (pa_cons (pe_ix ix_tup (pv 0) (pv 2) (fun _ _ => rfl)) (pa_cons (pe_ix ix_tup (pv 1) (pv 2) (fun _ _ => rfl)) pa_nil))))))) (fun _ _ _ _ _ => (pv 2))) (pe_lst pa_nil) (nomark _))))) pss_nil)
  (pss_cons (ps_if (PW.pt (pw_or (pt_cmpR op_ne (pe_callB call_isi (by rfl) T.b_isinstance PyProof.Rows.Boot.«isinstance» (pa_cons (pv 0) (pa_cons (pe_bltn (v := .ty "bool") (by rfl) T.b_bool PyProof.Rows.Boot.«bool» rfl) pa_nil))) (pe_callB call_isi (by rfl) T.b_isinstance PyProof.Rows.Boot.«isinstance» (pa_cons (pv 1) (pa_cons (pe_bltn (v := .ty "bool") (by rfl) T.b_bool PyProof.Rows.Boot.«bool» rfl) pa_nil))) (nomark _)) (pw_or1 (pt_cmpR op_ne (pe_callB call_isi (by rfl) T.b_isinstance PyProof.Rows.Boot.«isinstance» (pa_cons (pv 0) (pa_cons (pe_bltn (v := .ty "str") (by rfl) T.b_str PyProof.Rows.Boot.«str» rfl) pa_nil))) (pe_callB call_isi (by rfl) T.b_isinstance PyProof.Rows.Boot.«isinstance» (pa_cons (pv 1) (pa_cons (pe_bltn (v := .ty "str") (by rfl) T.b_str PyProof.Rows.Boot.«str» rfl) pa_nil))) (nomark _))))) (pss_one (ps_ret pe_bl)) pss_nil)
  (pss_one (ps_ret (pe_and (pe_callB call_isiT (by rfl) T.b_isinstance PyProof.Rows.Boot.«isinstance» (pa_cons (pv 0) (pa_cons (pe_tup (pa_cons (pe_bltn (v := .ty "int") (by rfl) T.b_int PyProof.Rows.Boot.«int» rfl) (pa_cons (pe_bltn (v := .ty "str") (by rfl) T.b_str PyProof.Rows.Boot.«str» rfl) pa_nil))) pa_nil))) (pe_one (pe_cmpR (op_eqD hr.units) (pv 0) (pv 1) (nomark _))))))))), ?_⟩
    obtain ⟨rfl, ⟨n', hn', hsd⟩, rfl⟩ := hR
    obtain rfl : n' = n := by omega
    cases ht : isT d0 with
    | false =>
      obtain ⟨hsh, heq, his, hno⟩ := sdP_shape hsd ht
      refine s_ifF (et_orF (et_test (ed_isN (ed_var h1))) hno (et_test (ed_isN (ed_var h0)))) hno fun H1 s1 => ?_
      have g0 := dp_same s1 _ _ h0
      have g1 := dp_same s1 _ _ h1
      refine s_ifF (et_B (ed_isi (K := K) (ed_var (i := 1) g1) (kit_T _))) ht fun H2 s2 => ?_
      have g0 := dp_same s2 _ _ g0
      have g1 := dp_same s2 _ _ g1
      refine s_ifF (et_orF (et_test (ed_neB (K := K) (ed_isi (ed_var (i := 0) g0) (kit_B _)) (ed_isi (ed_var (i := 1) g1) (kit_B _)))) (by simp) (et_test (ed_neB (K := K) (ed_isi (ed_var (i := 0) g0) (kit_S _)) (ed_isi (ed_var (i := 1) g1) (kit_S _))))) (by simp) fun H3 s3 => ?_
      have g0 := dp_same s3 _ _ g0
      have g1 := dp_same s3 _ _ g1
      refine s_ret (K := K) (ed_and (ed_isIS (ed_var g0)) fun _ => ed_eqD (ed_var g0) (ed_var g1) hsh hsh) fun v H4 s4 hv => q v H4 (((s1.trans s2).trans s3).trans s4) ?_
      rw [his, heq] at hv
      exact hv
    | true =>
      cases d0 with
      | tuple ds =>
        obtain ⟨m, rfl⟩ : ∃ m, n' = m + 1 := by
          cases n' with
          | zero => exact hsd.elim
          | succ m => exact ⟨m, rfl⟩
        obtain ⟨hdl, hds⟩ := hsd
        have hfe : ((List.range ds.length).filter (fun _ => false)).map (fun (i : Nat) => PyData.int (i : Int)) = [] := by
          rw [List.map_eq_nil_iff, List.filter_eq_nil_iff]
          exact fun _ _ h => nomatch h
        refine s_ifF (et_orF (et_test (ed_isN (ed_var h1))) rfl (et_test (ed_isN (ed_var h0)))) rfl fun H1 s1 => ?_
        have g0 := dp_same s1 _ _ h0
        have g1 := dp_same s1 _ _ h1
        refine s_ifT (et_B (ed_isi (K := K) (ed_var (i := 1) g1) (kit_T _))) rfl fun H2 s2 => ?_
        have g0 := dp_same s2 _ _ g0
        have g1 := dp_same s2 _ _ g1
        refine s_ifF (et_orF (et_not (et_B (ed_isi (K := K) (ed_var (i := 0) g0) (kit_T _)))) rfl (et_test (ed_neI (K := K) (ed_lenT (ed_var (i := 0) g0)) (ed_lenT (ed_var (i := 1) g1))))) (by simp) fun H3 s3 => ?_
        have g0 := dp_same s3 _ _ g0
        have g1 := dp_same s3 _ _ g1
        refine next_in ?_
        dsimp only
        refine s_ret (K := K) (ed_eqD (ed_ofN (en_lcP (List.range ds.length) (fun (i : Nat) => .int (i : Int)) (fun _ => false) (fun (i : Nat) => .int (i : Int)) ?_ (by rw [List.length_range]; omega) (fun _ _ _ => rfl) fun i hi v H4 s4 hv W hW => ?_)) (ed_ofN (en_lst ea_nil (by decide))) (by rw [hfe]; exact shaped_nilL) shaped_nilL) fun v H4 s4 hv => by
          rw [hfe] at hv
          exact q v H4 (((s1.trans s2).trans s3).trans s4) hv
        · exact ei_range (K := K) (ed_lenT (ed_var (i := 1) g1)) (by omega) (by omega)
        · have hil := List.mem_range.mp hi
          have hat : atI ds (i : Int) = some ds[i] := atI_nat (List.getElem?_eq_getElem hil)
          obtain rfl := dpI hv
          exact hW _ wipe_set1 (et_not (b := true) (et_B (K := K) (ed_call (ea_cons (ed_ixT (ed_var (i := 0) (dp_same s4 _ _ g0)) (ed_vi (i := 2) rfl) hat) (ea_cons (ed_ixT (ed_var (i := 1) (dp_same s4 _ _ g1)) (ed_vi (i := 2) rfl) hat) ea_nil)) ⟨rfl, ⟨m, rfl, hds _ (List.getElem_mem hil)⟩, rfl⟩))) fun z => nomatch z
      | _ => cases ht
theorem rec_law_same (T : Tx K mg) : ∀ n, Cl P w K mg base CX0 (40 + n) "_law_same" ["found", "due"] (spD K (Rsame n))
  | 0 => by
    have no : ∀ {vs H Q} {E : XK}, spD K (Rsame 0) vs H Q E → False := fun h => by
      obtain ⟨ds, r, _, hR, _⟩ := h
      match ds, hR with
      | [_, _], hR =>
        obtain ⟨_, ⟨n, h, _⟩, _⟩ := hR
        cases h
    obtain ⟨fd, F⟩ := T.f__law_same
    exact ⟨_, fd, T.g__law_same, F.kp, F.bindsN fun _ _ _ _ _ _ us hl => match us, hl with | [_, _], _ => rfl, F.ok sc__law_same (fun vs H Q E h => (no h).elim) (fun cdv A outer s H vs Q E hr h => (no h).elim)⟩
  | n + 1 => ok__law_same T n (rec_law_same T n)
theorem rt_law_same (T : Tx K mg) : Cl P w K mg base CX0 60 "_law_same" ["found", "due"] (spD K (Rsame 20)) := rec_law_same T 20
end
end G


set_option Elab.async false
set_option linter.all false
set_option maxRecDepth 100000
set_option maxHeartbeats 4000000
namespace G
open PySem PySem.Spec PyProof.Rows L2
/-- what is drawn -/
structure LMa (sg : Sg) (m : Ma) : Prop where
  st : m.st ≤ 4
  fm : m.mv.length ≤ 16
  fa : m.ac.length ≤ 2
  mo : ∀ x ∈ m.mv, MoOk sg m.st x
  am : Asc (m.mv.map moD)
  nm : m.mv.Nodup
  ac : ∀ q ∈ m.ac, q < m.st
  aa : Asc (nats m.ac)
  na : m.ac.Nodup
theorem LMa.ok {sg : Sg} {m : Ma} (h : LMa sg m) : MaOk sg m := ⟨by have := h.st; omega, by have := h.fm; omega, by have := h.fa; omega, h.mo, h.am, h.ac, h.aa⟩
theorem nodup_len {α : Type} [DecidableEq α] : ∀ {l m : List α}, l.Nodup → (∀ x ∈ l, x ∈ m) → l.length ≤ m.length
  | [], _, _, _ => Nat.zero_le _
  | a :: r, m, h, hs => by
    have ha := hs a List.mem_cons_self
    have h2 := List.nodup_cons.mp h
    have := nodup_len (m := m.erase a) h2.2 fun x hx => (List.mem_erase_of_ne (fun z => h2.1 (by rw [← z]; exact hx))).mpr (hs x (List.mem_cons_of_mem _ hx))
    rw [List.length_erase_of_mem ha] at this
    have : 0 < m.length := List.length_pos_of_mem ha
    simp only [List.length_cons]; omega
theorem lc_range {K : PySem.W.Frag} {σ : L2.St} {H : Hp} {te tb : TE} {g : TG} {t : TT} {vs : List Nat} {Q : VK} (h : te σ H fun v H1 => tLc (iRng1 (tCons (tC v) tNil)) g t tb vs σ H1 Q) : tLc (iRng1 (tCons te tNil)) g t tb vs σ H Q := h
theorem asg_in {te : TE} {g : TG} {D : Ends} {σ : L2.St} {H : Hp} (h : te σ H fun v H1 => g v σ H1 D.nx) : tAsg te g D σ H := h
theorem srt_in {K : PySem.W.Frag} {ta : TE} {σ : L2.St} {H : Hp} {Q : VK} (h : ta σ H fun x H1 => ∃ ds, Dp K H1 x (.list ds) ∧ ds.length < 64 ∧
  ((∃ ns : List Int, ds = ns.map .int) ∨ ((∀ d ∈ ds, (∃ y r, d = .tuple (y :: r)) ∧ kd 8 d = true) ∧ PySem.W.AllAlike ds)) ∧
  ∀ es p vs, IsSrt ds es → H1 p = none → DpAll K H1 vs es → Q (.ref p) (upd H1 p (.lst vs))) : tSortedSet K ta σ H Q := h
def spLMach (K : PySem.W.Frag) : Sp := fun vs H Q _ => ∃ (j L : Addr) (m : Nat) (sg : Sg) (vsg : V), vs = [.ref j, vsg, .int 4] ∧ SgOk sg ∧ sg.length ≤ 4 ∧ Jg K H j L (m + 60) ∧ Dp K H vsg (sigD sg) ∧
  ∀ v H' ma, Mv j H H' → Jg K H' j L m → LMa sg ma → Dp K H' v (maD ma) → Q v H'
theorem ints_of {st : Nat} : ∀ {ds : List PyData}, (∀ d ∈ ds, ∃ q : Nat, q < st ∧ d = .int (q : Int)) → ∃ l : List Nat, ds = nats l ∧ ∀ q ∈ l, q < st
  | [], _ => ⟨[], rfl, fun q hq => (by cases hq)⟩
  | d :: ds, h => by
    obtain ⟨q, hq, rfl⟩ := h d List.mem_cons_self
    obtain ⟨l, rfl, hl⟩ := ints_of fun z hz => h z (List.mem_cons_of_mem _ hz)
    exact ⟨q :: l, rfl, fun z hz => by
      rcases List.mem_cons.mp hz with rfl | hz
      · exact hq
      · exact hl z hz⟩
section
variable {P : Program} {w : World} {K : PySem.W.Frag} {mg : Str → Option Value} {base : Heap}
theorem sc__law_machine : FnScope ["jug", "signature", "most", "states", "moves", "f", "k", "one", "accepted"] ["jug", "signature", "most"] (defScope s__law_machine) := ⟨rfl, rfl, rfl, by decide +kernel, rfl, by decide +kernel, by decide +kernel⟩
theorem ok__law_machine (T : Tx K mg)  : Cl P w K mg base CX0 6 "_law_machine" ["jug", "signature", "most"] (spLMach K) := by
  obtain ⟨fd, F⟩ := T.f__law_machine
  refine ⟨_, fd, T.g__law_machine, F.kp, F.bindsN fun _ _ _ _ _ _ us hl => match us, hl with | [_, _, _], _ => rfl, F.ok sc__law_machine (fun vs H Q E h => ?_) (fun cdv A outer s H vs Q E hr h => ?_)⟩
  · obtain ⟨j, L, m, sg, vsg, rfl, _⟩ := h
    rfl
  · refine ⟨_, PSs.nox (pss_cons (ps_set (i := 3) sc__law_machine.nd rfl (by first | exact Or.inl rfl | exact Or.inr rfl) (pe_op op_add pe_int (G.pe_cl (ok__law_take T) hr (by decide) pass0 (pa_cons (pv 0) (pa_cons (pv 2) pa_nil)))))
  (pss_cons (ps_set (i := 4) sc__law_machine.nd rfl (by first | exact Or.inl rfl | exact Or.inr rfl) (pe_lst pa_nil))
  (pss_cons (ps_for PassesOwn.never rfl (pi_range1 (by rfl) T.b_range (pa_cons (pe_callB call_len_seq (by rfl) T.b_len PyProof.Rows.Boot.«len» (pa_cons (pv 1) pa_nil)) pa_nil)) (pg_name (i := 5) sc__law_machine.nd rfl (by first | exact Or.inl rfl | exact Or.inr rfl)) (pss_one (ps_for PassesOwn.never rfl (pi_range1 (by rfl) T.b_range (pa_cons (pe_op op_add (G.pe_cl (ok__law_take T) hr (by decide) pass0 (pa_cons (pv 0) (pa_cons pe_int pa_nil))) (pe_callTy call_int1 (by rfl) T.b_int PyProof.Rows.Boot.«int» (pa_cons (pe_cmpR op_eq (pe_ix ix_tup (pe_ix ix_tup (pv 1) (pv 5) (fun _ _ => rfl)) pe_int (fun _ _ => rfl)) pe_int (nomark _)) pa_nil))) pa_nil)) (pg_name (i := 6) sc__law_machine.nd rfl (by first | exact Or.inl rfl | exact Or.inr rfl)) (pss_one (ps_expr (pe_bm PySem.F.plainAttrs_list PySem.F.slot_list_append PySem.F.type_list_append mt_append (pv 4) (pa_cons (pe_tup (pa_cons (pv 5) (pa_cons (pe_callTy call_tuple_of (by rfl) T.b_tuple PyProof.Rows.Boot.«tuple» (pa_cons (pe_lc (own := [("one", 7)]) (g := (gName 7)) rfl sc__law_machine.nd (pi_range1 (by rfl) T.b_range (pa_cons (pe_ix ix_tup (pe_ix ix_tup (pv 1) (pv 5) (fun _ _ => rfl)) pe_int (fun _ _ => rfl)) pa_nil)) (blkOk_by (own := [("one", 7)]) (N := ["jug", "signature", "most", "states", "moves", "f", "k", "one", "accepted"]) (sc := defScope s__law_machine) (by decide +kernel)) (fun _ _ _ _ _ => (pg_name (i := 7) sc__law_machine.nd rfl (by first | exact Or.inl rfl | exact Or.inr rfl))) (fun _ _ _ _ _ => pts_nil) (fun _ _ _ _ _ => (show PE _ _ (tCall (spTake K) [] E0 (tCons (tVar 0) (tCons (tVar 3) tNil))) from (G.pe_cl (ok__law_take T) hr (by decide) pass0 (pa_cons (pv 0) (pa_cons (pv 3) pa_nil)))))) pa_nil)) (pa_cons (G.pe_cl (ok__law_take T) hr (by decide) pass0 (pa_cons (pv 0) (pa_cons (pv 3) pa_nil))) pa_nil)))) pa_nil)))))))
  (pss_cons (ps_set (i := 8) sc__law_machine.nd rfl (by first | exact Or.inl rfl | exact Or.inr rfl) (G.pe_sortedSet rfl (G.hu70 hr) (by rfl) T.b_sorted (by rfl) T.b_set (pe_lc (own := [("k", 6)]) (g := (gName 6)) rfl sc__law_machine.nd (pi_range1 (by rfl) T.b_range (pa_cons (G.pe_cl (ok__law_take T) hr (by decide) pass0 (pa_cons (pv 0) (pa_cons pe_int pa_nil))) pa_nil)) (blkOk_by (own := [("k", 6)]) (N := ["jug", "signature", "most", "states", "moves", "f", "k", "one", "accepted"]) (sc := defScope s__law_machine) (by decide +kernel)) (fun _ _ _ _ _ => (pg_name (i := 6) sc__law_machine.nd rfl (by first | exact Or.inl rfl | exact Or.inr rfl))) (fun _ _ _ _ _ => pts_nil) (fun _ _ _ _ _ => (show PE _ _ (tCall (spTake K) [] E0 (tCons (tVar 0) (tCons (tVar 3) tNil))) from (G.pe_cl (ok__law_take T) hr (by decide) pass0 (pa_cons (pv 0) (pa_cons (pv 3) pa_nil))))))))
  (pss_one (ps_ret (pe_tup (pa_cons (pv 3) (pa_cons (pe_callTy call_tuple_of (by rfl) T.b_tuple PyProof.Rows.Boot.«tuple» (pa_cons (G.pe_sortedSet rfl (G.hu70 hr) (by rfl) T.b_sorted (by rfl) T.b_set (pv 4)) pa_nil)) (pa_cons (pe_callTy call_tuple_of (by rfl) T.b_tuple PyProof.Rows.Boot.«tuple» (pa_cons (pv 8) pa_nil)) pa_nil)))))))))), ?_⟩
    obtain ⟨j, L, m, sg, vsg, rfl, hs, hf4, hj, hsg, q⟩ := h
    refine op_in ?_
    refine (ed_i (K := K) (n := 1)) H (Same.refl H) _ fun v1 H1 s1 hv1 => ?_
    obtain rfl := dpI hv1
    refine x_take (n := m + 59) (m := 4) (hj.same s1) rfl (by decide) (by decide) (ed_vi (i := 2) rfl) fun H2 g m2 hj2 hg => ?_
    refine ⟨1, (g : Int), rfl, rfl, ?_⟩
    refine name_in ?_
    have hg1 : ((1 : Int) + (g : Int)) = ((g + 1 : Nat) : Int) := by omega
    dsimp only [L2.start, List.set]
    rw [hg1]
    generalize hst : g + 1 = st
    have hst1 : 1 ≤ st := by omega
    have hst4 : st ≤ 4 := by omega
    have m02 : Mv j H H2 := (Mv.of s1).trans m2
    clear hg1 hst
    have hsg2 : Dp K H2 vsg (sigD sg) := dp_kt (hj.kt m02) _ _ (sigD_tt sg) hsg
    refine seq_in ?_
    refine s_setN (K := K) (en_lst ea_nil (by decide)) fun F us H3 s3 hF hFl hus => ?_
    cases hus
    obtain ⟨hFj, hFL⟩ := hj2.there hF
    have hj3 := hj2.same s3
    have m03 : Mv j H H3 := m02.trans (Mv.of s3)
    refine seq_in ?_
    refine s_forR (n := sg.length) (fun f σ' H' => ∃ (ms : List Mo) (us : List V) (x5 x6 x7 x8 : Option V), σ' = [some (.ref j), some vsg, some (.int 4), some (.int (st : Int)), some (.ref F), x5, x6, x7, x8] ∧ Mv j H2 H' ∧ Jg K H' j L (m + 4 + (sg.length - f) * 13) ∧ H' F = some (.lst us) ∧ DpAll K H' us (ms.map moD) ∧ (∀ x ∈ ms, MoOk sg st x) ∧ ms.length ≤ f * 4)
      ((ed_lenT (K := K) (ds := sg.map entD) (ed_var (dp_same s3 _ _ hsg2) rfl)).to (by simp)) (by omega) (fun H4 s4 => ⟨[], [], none, none, none, none, rfl, Mv.of (s3.trans s4), (hj3.same s4).mono (by omega), s4 _ _ hFl, .nil, (fun x (hx : x ∈ []) => (by cases hx)), by simp⟩) ?_ ?_
    · rintro f σ' H4 hf ⟨ms, us, x5, x6, x7, x8, rfl, m4, hj4, hF4, hus4, hmo, hml⟩
      obtain ⟨e, he⟩ : ∃ e, sg[f]? = some e := ⟨_, List.getElem?_eq_getElem hf⟩
      have har : e.2 ≤ 2 := hs.1.ar e (List.mem_of_getElem? he)
      have hj4 : Jg K H4 j L ((m + 4 + (sg.length - (f + 1)) * 13 + 12) + 1) := hj4.mono (by omega)
      have k34 := hj2.kt m4
      have hsg4 : Dp K H4 vsg (sigD sg) := dp_kt k34 _ _ (sigD_tt sg) hsg2
      dsimp only [List.set]
      refine s_forX (fun n i σ' H' => ∃ (ms : List Mo) (us : List V) (x6 x7 x8 : Option V), σ' = [some (.ref j), some vsg, some (.int 4), some (.int (st : Int)), some (.ref F), some (.int (f : Int)), x6, x7, x8] ∧ n ≤ 4 ∧ Mv j H2 H' ∧ Jg K H' j L (m + 4 + (sg.length - (f + 1)) * 13 + (4 - i) * 3) ∧ H' F = some (.lst us) ∧ DpAll K H' us (ms.map moD) ∧ (∀ x ∈ ms, MoOk sg st x) ∧ ms.length ≤ f * 4 + i) (fun Q q => ?_) ?_ ?_
      · refine op_in ?_
        refine x_take (n := m + 4 + (sg.length - (f + 1)) * 13 + 12) (m := 4) hj4 rfl (by decide) (by decide) ed_i fun H5 g5 m5 hj5 hg5 => ?_
        have hsg5 := dp_kt (hj4.kt m5) _ _ (sigD_tt sg) hsg4
        refine (ed_intB (K := K) (ed_eqI ((ed_ar (sg := sg) hsg5 (a := 1) (b := 5) rfl rfl he).to (by rw [arOf_at he])) ed_i)) H5 (Same.refl H5) _ fun v6 H6 s6 hv6 => ?_
        obtain rfl := dpI hv6
        have hn : ((g5 : Int) + (if decide ((e.2 : Int) = 0) = true then 1 else 0)) = ((g5 + (if e.2 = 0 then 1 else 0) : Nat) : Int) := by
          by_cases z : e.2 = 0
          · simp [z]
          · have : ¬ ((e.2 : Int) = 0) := by omega
            simp [z]
        refine ⟨(g5 : Int), _, rfl, rfl, ?_⟩
        dsimp only
        rw [hn]
        have k56 := (hj4.kt m5).trans (Same.kt s6)
        have m46 : Mv j H4 H6 := m5.trans (Mv.of s6)
        refine q _ _ (by split <;> omega) ⟨ms, us, x6, x7, x8, rfl, by split <;> omega, m4.trans m46, hj5.same s6 |>.mono (by omega), m46 _ _ hFj hF4, dps_kt k56 _ _ (mos_tt ms) hus4, hmo, by omega⟩
      · rintro n i σ' H5 hi ⟨ms, us, x6, x7, x8, rfl, hn4, m5, hj5, hF5, hus5, hmo, hml⟩
        dsimp only [List.set]
        have hj5 : Jg K H5 j L ((m + 4 + (sg.length - (f + 1)) * 13 + (4 - (i + 1)) * 3 + 1) + 2 * 1) := hj5.mono (by omega)
        have k35 := hj2.kt m5
        have hsg5 : Dp K H5 vsg (sigD sg) := dp_kt k35 _ _ (sigD_tt sg) hsg2
        refine ⟨_, rfl, lst_ty hF5, ?_⟩
        refine ⟨_, rfl, ?_⟩
        dsimp only [tCons, tCB, tNil]
        have hlen : (intsD ((e.2 : Int)).toNat).length = e.2 := by simp [intsD]
        have hj5' : Jg K H5 j L ((m + 4 + (sg.length - (f + 1)) * 13 + (4 - (i + 1)) * 3 + 1) + (intsD ((e.2 : Int)).toNat).length * 1) := hj5.mono (by rw [hlen]; omega)
        refine j_lc (K := K) (j := j) (L := L) (φ := fun _ d => ∃ q : Nat, q < st ∧ d = .int (q : Int)) hj5' (by rw [hlen]; omega) (fun _ d h => by obtain ⟨q, _, rfl⟩ := h; rfl) (ej_range ((ed_ar (σ := [some (.ref j), some vsg, some (.int 4), some (.int (st : Int)), some (.ref F), some (.int (f : Int)), some (.int (i : Int)), x7, x8]) (sg := sg) hsg5 (a := 1) (b := 5) rfl rfl he).to (by rw [arOf_at he])) (by omega) (by omega)) (fun i' x v H6 m' hx m6 hv hj6 W hW => ?_) fun pl ul ds H6 m6 hj6 hpl hpll hdp hdl hφ => ?_
        · refine hW _ wipe_set1 fun Q q => ?_
          exact x_take hj6 rfl hst1 (by omega) (ed_vi (K := K) rfl) fun H7 g7 m7 hj7 hg7 => q _ _ (.int (g7 : Int)) m7 hj7 (.int _) ⟨g7, hg7, rfl⟩
        · obtain ⟨fr, rfl, hfr⟩ := ints_of (st := st) (ds := ds) fun d hd => by
            obtain ⟨i', hi'⟩ := List.mem_iff_getElem?.mp hd
            exact hφ i' d hi'
          rw [hlen, nats_len] at hdl
          refine ⟨pl, ul, rfl, .inl ⟨sq_of hpll, fun t ht => ?_⟩⟩
          have s7 : Same H6 (upd H6 t (.tup ul)) := (Same.refl H6).new ht
          have dt : Dp K (upd H6 t (.tup ul)) (.ref t) (.tuple (nats fr)) := .tup (st_of upd_same) (dps_same s7 _ _ hdp)
          have hj7 := hj6.same s7
          have m57 : Mv j H5 (upd H6 t (.tup ul)) := m6.trans (Mv.of s7)
          generalize upd H6 t (.tup ul) = H7 at *
          refine x_take (n := m + 4 + (sg.length - (f + 1)) * 13 + (4 - (i + 1)) * 3) hj7 rfl hst1 (by omega) (ed_vi (K := K) (i := 3) rfl) fun H8 g8 m8 hj8 hg8 => ?_
          refine ⟨sz_of (by simp), fun pp hpp => ?_⟩
          have s9 : Same H8 (upd H8 pp (.tup [.int (f : Int), .ref t, .int (g8 : Int)])) := (Same.refl H8).new hpp
          have d9 : Dp K (upd H8 pp (.tup [.int (f : Int), .ref t, .int (g8 : Int)])) (.ref pp) (moD (f, fr, g8)) := .tup (st_of upd_same) (.cons (.int _) (.cons (dp_same s9 _ _ (dp_kt (hj7.kt m8) _ _ (by show tts _ = true; exact nats_tt _) dt)) (.cons (.int _) .nil)))
          have m59 : Mv j H5 (upd H8 pp (.tup [.int (f : Int), .ref t, .int (g8 : Int)])) := (m57.trans m8).trans (Mv.of s9)
          have hj9 := hj8.same s9
          generalize upd H8 pp (.tup [.int (f : Int), .ref t, .int (g8 : Int)]) = H9 at *
          have hF9 := m59 _ _ hFj hF5
          have k59 := hj5.kt m59
          have hus9 := dps_kt k59 _ _ (mos_tt ms) hus5
          refine ⟨F, us, .ref pp, rfl, rfl, hF9, sz_lt (by rw [hus9.len]; simp; omega), ?_⟩
          have hk : Kt H9 (upd H9 F (.lst (us ++ [.ref pp]))) := Kt.rfl'.lst hF9
          refine ⟨ms ++ [(f, fr, g8)], _, _, _, _, rfl, hn4, fun b o hb e => ?_, hj9.other hFj hFL, upd_same, ?_, fun x hx => ?_, by simp; omega⟩
          · rw [upd_ne (fun z => by rw [z, hF] at e; cases e)]; exact (m5.trans m59) b o hb e
          · rw [List.map_append]
            exact (dps_kt hk _ _ (mos_tt ms) hus9).snoc (dp_kt hk _ _ (moD_tt _) d9)
          · rcases List.mem_append.mp hx with hx | hx
            · exact hmo x hx
            · rw [List.mem_singleton.mp hx]
              exact ⟨⟨e.1, by show sg[f]? = some (e.1, fr.length); rw [he, hdl]⟩, by show fr.length ≤ 2; omega, hfr, hg8⟩
      · rintro n σ' H5 ⟨ms, us, x6, x7, x8, rfl, hn4, m5, hj5, hF5, hus5, hmo, hml⟩
        exact ⟨ms, us, _, _, _, _, rfl, m5, hj5.mono (by omega), hF5, hus5, hmo, by omega⟩
    · rintro σ' H4 ⟨ms, us, x5, x6, x7, x8, rfl, m4, hj4, hF4, hus4, hmo, hml⟩
      have hj4 : Jg K H4 j L (m + 4) := hj4.mono (by omega)
      have hml : ms.length ≤ 16 := by omega
      dsimp only
      refine seq_in ?_
      refine asg_in ?_
      refine srt_in ?_
      refine lc_range (K := K) ?_
      refine x_take (n := m + 3) (m := 3) hj4 rfl (by decide) (by decide) ed_i fun H5 g5 m5 hj5 hg5 => ?_
      have hlen : (intsD ((g5 : Int)).toNat).length = g5 := by simp [intsD]
      refine j_lc (K := K) (j := j) (L := L) (m := m) (c := 1) (φ := fun _ d => ∃ q : Nat, q < st ∧ d = .int (q : Int)) (hj5.mono (by rw [hlen]; omega)) (by rw [hlen]; omega) (fun _ d h => by obtain ⟨q, _, rfl⟩ := h; rfl) (ej_range ed_i (by omega) (by omega)) (fun i' x v H6 m' hx m6 hv hj6 W hW => ?_) fun pl ul ds H6 m6 hj6 hpl hpll hdp hdl hφ => ?_
      · refine hW _ wipe_set1 fun Q q => ?_
        exact x_take hj6 rfl hst1 (by omega) (ed_vi (K := K) rfl) fun H7 g7 m7 hj7 hg7 => q _ _ (.int (g7 : Int)) m7 hj7 (.int _) ⟨g7, hg7, rfl⟩
      · obtain ⟨al, rfl, hal⟩ := ints_of (st := st) (ds := ds) fun d hd => by
          obtain ⟨i', hi'⟩ := List.mem_iff_getElem?.mp hd
          exact hφ i' d hi'
        rw [hlen, nats_len] at hdl
        refine ⟨nats al, .lst (sq_of hpll) hdp, by rw [nats_len]; omega, .inl ⟨_, nats_eq al⟩, fun es pa us7 srt hpa hda => ?_⟩
        obtain ⟨acc, rfl, ascA, ndA, memA⟩ := srt_nats srt
        have s7 : Same H6 (upd H6 pa (.lst us7)) := (Same.refl H6).new hpa
        have hpal : (upd H6 pa (.lst us7)) pa = some (.lst us7) := upd_same
        have hda7 := dps_same s7 _ _ hda
        have hj7 := hj6.same s7
        have m47 : Mv j H4 (upd H6 pa (.lst us7)) := (m5.trans m6).trans (Mv.of s7)
        generalize upd H6 pa (.lst us7) = H7 at *
        have hF7 := m47 _ _ hFj hF4
        have hus7 := dps_kt (hj4.kt m47) _ _ (mos_tt ms) hus4
        refine name_in ?_
        dsimp only
        refine ret_in ?_
        dsimp only [List.set, tCons, tCB, tNil, tTup]
        refine ⟨_, rfl, ?_⟩
        refine ed_sortedSet (K := K) (ed_lstV (i := 4) rfl hF7 hus7) (by rw [List.length_map]; omega) (.inr ⟨fun d hd => ?_, mos_alike _⟩) fun es pA us8 H8 s8 srtA hpA _ hdA => ?_
        · obtain ⟨x, _, rfl⟩ := List.mem_map.mp hd
          exact ⟨⟨_, _, rfl⟩, moD_kd x⟩
        obtain ⟨mvL, rfl, ascM, ndM, memM⟩ := srt_mos srtA
        refine ⟨pA, us8, rfl, .inl ⟨sq_of hpA, fun tA htA => ?_⟩⟩
        have s9 : Same H8 (upd H8 tA (.tup us8)) := (Same.refl H8).new htA
        have dA : Dp K (upd H8 tA (.tup us8)) (.ref tA) (.tuple (mvL.map moD)) := .tup (st_of upd_same) (dps_same s9 _ _ hdA)
        have s79 := s8.trans s9
        generalize upd H8 tA (.tup us8) = H9 at s9 dA s79
        refine ⟨_, rfl, pa, us7, rfl, .inl ⟨sq_of (s79 _ _ hpal), fun tB htB => ?_⟩⟩
        have s10 : Same H9 (upd H9 tB (.tup us7)) := (Same.refl H9).new htB
        have dB : Dp K (upd H9 tB (.tup us7)) (.ref tB) (.tuple (nats acc)) := .tup (st_of upd_same) (dps_same (s79.trans s10) _ _ hda7)
        refine ⟨sz_of (by simp), fun p hp => ?_⟩
        have s11 : Same (upd H9 tB (.tup us7)) (upd (upd H9 tB (.tup us7)) p (.tup [.int (st : Int), .ref tA, .ref tB])) := (Same.refl _).new hp
        have lm : mvL.length ≤ ms.length := nodup_len ndM fun x hx => (memM x).mp hx
        have la : acc.length ≤ al.length := nodup_len ndA fun x hx => (memA x).mp hx
        refine q _ _ ⟨st, mvL, acc⟩ ((m02.trans m4).trans (m47.trans (Mv.of ((s79.trans s10).trans s11)))) (((hj7.same s79).same s10).same s11)
          ⟨hst4, Nat.le_trans lm hml, by show acc.length ≤ 2; omega, fun x hx => hmo x ((memM x).mp hx), ascM, ndM, fun x hx => hal x ((memA x).mp hx), ascA, ndA⟩ (.tup (st_of upd_same) (.cons (.int _) (.cons (dp_same (s10.trans s11) _ _ dA) (.cons (dp_same s11 _ _ dB) .nil))))
end
end G


set_option Elab.async false
set_option linter.all false
set_option maxRecDepth 100000
set_option maxHeartbeats 4000000
namespace G
open PySem PySem.Spec PyProof.Rows L2
section
variable {K : PySem.W.Frag} {σ : L2.St} {H H' : Hp} {ta tb te to : TE} {d : PyData} {D : Ends} {j : Addr}
/-! ### lists put together -/
theorem en_cat {xs ys : List PyData} (ha : EvN K ta σ H xs) (hb : EvN K tb σ H ys) (hl : xs.length + ys.length ≤ 1000) : EvN K (tOp rCat ta tb) σ H (xs ++ ys) := fun H1 s Q q =>
  ha H1 s _ fun p vs H2 s2 hp hpl hv => hb H2 (s.trans s2) _ fun r ws H3 s3 hr hrl hw => ⟨p, r, vs, ws, rfl, rfl, s3 _ _ hpl, hrl, by rw [hv.len, hw.len]; exact sz_of (by omega), fun t ht =>
    q t _ _ ((s2.trans s3).new ht) (back (s2.trans s3) ht) upd_same (dps_same ((Same.refl H3).new ht) _ _ (dps_app (dps_same s3 _ _ hv) hw))⟩
theorem en_rep {xs : List PyData} {b : Bool} (ha : EvN K ta σ H xs) (hb : EvD K tb σ H (.int (if b = true then 1 else 0))) (hl : xs.length ≤ 1000) : EvN K (tOp rRep ta tb) σ H (if b = true then xs else []) := fun H1 s Q q =>
  ha H1 s _ fun p vs H2 s2 hp hpl hv => hb H2 (s.trans s2) _ fun w H3 s3 hw => by
    have hw := dpI hw
    subst hw
    have hn : ((if b = true then (1 : Int) else 0)).toNat = if b = true then 1 else 0 := by cases b <;> rfl
    refine ⟨p, _, vs, rfl, rfl, s3 _ _ hpl, by cases b <;> decide, by cases b <;> decide, by rw [hn, hv.len]; cases b <;> simp <;> exact sz_of (by omega), fun t ht => ?_⟩
    refine q t _ _ ((s2.trans s3).new ht) (back (s2.trans s3) ht) upd_same ?_
    have k := dps_same ((Same.refl H3).new (o := .lst (List.replicate ((if b = true then (1 : Int) else 0)).toNat vs).flatten) ht) _ _ (dps_same s3 _ _ hv)
    rw [hn] at k ⊢
    cases b with
    | true => simpa using k
    | false => exact .nil
theorem ed_joinV {a : List Nat} {ys : List (List Nat)} (ho : EvD K to σ H (.str (S a))) (he : EvD K te σ H (.list (ys.map fun y => .str (S y)))) (hb : ∀ y ∈ ys, y.length ≤ 10000) (hn : ys.length ≤ 1000) (ha : a.length ≤ 10) :
    EvD K (tM1 (fun x xs H Q => ∃ a p, ∃ ys : List Str, x = .str a ∧ xs = [.ref p] ∧ (SqL K H p (ys.map V.str) ∨ SqT K H p (ys.map V.str)) ∧ (ys.map (·.length)).sum + ys.length * a.length ≤ 16777216 ∧ Q (.str (Txt.join a ys)) H) to te) σ H (.str (S (TL.joinL a ys))) := fun H1 s Q q => by
  have key : ∀ l : List (List Nat), (∀ y ∈ l, y.length ≤ 10000) → (l.map List.length).sum ≤ l.length * 10000 := by
    intro l
    induction l with
    | nil => intro _; simp
    | cons y l ih =>
      intro h
      have := ih fun z hz => h z (List.mem_cons_of_mem _ hz)
      have := h y List.mem_cons_self
      simp [Nat.succ_mul]; omega
  have hk := key ys hb
  have hm : ys.length * 10000 ≤ 1000 * 10000 := Nat.mul_le_mul_right _ hn
  have hm2 : ys.length * a.length ≤ 1000 * 10 := Nat.mul_le_mul hn ha
  refine ho H1 s _ fun x H2 s2 hx => ⟨⟨_, dpS hx⟩, he H2 (s.trans s2) _ fun v H3 s3 hv => ?_⟩
  cases hv with
  | @lst p vs _ hp hv =>
    refine ⟨S a, p, ys.map S, dpS hx, rfl, .inl ?_, ?_, ?_⟩
    · have hv : DpAll K H3 vs ((ys.map S).map .str) := by rw [List.map_map]; exact hv
      rw [← dps_strs hv]
      exact hp
    · rw [List.map_map, List.length_map, S_len]
      have : (ys.map ((·.length) ∘ S)) = ys.map List.length := List.map_congr_left fun y _ => S_len y
      rw [this]; omega
    · rw [SX.join_S]
      exact q _ H3 (s2.trans s3) (.str _)
/-! ### a loop that fills the list at j -/
theorem kt_lst {us : List V} (m : Mv j H H') (h : H j = some (.lst us)) : Kt H H' := fun b o t e => m b o (fun z => by subst z; rw [h] at e; cases e; exact t) e
theorem ej_tup {i : Nat} {v : V} {us : List V} {xs : List PyData} (hi : σ[i]? = some (some v)) (hv : Dp K H v (.tuple xs)) (htt : tts xs = true) (hj : H j = some (.lst us)) : EvJ K j (iTup K (tVar i)) σ H xs := fun R q => by
  obtain ⟨a, vs, rfl, hs, hvs⟩ := dp_tup hv
  have keep : ∀ H1, Mv j H H1 → SqT K H1 a vs := fun H1 m => kt_sqt (kt_lst m hj) hs
  exact ⟨_, hi, a, rfl, ⟨vs, hs⟩, q _ H (Same.refl H)
    { goes := fun i H1 hi s => by
        have : i < vs.length := by rw [hvs.len]; exact hi
        exact ⟨vs, vs[i], keep H1 s, by simp [this]⟩
      stops := fun H1 s => ⟨vs, keep H1 s, by rw [hvs.len]; exact Nat.le_refl _⟩
      yields := fun i H1 x H2 d hd s k y => by
        obtain ⟨e, y⟩ := y
        subst e
        have h1 := y vs (keep _ s)
        obtain ⟨v, h2, h3⟩ := hvs.get hd
        rw [h1] at h2
        cases h2
        exact ⟨rfl, dp_kt k d x (tts_mem htt (List.mem_of_getElem? hd)) h3⟩ }⟩
theorem s_forM {wi : TI} {g : TG} {ts : TS} {xs : List PyData} (W : Nat → L2.St → Hp → Prop) (hi : EvJ K j wi σ H xs) (h0 : ∀ H', Same H H' → W 0 σ H') (hlst : ∀ i σ' H', W i σ' H' → ∃ us, H' j = some (.lst us))
    (step : ∀ i x v σ' H1, xs[i]? = some x → W i σ' H1 → Dp K H1 v x → g v σ' H1 fun σ2 H2 => ts { D with nx := fun σ3 H3 => Mv j H1 H3 ∧ W (i + 1) σ3 H3, ct := fun σ3 H3 => Mv j H1 H3 ∧ W (i + 1) σ3 H3, bk := D.nx } σ2 H2) (fin : ∀ σ' H', W xs.length σ' H' → D.nx σ' H') :
    tFor wi g ts D σ H := by
  refine hi _ fun J H2 s2 w => ?_
  refine ⟨fun i m σ' H' => m = xs.length - i ∧ i ≤ xs.length ∧ Mv j H2 H' ∧ Kt H2 H' ∧ W i σ' H', ⟨xs.length, rfl, Nat.zero_le _, Mv.refl _ _, Kt.rfl', h0 _ s2⟩, ?_⟩
  rintro i m σ' H3 ⟨rfl, hil, m3, k3, hw⟩
  by_cases hlt : i < xs.length
  · refine .inr ⟨w.goes i H3 hlt m3, fun σ4 H4 => Mv j H3 H4 ∧ W (i + 1) σ4 H4, fun σ4 H4 ⟨a, b⟩ => ?_, fun x H4 y => ?_⟩
    · obtain ⟨us, hj⟩ := hlst _ _ _ hw
      exact ⟨xs.length - (i + 1), by omega, rfl, hlt, m3.trans a, k3.trans (kt_lst a hj), b⟩
    · obtain ⟨rfl, hxd⟩ := w.yields i H3 x H4 _ (List.getElem?_eq_getElem hlt) m3 k3 y
      exact step i _ x σ' H4 (List.getElem?_eq_getElem hlt) hw hxd
  · have e : i = xs.length := by omega
    subst e
    exact .inl ⟨w.stops H3 m3, fin _ _ hw⟩
end
/-! ### the signs of a text -/
def ascii (l : List Nat) : Bool := l.all fun c => decide (c < 128)
theorem ascii_app {a b : List Nat} : ascii (a ++ b) = (ascii a && ascii b) := List.all_append
theorem strOk_S {l : List Nat} (h : ascii l = true) : PyData.strOk (S l) = true := by
  unfold PyData.strOk
  rw [← Array.all_toList, List.all_eq_true]
  intro c hc
  have := of_decide_eq_true (List.all_eq_true.mp h c hc)
  exact decide_eq_true (by omega)
theorem numW_ascii {n : Nat} (h : n < 100) : ascii (numW n) = true := by
  have := (numW_ok n h).2.2.1
  unfold ascii
  rw [List.all_eq_true] at this ⊢
  intro c hc
  have := this c hc
  simp at this
  exact decide_eq_true (by omega)
theorem joinL_ascii {a : List Nat} (ha : ascii a = true) : ∀ {ys : List (List Nat)}, (∀ y ∈ ys, ascii y = true) → ascii (TL.joinL a ys) = true
  | [], _ => rfl
  | [y], h => by simpa [TL.joinL] using h y (by simp)
  | y :: z :: r, h => by
    have := joinL_ascii (ys := z :: r) ha fun x hx => h x (List.mem_cons_of_mem _ hx)
    have e : TL.joinL a (y :: z :: r) = y ++ a ++ TL.joinL a (z :: r) := by simp [TL.joinL]
    rw [e, ascii_app, ascii_app, h y List.mem_cons_self, ha, this]
    rfl
theorem low_ascii {l : List Nat} (h : lowL l = true) : ascii l = true := by
  unfold ascii
  rw [List.all_eq_true]
  intro c hc
  have h3 := List.all_eq_true.mp (low_run h).2.1 c hc
  have h4 : c ∈ smallL ++ digL := by
    unfold isRun isSm isDg at h3
    rw [Bool.or_eq_true, decide_eq_true_eq, decide_eq_true_eq] at h3
    exact List.mem_append.mpr h3
  exact decide_eq_true (run_small c h4)
theorem moT_ascii {sg : Sg} (hs : SgLike sg) {st : Nat} {m : Mo} (ok : MoOk sg st m) (h : st ≤ 99) : ascii (moT sg m) = true := by
  obtain ⟨x, hx⟩ := ok.sym
  have h1 : ascii (nameOf sg m.1) = true := by rw [nameOf_eq hx]; exact low_ascii (hs.low _ (List.mem_of_getElem? hx))
  have h2 : ascii (comT m.2.1) = true := joinL_ascii (by decide) fun y hy => by
    obtain ⟨q, hq, rfl⟩ := List.mem_map.mp hy
    exact numW_ascii (by have := ok.fr q hq; omega)
  have h3 := numW_ascii (n := m.2.2) (by have := ok.to; omega)
  unfold moT
  rw [ascii_app, ascii_app, ascii_app, h1, h3]
  split
  · rfl
  · rw [ascii_app, ascii_app, h2]; rfl
theorem strs_shaped {ys : List (List Nat)} (h : ∀ y ∈ ys, ascii y = true) : SeqAt.shaped (.list (ys.map fun y => .str (S y))) = true := shaped_list (n := 1) (fun d hd => by
  obtain ⟨y, hy, rfl⟩ := List.mem_map.mp hd
  exact ⟨by simp [PyData.canLay0, strOk_S (h y hy)], by simp [PyData.depth]⟩) (by decide)
end G


set_option Elab.async false
set_option linter.all false
set_option maxRecDepth 100000
set_option maxHeartbeats 4000000
namespace G
open PySem PySem.Spec PyProof.Rows L2
def RmaText : List PyData → PyData → Prop
  | [s, d], r => ∃ (sg : Sg) (m : Ma), s = sigD sg ∧ SgLike sg ∧ MaW sg m ∧ m.st ≤ 99 ∧ d = maD m ∧ r = .str (S (maT sg m))
  | _, _ => False
section
variable {P : Program} {w : World} {K : PySem.W.Frag} {mg : Str → Option Value} {base : Heap}
theorem sc__law_machine_text : FnScope ["signature", "machine", "states", "moves", "accepted", "rows", "f", "froms", "to", "inner", "q", "words"] ["signature", "machine"] (defScope s__law_machine_text) := ⟨rfl, rfl, rfl, by decide +kernel, rfl, by decide +kernel, by decide +kernel⟩
theorem ok__law_machine_text (T : Tx K mg)  : Cl P w K mg base CX0 3 "_law_machine_text" ["signature", "machine"] (spD K RmaText) := by
  obtain ⟨fd, F⟩ := T.f__law_machine_text
  refine ⟨_, fd, T.g__law_machine_text, F.kp, F.bindsN fun _ _ _ _ _ _ us hl => match us, hl with | [_, _], _ => rfl, F.ok sc__law_machine_text (fun vs H Q E h => ?_) (fun cdv A outer s H vs Q E hr h => ?_)⟩
  · obtain ⟨ds, r, hd, hR, _⟩ := h
    match ds, hR with
    | [_, _], _ => exact hd.len
  · obtain ⟨ds, r, hd, hR, q⟩ := h
    match ds, vs, hd, hR with
    | [d0, d1], [v0, v1], .cons h0 (.cons h1 .nil), hR =>
    refine ⟨_, PSs.nox (pss_cons (ps_asg (pv 1) (pg_tup rfl (pgs_cons (pg_name (i := 2) sc__law_machine_text.nd rfl (by first | exact Or.inl rfl | exact Or.inr rfl)) (pgs_cons (pg_name (i := 3) sc__law_machine_text.nd rfl (by first | exact Or.inl rfl | exact Or.inr rfl)) (pgs_cons (pg_name (i := 4) sc__law_machine_text.nd rfl (by first | exact Or.inl rfl | exact Or.inr rfl)) pgs_nil)))))
  (pss_cons (ps_set (i := 5) sc__law_machine_text.nd rfl (by first | exact Or.inl rfl | exact Or.inr rfl) (pe_lst pa_nil))
  (pss_cons (ps_for PassesOwn.never rfl (pi_tup (pv 3)) (pg_tup rfl (pgs_cons (pg_name (i := 6) sc__law_machine_text.nd rfl (by first | exact Or.inl rfl | exact Or.inr rfl)) (pgs_cons (pg_name (i := 7) sc__law_machine_text.nd rfl (by first | exact Or.inl rfl | exact Or.inr rfl)) (pgs_cons (pg_name (i := 8) sc__law_machine_text.nd rfl (by first | exact Or.inl rfl | exact Or.inr rfl)) pgs_nil)))) (pss_cons (ps_set (i := 9) sc__law_machine_text.nd rfl (by first | exact Or.inl rfl | exact Or.inr rfl) (pe_ifExp (pt_cmpR (op_neD hr.units) (pv 7) (pe_tup pa_nil) (nomark _)) (pe_op op_add_str (pe_op op_add_str pe_str (pe_join pe_str (pe_lc (own := [("q", 10)]) (g := (gName 10)) rfl sc__law_machine_text.nd (pi_tup (pv 7)) (blkOk_by (own := [("q", 10)]) (N := ["signature", "machine", "states", "moves", "accepted", "rows", "f", "froms", "to", "inner", "q", "words"]) (sc := defScope s__law_machine_text) (by decide +kernel)) (fun _ _ _ _ _ => (pg_name (i := 10) sc__law_machine_text.nd rfl (by first | exact Or.inl rfl | exact Or.inr rfl))) (fun _ _ _ _ _ => pts_nil) (fun _ _ _ _ _ => (pe_callTy call_str_int (by rfl) T.b_str PyProof.Rows.Boot.«str» (pa_cons (pv 10) pa_nil)))))) pe_str) pe_str))
  (pss_one (ps_expr (pe_bm PySem.F.plainAttrs_list PySem.F.slot_list_append PySem.F.type_list_append mt_append (pv 5) (pa_cons (pe_op op_add_str (pe_op op_add_str (pe_op op_add_str (pe_ix ix_tup (pe_ix ix_tup (pv 0) (pv 6) (fun _ _ => rfl)) pe_int (fun _ _ => rfl)) (pv 9)) pe_str) (pe_callTy call_str_int (by rfl) T.b_str PyProof.Rows.Boot.«str» (pa_cons (pv 8) pa_nil))) pa_nil))))))
  (pss_cons (ps_set (i := 11) sc__law_machine_text.nd rfl (by first | exact Or.inl rfl | exact Or.inr rfl) (pe_op op_cat (pe_op op_cat (pe_op op_cat (pe_lst (pa_cons (pe_op op_add_str (pe_callTy call_str_int (by rfl) T.b_str PyProof.Rows.Boot.«str» (pa_cons (pv 2) pa_nil)) pe_str) pa_nil)) (pe_op op_rep (pe_lst (pa_cons (pe_join pe_str (pv 5)) pa_nil)) (pe_callTy call_int1 (by rfl) T.b_int PyProof.Rows.Boot.«int» (pa_cons (pe_cmpR (op_neD hr.units) (pv 5) (pe_lst pa_nil) (nomark _)) pa_nil)))) (pe_lst (pa_cons pe_str pa_nil))) (pe_op op_rep (pe_lst (pa_cons (pe_join pe_str (pe_lc (own := [("q", 10)]) (g := (gName 10)) rfl sc__law_machine_text.nd (pi_tup (pv 4)) (blkOk_by (own := [("q", 10)]) (N := ["signature", "machine", "states", "moves", "accepted", "rows", "f", "froms", "to", "inner", "q", "words"]) (sc := defScope s__law_machine_text) (by decide +kernel)) (fun _ _ _ _ _ => (pg_name (i := 10) sc__law_machine_text.nd rfl (by first | exact Or.inl rfl | exact Or.inr rfl))) (fun _ _ _ _ _ => pts_nil) (fun _ _ _ _ _ => (pe_callTy call_str_int (by rfl) T.b_str PyProof.Rows.Boot.«str» (pa_cons (pv 10) pa_nil))))) pa_nil)) (pe_callTy call_int1 (by rfl) T.b_int PyProof.Rows.Boot.«int» (pa_cons (pe_cmpR (op_neD hr.units) (pv 4) (pe_tup pa_nil) (nomark _)) pa_nil)))))
  (pss_one (ps_ret (pe_join pe_str (pv 11)))))))), ?_⟩
    obtain ⟨sg, m, rfl, hs, ok, h99, rfl, rfl⟩ := hR
    have hst := ok.st
    have hfm := ok.fm
    have hfa := ok.fa
    have hac : ∀ q ∈ m.ac, q < 1000 := fun q hq => by have := ok.ac q hq; omega
    have hmvl := mvT_len hs ok.mo (by omega)
    have hacl := comT_len hac
    have hsl := numW_len (n := m.st) (by omega)
    refine (ed_var (K := K) (i := 1) h1 rfl) H (Same.refl H) _ fun v H1 s1 hv => g_trip hv fun v2 v3 v4 e2 e3 e4 => ?_
    have k0 := dp_same s1 _ _ h0
    refine s_setN (K := K) (en_lst ea_nil (by decide)) fun R us H2 s2 hR hRl hus => ?_
    cases hus
    have nR : H R = none := back s1 hR
    have k02 := dp_same s2 _ _ k0
    have e32 := dp_same s2 _ _ e3
    have e42 := dp_same s2 _ _ e4
    dsimp only [List.set]
    refine s_forM (K := K) (j := R) (xs := m.mv.map moD) (fun i σ' H' => ∃ (us : List V) (x6 x7 x8 x9 : Option V), σ' = [some v0, some v1, some v2, some v3, some v4, some (.ref R), x6, x7, x8, x9, none, none] ∧ Mv R H2 H' ∧ Kt H2 H' ∧ H' R = some (.lst us) ∧ DpAll K H' us ((m.mv.take i).map fun x => .str (S (moT sg x))))
      (ej_tup (i := 3) rfl e32 (mos_tt _) hRl) (fun H3 s3 => ⟨[], _, _, _, _, rfl, Mv.of s3, Kt.of s3, s3 _ _ hRl, .nil⟩) (fun i σ' H' ⟨us, _, _, _, _, _, _, _, h, _⟩ => ⟨us, h⟩) ?_ ?_
    · rintro i x v σ' H3 hx ⟨us, x6, x7, x8, x9, rfl, m3, k3, hl3, hus⟩ hv
      obtain ⟨y, hy, rfl⟩ : ∃ y, m.mv[i]? = some y ∧ moD y = x := by rw [List.getElem?_map] at hx; exact Option.map_eq_some_iff.mp hx
      have hym := List.mem_of_getElem? hy
      have oky := ok.mo y hym
      obtain ⟨e, he⟩ := oky.sym
      have hfew := oky.few
      have hfr : ∀ q ∈ y.2.1, q < 1000 := fun q hq => by have := oky.fr q hq; omega
      have hto : y.2.2 < 1000 := by have := oky.to; omega
      have hn := nameOf_eq he
      have hnl := nameOf_len hs he
      have hc := comT_len hfr
      have hnt := numW_len hto
      have hil : i < m.mv.length := (List.getElem?_eq_some_iff.mp hy).1
      refine g_trip hv fun w6 w7 w8 f6 f7 f8 => ?_
      have k03 := dp_kt k3 _ _ (sigD_tt sg) k02
      refine s_set (K := K) (d := .str (S (if y.2.1 = [] then [] else [40] ++ comT y.2.1 ++ [41]))) (ed_if (et_test (ed_neD (ed_var (i := 7) f7 rfl) (ed_tup ea_nil (by decide)) (nats_shaped _) shaped_nilT)) (fun hb => ?_) (fun hb => ?_)) fun v9 H4 s4 h9 => ?_
      · rw [eqv_nilT, nats_nil] at hb
        have hne : y.2.1 ≠ [] := by simpa using hb
        rw [if_neg hne]
        refine ed_catS (ed_catS ((ed_s (n := "(")).to (congrArg _ strQ)) (ed_comT ((ed_s (n := ", ")).to (congrArg _ strComma2)) (by omega) hfr ?_) (by simp; omega)) ((ed_s (n := ")")).to (congrArg _ strP)) (by simp; omega)
        exact en_lcM y.2.1 (fun q => .int (q : Int)) (fun q => .str (S (numW q))) (ei_tup (ed_var f7 rfl)) (by omega) (fun _ _ => rfl) fun q hq v H4 s4 hv W hW => hW _ wipe_set1 (ed_strI (ed_var hv rfl) (by have := hfr q hq; omega))
      · rw [eqv_nilT, nats_nil] at hb
        have hne : y.2.1 = [] := by simpa using hb
        rw [if_pos hne]
        exact (ed_s (n := "")).to (congrArg _ (by decide +kernel : ("" : Str) = S []))
      have hl4 := s4 _ _ hl3
      refine s_append (K := K) (i := 5) rfl hl4 (ed_catS (ed_catS (ed_catS (a := nameOf sg y.1) ((ed_ixT (ds := [.str e, .int ((y.2.1.length : Nat) : Int)]) (ed_ixT (ds := sg.map entD) (ed_var (i := 0) (dp_same s4 _ _ k03) rfl) (ed_var (i := 6) (dp_same s4 _ _ f6) rfl) (sig_at he)) ed_i at0).to (by rw [hn])) (ed_var (i := 9) h9 rfl) (by split <;> simp <;> omega)) ((ed_s (n := " -> ")).to (congrArg _ strArr)) (by split <;> simp <;> omega)) (ed_strI (ed_var (i := 8) (dp_same s4 _ _ f8) rfl) (by omega)) (by split <;> simp <;> omega)) (by rw [hus.len]; simp; omega) fun v H5 s5 h5 hv => ?_
      have hk : Kt H5 (upd H5 R (.lst (us ++ [v]))) := Kt.rfl'.lst h5
      have m35 : Mv R H3 (upd H5 R (.lst (us ++ [v]))) := (Mv.of (s4.trans s5)).trans (Mv.refl _ _).upd
      have k35 : Kt H3 (upd H5 R (.lst (us ++ [v]))) := (Kt.of (s4.trans s5)).trans hk
      refine ⟨m35, us ++ [v], _, _, _, _, rfl, m3.trans m35, k3.trans k35, upd_same, ?_⟩
      rw [List.take_succ, hy, List.map_append]
      refine (dps_kt k35 _ _ (tts_of fun d hd => by obtain ⟨p, _, rfl⟩ := List.mem_map.mp hd; rfl) hus).snoc (dp_kt hk _ _ rfl ?_)
      simpa [moT] using hv
    · rintro σ' H3 ⟨us, x6, x7, x8, x9, rfl, m3, k3, hl3, hus⟩
      rw [List.length_map, List.take_length] at hus
      have e23 := dp_kt k3 _ _ rfl (dp_same s2 _ _ e2)
      have e43 := dp_kt k3 _ _ (by show tts _ = true; exact nats_tt _) e42
      have s03 : Same H H3 := Mv.same0 (s1.trans s2) nR m3
      have hsh : SeqAt.shaped (.list ((m.mv.map (moT sg)).map fun y => .str (S y))) = true := strs_shaped fun y hy => by
        obtain ⟨x, hx, rfl⟩ := List.mem_map.mp hy
        exact moT_ascii hs (ok.mo x hx) h99
      rw [List.map_map] at hsh
      have hrows : ∀ {H' : Hp} {σ : L2.St}, Same H3 H' → σ[5]? = some (some (.ref R)) → EvD K (tVar 5) σ H' (.list (m.mv.map fun x => .str (S (moT sg x)))) := fun s hi => ed_lstV hi (s _ _ hl3) (dps_same s _ _ hus)
      dsimp only
      refine s_setN (K := K) (ds := (maP sg m).map fun y => .str (S y)) ?_ fun W ws H4 s4 hW hWl hws => ?_
      · have b1 : (!PyData.eqv (.list (m.mv.map fun x => .str (S (moT sg x)))) (.list [])) = !m.mv.isEmpty := by rw [eqv_nilL]; cases m.mv <;> rfl
        have b2 : (!PyData.eqv (.tuple (nats m.ac)) (.tuple [])) = !m.ac.isEmpty := by rw [eqv_nilT]; cases m.ac <;> rfl
        have ex : ∀ {te : TE} {σ : L2.St} {xs : List PyData}, EvN K te σ H3 xs → xs = (maP sg m).map (fun y => .str (S y)) → EvN K te σ H3 ((maP sg m).map fun y => .str (S y)) := fun h e => e ▸ h
        refine ex (en_cat (en_cat (en_cat (xs := [.str (S (numW m.st ++ [58]))]) (en_lst (ea_cons (ed_catS (b := [58]) (ed_strI (ed_var e23 rfl) (by omega)) ((ed_s (n := ":")).to (congrArg _ strColon)) (by simp; omega)) ea_nil) (by simp)) (en_rep (xs := [.str (S (mvT sg m.mv))]) (b := !m.mv.isEmpty) (en_lst (ea_cons (ed_joinV (ys := m.mv.map (moT sg)) ((ed_s (n := "; ")).to (congrArg _ strSemi2)) ?_ (fun y hy => ?_) (by simp; omega) (by decide)) ea_nil) (by simp)) (ed_intB ((ed_neD (hrows (Same.refl _) rfl) (ed_ofN (en_lst ea_nil (by decide))) hsh shaped_nilL).to (by rw [b1]))) (by simp)) (by cases m.mv <;> simp)) (ys := [.str (S [124])]) (en_lst (ea_cons ((ed_s (n := "|")).to (congrArg _ strBar)) ea_nil) (by simp)) (by cases m.mv <;> simp))
          (en_rep (xs := [.str (S (comT m.ac))]) (b := !m.ac.isEmpty) (en_lst (ea_cons (ed_comT ((ed_s (n := ", ")).to (congrArg _ strComma2)) (by omega) hac ?_) ea_nil) (by simp)) (ed_intB ((ed_neD (ed_var e43 rfl) (ed_tup ea_nil (by decide)) (nats_shaped _) shaped_nilT).to (by rw [b2]))) (by simp)) (by cases m.mv <;> cases m.ac <;> simp)) ?_
        · have := hrows (σ := [some v0, some v1, some v2, some v3, some v4, some (.ref R), x6, x7, x8, x9, none, none]) (Same.refl _) rfl
          rw [List.map_map]
          exact this
        · obtain ⟨x, hx, rfl⟩ := List.mem_map.mp hy
          have := moT_len hs (ok.mo x hx) (by omega)
          omega
        · exact en_lcM m.ac (fun q => .int (q : Int)) (fun q => .str (S (numW q))) (ei_tup (ed_var e43 rfl)) (by omega) (fun _ _ => rfl) fun q hq v H4 s4 hv W hW => hW _ wipe_set1 (ed_strI (ed_var hv rfl) (by have := hac q hq; omega))
        · unfold maP
          cases m.mv <;> cases m.ac <;> simp
      · refine s_ret (K := K) (d := .str (S (maT sg m))) (ed_joinV (ys := maP sg m) ((ed_s (n := " ")).to (congrArg _ strSp)) (ed_lstV rfl hWl hws) (fun y hy => ?_) ?_ (by decide)) fun v H5 s5 hv => q v H5 ((s03.trans s4).trans s5) hv
        · unfold maP at hy
          simp only [List.mem_append, List.mem_singleton] at hy
          rcases hy with ((rfl | hy) | rfl) | hy
          · simp; omega
          · split at hy
            · cases hy
            · rw [List.mem_singleton.mp hy]; omega
          · simp
          · split at hy
            · cases hy
            · rw [List.mem_singleton.mp hy]; omega
        · unfold maP
          split <;> split <;> simp
end
end G


set_option Elab.async false
set_option linter.all false
set_option maxRecDepth 100000
set_option maxHeartbeats 4000000
namespace G
open PySem PySem.Spec PyProof.Rows L2
theorem dps_erase {K : PySem.W.Frag} {H : Hp} : ∀ {vs : List V} {ds : List PyData} {k : Nat}, DpAll K H vs ds → DpAll K H (vs.eraseIdx k) (ds.eraseIdx k)
  | _, _, _, .nil => .nil
  | _, _, 0, .cons _ h => h
  | _, _, _ + 1, .cons a h => .cons a (dps_erase h)
theorem erase_perm {α : Type} : ∀ {l : List α} {k : Nat} (h : k < l.length), (l[k] :: l.eraseIdx k).Perm l
  | a :: l, 0, _ => .refl _
  | a :: l, k + 1, h => (List.Perm.swap a _ _).trans (List.Perm.cons a (erase_perm (l := l) (k := k) (by simpa using h)))
def spMix (K : PySem.W.Frag) : Sp := fun vs H Q _ => ∃ (j L : Addr) (m : Nat) (ds : List PyData) (vr : V), vs = [.ref j, vr] ∧ ds.length ≤ 60 ∧ tts ds = true ∧ (∀ es : List PyData, (∀ d ∈ es, d ∈ ds) → es.length ≤ 62 → SeqAt.shaped (.list es) = true) ∧
  Jg K H j L (m + 3 + ds.length) ∧ Dp K H vr (.tuple ds) ∧
  ∀ v H' es, Mv j H H' → Jg K H' j L m → (∀ d, d ∈ es ↔ d ∈ ds) → es.length ≤ ds.length + 2 → Dp K H' v (.tuple es) → Q v H'
section
variable {P : Program} {w : World} {K : PySem.W.Frag} {mg : Str → Option Value} {base : Heap}
theorem sc__law_mixed : FnScope ["jug", "row", "found", "left", "k"] ["jug", "row"] (defScope s__law_mixed) := ⟨rfl, rfl, rfl, by decide +kernel, rfl, by decide +kernel, by decide +kernel⟩
theorem ok__law_mixed (T : Tx K mg)  : Cl P w K mg base CX0 6 "_law_mixed" ["jug", "row"] (spMix K) := by
  obtain ⟨fd, F⟩ := T.f__law_mixed
  refine ⟨_, fd, T.g__law_mixed, F.kp, F.bindsN fun _ _ _ _ _ _ us hl => match us, hl with | [_, _], _ => rfl, F.ok sc__law_mixed (fun vs H Q E h => ?_) (fun cdv A outer s H vs Q E hr h => ?_)⟩
  · obtain ⟨j, L, m, ds, vr, rfl, _⟩ := h
    rfl
  · refine ⟨_, PSs.nox (pss_cons (ps_par (i := 2) (j := 3) rfl sc__law_mixed.nd rfl rfl (by decide) rfl rfl (pa_cons (pe_lst pa_nil) (pa_cons (pe_callTy call_list_of (by rfl) T.b_list PyProof.Rows.Boot.«list» (pa_cons (pv 1) pa_nil)) pa_nil)) (by rfl))
  (pss_cons (ps_while PassesOwn.never (pt_cmpR (op_neD hr.units) (pv 3) (pe_lst pa_nil) (nomark _)) (pss_one (ps_expr (pe_bm PySem.F.plainAttrs_list PySem.F.slot_list_append PySem.F.type_list_append mt_append (pv 2) (pa_cons (pe_bm PySem.F.plainAttrs_list PySem.F.slot_list_pop PySem.F.type_list_pop mt_popAt (pv 3) (pa_cons (G.pe_cl (ok__law_take T) hr (by decide) pass0 (pa_cons (pv 0) (pa_cons (pe_callB call_len_seq (by rfl) T.b_len PyProof.Rows.Boot.«len» (pa_cons (pv 3) pa_nil)) pa_nil))) pa_nil)) pa_nil)))))
  (pss_cons (ps_for PassesOwn.never rfl (pi_range1 (by rfl) T.b_range (pa_cons (pe_op op_mul (G.pe_cl (ok__law_take T) hr (by decide) pass0 (pa_cons (pv 0) (pa_cons pe_int pa_nil))) (pe_callTy call_int1 (by rfl) T.b_int PyProof.Rows.Boot.«int» (pa_cons (pe_cmpR (op_neD hr.units) (pv 2) (pe_lst pa_nil) (nomark _)) pa_nil))) pa_nil)) (pg_name (i := 4) sc__law_mixed.nd rfl (by first | exact Or.inl rfl | exact Or.inr rfl)) (pss_one (ps_expr (pe_bm PySem.F.plainAttrs_list PySem.F.slot_list_append PySem.F.type_list_append mt_append (pv 2) (pa_cons (pe_ix ix_list (pv 2) (G.pe_cl (ok__law_take T) hr (by decide) pass0 (pa_cons (pv 0) (pa_cons (pe_callB call_len_seq (by rfl) T.b_len PyProof.Rows.Boot.«len» (pa_cons (pv 2) pa_nil)) pa_nil))) (fun _ _ => rfl)) pa_nil)))))
  (pss_one (ps_ret (pe_callTy call_tuple_of (by rfl) T.b_tuple PyProof.Rows.Boot.«tuple» (pa_cons (pv 2) pa_nil))))))), ?_⟩
    obtain ⟨j, L, m, ds, vr, rfl, hl, htt, hsh, hj, hr, q⟩ := h
    dsimp only [L2.start]
    refine seq_in ?_
    refine s_parNN (K := K) (en_lst ea_nil (by decide)) (es := ds) (fun H1 s Q q => ?_) fun F us G vs H2 s2 hF hFl hus hG hGF hGl hvs => ?_
    · refine (ed_var (K := K) (i := 1) hr rfl) H1 s _ fun v H2 s2 hv => ?_
      obtain ⟨a, vs, rfl, hs, hvs⟩ := dp_tup hv
      exact ⟨a, vs, rfl, .inr hs, fun l hl => q l vs _ ((Same.refl H2).new hl |> s2.trans) (back s2 hl) upd_same (dps_same ((Same.refl H2).new hl) _ _ hvs)⟩
    cases hus
    obtain ⟨hFj, hFL⟩ := hj.there hF
    obtain ⟨hGj, hGL⟩ := hj.there hG
    dsimp only [List.set]
    refine seq_in ?_
    refine s_while (W := fun n σ' H' => ∃ (us vs : List V) (fs es : List PyData), σ' = [some (.ref j), some vr, some (.ref F), some (.ref G), none] ∧ Mv j H H' ∧ Jg K H' j L (m + 3 + es.length) ∧ H' F = some (.lst us) ∧ H' G = some (.lst vs) ∧ DpAll K H' us fs ∧ DpAll K H' vs es ∧ (fs ++ es).Perm ds ∧ n = es.length) (m0 := ds.length)
      ⟨[], vs, [], ds, rfl, Mv.of s2, hj.same s2, hFl, hGl, .nil, hvs, .refl _, rfl⟩ ?_
    rintro n σ' H3 ⟨us, vs, fs, es, rfl, m3, hj3, hF3, hG3, hus, hvs, hp, rfl⟩
    have hlen : fs.length + es.length = ds.length := by rw [← List.length_append]; exact hp.length_eq
    have hfs : ∀ d ∈ fs, d ∈ ds := fun d hd => hp.mem_iff.mp (List.mem_append_left _ hd)
    have hes : ∀ d ∈ es, d ∈ ds := fun d hd => hp.mem_iff.mp (List.mem_append_right _ hd)
    have htf : tts fs = true := tts_of fun d hd => tts_mem htt (hfs d hd)
    have hte : tts es = true := tts_of fun d hd => tts_mem htt (hes d hd)
    refine ⟨_, et_test (ed_neD (ed_lstV (K := K) (i := 3) rfl hG3 hvs) (ed_ofN (en_lst ea_nil (by decide))) (hsh es hes (by omega)) shaped_nilL), fun H4 s4 => ⟨fun hb => ?_, fun hb => ?_⟩⟩
    · rw [eqv_nilL] at hb
      have hne : es ≠ [] := by simpa using hb
      have hpos : 0 < es.length := List.length_pos_iff.mpr hne
      have hj4 : Jg K H4 j L ((m + 3 + (es.length - 1)) + 1) := (hj3.same s4).mono (by omega)
      have hF4 := s4 _ _ hF3
      have hG4 := s4 _ _ hG3
      have hus4 := dps_same s4 _ _ hus
      have hvs4 := dps_same s4 _ _ hvs
      refine ⟨_, rfl, lst_ty hF4, ?_⟩
      refine one_in ?_
      refine ⟨_, rfl, lst_ty hG4, ?_⟩
      refine one_in ?_
      refine x_take (K := K) hj4 rfl (m := es.length) hpos (by omega) (ed_lenL (ed_lstV (i := 3) rfl hG4 hvs4)) fun H5 g m5 hj5 hg => ?_
      have k45 := hj4.kt m5
      have hF5 := m5 _ _ hFj hF4
      have hG5 := m5 _ _ hGj hG4
      have hus5 := dps_kt k45 _ _ htf hus4
      have hvs5 := dps_kt k45 _ _ hte hvs4
      have hgl : g < vs.length := by rw [hvs5.len]; exact hg
      have hd : es[g]? = some es[g] := List.getElem?_eq_getElem hg
      obtain ⟨v, hv, hvd⟩ := hvs5.get hd
      refine ⟨G, vs, (g : Int), g, v, rfl, rfl, hG5, by omega, by omega, seqIndex_of (by omega) (by omega), hv, ?_⟩
      have kG : Kt H5 (upd H5 G (.lst (vs.eraseIdx g))) := Kt.rfl'.lst hG5
      have hFG : F ≠ G := fun z => hGF z.symm
      have hF6 : (upd H5 G (.lst (vs.eraseIdx g))) F = some (.lst us) := by rw [upd_ne hFG]; exact hF5
      refine ⟨F, us, v, rfl, rfl, hF6, sz_lt (by rw [hus5.len]; omega), ?_⟩
      have kF : Kt (upd H5 G (.lst (vs.eraseIdx g))) (upd (upd H5 G (.lst (vs.eraseIdx g))) F (.lst (us ++ [v]))) := Kt.rfl'.lst hF6
      have hk := kG.trans kF
      have hel : (es.eraseIdx g).length = es.length - 1 := List.length_eraseIdx_of_lt hg
      refine ⟨(es.eraseIdx g).length, by omega, us ++ [v], vs.eraseIdx g, fs ++ [es[g]], es.eraseIdx g, rfl, ?_, ?_, upd_same, ?_, ?_, ?_, ?_, rfl⟩
      · exact Mv.own (Mv.own (m3.trans ((Mv.of s4).trans m5)) hG) hF
      · rw [hel]; exact (hj5.other hGj hGL).other hFj hFL
      · rw [upd_ne hGF]; exact upd_same
      · exact (dps_kt hk _ _ htf hus5).snoc (dp_kt hk _ _ (tts_mem hte (List.getElem_mem hg)) hvd)
      · exact dps_kt hk _ _ (tts_of fun d hd => tts_mem hte (List.mem_of_mem_eraseIdx hd)) (dps_erase hvs5)
      · refine List.Perm.trans ?_ hp
        rw [List.append_assoc]
        exact List.Perm.append_left _ (erase_perm hg)
    · rw [eqv_nilL] at hb
      have hnil : es = [] := by cases es with
        | nil => rfl
        | cons a r => simp at hb
      subst hnil
      rw [List.append_nil] at hp
      have hj4 : Jg K H4 j L (m + 2 + 1) := (hj3.same s4).mono (by simp)
      have hF4 := s4 _ _ hF3
      have hus4 := dps_same s4 _ _ hus
      have hlf : fs.length = ds.length := hp.length_eq
      dsimp only
      refine seq_in ?_
      refine s_forX (fun n i σ' H' => ∃ (us : List V) (ks : List PyData) (x4 : Option V), σ' = [some (.ref j), some vr, some (.ref F), some (.ref G), x4] ∧ n ≤ 2 ∧ (0 < n → fs ≠ []) ∧ Mv j H H' ∧ Jg K H' j L (m + (2 - i)) ∧ H' F = some (.lst us) ∧ DpAll K H' us ks ∧ (∀ d, d ∈ ks ↔ d ∈ ds) ∧ ks.length = fs.length + i) (fun Q q => ?_) ?_ ?_
      · refine op_in ?_
        refine x_take (n := m + 2) (m := 3) hj4 rfl (by decide) (by decide) ed_i fun H5 g5 m5 hj5 hg5 => ?_
        have k45 := hj4.kt m5
        have hF5 := m5 _ _ hFj hF4
        have hus5 := dps_kt k45 _ _ htf hus4
        refine (ed_intB (K := K) (ed_neD (ed_lstV (K := K) (i := 2) rfl hF5 hus5) (ed_ofN (en_lst ea_nil (by decide))) (hsh fs hfs (by omega)) shaped_nilL)) H5 (Same.refl H5) _ fun v6 H6 s6 hv6 => ?_
        obtain rfl := dpI hv6
        rw [eqv_nilL]
        have hn : ((g5 : Int) * (if (!fs.isEmpty) = true then 1 else 0)) = ((if fs = [] then 0 else g5 : Nat) : Int) := by cases fs <;> simp
        have hc0 : (-(2 ^ 64) : Int) < 0 := by decide
        have hc1 : (3 : Int) < 2 ^ 64 := by decide
        have hc : CMul (g5 : Int) (if (!fs.isEmpty) = true then 1 else 0) := .inl ⟨by omega, by omega⟩
        refine ⟨(g5 : Int), _, rfl, rfl, hc, ?_⟩
        dsimp only
        rw [hn]
        have m46 : Mv j H4 H6 := m5.trans (Mv.of s6)
        refine q _ _ (by split <;> omega) ⟨us, fs, none, rfl, by split <;> omega, fun z => ?_, m3.trans ((Mv.of s4).trans m46), (hj5.same s6).mono (by omega), s6 _ _ hF5, dps_same s6 _ _ hus5, fun d => hp.mem_iff, by omega⟩
        · intro e
          rw [if_pos e] at z
          omega
      · rintro n i σ' H5 hi ⟨us, ks, x4, rfl, hn, hne, m5, hj5, hF5, hus5, hks, hkl⟩
        dsimp only [List.set]
        have hfne := hne (by omega)
        have hfl : 0 < fs.length := List.length_pos_iff.mpr hfne
        have hj5 : Jg K H5 j L ((m + (2 - (i + 1))) + 1) := hj5.mono (by omega)
        have htk : tts ks = true := tts_of fun d hd => tts_mem htt ((hks d).mp hd)
        refine ⟨_, rfl, lst_ty hF5, ?_⟩
        refine one_in ?_
        refine op_in ?_
        refine ⟨_, rfl, ?_⟩
        refine x_take (K := K) hj5 rfl (m := ks.length) (by omega) (by omega) (ed_lenL (ed_lstV (i := 2) rfl hF5 hus5)) fun H6 g m6 hj6 hg => ?_
        have k56 := hj5.kt m6
        have hF6 := m6 _ _ hFj hF5
        have hus6 := dps_kt k56 _ _ htk hus5
        have hd : ks[g]? = some ks[g] := List.getElem?_eq_getElem hg
        obtain ⟨v, hv, hvd⟩ := hus6.get hd
        refine ⟨F, us, (g : Int), v, rfl, rfl, sq_of hF6, atI_nat hv, ?_⟩
        refine ⟨F, us, v, rfl, rfl, hF6, sz_lt (by rw [hus6.len]; omega), ?_⟩
        have kF : Kt H6 (upd H6 F (.lst (us ++ [v]))) := Kt.rfl'.lst hF6
        refine ⟨us ++ [v], ks ++ [ks[g]], _, rfl, hn, hne, Mv.own (m5.trans m6) hF, hj6.other hFj hFL, upd_same, (dps_kt kF _ _ htk hus6).snoc (dp_kt kF _ _ (tts_mem htk (List.getElem_mem hg)) hvd), fun d => ?_, by simp; omega⟩
        rw [List.mem_append, ← hks]
        exact ⟨fun h => h.elim id fun h => by rw [List.mem_singleton.mp h]; exact List.getElem_mem hg, .inl⟩
      · rintro n σ' H5 ⟨us, ks, x4, rfl, hn, hne, m5, hj5, hF5, hus5, hks, hkl⟩
        dsimp only
        refine s_ret (K := K) (ed_tupL (ed_lstV (i := 2) rfl hF5 hus5)) fun v H6 s6 hv => ?_
        exact q v H6 ks (m5.trans (Mv.of s6)) ((hj5.same s6).mono (by omega)) hks (by omega) hv
end
end G


set_option Elab.async false
set_option linter.all false
set_option maxRecDepth 100000
set_option maxHeartbeats 4000000
namespace G
open PySem PySem.Spec PyProof.Rows L2
section
variable {K : PySem.W.Frag} {σ : L2.St} {H H' : Hp} {ta tb te tl : TE} {d e : PyData} {D : Ends}
theorem er_XS {R : List PyData → PyData → Prop} {Y : List PyData → Addr → Prop} {W : WX} {ts : TA} {ds : List PyData} {C : Addr} (h : EvA K ts σ H ds) (hr : Y ds C) (q : ∀ H', Same H H' → W (.ref C) none σ H') : tDrop (tCallS (spX K R Y) (WE W) ts) D σ H :=
  h H (Same.refl H) _ fun vs H2 s2 hv => ⟨ds, hv, .inr ⟨C, hr, fun H' s' => q H' (s2.trans s')⟩⟩
theorem wm_yes {c cls : Value} {d : Option Addr} {ts : Addr → Value → Option Addr → TS} {r : List (Value × (Addr → Value → Option Addr → TS))} {Wout : WX} (h : PySem.W.exmOne K cls c = some true) (q : ∀ a, ts a cls d D σ H) : wMany K Wout D ((c, ts) :: r) cls d σ H :=
  ⟨true, h, fun _ a _ => q a, fun z => by cases z⟩
theorem wm_no {c cls : Value} {d : Option Addr} {ts : Addr → Value → Option Addr → TS} {r : List (Value × (Addr → Value → Option Addr → TS))} {Wout : WX} (h : PySem.W.exmOne K cls c = some false) (q : wMany K Wout D r cls d σ H) : wMany K Wout D ((c, ts) :: r) cls d σ H :=
  ⟨false, h, fun z => (by cases z), fun _ => q⟩
end
def Rword : List PyData → PyData → Prop
  | [s, t], r => (s = .tuple [] ∧ t = .none ∧ r = .str "signature") ∨ (r = .str "machine" ∧ ∃ sg, SgOk sg ∧ s = sigD sg ∧ isRow t 3 3 = false)
  | _, _ => False
section
variable {P : Program} {w : World} {K : PySem.W.Frag} {mg : Str → Option Value} {base : Heap}
theorem sc__law_word : FnScope ["signature", "machine", "word"] ["signature", "machine"] (defScope s__law_word) := ⟨rfl, rfl, rfl, by decide +kernel, rfl, by decide +kernel, by decide +kernel⟩
theorem ok__law_word (T : Tx K mg)  : Cl P w K mg base CX0 10 "_law_word" ["signature", "machine"] (spD K Rword) := by
  obtain ⟨fd, F⟩ := T.f__law_word
  refine ⟨_, fd, T.g__law_word, F.kp, F.bindsN fun _ _ _ _ _ _ us hl => match us, hl with | [_, _], _ => rfl, F.ok sc__law_word (fun vs H Q E h => ?_) (fun cdv A outer s H vs Q E hr h => ?_)⟩
  · obtain ⟨ds, r, hd, hR, _⟩ := h
    match ds, hR with
    | [_, _], _ => exact hd.len
  · obtain ⟨ds, r, hd, hR, q⟩ := h
    match ds, vs, hd, hR with
    | [d0, d1], [v0, v1], .cons h0 (.cons h1 .nil), hR =>
    refine ⟨_, PSs.nox (pss_cons (ps_set (i := 2) sc__law_word.nd rfl (by first | exact Or.inl rfl | exact Or.inr rfl) pe_str)
  (pss_cons (ps_try_many (Wout := fun _ _ _ _ => False) rfl rfl takes_none5 (fun W pn xe tk _ => (pss_one (ps_expr (G.pe_clS (ok_write_machine T) hr (by decide) (fun σ => passAt tk σ) (pa_cons (pv 0) (pa_cons (pv 1) pa_nil)))))) (.cons ⟨rfl, by decide, Or.inl T.g_BadSignature⟩ (fun _ _ _ _ _ _ _ => (pss_one (ps_set (i := 2) sc__law_word.nd rfl (by first | exact Or.inl rfl | exact Or.inr rfl) pe_str))) (.cons ⟨rfl, by decide, Or.inl T.g_BadMachine⟩ (fun _ _ _ _ _ _ _ => (pss_one (ps_set (i := 2) sc__law_word.nd rfl (by first | exact Or.inl rfl | exact Or.inr rfl) pe_str))) (.cons ⟨rfl, by decide, Or.inl T.g_GroundError⟩ (fun _ _ _ _ _ _ _ => (pss_one (ps_set (i := 2) sc__law_word.nd rfl (by first | exact Or.inl rfl | exact Or.inr rfl) pe_str))) .nil))))
  (pss_one (ps_ret (pv 2))))), ?_⟩
    refine s_set (K := K) ed_s fun v H1 s1 hv => ?_
    obtain rfl := dpS hv
    have ha : EvA K (tCons (tVar 0) (tCons (tVar 1) tNil)) [some v0, some v1, some (.str "told")] H1 [d0, d1] := ea_cons (ed_var (dp_same s1 _ _ h0) rfl) (ea_cons (ed_var (dp_same s1 _ _ h1) rfl) ea_nil)
    rcases hR with ⟨rfl, rfl, rfl⟩ | ⟨rfl, sg, hs, rfl, hn⟩
    · exact er_XS ha (.inl ⟨rfl, rfl⟩) fun H2 s2 => wm_yes T.e_BadSignature_BadSignature fun a => s_set (K := K) ed_s fun v H3 s3 hv => s_ret (K := K) (ed_var hv) fun v4 H4 s4 hv4 => q v4 H4 (((s1.trans s2).trans s3).trans s4) hv4
    · exact er_XS ha (.inr ⟨hn, rfl, sg, hs, rfl⟩) fun H2 s2 => wm_no T.e_BadMachine_BadSignature (wm_yes T.e_BadMachine_BadMachine fun a => s_set (K := K) ed_s fun v H3 s3 hv => s_ret (K := K) (ed_var hv) fun v4 H4 s4 hv4 => q v4 H4 (((s1.trans s2).trans s3).trans s4) hv4)
end
end G


set_option Elab.async false
set_option linter.all false
set_option maxRecDepth 100000
set_option maxHeartbeats 4000000
namespace G
open PySem PySem.Spec PyProof.Rows L2
theorem r58 : isRun 58 = false := by decide +kernel
theorem r124 : isRun 124 = false := by decide +kernel
theorem name_runs {sg : Sg} (hs : SgLike sg) {f : Nat} {e : Str × Nat} (h : sg[f]? = some e) : nameOf sg f ≠ [] ∧ (nameOf sg f).all isRun = true := by
  rw [nameOf_eq h]
  obtain ⟨a, b, _⟩ := low_run (hs.low _ (List.mem_of_getElem? h))
  exact ⟨a, b⟩
theorem num_toks {n : Nat} (h : n < 100) {ws : List (List Nat)} {cs : List Nat} (ht : Toks ws cs) (hn : NoRun cs) : Toks (numW n :: ws) (numW n ++ cs) := Toks.runL (numW_ok n h).2.2.2.1 (numW_run n h) hn ht
theorem com_tail {ws : List (List Nat)} {cs : List Nat} (ht : Toks ws cs) (hn : NoRun cs) : ∀ {l : List Nat}, (∀ q ∈ l, q < 100) → ∃ cs', Toks (comR l ++ ws) cs' ∧ NoRun cs' ∧ ∀ a, comT (a :: l) ++ cs = numW a ++ cs'
  | [], _ => ⟨cs, ht, hn, fun a => by simp [comT, TL.joinL]⟩
  | q :: l, h => by
    obtain ⟨c1, h1, h2, h3⟩ := com_tail ht hn (l := l) fun x hx => h x (List.mem_cons_of_mem _ hx)
    refine ⟨44 :: 32 :: (numW q ++ c1), ?_, nr_cons r44, fun a => ?_⟩
    · exact Toks.sg (c := 44) (Toks.sp (num_toks (h q List.mem_cons_self) h1 h2))
    · rw [← h3 q]
      simp [comT, TL.joinL]
theorem com_toks {ws : List (List Nat)} {cs : List Nat} (ht : Toks ws cs) (hn : NoRun cs) {l : List Nat} (h : ∀ q ∈ l, q < 100) : Toks (comW l ++ ws) (comT l ++ cs) := by
  cases l with
  | nil => simpa [comW, comT, TL.joinL] using ht
  | cons a l =>
    obtain ⟨c1, h1, h2, h3⟩ := com_tail ht hn (l := l) fun x hx => h x (List.mem_cons_of_mem _ hx)
    rw [h3 a]
    exact num_toks (h a List.mem_cons_self) h1 h2
theorem mo_toks {sg : Sg} (hs : SgLike sg) {st : Nat} {m : Mo} (ok : MoOk sg st m) (h : st ≤ 99) {ws : List (List Nat)} {cs : List Nat} (ht : Toks ws cs) (hn : NoRun cs) : Toks (moW sg m ++ ws) (moT sg m ++ cs) := by
  obtain ⟨x, hx⟩ := ok.sym
  obtain ⟨a, b⟩ := name_runs hs hx
  have e : Toks ([45, 62] :: numW m.2.2 :: ws) (32 :: 45 :: 62 :: 32 :: (numW m.2.2 ++ cs)) := Toks.sp (Toks.arrow (Toks.sp (num_toks (by have := ok.to; omega) ht hn)))
  unfold moW moT
  by_cases z : m.2.1 = []
  · rw [if_pos z, if_pos z]
    have := Toks.runL a b (nr_cons r32) e
    simpa using this
  · rw [if_neg z, if_neg z]
    have := Toks.runL a b (nr_cons r40) (Toks.sg (c := 40) (com_toks (Toks.sg (c := 41) e) (nr_cons r41) fun q hq => (by have := ok.fr q hq; omega)))
    simpa using this
theorem mv_tail {sg : Sg} (hs : SgLike sg) {st : Nat} (hst : st ≤ 99) {ws : List (List Nat)} {cs : List Nat} (ht : Toks ws cs) (hn : NoRun cs) : ∀ {l : List Mo}, (∀ x ∈ l, MoOk sg st x) → ∃ cs', Toks (tailM sg l ++ ws) cs' ∧ NoRun cs' ∧ ∀ a, mvT sg (a :: l) ++ cs = moT sg a ++ cs'
  | [], _ => ⟨cs, ht, hn, fun a => by simp [mvT, TL.joinL]⟩
  | q :: l, h => by
    obtain ⟨c1, h1, h2, h3⟩ := mv_tail hs hst ht hn (l := l) fun x hx => h x (List.mem_cons_of_mem _ hx)
    refine ⟨59 :: 32 :: (moT sg q ++ c1), ?_, nr_cons r59, fun a => ?_⟩
    · have := Toks.sg (c := 59) (Toks.sp (mo_toks hs (h q List.mem_cons_self) hst h1 h2))
      simpa [tailM] using this
    · rw [← h3 q]
      simp [mvT, TL.joinL]
theorem mv_toks {sg : Sg} (hs : SgLike sg) {st : Nat} (hst : st ≤ 99) {ws : List (List Nat)} {cs : List Nat} (ht : Toks ws cs) (hn : NoRun cs) {l : List Mo} (h : ∀ x ∈ l, MoOk sg st x) : Toks (mvW sg l ++ ws) (mvT sg l ++ cs) := by
  cases l with
  | nil => simpa [mvW, mvT, TL.joinL] using ht
  | cons a l =>
    obtain ⟨c1, h1, h2, h3⟩ := mv_tail hs hst ht hn (l := l) fun x hx => h x (List.mem_cons_of_mem _ hx)
    rw [h3 a]
    have := mo_toks hs (h a List.mem_cons_self) hst h1 h2
    simpa [mvW] using this
theorem ma_toks {sg : Sg} (hs : SgLike sg) {m : Ma} (hst : m.st ≤ 99) (mo : ∀ x ∈ m.mv, MoOk sg m.st x) (ac : ∀ q ∈ m.ac, q < m.st) : Toks (maW sg m) (maT sg m) := by
  have t1 : Toks (comW m.ac) (comT m.ac) := by
    have := com_toks .nil nr_nil fun q hq => (by have := ac q hq; omega : q < 100)
    simpa using this
  have t2 : Toks ([124] :: comW m.ac) (124 :: (if m.ac = [] then [] else 32 :: comT m.ac)) := by
    by_cases z : m.ac = []
    · rw [if_pos z]
      have : comW m.ac = [] := by rw [z]; rfl
      rw [this]
      exact Toks.sg (c := 124) .nil
    · rw [if_neg z]
      exact Toks.sg (c := 124) (Toks.sp t1)
  have t3 : Toks (mvW sg m.mv ++ [124] :: comW m.ac) (mvT sg m.mv ++ 32 :: 124 :: (if m.ac = [] then [] else 32 :: comT m.ac)) := mv_toks hs hst (Toks.sp t2) (nr_cons r32) mo
  have t4 : Toks (maW sg m) (numW m.st ++ 58 :: (if m.mv = [] then 32 :: 124 :: (if m.ac = [] then [] else 32 :: comT m.ac) else 32 :: (mvT sg m.mv ++ 32 :: 124 :: (if m.ac = [] then [] else 32 :: comT m.ac)))) := by
    refine num_toks (by omega) (Toks.sg (c := 58) ?_) (nr_cons r58)
    by_cases z : m.mv = []
    · rw [if_pos z]
      have : mvW sg m.mv = [] := by rw [z]; rfl
      rw [this]
      exact Toks.sp t2
    · rw [if_neg z]
      exact Toks.sp t3
  have e : maT sg m = numW m.st ++ 58 :: (if m.mv = [] then 32 :: 124 :: (if m.ac = [] then [] else 32 :: comT m.ac) else 32 :: (mvT sg m.mv ++ 32 :: 124 :: (if m.ac = [] then [] else 32 :: comT m.ac))) := by
    unfold maT maP
    by_cases z : m.mv = [] <;> by_cases y : m.ac = [] <;> simp [z, y, TL.joinL]
  rw [e]
  exact t4
theorem maT_len {sg : Sg} (hs : SgLike sg) {m : Ma} (hst : m.st ≤ 99) (mo : ∀ x ∈ m.mv, MoOk sg m.st x) (ac : ∀ q ∈ m.ac, q < m.st) (h1 : m.mv.length ≤ 20) (h2 : m.ac.length ≤ 20) : (maT sg m).length ≤ 1000 := by
  have a := mvT_len hs mo (by omega)
  have b := comT_len (l := m.ac) fun q hq => by have := ac q hq; omega
  have c := numW_len (n := m.st) (by omega)
  unfold maT maP
  by_cases z : m.mv = [] <;> by_cases y : m.ac = [] <;> simp [z, y, TL.joinL] <;> omega
theorem ma_ascii {sg : Sg} (hs : SgLike sg) {m : Ma} (hst : m.st ≤ 99) (mo : ∀ x ∈ m.mv, MoOk sg m.st x) (ac : ∀ q ∈ m.ac, q < m.st) : ascii (maT sg m) = true := by
  refine joinL_ascii (by decide) fun y hy => ?_
  have a : ascii (mvT sg m.mv) = true := joinL_ascii (by decide) fun y hy => by
    obtain ⟨x, hx, rfl⟩ := List.mem_map.mp hy
    exact moT_ascii hs (mo x hx) hst
  have b : ascii (comT m.ac) = true := joinL_ascii (by decide) fun y hy => by
    obtain ⟨q, hq, rfl⟩ := List.mem_map.mp hy
    exact numW_ascii (by have := ac q hq; omega)
  have c := numW_ascii (n := m.st) (by omega)
  unfold maP at hy
  simp only [List.mem_append, List.mem_singleton] at hy
  rcases hy with ((rfl | hy) | rfl) | hy
  · rw [ascii_app, c]; rfl
  · split at hy
    · cases hy
    · rw [List.mem_singleton.mp hy]; exact a
  · rfl
  · split at hy
    · cases hy
    · rw [List.mem_singleton.mp hy]; exact b
end G

set_option Elab.async false
set_option linter.all false
set_option maxRecDepth 100000
set_option maxHeartbeats 4000000
namespace G
open PySem PySem.Spec PyProof.Rows L2
theorem mix_mos {l : List Mo} : ∀ {es : List PyData}, (∀ d ∈ es, d ∈ l.map moD) → ∃ ms : List Mo, es = ms.map moD ∧ ∀ x ∈ ms, x ∈ l
  | [], _ => ⟨[], rfl, fun x hx => (by cases hx)⟩
  | d :: es, h => by
    obtain ⟨x, hx, rfl⟩ := List.mem_map.mp (h d List.mem_cons_self)
    obtain ⟨ms, rfl, hm⟩ := mix_mos fun z hz => h z (List.mem_cons_of_mem _ hz)
    exact ⟨x :: ms, rfl, fun z hz => by
      rcases List.mem_cons.mp hz with rfl | hz
      · exact hx
      · exact hm z hz⟩
theorem mix_mos' {l : List Mo} {es : List PyData} (h : ∀ d, d ∈ es ↔ d ∈ l.map moD) : ∃ ms : List Mo, es = ms.map moD ∧ ∀ x, x ∈ ms ↔ x ∈ l := by
  obtain ⟨ms, rfl, hm⟩ := mix_mos fun d hd => (h d).mp hd
  refine ⟨ms, rfl, fun x => ⟨hm x, fun hx => ?_⟩⟩
  obtain ⟨y, hy, e⟩ := List.mem_map.mp ((h (moD x)).mpr (List.mem_map.mpr ⟨x, hx, rfl⟩))
  rw [← moD_inj e]; exact hy
theorem mem_nats {x : Nat} {l : List Nat} : PyData.int (x : Int) ∈ nats l ↔ x ∈ l := by
  unfold nats
  rw [List.mem_map]
  exact ⟨fun ⟨y, hy, e⟩ => by have : (y : Int) = x := by injection e
                              have : y = x := by omega
                              rw [← this]; exact hy, fun h => ⟨x, h, rfl⟩⟩
theorem mix_nats {l : List Nat} {es : List PyData} (h : ∀ d, d ∈ es ↔ d ∈ nats l) : ∃ ms : List Nat, es = nats ms ∧ ∀ x, x ∈ ms ↔ x ∈ l := by
  have key : ∀ {es : List PyData}, (∀ d ∈ es, d ∈ nats l) → ∃ ms : List Nat, es = nats ms := by
    intro es
    induction es with
    | nil => intro _; exact ⟨[], rfl⟩
    | cons d es ih =>
      intro h
      obtain ⟨ms, rfl⟩ := ih fun z hz => h z (List.mem_cons_of_mem _ hz)
      have := h d List.mem_cons_self
      unfold nats at this
      obtain ⟨x, _, rfl⟩ := List.mem_map.mp this
      exact ⟨x :: ms, rfl⟩
  obtain ⟨ms, rfl⟩ := key fun d hd => (h d).mp hd
  exact ⟨ms, rfl, fun x => by rw [← mem_nats, h, mem_nats]⟩
theorem sdP_mo (m : Mo) (h : m.2.1.length ≤ 100) (n : Nat) : sdP (n + 2) (moD m) := ⟨by simp, fun d hd => by
  simp at hd
  rcases hd with rfl | rfl | rfl
  · trivial
  · refine ⟨by rw [nats_len]; exact h, fun d hd => ?_⟩
    unfold nats at hd
    obtain ⟨q, _, rfl⟩ := List.mem_map.mp hd
    cases n <;> trivial
  · trivial⟩
theorem sdP_ma {sg : Sg} {m : Ma} (h : LMa sg m) : sdP 19 (maD m) := ⟨by simp, fun d hd => by
  simp at hd
  rcases hd with rfl | rfl | rfl
  · trivial
  · refine ⟨by have := h.fm; rw [List.length_map]; omega, fun d hd => ?_⟩
    obtain ⟨x, hx, rfl⟩ := List.mem_map.mp hd
    exact sdP_mo x (by have := (h.mo x hx).few; omega) 15
  · refine ⟨by have := h.fa; rw [nats_len]; omega, fun d hd => ?_⟩
    unfold nats at hd
    obtain ⟨q, _, rfl⟩ := List.mem_map.mp hd
    trivial⟩
theorem LMa.rd {sg : Sg} {m : Ma} (h : LMa sg m) : MaRd sg m m := ⟨by have := h.st; omega, by have := h.fm; omega, by have := h.fa; omega, h.mo, h.ac, rfl, h.am, h.nm, fun _ => .rfl, h.aa, h.na, fun _ => .rfl⟩
theorem LMa.rdx {sg : Sg} {m : Ma} (h : LMa sg m) {ms : List Mo} {as : List Nat} (hm : ∀ x, x ∈ ms ↔ x ∈ m.mv) (ha : ∀ x, x ∈ as ↔ x ∈ m.ac) (h1 : ms.length ≤ 18) (h2 : as.length ≤ 4) : MaRd sg ⟨m.st, ms, as⟩ m :=
  ⟨by have := h.st; show m.st ≤ 99; omega, by show ms.length ≤ 63; omega, by show as.length ≤ 63; omega, fun x hx => h.mo x ((hm x).mp hx), fun x hx => h.ac x ((ha x).mp hx), rfl, h.am, h.nm, fun x => (hm x).symm, h.aa, h.na, fun x => (ha x).symm⟩
section
variable {K : PySem.W.Frag} {σ : L2.St} {H H' : Hp} {ta tb te tl te1 te2 : TE} {d e : PyData} {D : Ends} {j L : Addr} {ds es : List PyData} {x y : TS} {t : TT}
theorem ed_min2 {i k : Int} (ha : EvD K te1 σ H (.int i)) (hb : EvD K te2 σ H (.int k)) : EvD K (tCB (fun xs H Q => ∃ i j, xs = [V.int i, V.int j] ∧ Q (V.int (if j < i then j else i)) H) (tCons te1 (tCons te2 tNil))) σ H (.int (if k < i then k else i)) := fun H1 s Q q =>
  ha H1 s _ fun v H2 s2 hv => hb H2 (s.trans s2) _ fun w H3 s3 hw => ⟨i, k, by rw [dpI hv, dpI hw], q _ H3 (s2.trans s3) (.int _)⟩
theorem cons_in {ts : TA} {Q : List V → Hp → Prop} (h : te σ H fun v H1 => ts σ H1 fun vs H2 => Q (v :: vs) H2) : tCons te ts σ H Q := h
theorem lst_in {ts : TA} {Q : VK} (h : ts σ H fun xs H1 => xs.length ≤ sizeLine ∧ ∀ p, H1 p = none → Q (.ref p) (upd H1 p (.lst xs))) : tLst ts σ H Q := h
theorem tup_in {ts : TA} {Q : VK} (h : ts σ H fun xs H1 => xs.length ≤ sizeLine ∧ ∀ p, H1 p = none → Q (.ref p) (upd H1 p (.tup xs))) : tTup ts σ H Q := h
/-- a loop over a list that is there -/
theorem loop_lst {a : Addr} {xs : List V} {g : TG} {ts : TS} (hs : SqL K H a xs) (hv : DpAll K H xs ds) (W : Nat → L2.St → Hp → Prop) (h0 : W 0 σ H) (hsame : ∀ i σ' H', W i σ' H' → Same H H')
    (step : ∀ i x v σ' H1, ds[i]? = some x → W i σ' H1 → Dp K H1 v x → g v σ' H1 fun σ2 H2 => ts { D with nx := W (i + 1), ct := W (i + 1), bk := D.nx } σ2 H2) (fin : ∀ σ' H', W ds.length σ' H' → D.nx σ' H') :
    ∃ W : Nat → Nat → L2.St → Hp → Prop, (∃ m, W 0 m σ H) ∧ ∀ (i m : Nat) (σ : L2.St) (H : Hp), W i m σ H → (Itl K a).stop i H ∧ D.nx σ H ∨ (Itl K a).go i H ∧ ∃ N : L2.St → Hp → Prop, (∀ (σ' : L2.St) (H' : Hp), N σ' H' → ∃ m', m' < m ∧ W (i + 1) m' σ' H') ∧
      ∀ (x : V) (H' : Hp), (Itl K a).yld i H x H' → g x σ H' fun σ2 H2 => ts { nx := N, rt := D.rt, bk := D.nx, ct := N } σ2 H2 := by
  have w := wk_list hs hv
  refine ⟨fun i m σ' H' => m = ds.length - i ∧ i ≤ ds.length ∧ W i σ' H', ⟨ds.length, rfl, Nat.zero_le _, h0⟩, ?_⟩
  rintro i m σ' H3 ⟨rfl, hil, hw⟩
  have s3 := hsame _ _ _ hw
  by_cases hlt : i < ds.length
  · refine .inr ⟨w.goes i H3 hlt s3, W (i + 1), fun σ4 H4 b => ⟨ds.length - (i + 1), by omega, rfl, hlt, b⟩, fun x H4 y => ?_⟩
    have hy := y
    obtain ⟨_, hxd⟩ := w.yields i H3 x H4 _ (List.getElem?_eq_getElem hlt) s3 hy
    have e4 : H4 = H3 := y.1
    rw [e4] at hxd ⊢
    exact step i _ x σ' _ (List.getElem?_eq_getElem hlt) hw hxd
  · have e : i = ds.length := by omega
    subst e
    exact .inl ⟨w.stops H3 s3, fin _ _ hw⟩
theorem ed_callK {R : List PyData → PyData → Prop} {Y : List PyData → Addr → Prop} {E : XK} {d1 d2 r : PyData} (h1 : EvD K te1 σ H d1) (h2 : EvD K te2 σ H d2) (hr : R [d2, d1] r) :
    EvD K (tCallN 0 2 (spX K R Y) (fun _ zs => zs.reverse) E tNil (tCons te1 (tCons te2 tNil))) σ H r := fun H1 s Q q =>
  h1 H1 s _ fun v H2 s2 hv => h2 H2 (s.trans s2) _ fun w H3 s3 hw => ⟨rfl, rfl, [d2, d1], .cons hw (.cons (dp_same s3 _ _ hv) .nil), .inl ⟨r, hr, fun z H4 s4 hz => q z H4 ((s2.trans s3).trans s4) hz⟩⟩
theorem cut2 (a b c : V) : cutV [a, b, c] none (some 2) = [a, b] := by
  unfold cutV
  rw [HT.sIx_none, show ((some 2 : Option Int)) = some ((2 : Nat) : Int) from rfl, HT.sIx_nat]
  rfl
theorem dps_three {vs : List V} {a b c : PyData} (h : DpAll K H vs [a, b, c]) : ∃ x y z, vs = [x, y, z] ∧ Dp K H x a ∧ Dp K H y b ∧ Dp K H z c := by
  cases h with
  | cons h1 t =>
    cases t with
    | cons h2 t =>
      cases t with
      | cons h3 t =>
        cases t
        exact ⟨_, _, _, rfl, h1, h2, h3⟩
theorem slA_head2 {p : Addr} {x y z : V} {Q : VK} (hs : SqT K H p [x, y, z]) (q : ∀ l, H l = none → Q (.ref l) (upd H l (.tup [x, y]))) : rSlA K (.ref p) none (some 2) H Q := by
  refine ⟨p, [x, y, z], rfl, hs, fun z => ?_, fun _ l hl => ?_⟩
  · have := z.2
    rw [show ((some 2 : Option Int)) = some ((2 : Nat) : Int) from rfl, HT.sIx_nat] at this
    simp at this
  · rw [cut2]
    exact q l hl
theorem ed_head2 {a b c : PyData} (h : EvD K ta σ H (.tuple [a, b, c])) : EvD K (tSl (rSlA K) ta tNoPart (tPart (tC (.int 2)))) σ H (.tuple [a, b]) := by
  intro H1 s Q q
  refine h H1 s _ fun v H2 s2 hv => ?_
  obtain ⟨p, xs, rfl, hs, hvs⟩ := dp_tup hv
  obtain ⟨x, y, z, rfl, h1, h2, h3⟩ := dps_three hvs
  exact ⟨2, rfl, slA_head2 hs fun l hl => q _ _ (s2.new hl) (.tup (st_of upd_same) (.cons (dp_same ((Same.refl H2).new hl) _ _ h1) (.cons (dp_same ((Same.refl H2).new hl) _ _ h2) .nil)))⟩
end
end G

set_option Elab.async false
set_option linter.all false
set_option maxRecDepth 100000
set_option maxHeartbeats 4000000
namespace G
open PySem PySem.Spec PyProof.Rows L2
theorem tc_in {σ : L2.St} {H : Hp} {v : V} {Q : VK} (h : Q v H) : tC v σ H Q := h
theorem sh_mos {l : List Mo} (es : List PyData) (h : ∀ d ∈ es, d ∈ l.map moD) (_ : es.length ≤ 62) : SeqAt.shaped (.list es) = true := by
  exact shaped_list (n := 8) (fun d hd => by
    obtain ⟨x, _, rfl⟩ := List.mem_map.mp (h d hd)
    exact ⟨by simp [moD, PyData.canLay0, PyData.canLayAll0, nats_lay], kd_depth 8 _ (moD_kd x)⟩) (by decide)
theorem sh_nats {l : List Nat} (es : List PyData) (h : ∀ d ∈ es, d ∈ nats l) (_ : es.length ≤ 62) : SeqAt.shaped (.list es) = true := by
  have : ∀ d ∈ es, ∃ x : Nat, d = .int (x : Int) := fun d hd => by
    have := h d hd
    unfold nats at this
    obtain ⟨x, _, rfl⟩ := List.mem_map.mp this
    exact ⟨x, rfl⟩
  exact shaped_list (n := 1) (fun d hd => by
    obtain ⟨x, rfl⟩ := this d hd
    exact ⟨rfl, by simp [PyData.depth]⟩) (by decide)
def spLaw (K : PySem.W.Frag) : Sp := fun vs H Q _ => ∃ (a : Addr) (ns : List Int), vs = [.ref a] ∧ SqL K H a (ns.map V.int) ∧ ns.length ≤ 63 ∧ ∀ H', Q (.bl true) H'
section
variable {P : Program} {w : World} {K : PySem.W.Frag} {mg : Str → Option Value} {base : Heap}
theorem sc_law : FnScope ["script", "jug", "turn", "signature", "machine", "text", "mixed", "other"] ["script"] (defScope s_law) := ⟨rfl, rfl, rfl, by decide +kernel, rfl, by decide +kernel, by decide +kernel⟩
theorem fo_law {f : Addr} {fd : FuncData} (T : Tx K mg) (hP : PF P)  (F : FunD K "law" "law" (defArgs s_law) (defBody s_law) (defScope s_law) [] [] f fd) : FnOk P w K mg base CX0 70 f fd ["script"] (spLaw K) := by
  refine F.ok sc_law (fun vs H Q E h => ?_) (fun cdv A outer s H vs Q E hr h => ?_)
  · obtain ⟨a, ns, rfl, _⟩ := h
    rfl
  · refine ⟨_, PSs.nox (pss_cons (ps_set (i := 1) sc_law.nd rfl (by first | exact Or.inl rfl | exact Or.inr rfl) (G.pe_cl (ok__law_jug T) hr (by decide) pass0 (pa_cons (pv 0) pa_nil)))
  (pss_cons (ps_for PassesOwn.never rfl (pi_range1 (by rfl) T.b_range (pa_cons (pe_op op_add pe_int (pe_callB (call_min2 rfl) (by rfl) T.b_min PyProof.Rows.Boot.«min» (pa_cons (pe_callB call_len_seq (by rfl) T.b_len PyProof.Rows.Boot.«len» (pa_cons (pv 0) pa_nil)) (pa_cons pe_int pa_nil)))) pa_nil)) (pg_name (i := 2) sc_law.nd rfl (by first | exact Or.inl rfl | exact Or.inr rfl)) (pss_cons (ps_set (i := 3) sc_law.nd rfl (by first | exact Or.inl rfl | exact Or.inr rfl) (G.pe_cl (ok__law_signature T) hr (by decide) pass0 (pa_cons (pv 1) (pa_cons pe_int pa_nil))))
  (pss_cons (ps_set (i := 4) sc_law.nd rfl (by first | exact Or.inl rfl | exact Or.inr rfl) (pe_ix ix_list (pe_lst (pa_cons (G.pe_cl (ok__law_machine T) hr (by decide) pass0 (pa_cons (pv 1) (pa_cons (pv 3) (pa_cons pe_int pa_nil)))) (pa_cons (pe_tup (pa_cons pe_int (pa_cons (pe_tup pa_nil) (pa_cons (pe_tup pa_nil) pa_nil)))) (pa_cons (pe_tup (pa_cons pe_int (pa_cons (pe_tup pa_nil) (pa_cons (pe_tup (pa_cons pe_int (pa_cons pe_int pa_nil))) pa_nil)))) pa_nil)))) (pe_callB (call_min2 rfl) (by rfl) T.b_min PyProof.Rows.Boot.«min» (pa_cons pe_int (pa_cons (pe_op op_mul (pe_op op_fdivN (G.pe_cl (ok__law_take T) hr (by decide) pass0 (pa_cons (pv 1) (pa_cons pe_int pa_nil))) pe_int) (pe_callTy call_int1 (by rfl) T.b_int PyProof.Rows.Boot.«int» (pa_cons (pe_cmpR op_eq (G.pe_cl (ok__law_take T) hr (by decide) pass0 (pa_cons (pv 1) (pa_cons pe_int pa_nil))) pe_int (nomark _)) pa_nil))) pa_nil))) (fun _ _ => rfl)))
  (pss_cons (ps_set (i := 5) sc_law.nd rfl (by first | exact Or.inl rfl | exact Or.inr rfl) (G.pe_cl (ok__law_machine_text T) hr (by decide) pass0 (pa_cons (pv 3) (pa_cons (pv 4) pa_nil))))
  (pss_cons (ps_if (PW.pt (pw_or (pt_not (pt_val (G.pe_cl (rt_law_same T) hr (by decide) pass0 (pa_cons (G.pe_cl (ok_write_machine T) hr (by decide) passL (pa_cons (pv 3) (pa_cons (pv 4) pa_nil))) (pa_cons (pv 5) pa_nil))))) (pw_or1 (pt_not (pt_val (G.pe_cl (rt_law_same T) hr (by decide) pass0 (pa_cons (G.pe_cl (ok_read_machine T hP) hr (by decide) passL (pa_cons (pv 3) (pa_cons (pv 5) pa_nil))) (pa_cons (pv 4) pa_nil)))))))) (pss_one (ps_ret pe_bl)) pss_nil)
  (pss_cons (ps_set (i := 6) sc_law.nd rfl (by first | exact Or.inl rfl | exact Or.inr rfl) (pe_tup (pa_cons (pe_ix ix_tup (pv 4) pe_int (fun _ _ => rfl)) (pa_cons (G.pe_cl (ok__law_mixed T) hr (by decide) pass0 (pa_cons (pv 1) (pa_cons (pe_ix ix_tup (pv 4) pe_int (fun _ _ => rfl)) pa_nil))) (pa_cons (G.pe_cl (ok__law_mixed T) hr (by decide) pass0 (pa_cons (pv 1) (pa_cons (pe_ix ix_tup (pv 4) pe_int (fun _ _ => rfl)) pa_nil))) pa_nil)))))
  (pss_cons (ps_for PassesOwn.never rfl (pi_list (pe_lst (pa_cons (G.pe_cl (ok__law_loose T) hr (by decide) pass0 (pa_cons (pv 1) (pa_cons (pv 5) pa_nil))) (pa_cons (G.pe_cl (ok__law_machine_text T) hr (by decide) pass0 (pa_cons (pv 3) (pa_cons (pv 6) pa_nil))) (pa_cons (G.pe_cl (ok__law_loose T) hr (by decide) pass0 (pa_cons (pv 1) (pa_cons (G.pe_cl (ok__law_machine_text T) hr (by decide) pass0 (pa_cons (pv 3) (pa_cons (pv 6) pa_nil))) pa_nil))) pa_nil))))) (pg_name (i := 7) sc_law.nd rfl (by first | exact Or.inl rfl | exact Or.inr rfl)) (pss_one (ps_if (pt_not (pt_val (G.pe_cl (rt_law_same T) hr (by decide) pass0 (pa_cons (G.pe_clK (okK_read_machine T hP) hr (by decide) passL (pk_cons (pv 7) (pk_cons (pv 3) pk_nil))) (pa_cons (pv 4) pa_nil))))) (pss_one (ps_ret pe_bl)) pss_nil)))
  (pss_one (ps_if (PW.pt (pw_or (pt_cmpR op_ne (G.pe_cl (ok__law_word T) hr (by decide) pass0 (pa_cons (pe_tup pa_nil) (pa_cons pe_non pa_nil))) pe_str (nomark _)) (pw_or (pt_cmpR op_ne (G.pe_cl (ok__law_word T) hr (by decide) pass0 (pa_cons (pv 3) (pa_cons pe_non pa_nil))) pe_str (nomark _)) (pw_or1 (pt_cmpR op_ne (G.pe_cl (ok__law_word T) hr (by decide) pass0 (pa_cons (pv 3) (pa_cons (pe_slice sl_tupA (pv 4) po_none (po_some pe_int)) pa_nil))) pe_str (nomark _)))))) (pss_one (ps_ret pe_bl)) pss_nil)))))))))
  (pss_one (ps_ret pe_bl)))), ?_⟩
    obtain ⟨a, ns, rfl, ha, hns, q⟩ := h
    unfold tAsg
    refine seq_in ?_
    refine ⟨_, rfl, a, ns, rfl, ha, fun j L H1 s1 hj0 hj1 => ?_⟩
    refine name_in ?_
    dsimp only
    refine seq_in ?_
    have ha1 : Dp K H1 (.ref a) (.list (ns.map .int)) := .lst (s1.seq ha) (ints_dps ns)
    refine s_forR (n := 1 + min ns.length 8) (fun i σ' H' => ∃ x2 x3 x4 x5 x6 x7 : Option V, σ' = [some (.ref a), some (.ref j), x2, x3, x4, x5, x6, x7] ∧ Jg K H' j L ((9 - i) * 40000))
      ((ed_add (K := K) (ed_i (n := 1)) (ed_min2 (ed_lenL (ed_var (i := 0) ha1)) (ed_i (n := 8)))).to ?_) (by omega) (fun H2 s2 => ⟨none, none, none, none, none, none, rfl, (hj1.same s2).mono (by omega)⟩) ?_ ?_
    · rw [List.length_map]
      congr 1
      split <;> omega
    · rintro i σ' H2 hi ⟨x2, x3, x4, x5, x6, x7, rfl, hj2⟩
      rw [show (9 - i) * 40000 = ((9 - (i + 1)) * 40000 + 39991) + 9 by omega] at hj2
      generalize hm0 : (9 - (i + 1)) * 40000 = m0 at hj2
      refine seq_in ?_
      refine ⟨_, rfl, j, L, _, rfl, hj2, fun vsg H3 sg m3 hj3 hs hsl hsg => ?_⟩
      refine name_in ?_
      dsimp only
      refine seq_in ?_
      have htt : tt (sigD sg) = true := by simp [sigD, tt, entD_tt]
      refine op_in (lst_in (cons_in ⟨_, rfl, _, rfl, j, L, m0 + 39931, sg, vsg, rfl, hs, hsl, hj3.mono (by omega), hsg, fun vm H4 ma0 m4 hj4 hma0 hvm => ?_⟩))
      have hsg4 := dp_kt (hj3.kt m4) _ _ htt hsg
      refine cons_in ((ed_tup (K := K) (ea_cons ed_i (ea_cons (ed_tup ea_nil (by decide)) (ea_cons (ed_tup ea_nil (by decide)) ea_nil))) (by exact (by decide : 3 ≤ 1000))) H4 (Same.refl _) _ fun vz H5 s5 hvz => ?_)
      refine cons_in ((ed_tup (K := K) (ea_cons ed_i (ea_cons (ed_tup ea_nil (by decide)) (ea_cons (ed_tup (ea_cons ed_i (ea_cons ed_i ea_nil)) (by exact (by decide : 2 ≤ 1000))) ea_nil))) (by exact (by decide : 3 ≤ 1000))) H5 (Same.refl _) _ fun vt H6 s6 hvt => ?_)
      refine ⟨by show 3 ≤ sizeLine; rw [sizeLine_eq]; omega, fun pl hpl => ?_⟩
      have s7 : Same H6 (upd H6 pl (.lst [vm, vz, vt])) := (Same.refl H6).new hpl
      have hpll : (upd H6 pl (.lst [vm, vz, vt])) pl = some (.lst [vm, vz, vt]) := upd_same
      have hplH4 : H4 pl = none := back (s5.trans s6) hpl
      have hplj : pl ≠ j := (hj4.there hplH4).1
      have s47 := (s5.trans s6).trans s7
      have z1 := dp_same s47 _ _ hvm
      have z2 := dp_same (s6.trans s7) _ _ hvz
      have z3 := dp_same s7 _ _ hvt
      have hj7 := hj4.same s47
      have hsg7 := dp_same s47 _ _ hsg4
      generalize upd H6 pl (.lst [vm, vz, vt]) = H7 at *
      refine cb_in (cons_in (tc_in (one_in (op_in (op_in ?_)))))
      refine x_take (K := K) (n := m0 + 39930) (m := 6) hj7 rfl (by decide) (by decide) ed_i fun H8 g8 m8 hj8 hg8 => ?_
      refine ⟨(g8 : Int), 2, rfl, rfl, ⟨by decide, by decide⟩, ?_⟩
      refine cb_in (one_in (op_in ?_))
      refine x_take (K := K) (n := m0 + 39929) (m := 3) hj8 rfl (by decide) (by decide) ed_i fun H9 g9 m9 hj9 hg9 => ?_
      refine ⟨rfl, .inr ⟨_, rfl, ?_⟩⟩
      have hc0 : (-(2 ^ 64) : Int) < 0 := by decide
      have hc1 : (3 : Int) < 2 ^ 64 := by decide
      obtain ⟨b9, hb9⟩ : ∃ b : Nat, (if decide (V.int (g9 : Int) = V.int 0) = true then (1 : Int) else 0) = (b : Int) ∧ b ≤ 1 := by
        split
        · exact ⟨1, rfl, by omega⟩
        · exact ⟨0, rfl, by omega⟩
      rw [hb9.1]
      refine ⟨(g8 : Int).fdiv 2, (b9 : Int), rfl, rfl, .inr ⟨by omega, by omega⟩, ?_⟩
      refine ⟨2, _, rfl, ?_⟩
      obtain ⟨k9, hk9, hk3⟩ : ∃ k : Nat, (if (g8 : Int).fdiv 2 * (b9 : Int) < 2 then (g8 : Int).fdiv 2 * (b9 : Int) else 2) = (k : Int) ∧ k < 3 := by
        rw [Int.fdiv_eq_ediv_of_nonneg _ (by omega)]
        have e : ((g8 : Int) / 2 * (b9 : Int)) = ((g8 / 2 * b9 : Nat) : Int) := by simp
        rw [e]
        split
        · exact ⟨g8 / 2 * b9, rfl, by omega⟩
        · exact ⟨2, rfl, by omega⟩
      rw [hk9]
      have m79 := m8.trans m9
      have k79 := hj7.kt m79
      have hpl9 := m79 _ _ hplj hpll
      have hsg9 := dp_kt k79 _ _ htt hsg7
      obtain ⟨v, ma, hv, hma, hvm9⟩ : ∃ v ma, [vm, vz, vt][k9]? = some v ∧ LMa sg ma ∧ Dp K H9 v (maD ma) := by
        have t0 : ∀ m : Ma, tt (maD m) = true := fun m => by simp [maD, tt, tts, nats_tt, mos_tt]
        match k9, hk3 with
        | 0, _ => exact ⟨vm, ma0, rfl, hma0, dp_kt k79 _ _ (t0 _) z1⟩
        | 1, _ => exact ⟨vz, ⟨0, [], []⟩, rfl, ⟨by simp, by simp, by simp, fun x hx => (by cases hx), .nil, .nil, fun x hx => (by cases hx), .nil, .nil⟩, dp_kt k79 _ _ (t0 ⟨0, [], []⟩) z2⟩
        | 2, _ => exact ⟨vt, ⟨3, [], [0, 2]⟩, rfl, ⟨by simp, by simp, by simp, fun x hx => (by cases hx), .nil, .nil, fun x hx => (by simp at hx; show x < 3; omega), (by unfold Asc nats; decide +kernel), by simp⟩, dp_kt k79 _ _ (t0 ⟨3, [], [0, 2]⟩) z3⟩
      refine ⟨pl, _, (k9 : Int), v, rfl, rfl, sq_of hpl9, atI_nat hv, ?_⟩
      dsimp only
      have hjA := hj9
      have hsgA := hsg9
      clear hsg9 hsg7 hsg4 hj8 hj7 hj4 z1 z2 z3 hvm hvz hvt hpl9
      have ok := hma.ok
      have hst := hma.st
      have tma : tt (maD ma) = true := by simp [maD, tt, tts, nats_tt, mos_tt]
      have hma19 := sdP_ma hma
      have htok := ma_toks hs.1 (by omega) hma.mo hma.ac
      have htl := maT_len hs.1 (by omega) hma.mo hma.ac (by have := hma.fm; omega) (by have := hma.fa; omega)
      have hta := ma_ascii hs.1 (by omega) hma.mo hma.ac
      refine name_in ?_
      dsimp only [List.set]
      refine seq_in ?_
      refine s_set (K := K) (d := .str (S (maT sg ma))) (ed_call (ea_cons (ed_var hsgA rfl) (ea_cons (ed_var hvm9 rfl) ea_nil)) ⟨sg, ma, rfl, hs.1, ok.wr, by omega, rfl, rfl⟩) fun vx HA sA hvx => ?_
      dsimp only [List.set]
      have hsgB := dp_same sA _ _ hsgA
      have hvmB := dp_same sA _ _ hvm9
      have hjB := hjA.same sA
      refine seq_in ?_
      refine s_ifF (et_orF (et_not (et_B (ed_call (ea_cons (ed_callX (ea_cons (ed_var (i := 3) hsgB rfl) (ea_cons (ed_var (i := 4) hvmB rfl) ea_nil)) ⟨sg, ma, rfl, hs, ok, rfl, rfl⟩) (ea_cons (ed_var (i := 5) hvx rfl) ea_nil)) ⟨rfl, ⟨19, rfl, strOk_S hta⟩, rfl⟩))) rfl
        (et_not (et_B (ed_call (ea_cons (ed_callX (ea_cons (ed_var (i := 3) hsgB rfl) (ea_cons (ed_var (i := 5) hvx rfl) ea_nil)) ⟨maT sg ma, sg, ma, ma, rfl, hs, rfl, by omega, htok.words', hma.rd, ok, rfl⟩) (ea_cons (ed_var (i := 4) hvmB rfl) ea_nil)) ⟨rfl, ⟨19, rfl, hma19⟩, rfl⟩)))) rfl fun HC sB => ?_
      have hsgC := dp_same sB _ _ hsgB
      have hvmC := dp_same sB _ _ hvmB
      have hjC := hjB.same sB
      have hvxC := dp_same sB _ _ hvx
      have few : ∀ x ∈ ma.mv, x.2.1.length ≤ 2 := fun x hx => (hma.mo x hx).few
      refine next_in ?_
      dsimp only
      refine seq_in ?_
      refine asg_in (tup_in (cons_in ?_))
      refine (ed_ixT (K := K) (ed_var (i := 4) hvmC rfl) (ed_i (n := 0)) rfl) HC (Same.refl HC) _ fun y0 H10 s10 hy0 => ?_
      have hsg10 := dp_same s10 _ _ hsgC
      have hvm10 := dp_same s10 _ _ hvmC
      have hvx10 := dp_same s10 _ _ hvxC
      have hj10 := hjC.same s10
      refine cons_in ⟨_, rfl, ?_⟩
      refine one_in ?_
      refine (ed_ixT (K := K) (ed_var (i := 4) hvm10 rfl) (ed_i (n := 1)) rfl) H10 (Same.refl H10) _ fun y1 H11 s11 hy1 => ?_
      have hfm := hma.fm
      have hfa := hma.fa
      refine ⟨j, L, m0 + 39000, ma.mv.map moD, y1, rfl, by rw [List.length_map]; omega, mos_tt _, sh_mos, (hj10.same s11).mono (by rw [List.length_map]; omega), hy1, fun w1 H12 es1 m12 hj12 hes1 hel1 hw1 => ?_⟩
      obtain ⟨ms, rfl, hms⟩ := mix_mos' hes1
      have m02 : Mv j H10 H12 := (Mv.of s11).trans m12
      have k02 := hj10.kt m02
      have hvm12 := dp_kt k02 _ _ tma hvm10
      refine one_in ⟨_, rfl, ?_⟩
      refine one_in ?_
      refine (ed_ixT (K := K) (ed_var (i := 4) hvm12 rfl) (ed_i (n := 2)) rfl) H12 (Same.refl H12) _ fun y2 H13 s13 hy2 => ?_
      refine ⟨j, L, m0 + 38000, nats ma.ac, y2, rfl, by rw [nats_len]; omega, nats_tt _, sh_nats, (hj12.same s13).mono (by rw [nats_len]; omega), hy2, fun w2 H14 es2 m14 hj14 hes2 hel2 hw2 => ?_⟩
      obtain ⟨as, rfl, has⟩ := mix_nats hes2
      have m24 : Mv j H12 H14 := (Mv.of s13).trans m14
      have m04 := m02.trans m24
      have k04 := hj10.kt m04
      rw [List.length_map, List.length_map] at hel1
      rw [nats_len, nats_len] at hel2
      refine ⟨by show 3 ≤ sizeLine; rw [sizeLine_eq]; omega, fun pm hpm => ?_⟩
      have s15 : Same H14 (upd H14 pm (.tup [y0, w1, w2])) := (Same.refl H14).new hpm
      have hmx : Dp K (upd H14 pm (.tup [y0, w1, w2])) (.ref pm) (maD ⟨ma.st, ms, as⟩) := .tup (st_of upd_same) (.cons (dp_same s15 _ _ (dp_kt k04 _ _ rfl hy0)) (.cons (dp_same s15 _ _ (dp_kt (hj12.kt m24) _ _ (by show tts _ = true; exact mos_tt _) hw1)) (.cons (dp_same s15 _ _ hw2) .nil)))
      have m05 : Mv j H10 (upd H14 pm (.tup [y0, w1, w2])) := m04.trans (Mv.of s15)
      have hj15 := hj14.same s15
      generalize upd H14 pm (.tup [y0, w1, w2]) = H15 at *
      have k05 := hj10.kt m05
      have hsg15 := dp_kt k05 _ _ htt hsg10
      have hvm15 := dp_kt k05 _ _ tma hvm10
      have hvx15 := dp_kt k05 _ _ rfl hvx10
      have rdx : MaRd sg ⟨ma.st, ms, as⟩ ma := hma.rdx hms has (by omega) (by omega)
      have mo2 : ∀ x ∈ ms, MoOk sg ma.st x := fun x hx => hma.mo x ((hms x).mp hx)
      have ac2 : ∀ q ∈ as, q < ma.st := fun x hx => hma.ac x ((has x).mp hx)
      have wr2 : MaW sg ⟨ma.st, ms, as⟩ := ⟨by show ma.st ≤ 300; omega, by show ms.length ≤ 60; omega, by show as.length ≤ 60; omega, mo2, ac2⟩
      have tok2 := ma_toks (m := ⟨ma.st, ms, as⟩) hs.1 (by show ma.st ≤ 99; omega) mo2 ac2
      have tl2 := maT_len (m := ⟨ma.st, ms, as⟩) hs.1 (by show ma.st ≤ 99; omega) mo2 ac2 (by show ms.length ≤ 20; omega) (by show as.length ≤ 20; omega)
      refine name_in ?_
      dsimp only [List.set]
      refine seq_in ?_
      obtain rfl := dpS hvx15
      unfold tFor iList
      refine lst_in (cons_in ⟨_, rfl, _, rfl, j, L, m0 + 30000, _, maW sg ma, rfl, by omega, htok, hj15.mono (by omega), fun H16 l1 m16 hj16 tk1 ll1 => ?_⟩)
      have k16 := hj15.kt m16
      have hsg16 := dp_kt k16 _ _ htt hsg15
      have hmx16 := dp_kt k16 _ _ (by simp [maD, tt, tts, nats_tt, mos_tt]) hmx
      have hvm16 := dp_kt k16 _ _ tma hvm15
      have mt : ∀ {H' : Hp} {σ : L2.St}, Dp K H' vsg (sigD sg) → Dp K H' (.ref pm) (maD ⟨ma.st, ms, as⟩) → σ[3]? = some (some vsg) → σ[6]? = some (some (.ref pm)) → EvD K (tCall (spD K RmaText) [] E0 (tCons (tVar 3) (tCons (tVar 6) tNil))) σ H' (.str (S (maT sg ⟨ma.st, ms, as⟩))) := fun h1 h2 e1 e2 =>
        ed_call (ea_cons (ed_var h1 e1) (ea_cons (ed_var h2 e2) ea_nil)) ⟨sg, _, rfl, hs.1, wr2, by show ma.st ≤ 99; omega, rfl, rfl⟩
      refine cons_in ((mt hsg16 hmx16 rfl rfl) H16 (Same.refl H16) _ fun u2 H17 s17 hu2 => ?_)
      have hsg17 := dp_same s17 _ _ hsg16
      have hmx17 := dp_same s17 _ _ hmx16
      refine cons_in ⟨_, rfl, ?_⟩
      refine one_in ((mt hsg17 hmx17 rfl rfl) H17 (Same.refl H17) _ fun u3 H18 s18 hu3 => ?_)
      obtain rfl := dpS hu2
      obtain rfl := dpS hu3
      refine ⟨j, L, m0 + 20000, _, maW sg ⟨ma.st, ms, as⟩, rfl, by omega, tok2, ((hj16.same s17).same s18).mono (by omega), fun H19 l3 m19 hj19 tk3 ll3 => ?_⟩
      refine ⟨by show 3 ≤ sizeLine; rw [sizeLine_eq]; omega, fun pr hpr => ?_⟩
      have m69 : Mv j H16 H19 := (Mv.of (s17.trans s18)).trans m19
      have s20 : Same H19 (upd H19 pr (.lst [.str (S l1), .str (S (maT sg ⟨ma.st, ms, as⟩)), .str (S l3)])) := (Same.refl H19).new hpr
      have hprl : (upd H19 pr (.lst [.str (S l1), .str (S (maT sg ⟨ma.st, ms, as⟩)), .str (S l3)])) pr = some (.lst [.str (S l1), .str (S (maT sg ⟨ma.st, ms, as⟩)), .str (S l3)]) := upd_same
      have hj20 := hj19.same s20
      have m20 := m69.trans (Mv.of s20)
      generalize upd H19 pr (.lst [.str (S l1), .str (S (maT sg ⟨ma.st, ms, as⟩)), .str (S l3)]) = H20 at *
      have k20 := hj16.kt m20
      have hsg20 := dp_kt k20 _ _ htt hsg16
      have hvm20 := dp_kt k20 _ _ tma hvm16
      refine ⟨pr, rfl, ⟨_, sq_of hprl⟩, ?_⟩
      refine loop_lst (K := K) (ds := [.str (S l1), .str (S (maT sg ⟨ma.st, ms, as⟩)), .str (S l3)]) (sq_of hprl) (.cons (.str _) (.cons (.str _) (.cons (.str _) .nil))) (fun k σ' H' => ∃ x7 : Option V, σ' = [some (.ref a), some (.ref j), some (.int (i : Int)), some vsg, some v, some (.str (S (maT sg ma))), some (.ref pm), x7] ∧ Same H20 H') ⟨_, rfl, Same.refl _⟩ (fun k σ' H' ⟨_, _, h⟩ => h) ?_ ?_
      · rintro k x vo σ' G1 hx ⟨x7, rfl, g1⟩ hvo
        obtain ⟨l', mm, rfl, tk, hl', hrd⟩ : ∃ l' mm, x = .str (S l') ∧ Toks (maW sg mm) l' ∧ l'.length ≤ 50000 ∧ MaRd sg mm ma := by
          match k, hx with
          | 0, hx => exact ⟨_, ma, (Option.some.inj hx).symm, tk1, by omega, hma.rd⟩
          | 1, hx => exact ⟨_, _, (Option.some.inj hx).symm, tok2, by omega, rdx⟩
          | 2, hx => exact ⟨_, _, (Option.some.inj hx).symm, tk3, by omega, rdx⟩
          | n + 3, hx => simp at hx
        refine name_in ?_
        dsimp only [List.set]
        have hsgG := dp_same g1 _ _ hsg20
        have hvmG := dp_same g1 _ _ hvm20
        refine s_ifF (et_not (et_B (ed_call (ea_cons (ed_callK (ed_var (i := 7) hvo rfl) (ed_var (i := 3) hsgG rfl) ⟨l', sg, mm, ma, rfl, hs, rfl, hl', tk.words', hrd, ok, rfl⟩) (ea_cons (ed_var (i := 4) hvmG rfl) ea_nil)) ⟨rfl, ⟨19, rfl, hma19⟩, rfl⟩))) rfl fun G2 g2 => ?_
        exact ⟨_, rfl, g1.trans g2⟩
      rintro σ' G1 ⟨x7, rfl, g1⟩
      have hsgG := dp_same g1 _ _ hsg20
      have hvmG := dp_same g1 _ _ hvm20
      have hjG := hj20.same g1
      dsimp only
      refine s_ifF (et_orF (et_test (ed_neS (ed_call (ea_cons (ed_tup ea_nil (by decide)) (ea_cons ed_n ea_nil)) (.inl ⟨rfl, rfl, rfl⟩)) ed_s)) (by decide +kernel)
        (et_orF (et_test (ed_neS (ed_call (ea_cons (ed_var (i := 3) hsgG rfl) (ea_cons ed_n ea_nil)) (.inr ⟨rfl, sg, hs, rfl, rfl⟩)) ed_s)) (by decide +kernel)
          (et_test (ed_neS (ed_call (ea_cons (ed_var (i := 3) hsgG rfl) (ea_cons (ed_head2 (ed_var (i := 4) hvmG rfl)) ea_nil)) (.inr ⟨rfl, sg, hs, rfl, rfl⟩)) ed_s)))) (by decide +kernel) fun G2 g2 => ?_
      exact ⟨_, _, _, _, _, _, rfl, (hjG.same g2).mono (by omega)⟩
    · rintro σ' H2 ⟨x2, x3, x4, x5, x6, x7, rfl, hj2⟩
      dsimp only
      refine s_ret (K := K) ed_b fun v H3 s3 hv => ?_
      obtain rfl := dpB hv
      exact q H3
end
end G


set_option Elab.async false
set_option linter.all false
set_option maxRecDepth 100000
set_option maxHeartbeats 0
namespace G
open PySem PySem.Spec PyProof.Rows L2
theorem facts {P : Program} (hP : PF P) {w : World} {K : PySem.W.Frag} {h : Heap} {mg : Str → Option Value} {f : Addr} (X : K.In h) (G : h.Ns mainGlobals mg) (hfa : mg ("law" : Str) = some (.ref f)) (c : SaysY fa fn [] exB csY cvY h K) :
    ∃ fd : FuncData, (∀ (s : Shared) (v : Value), BindsTo s fd ⟨[v], []⟩ [("script", v)]) ∧ ∀ base : Heap, K.In base → base.Ns mainGlobals mg → FnOk P w K mg base CX0 70 f fd ["script"] (spLaw K) := by
  have T : Tx K mg := ⟨c.d, ⟨h, X, G⟩, c.more, c.clo⟩
  obtain ⟨fd, F⟩ := T.f_law
  have e := hfa.symm.trans T.g_law
  cases e
  have b := FunD.bindsA (ps := ["script"]) F fun _ _ _ _ _ _ us hl => match us, hl with | [_], _ => rfl
  exact ⟨fd, fun s v => b s [v] rfl, fun base _ _ => fo_law T hP F⟩
end G
open PySem PySem.W PySem.Calls PyProof.Rows
theorem PySem.Challenge.cw_groundturns_k78_texts_of_machines_holds : PySem.Challenge.rw_groundturns_k78_texts_of_machines.Holds := by
  w_on; o_law
  refine HandSHeadRun.head_any (r := OpenLaw.row PySem.Challenge.rw_groundturns_k78_texts_of_machines) (q := view (OpenLaw.row PySem.Challenge.rw_groundturns_k78_texts_of_machines).prog [G.lawAt]) (H := G.hk) (ob := G.ob) (M := 4000) (loose := G.la) (d := HandSHeadRun.topDef (OpenLaw.row PySem.Challenge.rw_groundturns_k78_texts_of_machines).prog G.lawAt) (kwd := []) G.ob_eq
    (by kernel_rfl) (fun s => by kernel_rfl) G.run (by kernel_rfl) (by kernel_rfl) (by kernel_rfl) (by rfl) (by first | assumption | decide +kernel) (by decide +kernel) ⟨rfl, rfl, rfl, rfl, rfl, by decide +kernel⟩ ?hw ?hc
  case hw => w_witness2
  case hc =>
    refine LamX.walk_ofTsE (l := PySem.Challenge.rw_groundturns_k78_texts_of_machines) (n := 63) (k := 70) (x := "script") (CX := fun _ => L2.CX0) rfl (by decide) (by kernel_rfl) ⟨rfl, by decide, by decide⟩ ?F (fun _ _ _ _ _ z => z)
    intro w mg fa h Y G0 hmg0
    obtain ⟨K, KX, c⟩ := Y
    have hmg : mg ("law" : PySem.Str) = some (.ref fa) := by
      have e : (HandSHeadRun.topDef (OpenLaw.row PySem.Challenge.rw_groundturns_k78_texts_of_machines).prog G.lawAt).name = ("law" : PySem.Str) := by kernel_rfl
      rw [← e]
      exact hmg0
    obtain ⟨fd, hb, hF⟩ := G.facts (P := (PySem.Challenge.rw_groundturns_k78_texts_of_machines).prog) ⟨by decide +kernel, by decide +kernel⟩ (w := w) KX G0 hmg c
    refine ⟨K, KX, fd, [], G.spLaw K, fun p hp => (by cases hp), fun p hp => (by cases hp), fun p hp => (by cases hp), hb, fun H a ns hl hz hT hS => ⟨a, ns, rfl, hS, hl, fun _ => rfl⟩, fun base h1 h2 h3 => hF base h1 h2⟩

