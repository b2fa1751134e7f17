import PyProof.Rows.All
import Wide.All
import OpenK.AllK
import Wide.FinOn
import HandS.HeadHook2
import HandS.HeadHook3
import HandS.HeadHook4
import KE.KSuperObj
import KE.KStateDown
import HandS.ForMost
import HandS.WordsExc
import HandS.Defaults
import HandS.Head0
import HandS.Head1
import HandS.Head2
import HandS.HeadEnd
import HandS.HeadHook1
import HandS.HeadWalk
import HandS.IsInst
import HandS.Deep
import HandS.DictComp
import HandS.TryMany
import HandS.ExcOwn
import HandS.Nested
import PyProof.NeKinds
import HandS.TupAny
import HandS.TupSets
import HandS.Strs
import HandS.SetKeys
import KE.KeyNested
import HandS.Codes
import KE.KSuper
import HandS.ExcSuper
import KE.GoesEnum
import HandS.Style
import HandS.MakeKwOnly
import PySem.Challenge.RW_groundturns_k77_texts_of_trees_and_rules
set_option Elab.async false
set_option linter.all false
set_option maxRecDepth 100000
set_option maxHeartbeats 4000000
namespace G
open PySem PySem.Spec PyProof.Rows L2
/-! ### a head that tells methods with super() too -/
/-- a function without its closure -/
abbrev FnC : Type := Option (Str × Str × Arguments × FuncBody × Scope × Addr × Addr)
def fnC (K : PySem.W.Frag) (p : Str × Option Str) : FnC := match K.lookup (He.fAd K p) with
  | some ⟨_, _, .func fd, _⟩ => some (fd.name, fd.qualname, fd.params, fd.body, fd.scope, fd.globals, fd.builtins)
  | _ => none
def cellB (K : PySem.W.Frag) (c : Addr) (v : Value) : Bool := match K.lookup c with
  | some ⟨_, _, .cell (some u), _⟩ => decide (u = v)
  | _ => false
def fileB (K : PySem.W.Frag) (cv : Value) (file : Str) : Bool := match cv with
  | .ref cc => (match K.lookup cc with
    | some ⟨_, _, .fields vs, _⟩ => (match vs.toList with
      | _ :: _ :: .str f _ :: _ => decide (f = file)
      | _ => false)
    | _ => false)
  | _ => false
/-- its closure: the class alone; its code's file -/
def clB (K : PySem.W.Frag) (p : Str × Option Str) (q file : Str) : Bool := match K.lookup (He.fAd K p) with
  | some ⟨_, _, .func fd, _⟩ => PySem.W.codeIn K fd.code q && decide (fd.defaults = .none) && decide (fd.kwdefaults = .none) && fileB K fd.code file && (match fd.closure with
    | [(x, c)] => decide (x = ("__class__" : Str)) && cellB K c (.ref (He.ga K p.1))
    | _ => false)
  | _ => false
/-- the class c over the class d -/
def supB (K : PySem.W.Frag) (c d : Str) : Bool := (match PySem.W.clsIn K (He.ga K c) with
    | some cd => decide (cd.mro = [.ref (He.ga K c), .ref (He.ga K d), .type "object"])
    | _ => false) && decide (PySem.W.nsIn K cStatics "thirdparty.any" = some none)
  && decide (PySem.W.alongIn K "__init__" [.ref (He.ga K d), .type "object"] = some (some (.ref (He.ma K (He.ga K d) "__init__")))) && PySem.W.isFn K (.ref (He.ma K (He.ga K d) "__init__"))
/-- the fragment: what hangs from the globals, and the statics' dict -/
def frY (g : Addr → Option Obj) (n : Nat) : PySem.W.Frag := match g cStatics with
  | some o => (cStatics, o) :: He.frT g (He.asD g n)
  | none => He.frT g (He.asD g n)
theorem frY_in {h : Heap} {n : Nat} : (frY h.get? n).In h := by
  unfold frY
  cases e : h.get? cStatics with
  | none => exact He.frT_in
  | some o =>
    intro a u hu
    show h.get? a = some u
    have hu : (if (a == cStatics) = true then some o else (He.frT h.get? (He.asD h.get? n)).lookup a) = some u := by
      rw [List.lookup_cons] at hu
      cases q : a == cStatics with
      | true => rw [q] at hu; exact hu
      | false => rw [q] at hu; exact hu
    by_cases q : (a == cStatics) = true
    · rw [if_pos q] at hu
      rw [eq_of_beq q, e]
      exact hu
    · rw [if_neg q] at hu
      exact He.frT_in a u hu
abbrev AlY : Type := He.AlD × Bool × List FnC
def tabY (g : Addr → Option Obj) (tf : List He.Defn) (K : PySem.W.Frag) : Bool := tf.all fun p => PySem.W.codeHdIn K (He.cT K p).1 (He.cT K p).2 && ((K.lookup (He.cT K p).2).isNone && (match g (He.cT K p).2 with
  | some o => He.emptyTab o
  | none => false))
def obsY (n : Nat) (fa : List He.Fa) (fn : List He.DefD) (tf : List He.Defn) (ex : PySem.W.Frag → Bool) (cs : List (Str × Option Str)) (g : Addr → Option Obj) : AlY :=
  (He.obsD fa fn (frY g n), ex (frY g n) && tabY g tf (frY g n), cs.map (fnC (frY g n)))
structure SaysY (fa : List He.Fa) (fn : List He.DefD) (tf : List He.Defn) (ex : PySem.W.Frag → Bool) (cs : List (Str × Option Str)) (cv : List FnC) (h : Heap) (K : PySem.W.Frag) : Prop where
  d : He.SaysD fa fn K
  more : ex K = true
  hd : ∀ p ∈ tf, PySem.W.codeHdIn K (He.cT K p).1 (He.cT K p).2 = true
  out : ∀ p ∈ tf, K.lookup (He.cT K p).2 = none
  empty : ∀ p ∈ tf, h.get? (He.cT K p).2 = some { cls := .none, data := .fields #[] }
  clo : cs.map (fnC K) = cv
theorem saysY_of {n : Nat} {fa : List He.Fa} {fn : List He.DefD} {tf : List He.Defn} {ex : PySem.W.Frag → Bool} {cs : List (Str × Option Str)} {cv : List FnC} {h : Heap} (e : obsY n fa fn tf ex cs h.get? = (He.valD fn, true, cv)) : SaysY fa fn tf ex cs cv h (frY h.get? n) := by
  have e1 : He.obsD fa fn (frY h.get? n) = He.valD fn := congrArg (fun z : AlY => z.1) e
  have e2 : (ex (frY h.get? n) && tabY h.get? tf (frY h.get? n)) = true := congrArg (fun z : AlY => z.2.1) e
  have e3 : cs.map (fnC (frY h.get? n)) = cv := congrArg (fun z : AlY => z.2.2) e
  obtain ⟨h1, h2⟩ := Bool.and_eq_true_iff.mp e2
  have key : ∀ p ∈ tf, PySem.W.codeHdIn (frY h.get? n) (He.cT (frY h.get? n) p).1 (He.cT (frY h.get? n) p).2 = true ∧ (frY h.get? n).lookup (He.cT (frY h.get? n) p).2 = none ∧ ∃ o, h.get? (He.cT (frY h.get? n) p).2 = some o ∧ He.emptyTab o = true := fun p hp => by
    obtain ⟨h3, h4⟩ := Bool.and_eq_true_iff.mp (List.all_eq_true.mp h2 p hp)
    obtain ⟨h4, h5⟩ := Bool.and_eq_true_iff.mp h4
    refine ⟨h3, Option.isNone_iff_eq_none.mp h4, ?_⟩
    cases q : h.get? (He.cT (frY h.get? n) p).2 with
    | none => rw [q] at h5; cases h5
    | some o => rw [q] at h5; exact ⟨o, rfl, h5⟩
  exact ⟨e1, h1, fun p hp => (key p hp).1, fun p hp => (key p hp).2.1, fun p hp => by
    obtain ⟨_, _, o, q, z⟩ := key p hp
    rw [q, He.emptyTab_eq z], e3⟩
def hookY (n : Nat) (fa : List He.Fa) (fn : List He.DefD) (tf : List He.Defn) (ex : PySem.W.Frag → Bool) (cs : List (Str × Option Str)) (cv : List FnC) : PySem.W.Hook where
  α := AlY
  obs := fun s => obsY n fa fn tf ex cs s.heap.get?
  val := fun _ => (He.valD fn, true, cv)
  says := fun _ h => ∃ K : PySem.W.Frag, K.In h ∧ SaysY fa fn tf ex cs cv h K
  of := fun _ _ e => ⟨_, frY_in, saysY_of e⟩
  keeps := fun _ _ _ ⟨K, hK, c⟩ k => ⟨K, PySem.W.Frag.In.keeps hK k, ⟨c.d, c.more, c.hd, c.out, fun p hp => k _ _ (c.empty p hp), c.clo⟩⟩
theorem obsY_eq {n : Nat} {fa : List He.Fa} {fn : List He.DefD} {tf : List He.Defn} {ex : PySem.W.Frag → Bool} {cs : List (Str × Option Str)} {cv : List FnC} {g : Addr → Option Obj} {s : Shared} (h : ∀ a, g a = s.heap.get? a) :
    obsY n fa fn tf ex cs g = (hookY n fa fn tf ex cs cv).obs s := by
  have e : g = s.heap.get? := funext h
  rw [e] <;> rfl
end G

set_option Elab.async false
set_option linter.all false
set_option maxRecDepth 100000
set_option maxHeartbeats 4000000
namespace G
open PySem PySem.Spec PyProof.Rows L2
def top (i : Nat) : Stmt := PySem.Challenge.pw_groundturns_k77_texts_of_trees_and_rules.main.body.getD i (.Pass ⟨0, 0, 0, 0⟩)
abbrev s_is_int : Stmt := top 4
abbrev s_within : Stmt := top 5
abbrev s_is_row : Stmt := top 6
abbrev s_is_low_name : Stmt := top 7
abbrev s_BadText___init__ : Stmt := inClass (top 13) 0
abbrev s_is_signature : Stmt := top 19
abbrev s_need_signature : Stmt := top 20
abbrev s_is_small_tree : Stmt := top 21
abbrev s_is_tree : Stmt := top 22
abbrev s_need_tree : Stmt := top 23
abbrev s_through : Stmt := top 24
abbrev s_is_rule : Stmt := top 27
abbrev s_are_right_rules : Stmt := top 28
abbrev s_are_rules : Stmt := top 29
abbrev s_need_rules : Stmt := top 30
abbrev s_words_in : Stmt := top 34
abbrev s_is_numeral : Stmt := top 35
abbrev s_Reader___init__ : Stmt := inClass (top 36) 0
abbrev s_Reader_word : Stmt := inClass (top 36) 1
abbrev s_Reader_stop : Stmt := inClass (top 36) 2
abbrev s_Reader_mark : Stmt := inClass (top 36) 3
abbrev s_Reader_goes_on : Stmt := inClass (top 36) 4
abbrev s_Reader_numeral : Stmt := inClass (top 36) 5
abbrev s_Reader_end : Stmt := inClass (top 36) 6
abbrev s_Reader_due : Stmt := inClass (top 36) 7
abbrev s_write_signature : Stmt := top 38
abbrev s_read_signature : Stmt := top 39
abbrev s_written_tree : Stmt := top 40
abbrev s_write_tree : Stmt := top 41
abbrev s_TreeReader___init__ : Stmt := inClass (top 42) 0
abbrev s_TreeReader_symbol : Stmt := inClass (top 42) 1
abbrev s_TreeReader_tree : Stmt := inClass (top 42) 2
abbrev s_TreeReader_closed : Stmt := inClass (top 42) 3
abbrev s_TreeReader_rule : Stmt := inClass (top 42) 4
abbrev s_read_tree : Stmt := top 43
abbrev s_written_rules : Stmt := top 44
abbrev s_write_rules : Stmt := top 45
abbrev s_read_rules : Stmt := top 46
abbrev s__law_jug : Stmt := top 48
abbrev s__law_take : Stmt := top 49
abbrev s__law_same : Stmt := top 50
abbrev s__law_signature : Stmt := top 51
abbrev s__law_tree : Stmt := top 52
abbrev s__law_rules : Stmt := top 53
abbrev s__law_tree_text : Stmt := top 54
abbrev s__law_rules_text : Stmt := top 55
abbrev s__law_words : Stmt := top 56
abbrev s__law_loose : Stmt := top 57
abbrev s__law_word : Stmt := top 58
abbrev s_law : Stmt := top 59
abbrev d_is_int : He.DefD := ⟨("is_int", none), "is_int", "is_int", defArgs s_is_int, defBody s_is_int, defScope s_is_int, [], []⟩
abbrev d_within : He.DefD := ⟨("within", none), "within", "within", defArgs s_within, defBody s_within, defScope s_within, [], []⟩
abbrev d_is_row : He.DefD := ⟨("is_row", none), "is_row", "is_row", defArgs s_is_row, defBody s_is_row, defScope s_is_row, [], []⟩
abbrev d_is_low_name : He.DefD := ⟨("is_low_name", none), "is_low_name", "is_low_name", defArgs s_is_low_name, defBody s_is_low_name, defScope s_is_low_name, [], []⟩
abbrev d_is_signature : He.DefD := ⟨("is_signature", none), "is_signature", "is_signature", defArgs s_is_signature, defBody s_is_signature, defScope s_is_signature, [], []⟩
abbrev d_need_signature : He.DefD := ⟨("need_signature", none), "need_signature", "need_signature", defArgs s_need_signature, defBody s_need_signature, defScope s_need_signature, [], []⟩
abbrev d_is_small_tree : He.DefD := ⟨("is_small_tree", none), "is_small_tree", "is_small_tree", defArgs s_is_small_tree, defBody s_is_small_tree, defScope s_is_small_tree, [], []⟩
abbrev d_is_tree : He.DefD := ⟨("is_tree", none), "is_tree", "is_tree", defArgs s_is_tree, defBody s_is_tree, defScope s_is_tree, [], []⟩
abbrev d_need_tree : He.DefD := ⟨("need_tree", none), "need_tree", "need_tree", defArgs s_need_tree, defBody s_need_tree, defScope s_need_tree, [], []⟩
abbrev d_through : He.DefD := ⟨("through", none), "through", "through", defArgs s_through, defBody s_through, defScope s_through, [], []⟩
abbrev d_is_rule : He.DefD := ⟨("is_rule", none), "is_rule", "is_rule", defArgs s_is_rule, defBody s_is_rule, defScope s_is_rule, [], []⟩
abbrev d_are_right_rules : He.DefD := ⟨("are_right_rules", none), "are_right_rules", "are_right_rules", defArgs s_are_right_rules, defBody s_are_right_rules, defScope s_are_right_rules, [], []⟩
abbrev d_are_rules : He.DefD := ⟨("are_rules", none), "are_rules", "are_rules", defArgs s_are_rules, defBody s_are_rules, defScope s_are_rules, [], []⟩
abbrev d_need_rules : He.DefD := ⟨("need_rules", none), "need_rules", "need_rules", defArgs s_need_rules, defBody s_need_rules, defScope s_need_rules, [], []⟩
abbrev d_words_in : He.DefD := ⟨("words_in", none), "words_in", "words_in", defArgs s_words_in, defBody s_words_in, defScope s_words_in, [], []⟩
abbrev d_is_numeral : He.DefD := ⟨("is_numeral", none), "is_numeral", "is_numeral", defArgs s_is_numeral, defBody s_is_numeral, defScope s_is_numeral, [], []⟩
abbrev d_Reader___init__ : He.DefD := ⟨("Reader", some "__init__"), "__init__", "Reader.__init__", defArgs s_Reader___init__, defBody s_Reader___init__, defScope s_Reader___init__, [], []⟩
abbrev d_Reader_word : He.DefD := ⟨("Reader", some "word"), "word", "Reader.word", defArgs s_Reader_word, defBody s_Reader_word, defScope s_Reader_word, [], []⟩
abbrev d_Reader_stop : He.DefD := ⟨("Reader", some "stop"), "stop", "Reader.stop", defArgs s_Reader_stop, defBody s_Reader_stop, defScope s_Reader_stop, [], []⟩
abbrev d_Reader_mark : He.DefD := ⟨("Reader", some "mark"), "mark", "Reader.mark", defArgs s_Reader_mark, defBody s_Reader_mark, defScope s_Reader_mark, [], []⟩
abbrev d_Reader_goes_on : He.DefD := ⟨("Reader", some "goes_on"), "goes_on", "Reader.goes_on", defArgs s_Reader_goes_on, defBody s_Reader_goes_on, defScope s_Reader_goes_on, [], []⟩
abbrev d_Reader_numeral : He.DefD := ⟨("Reader", some "numeral"), "numeral", "Reader.numeral", defArgs s_Reader_numeral, defBody s_Reader_numeral, defScope s_Reader_numeral, [], []⟩
abbrev d_Reader_end : He.DefD := ⟨("Reader", some "end"), "end", "Reader.end", defArgs s_Reader_end, defBody s_Reader_end, defScope s_Reader_end, [], []⟩
abbrev d_Reader_due : He.DefD := ⟨("Reader", some "due"), "due", "Reader.due", defArgs s_Reader_due, defBody s_Reader_due, defScope s_Reader_due, [], []⟩
abbrev d_write_signature : He.DefD := ⟨("write_signature", none), "write_signature", "write_signature", defArgs s_write_signature, defBody s_write_signature, defScope s_write_signature, [], []⟩
abbrev d_read_signature : He.DefD := ⟨("read_signature", none), "read_signature", "read_signature", defArgs s_read_signature, defBody s_read_signature, defScope s_read_signature, [], []⟩
abbrev d_written_tree : He.DefD := ⟨("written_tree", none), "written_tree", "written_tree", defArgs s_written_tree, defBody s_written_tree, defScope s_written_tree, [], []⟩
abbrev d_write_tree : He.DefD := ⟨("write_tree", none), "write_tree", "write_tree", defArgs s_write_tree, defBody s_write_tree, defScope s_write_tree, [], []⟩
abbrev d_TreeReader_symbol : He.DefD := ⟨("TreeReader", some "symbol"), "symbol", "TreeReader.symbol", defArgs s_TreeReader_symbol, defBody s_TreeReader_symbol, defScope s_TreeReader_symbol, [], []⟩
abbrev d_TreeReader_tree : He.DefD := ⟨("TreeReader", some "tree"), "tree", "TreeReader.tree", defArgs s_TreeReader_tree, defBody s_TreeReader_tree, defScope s_TreeReader_tree, [], []⟩
abbrev d_TreeReader_closed : He.DefD := ⟨("TreeReader", some "closed"), "closed", "TreeReader.closed", defArgs s_TreeReader_closed, defBody s_TreeReader_closed, defScope s_TreeReader_closed, [], []⟩
abbrev d_TreeReader_rule : He.DefD := ⟨("TreeReader", some "rule"), "rule", "TreeReader.rule", defArgs s_TreeReader_rule, defBody s_TreeReader_rule, defScope s_TreeReader_rule, [], []⟩
abbrev d_read_tree : He.DefD := ⟨("read_tree", none), "read_tree", "read_tree", defArgs s_read_tree, defBody s_read_tree, defScope s_read_tree, [], []⟩
abbrev d_written_rules : He.DefD := ⟨("written_rules", none), "written_rules", "written_rules", defArgs s_written_rules, defBody s_written_rules, defScope s_written_rules, [], []⟩
abbrev d_write_rules : He.DefD := ⟨("write_rules", none), "write_rules", "write_rules", defArgs s_write_rules, defBody s_write_rules, defScope s_write_rules, [], []⟩
abbrev d_read_rules : He.DefD := ⟨("read_rules", none), "read_rules", "read_rules", defArgs s_read_rules, defBody s_read_rules, defScope s_read_rules, [], []⟩
abbrev d__law_jug : He.DefD := ⟨("_law_jug", none), "_law_jug", "_law_jug", defArgs s__law_jug, defBody s__law_jug, defScope s__law_jug, [], []⟩
abbrev d__law_take : He.DefD := ⟨("_law_take", none), "_law_take", "_law_take", defArgs s__law_take, defBody s__law_take, defScope s__law_take, [], []⟩
abbrev d__law_same : He.DefD := ⟨("_law_same", none), "_law_same", "_law_same", defArgs s__law_same, defBody s__law_same, defScope s__law_same, [], []⟩
abbrev d__law_signature : He.DefD := ⟨("_law_signature", none), "_law_signature", "_law_signature", defArgs s__law_signature, defBody s__law_signature, defScope s__law_signature, [], []⟩
abbrev d__law_tree : He.DefD := ⟨("_law_tree", none), "_law_tree", "_law_tree", defArgs s__law_tree, defBody s__law_tree, defScope s__law_tree, [], []⟩
abbrev d__law_rules : He.DefD := ⟨("_law_rules", none), "_law_rules", "_law_rules", defArgs s__law_rules, defBody s__law_rules, defScope s__law_rules, [], []⟩
abbrev d__law_tree_text : He.DefD := ⟨("_law_tree_text", none), "_law_tree_text", "_law_tree_text", defArgs s__law_tree_text, defBody s__law_tree_text, defScope s__law_tree_text, [], []⟩
abbrev d__law_rules_text : He.DefD := ⟨("_law_rules_text", none), "_law_rules_text", "_law_rules_text", defArgs s__law_rules_text, defBody s__law_rules_text, defScope s__law_rules_text, [], []⟩
abbrev d__law_words : He.DefD := ⟨("_law_words", none), "_law_words", "_law_words", defArgs s__law_words, defBody s__law_words, defScope s__law_words, [], []⟩
abbrev d__law_loose : He.DefD := ⟨("_law_loose", none), "_law_loose", "_law_loose", defArgs s__law_loose, defBody s__law_loose, defScope s__law_loose, [], []⟩
abbrev d__law_word : He.DefD := ⟨("_law_word", none), "_law_word", "_law_word", defArgs s__law_word, defBody s__law_word, defScope s__law_word, [], []⟩
abbrev d_law : He.DefD := ⟨("law", none), "law", "law", defArgs s_law, defBody s_law, defScope s_law, [], []⟩
abbrev d_TreeReader_word : He.DefD := ⟨("TreeReader", some "word"), "word", "Reader.word", defArgs s_Reader_word, defBody s_Reader_word, defScope s_Reader_word, [], []⟩
abbrev d_TreeReader_stop : He.DefD := ⟨("TreeReader", some "stop"), "stop", "Reader.stop", defArgs s_Reader_stop, defBody s_Reader_stop, defScope s_Reader_stop, [], []⟩
abbrev d_TreeReader_mark : He.DefD := ⟨("TreeReader", some "mark"), "mark", "Reader.mark", defArgs s_Reader_mark, defBody s_Reader_mark, defScope s_Reader_mark, [], []⟩
abbrev d_TreeReader_goes_on : He.DefD := ⟨("TreeReader", some "goes_on"), "goes_on", "Reader.goes_on", defArgs s_Reader_goes_on, defBody s_Reader_goes_on, defScope s_Reader_goes_on, [], []⟩
abbrev d_TreeReader_numeral : He.DefD := ⟨("TreeReader", some "numeral"), "numeral", "Reader.numeral", defArgs s_Reader_numeral, defBody s_Reader_numeral, defScope s_Reader_numeral, [], []⟩
abbrev d_TreeReader_end : He.DefD := ⟨("TreeReader", some "end"), "end", "Reader.end", defArgs s_Reader_end, defBody s_Reader_end, defScope s_Reader_end, [], []⟩
abbrev d_TreeReader_due : He.DefD := ⟨("TreeReader", some "due"), "due", "Reader.due", defArgs s_Reader_due, defBody s_Reader_due, defScope s_Reader_due, [], []⟩
def fn0 : List He.DefD := [d_is_int, d_within, d_is_row, d_is_low_name, d_is_signature, d_need_signature, d_is_small_tree, d_is_tree, d_need_tree, d_through, d_is_rule, d_are_right_rules, d_are_rules, d_need_rules, d_words_in, d_is_numeral, d_Reader___init__, d_Reader_word, d_Reader_stop, d_Reader_mark]
def fn1 : List He.DefD := [d_Reader_goes_on, d_Reader_numeral, d_Reader_end, d_Reader_due, d_write_signature, d_read_signature, d_written_tree, d_write_tree, d_TreeReader_symbol, d_TreeReader_tree, d_TreeReader_closed, d_TreeReader_rule, d_read_tree, d_written_rules, d_write_rules, d_read_rules, d__law_jug, d__law_take, d__law_same, d__law_signature]
def fn2 : List He.DefD := [d__law_tree, d__law_rules, d__law_tree_text, d__law_rules_text, d__law_words, d__law_loose, d__law_word, d_law, d_TreeReader_word, d_TreeReader_stop, d_TreeReader_mark, d_TreeReader_goes_on, d_TreeReader_numeral, d_TreeReader_end, d_TreeReader_due]
def fn : List He.DefD := fn0 ++ (fn1 ++ (fn2))
def fa0 : List He.Fa := [.glo "is_int", .glo "within", .glo "is_row", .glo "is_low_name", .glo "is_signature", .glo "need_signature", .glo "is_small_tree", .glo "is_tree", .glo "need_tree", .glo "through", .glo "is_rule", .glo "are_right_rules", .glo "are_rules", .glo "need_rules", .glo "words_in", .glo "is_numeral", .glo "write_signature", .glo "read_signature", .glo "written_tree", .glo "write_tree", .glo "read_tree", .glo "written_rules", .glo "write_rules", .glo "read_rules", .glo "_law_jug", .glo "_law_take", .glo "_law_same", .glo "_law_signature", .glo "_law_tree", .glo "_law_rules"]
def fa1 : List He.Fa := [.glo "_law_tree_text", .glo "_law_rules_text", .glo "_law_words", .glo "_law_loose", .glo "_law_word", .glo "law", .glo "GroundError", .glo "BadSignature", .glo "BadTree", .glo "BadRules", .glo "BadText", .glo "Reader", .glo "TreeReader", .free "ValueError", .free "abs", .free "all", .free "bool", .free "enumerate", .free "int", .free "isinstance", .free "len", .free "list", .free "min", .free "range", .free "set", .free "str", .free "super", .free "tuple", .str "SMALL_LETTERS" "abcdefghijklmnopqrstuvwxyz", .str "DIGITS" "0123456789"]
def fa2 : List He.Fa := [.int "LONGEST_NAME" 10, .int "MOST_SYMBOLS" 12, .int "MOST_ARITY" 2, .int "MOST_DEPTH" 60, .int "MOST_SIZE" 1000, .int "MOST_RULES" 30, .str "RUNS" "abcdefghijklmnopqrstuvwxyz0123456789", .str "BLANKS" " \n", .exc "GroundError", .exc "BadSignature", .exc "BadTree", .exc "BadRules", .cls "Reader", .meth "Reader" "word", .meth "Reader" "stop", .meth "Reader" "mark", .meth "Reader" "goes_on", .meth "Reader" "numeral", .meth "Reader" "end", .meth "Reader" "due", .noat "Reader" "text", .noat "Reader" "words", .noat "Reader" "at", .mkr "Reader", .cls "TreeReader", .meth "TreeReader" "symbol", .meth "TreeReader" "tree", .meth "TreeReader" "closed", .meth "TreeReader" "rule", .meth "TreeReader" "word"]
def fa3 : List He.Fa := [.meth "TreeReader" "stop", .meth "TreeReader" "mark", .meth "TreeReader" "goes_on", .meth "TreeReader" "numeral", .meth "TreeReader" "end", .meth "TreeReader" "due", .noat "TreeReader" "signature", .noat "TreeReader" "symbols", .noat "TreeReader" "at", .noat "TreeReader" "text", .noat "TreeReader" "words", .mkr "TreeReader", .exm "GroundError" "GroundError" true, .exm "GroundError" "BadSignature" false, .exm "GroundError" "BadTree" false, .exm "GroundError" "BadRules" false, .exm "GroundError" "BadText" false, .exm "BadSignature" "GroundError" true, .exm "BadSignature" "BadSignature" true, .exm "BadSignature" "BadTree" false, .exm "BadSignature" "BadRules" false, .exm "BadSignature" "BadText" false, .exm "BadTree" "GroundError" true, .exm "BadTree" "BadSignature" false, .exm "BadTree" "BadTree" true, .exm "BadTree" "BadRules" false, .exm "BadTree" "BadText" false, .exm "BadRules" "GroundError" true, .exm "BadRules" "BadSignature" false, .exm "BadRules" "BadTree" false]
def fa4 : List He.Fa := [.exm "BadRules" "BadRules" true, .exm "BadRules" "BadText" false, .exm "BadText" "GroundError" true, .exm "BadText" "BadSignature" false, .exm "BadText" "BadTree" false, .exm "BadText" "BadRules" false, .exm "BadText" "BadText" true]
def fa : List He.Fa := fa0 ++ (fa1 ++ (fa2 ++ (fa3 ++ (fa4))))
def la0 : List PySem.Str := ["SMALL_LETTERS", "DIGITS", "LONGEST_NAME", "is_int", "within", "is_row", "is_low_name", "GroundError", "BadSignature", "BadTree", "BadRules", "BadText", "MOST_SYMBOLS", "MOST_ARITY", "MOST_DEPTH", "MOST_SIZE", "is_signature", "need_signature", "is_small_tree", "is_tree", "need_tree", "through", "MOST_RULES", "is_rule", "are_right_rules", "are_rules", "need_rules", "RUNS", "BLANKS", "words_in"]
def la1 : List PySem.Str := ["is_numeral", "Reader", "write_signature", "read_signature", "written_tree", "write_tree", "TreeReader", "read_tree", "written_rules", "write_rules", "read_rules", "_law_jug", "_law_take", "_law_same", "_law_signature", "_law_tree", "_law_rules", "_law_tree_text", "_law_rules_text", "_law_words", "_law_loose", "_law_word"]
abbrev la : List PySem.Str := la0 ++ (la1)
abbrev R : PySem.W.OpenRow := PySem.W.OpenLaw.row PySem.Challenge.rw_groundturns_k77_texts_of_trees_and_rules
def lawAt : Nat := 59
def exB (K : PySem.W.Frag) : Bool := clB K ("TreeReader", some "__init__") "TreeReader.__init__" "/claim/cut.py" && supB K "TreeReader" "Reader"
def csY : List (Str × Option Str) := [("TreeReader", some "__init__")]
def cvY : List FnC := [some ("__init__", "TreeReader.__init__", defArgs s_TreeReader___init__, .stmts (defBody s_TreeReader___init__), defScope s_TreeReader___init__, mainGlobals, builtinsNs)]
/-- what the top has written -/
structure Tx (K : PySem.W.Frag) (mg : Str → Option Value) : Prop where
  c : He.SaysD fa fn K
  h : ∃ h : Heap, K.In h ∧ h.Ns mainGlobals mg
  more : exB K = true
  clo : csY.map (fnC K) = cvY
section
variable {K : PySem.W.Frag} {mg : Str → Option Value}
theorem Tx.g_is_int (T : Tx K mg) : mg "is_int" = some (.ref (He.ga K "is_int")) := by
  obtain ⟨h, X, N⟩ := T.h
  exact He.glo_ok X N (T.c.fact 0 (f := .glo "is_int") rfl)
theorem Tx.g_within (T : Tx K mg) : mg "within" = some (.ref (He.ga K "within")) := by
  obtain ⟨h, X, N⟩ := T.h
  exact He.glo_ok X N (T.c.fact 1 (f := .glo "within") rfl)
theorem Tx.g_is_row (T : Tx K mg) : mg "is_row" = some (.ref (He.ga K "is_row")) := by
  obtain ⟨h, X, N⟩ := T.h
  exact He.glo_ok X N (T.c.fact 2 (f := .glo "is_row") rfl)
theorem Tx.g_is_low_name (T : Tx K mg) : mg "is_low_name" = some (.ref (He.ga K "is_low_name")) := by
  obtain ⟨h, X, N⟩ := T.h
  exact He.glo_ok X N (T.c.fact 3 (f := .glo "is_low_name") rfl)
theorem Tx.g_is_signature (T : Tx K mg) : mg "is_signature" = some (.ref (He.ga K "is_signature")) := by
  obtain ⟨h, X, N⟩ := T.h
  exact He.glo_ok X N (T.c.fact 4 (f := .glo "is_signature") rfl)
theorem Tx.g_need_signature (T : Tx K mg) : mg "need_signature" = some (.ref (He.ga K "need_signature")) := by
  obtain ⟨h, X, N⟩ := T.h
  exact He.glo_ok X N (T.c.fact 5 (f := .glo "need_signature") rfl)
theorem Tx.g_is_small_tree (T : Tx K mg) : mg "is_small_tree" = some (.ref (He.ga K "is_small_tree")) := by
  obtain ⟨h, X, N⟩ := T.h
  exact He.glo_ok X N (T.c.fact 6 (f := .glo "is_small_tree") rfl)
theorem Tx.g_is_tree (T : Tx K mg) : mg "is_tree" = some (.ref (He.ga K "is_tree")) := by
  obtain ⟨h, X, N⟩ := T.h
  exact He.glo_ok X N (T.c.fact 7 (f := .glo "is_tree") rfl)
theorem Tx.g_need_tree (T : Tx K mg) : mg "need_tree" = some (.ref (He.ga K "need_tree")) := by
  obtain ⟨h, X, N⟩ := T.h
  exact He.glo_ok X N (T.c.fact 8 (f := .glo "need_tree") rfl)
theorem Tx.g_through (T : Tx K mg) : mg "through" = some (.ref (He.ga K "through")) := by
  obtain ⟨h, X, N⟩ := T.h
  exact He.glo_ok X N (T.c.fact 9 (f := .glo "through") rfl)
theorem Tx.g_is_rule (T : Tx K mg) : mg "is_rule" = some (.ref (He.ga K "is_rule")) := by
  obtain ⟨h, X, N⟩ := T.h
  exact He.glo_ok X N (T.c.fact 10 (f := .glo "is_rule") rfl)
theorem Tx.g_are_right_rules (T : Tx K mg) : mg "are_right_rules" = some (.ref (He.ga K "are_right_rules")) := by
  obtain ⟨h, X, N⟩ := T.h
  exact He.glo_ok X N (T.c.fact 11 (f := .glo "are_right_rules") rfl)
theorem Tx.g_are_rules (T : Tx K mg) : mg "are_rules" = some (.ref (He.ga K "are_rules")) := by
  obtain ⟨h, X, N⟩ := T.h
  exact He.glo_ok X N (T.c.fact 12 (f := .glo "are_rules") rfl)
theorem Tx.g_need_rules (T : Tx K mg) : mg "need_rules" = some (.ref (He.ga K "need_rules")) := by
  obtain ⟨h, X, N⟩ := T.h
  exact He.glo_ok X N (T.c.fact 13 (f := .glo "need_rules") rfl)
theorem Tx.g_words_in (T : Tx K mg) : mg "words_in" = some (.ref (He.ga K "words_in")) := by
  obtain ⟨h, X, N⟩ := T.h
  exact He.glo_ok X N (T.c.fact 14 (f := .glo "words_in") rfl)
theorem Tx.g_is_numeral (T : Tx K mg) : mg "is_numeral" = some (.ref (He.ga K "is_numeral")) := by
  obtain ⟨h, X, N⟩ := T.h
  exact He.glo_ok X N (T.c.fact 15 (f := .glo "is_numeral") rfl)
theorem Tx.g_write_signature (T : Tx K mg) : mg "write_signature" = some (.ref (He.ga K "write_signature")) := by
  obtain ⟨h, X, N⟩ := T.h
  exact He.glo_ok X N (T.c.fact 16 (f := .glo "write_signature") rfl)
theorem Tx.g_read_signature (T : Tx K mg) : mg "read_signature" = some (.ref (He.ga K "read_signature")) := by
  obtain ⟨h, X, N⟩ := T.h
  exact He.glo_ok X N (T.c.fact 17 (f := .glo "read_signature") rfl)
theorem Tx.g_written_tree (T : Tx K mg) : mg "written_tree" = some (.ref (He.ga K "written_tree")) := by
  obtain ⟨h, X, N⟩ := T.h
  exact He.glo_ok X N (T.c.fact 18 (f := .glo "written_tree") rfl)
theorem Tx.g_write_tree (T : Tx K mg) : mg "write_tree" = some (.ref (He.ga K "write_tree")) := by
  obtain ⟨h, X, N⟩ := T.h
  exact He.glo_ok X N (T.c.fact 19 (f := .glo "write_tree") rfl)
theorem Tx.g_read_tree (T : Tx K mg) : mg "read_tree" = some (.ref (He.ga K "read_tree")) := by
  obtain ⟨h, X, N⟩ := T.h
  exact He.glo_ok X N (T.c.fact 20 (f := .glo "read_tree") rfl)
theorem Tx.g_written_rules (T : Tx K mg) : mg "written_rules" = some (.ref (He.ga K "written_rules")) := by
  obtain ⟨h, X, N⟩ := T.h
  exact He.glo_ok X N (T.c.fact 21 (f := .glo "written_rules") rfl)
theorem Tx.g_write_rules (T : Tx K mg) : mg "write_rules" = some (.ref (He.ga K "write_rules")) := by
  obtain ⟨h, X, N⟩ := T.h
  exact He.glo_ok X N (T.c.fact 22 (f := .glo "write_rules") rfl)
theorem Tx.g_read_rules (T : Tx K mg) : mg "read_rules" = some (.ref (He.ga K "read_rules")) := by
  obtain ⟨h, X, N⟩ := T.h
  exact He.glo_ok X N (T.c.fact 23 (f := .glo "read_rules") rfl)
theorem Tx.g__law_jug (T : Tx K mg) : mg "_law_jug" = some (.ref (He.ga K "_law_jug")) := by
  obtain ⟨h, X, N⟩ := T.h
  exact He.glo_ok X N (T.c.fact 24 (f := .glo "_law_jug") rfl)
theorem Tx.g__law_take (T : Tx K mg) : mg "_law_take" = some (.ref (He.ga K "_law_take")) := by
  obtain ⟨h, X, N⟩ := T.h
  exact He.glo_ok X N (T.c.fact 25 (f := .glo "_law_take") rfl)
theorem Tx.g__law_same (T : Tx K mg) : mg "_law_same" = some (.ref (He.ga K "_law_same")) := by
  obtain ⟨h, X, N⟩ := T.h
  exact He.glo_ok X N (T.c.fact 26 (f := .glo "_law_same") rfl)
theorem Tx.g__law_signature (T : Tx K mg) : mg "_law_signature" = some (.ref (He.ga K "_law_signature")) := by
  obtain ⟨h, X, N⟩ := T.h
  exact He.glo_ok X N (T.c.fact 27 (f := .glo "_law_signature") rfl)
theorem Tx.g__law_tree (T : Tx K mg) : mg "_law_tree" = some (.ref (He.ga K "_law_tree")) := by
  obtain ⟨h, X, N⟩ := T.h
  exact He.glo_ok X N (T.c.fact 28 (f := .glo "_law_tree") rfl)
theorem Tx.g__law_rules (T : Tx K mg) : mg "_law_rules" = some (.ref (He.ga K "_law_rules")) := by
  obtain ⟨h, X, N⟩ := T.h
  exact He.glo_ok X N (T.c.fact 29 (f := .glo "_law_rules") rfl)
theorem Tx.g__law_tree_text (T : Tx K mg) : mg "_law_tree_text" = some (.ref (He.ga K "_law_tree_text")) := by
  obtain ⟨h, X, N⟩ := T.h
  exact He.glo_ok X N (T.c.fact 30 (f := .glo "_law_tree_text") rfl)
theorem Tx.g__law_rules_text (T : Tx K mg) : mg "_law_rules_text" = some (.ref (He.ga K "_law_rules_text")) := by
  obtain ⟨h, X, N⟩ := T.h
  exact He.glo_ok X N (T.c.fact 31 (f := .glo "_law_rules_text") rfl)
theorem Tx.g__law_words (T : Tx K mg) : mg "_law_words" = some (.ref (He.ga K "_law_words")) := by
  obtain ⟨h, X, N⟩ := T.h
  exact He.glo_ok X N (T.c.fact 32 (f := .glo "_law_words") rfl)
theorem Tx.g__law_loose (T : Tx K mg) : mg "_law_loose" = some (.ref (He.ga K "_law_loose")) := by
  obtain ⟨h, X, N⟩ := T.h
  exact He.glo_ok X N (T.c.fact 33 (f := .glo "_law_loose") rfl)
theorem Tx.g__law_word (T : Tx K mg) : mg "_law_word" = some (.ref (He.ga K "_law_word")) := by
  obtain ⟨h, X, N⟩ := T.h
  exact He.glo_ok X N (T.c.fact 34 (f := .glo "_law_word") rfl)
theorem Tx.g_law (T : Tx K mg) : mg "law" = some (.ref (He.ga K "law")) := by
  obtain ⟨h, X, N⟩ := T.h
  exact He.glo_ok X N (T.c.fact 35 (f := .glo "law") rfl)
theorem Tx.g_GroundError (T : Tx K mg) : mg "GroundError" = some (.ref (He.ga K "GroundError")) := by
  obtain ⟨h, X, N⟩ := T.h
  exact He.glo_ok X N (T.c.fact 36 (f := .glo "GroundError") rfl)
theorem Tx.g_BadSignature (T : Tx K mg) : mg "BadSignature" = some (.ref (He.ga K "BadSignature")) := by
  obtain ⟨h, X, N⟩ := T.h
  exact He.glo_ok X N (T.c.fact 37 (f := .glo "BadSignature") rfl)
theorem Tx.g_BadTree (T : Tx K mg) : mg "BadTree" = some (.ref (He.ga K "BadTree")) := by
  obtain ⟨h, X, N⟩ := T.h
  exact He.glo_ok X N (T.c.fact 38 (f := .glo "BadTree") rfl)
theorem Tx.g_BadRules (T : Tx K mg) : mg "BadRules" = some (.ref (He.ga K "BadRules")) := by
  obtain ⟨h, X, N⟩ := T.h
  exact He.glo_ok X N (T.c.fact 39 (f := .glo "BadRules") rfl)
theorem Tx.g_BadText (T : Tx K mg) : mg "BadText" = some (.ref (He.ga K "BadText")) := by
  obtain ⟨h, X, N⟩ := T.h
  exact He.glo_ok X N (T.c.fact 40 (f := .glo "BadText") rfl)
theorem Tx.g_Reader (T : Tx K mg) : mg "Reader" = some (.ref (He.ga K "Reader")) := by
  obtain ⟨h, X, N⟩ := T.h
  exact He.glo_ok X N (T.c.fact 41 (f := .glo "Reader") rfl)
theorem Tx.g_TreeReader (T : Tx K mg) : mg "TreeReader" = some (.ref (He.ga K "TreeReader")) := by
  obtain ⟨h, X, N⟩ := T.h
  exact He.glo_ok X N (T.c.fact 42 (f := .glo "TreeReader") rfl)
theorem Tx.b_ValueError (T : Tx K mg) : mg "ValueError" = none := by
  obtain ⟨h, X, N⟩ := T.h
  exact He.free_ok X N (T.c.fact 43 (f := .free "ValueError") rfl)
theorem Tx.b_abs (T : Tx K mg) : mg "abs" = none := by
  obtain ⟨h, X, N⟩ := T.h
  exact He.free_ok X N (T.c.fact 44 (f := .free "abs") rfl)
theorem Tx.b_all (T : Tx K mg) : mg "all" = none := by
  obtain ⟨h, X, N⟩ := T.h
  exact He.free_ok X N (T.c.fact 45 (f := .free "all") rfl)
theorem Tx.b_bool (T : Tx K mg) : mg "bool" = none := by
  obtain ⟨h, X, N⟩ := T.h
  exact He.free_ok X N (T.c.fact 46 (f := .free "bool") rfl)
theorem Tx.b_enumerate (T : Tx K mg) : mg "enumerate" = none := by
  obtain ⟨h, X, N⟩ := T.h
  exact He.free_ok X N (T.c.fact 47 (f := .free "enumerate") rfl)
theorem Tx.b_int (T : Tx K mg) : mg "int" = none := by
  obtain ⟨h, X, N⟩ := T.h
  exact He.free_ok X N (T.c.fact 48 (f := .free "int") rfl)
theorem Tx.b_isinstance (T : Tx K mg) : mg "isinstance" = none := by
  obtain ⟨h, X, N⟩ := T.h
  exact He.free_ok X N (T.c.fact 49 (f := .free "isinstance") rfl)
theorem Tx.b_len (T : Tx K mg) : mg "len" = none := by
  obtain ⟨h, X, N⟩ := T.h
  exact He.free_ok X N (T.c.fact 50 (f := .free "len") rfl)
theorem Tx.b_list (T : Tx K mg) : mg "list" = none := by
  obtain ⟨h, X, N⟩ := T.h
  exact He.free_ok X N (T.c.fact 51 (f := .free "list") rfl)
theorem Tx.b_min (T : Tx K mg) : mg "min" = none := by
  obtain ⟨h, X, N⟩ := T.h
  exact He.free_ok X N (T.c.fact 52 (f := .free "min") rfl)
theorem Tx.b_range (T : Tx K mg) : mg "range" = none := by
  obtain ⟨h, X, N⟩ := T.h
  exact He.free_ok X N (T.c.fact 53 (f := .free "range") rfl)
theorem Tx.b_set (T : Tx K mg) : mg "set" = none := by
  obtain ⟨h, X, N⟩ := T.h
  exact He.free_ok X N (T.c.fact 54 (f := .free "set") rfl)
theorem Tx.b_str (T : Tx K mg) : mg "str" = none := by
  obtain ⟨h, X, N⟩ := T.h
  exact He.free_ok X N (T.c.fact 55 (f := .free "str") rfl)
theorem Tx.b_super (T : Tx K mg) : mg "super" = none := by
  obtain ⟨h, X, N⟩ := T.h
  exact He.free_ok X N (T.c.fact 56 (f := .free "super") rfl)
theorem Tx.b_tuple (T : Tx K mg) : mg "tuple" = none := by
  obtain ⟨h, X, N⟩ := T.h
  exact He.free_ok X N (T.c.fact 57 (f := .free "tuple") rfl)
theorem Tx.c_SMALL_LETTERS (T : Tx K mg) : ∃ t, mg "SMALL_LETTERS" = some (.str "abcdefghijklmnopqrstuvwxyz" t) := by
  obtain ⟨h, X, N⟩ := T.h
  exact He.str_ok X N (T.c.fact 58 (f := .str "SMALL_LETTERS" "abcdefghijklmnopqrstuvwxyz") rfl)
theorem Tx.c_DIGITS (T : Tx K mg) : ∃ t, mg "DIGITS" = some (.str "0123456789" t) := by
  obtain ⟨h, X, N⟩ := T.h
  exact He.str_ok X N (T.c.fact 59 (f := .str "DIGITS" "0123456789") rfl)
theorem Tx.c_LONGEST_NAME (T : Tx K mg) : ∃ t, mg "LONGEST_NAME" = some (.int 10 t) := by
  obtain ⟨h, X, N⟩ := T.h
  exact He.int_ok X N (T.c.fact 60 (f := .int "LONGEST_NAME" 10) rfl)
theorem Tx.c_MOST_SYMBOLS (T : Tx K mg) : ∃ t, mg "MOST_SYMBOLS" = some (.int 12 t) := by
  obtain ⟨h, X, N⟩ := T.h
  exact He.int_ok X N (T.c.fact 61 (f := .int "MOST_SYMBOLS" 12) rfl)
theorem Tx.c_MOST_ARITY (T : Tx K mg) : ∃ t, mg "MOST_ARITY" = some (.int 2 t) := by
  obtain ⟨h, X, N⟩ := T.h
  exact He.int_ok X N (T.c.fact 62 (f := .int "MOST_ARITY" 2) rfl)
theorem Tx.c_MOST_DEPTH (T : Tx K mg) : ∃ t, mg "MOST_DEPTH" = some (.int 60 t) := by
  obtain ⟨h, X, N⟩ := T.h
  exact He.int_ok X N (T.c.fact 63 (f := .int "MOST_DEPTH" 60) rfl)
theorem Tx.c_MOST_SIZE (T : Tx K mg) : ∃ t, mg "MOST_SIZE" = some (.int 1000 t) := by
  obtain ⟨h, X, N⟩ := T.h
  exact He.int_ok X N (T.c.fact 64 (f := .int "MOST_SIZE" 1000) rfl)
theorem Tx.c_MOST_RULES (T : Tx K mg) : ∃ t, mg "MOST_RULES" = some (.int 30 t) := by
  obtain ⟨h, X, N⟩ := T.h
  exact He.int_ok X N (T.c.fact 65 (f := .int "MOST_RULES" 30) rfl)
theorem Tx.c_RUNS (T : Tx K mg) : ∃ t, mg "RUNS" = some (.str "abcdefghijklmnopqrstuvwxyz0123456789" t) := by
  obtain ⟨h, X, N⟩ := T.h
  exact He.str_ok X N (T.c.fact 66 (f := .str "RUNS" "abcdefghijklmnopqrstuvwxyz0123456789") rfl)
theorem Tx.c_BLANKS (T : Tx K mg) : ∃ t, mg "BLANKS" = some (.str " \n" t) := by
  obtain ⟨h, X, N⟩ := T.h
  exact He.str_ok X N (T.c.fact 67 (f := .str "BLANKS" " \n") rfl)
theorem Tx.x_GroundError (T : Tx K mg) : PySem.W.excIn K (He.ga K "GroundError") He.veBase "ValueError.__new__" = true ∧ PySem.W.keepIn K (.ref (He.ga K "GroundError")) = true ∧ PySem.W.subIn K (.ref (He.ga K "GroundError")) (.type "BaseException") = some true ∧ PySem.W.typeIn K (.ref (He.ga K "GroundError")) = some (.type "type") := He.exc_ok (T.c.fact 68 (f := .exc "GroundError") rfl)
theorem Tx.x_BadSignature (T : Tx K mg) : PySem.W.excIn K (He.ga K "BadSignature") He.veBase "ValueError.__new__" = true ∧ PySem.W.keepIn K (.ref (He.ga K "BadSignature")) = true ∧ PySem.W.subIn K (.ref (He.ga K "BadSignature")) (.type "BaseException") = some true ∧ PySem.W.typeIn K (.ref (He.ga K "BadSignature")) = some (.type "type") := He.exc_ok (T.c.fact 69 (f := .exc "BadSignature") rfl)
theorem Tx.x_BadTree (T : Tx K mg) : PySem.W.excIn K (He.ga K "BadTree") He.veBase "ValueError.__new__" = true ∧ PySem.W.keepIn K (.ref (He.ga K "BadTree")) = true ∧ PySem.W.subIn K (.ref (He.ga K "BadTree")) (.type "BaseException") = some true ∧ PySem.W.typeIn K (.ref (He.ga K "BadTree")) = some (.type "type") := He.exc_ok (T.c.fact 70 (f := .exc "BadTree") rfl)
theorem Tx.x_BadRules (T : Tx K mg) : PySem.W.excIn K (He.ga K "BadRules") He.veBase "ValueError.__new__" = true ∧ PySem.W.keepIn K (.ref (He.ga K "BadRules")) = true ∧ PySem.W.subIn K (.ref (He.ga K "BadRules")) (.type "BaseException") = some true ∧ PySem.W.typeIn K (.ref (He.ga K "BadRules")) = some (.type "type") := He.exc_ok (T.c.fact 71 (f := .exc "BadRules") rfl)
theorem Tx.k_Reader (T : Tx K mg) : Cls K (He.ga K "Reader") := He.cls_ok (T.c.fact 72 (f := .cls "Reader") rfl)
theorem Tx.m_Reader_word (T : Tx K mg) : Meth K (He.ga K "Reader") "word" (He.ma K (He.ga K "Reader") "word") := He.meth_ok (T.c.fact 73 (f := .meth "Reader" "word") rfl)
theorem Tx.m_Reader_stop (T : Tx K mg) : Meth K (He.ga K "Reader") "stop" (He.ma K (He.ga K "Reader") "stop") := He.meth_ok (T.c.fact 74 (f := .meth "Reader" "stop") rfl)
theorem Tx.m_Reader_mark (T : Tx K mg) : Meth K (He.ga K "Reader") "mark" (He.ma K (He.ga K "Reader") "mark") := He.meth_ok (T.c.fact 75 (f := .meth "Reader" "mark") rfl)
theorem Tx.m_Reader_goes_on (T : Tx K mg) : Meth K (He.ga K "Reader") "goes_on" (He.ma K (He.ga K "Reader") "goes_on") := He.meth_ok (T.c.fact 76 (f := .meth "Reader" "goes_on") rfl)
theorem Tx.m_Reader_numeral (T : Tx K mg) : Meth K (He.ga K "Reader") "numeral" (He.ma K (He.ga K "Reader") "numeral") := He.meth_ok (T.c.fact 77 (f := .meth "Reader" "numeral") rfl)
theorem Tx.m_Reader_end (T : Tx K mg) : Meth K (He.ga K "Reader") "end" (He.ma K (He.ga K "Reader") "end") := He.meth_ok (T.c.fact 78 (f := .meth "Reader" "end") rfl)
theorem Tx.m_Reader_due (T : Tx K mg) : Meth K (He.ga K "Reader") "due" (He.ma K (He.ga K "Reader") "due") := He.meth_ok (T.c.fact 79 (f := .meth "Reader" "due") rfl)
theorem Tx.n_Reader_text (T : Tx K mg) : NoAttr K (He.ga K "Reader") "text" := He.noat_ok (T.c.fact 80 (f := .noat "Reader" "text") rfl)
theorem Tx.n_Reader_words (T : Tx K mg) : NoAttr K (He.ga K "Reader") "words" := He.noat_ok (T.c.fact 81 (f := .noat "Reader" "words") rfl)
theorem Tx.n_Reader_at (T : Tx K mg) : NoAttr K (He.ga K "Reader") "at" := He.noat_ok (T.c.fact 82 (f := .noat "Reader" "at") rfl)
theorem Tx.mk_Reader (T : Tx K mg) : Mk K (He.ga K "Reader") (He.ma K (He.ga K "Reader") "__init__") := He.mkr_ok (T.c.fact 83 (f := .mkr "Reader") rfl)
theorem Tx.k_TreeReader (T : Tx K mg) : Cls K (He.ga K "TreeReader") := He.cls_ok (T.c.fact 84 (f := .cls "TreeReader") rfl)
theorem Tx.m_TreeReader_symbol (T : Tx K mg) : Meth K (He.ga K "TreeReader") "symbol" (He.ma K (He.ga K "TreeReader") "symbol") := He.meth_ok (T.c.fact 85 (f := .meth "TreeReader" "symbol") rfl)
theorem Tx.m_TreeReader_tree (T : Tx K mg) : Meth K (He.ga K "TreeReader") "tree" (He.ma K (He.ga K "TreeReader") "tree") := He.meth_ok (T.c.fact 86 (f := .meth "TreeReader" "tree") rfl)
theorem Tx.m_TreeReader_closed (T : Tx K mg) : Meth K (He.ga K "TreeReader") "closed" (He.ma K (He.ga K "TreeReader") "closed") := He.meth_ok (T.c.fact 87 (f := .meth "TreeReader" "closed") rfl)
theorem Tx.m_TreeReader_rule (T : Tx K mg) : Meth K (He.ga K "TreeReader") "rule" (He.ma K (He.ga K "TreeReader") "rule") := He.meth_ok (T.c.fact 88 (f := .meth "TreeReader" "rule") rfl)
theorem Tx.m_TreeReader_word (T : Tx K mg) : Meth K (He.ga K "TreeReader") "word" (He.ma K (He.ga K "TreeReader") "word") := He.meth_ok (T.c.fact 89 (f := .meth "TreeReader" "word") rfl)
theorem Tx.m_TreeReader_stop (T : Tx K mg) : Meth K (He.ga K "TreeReader") "stop" (He.ma K (He.ga K "TreeReader") "stop") := He.meth_ok (T.c.fact 90 (f := .meth "TreeReader" "stop") rfl)
theorem Tx.m_TreeReader_mark (T : Tx K mg) : Meth K (He.ga K "TreeReader") "mark" (He.ma K (He.ga K "TreeReader") "mark") := He.meth_ok (T.c.fact 91 (f := .meth "TreeReader" "mark") rfl)
theorem Tx.m_TreeReader_goes_on (T : Tx K mg) : Meth K (He.ga K "TreeReader") "goes_on" (He.ma K (He.ga K "TreeReader") "goes_on") := He.meth_ok (T.c.fact 92 (f := .meth "TreeReader" "goes_on") rfl)
theorem Tx.m_TreeReader_numeral (T : Tx K mg) : Meth K (He.ga K "TreeReader") "numeral" (He.ma K (He.ga K "TreeReader") "numeral") := He.meth_ok (T.c.fact 93 (f := .meth "TreeReader" "numeral") rfl)
theorem Tx.m_TreeReader_end (T : Tx K mg) : Meth K (He.ga K "TreeReader") "end" (He.ma K (He.ga K "TreeReader") "end") := He.meth_ok (T.c.fact 94 (f := .meth "TreeReader" "end") rfl)
theorem Tx.m_TreeReader_due (T : Tx K mg) : Meth K (He.ga K "TreeReader") "due" (He.ma K (He.ga K "TreeReader") "due") := He.meth_ok (T.c.fact 95 (f := .meth "TreeReader" "due") rfl)
theorem Tx.n_TreeReader_signature (T : Tx K mg) : NoAttr K (He.ga K "TreeReader") "signature" := He.noat_ok (T.c.fact 96 (f := .noat "TreeReader" "signature") rfl)
theorem Tx.n_TreeReader_symbols (T : Tx K mg) : NoAttr K (He.ga K "TreeReader") "symbols" := He.noat_ok (T.c.fact 97 (f := .noat "TreeReader" "symbols") rfl)
theorem Tx.n_TreeReader_at (T : Tx K mg) : NoAttr K (He.ga K "TreeReader") "at" := He.noat_ok (T.c.fact 98 (f := .noat "TreeReader" "at") rfl)
theorem Tx.n_TreeReader_text (T : Tx K mg) : NoAttr K (He.ga K "TreeReader") "text" := He.noat_ok (T.c.fact 99 (f := .noat "TreeReader" "text") rfl)
theorem Tx.n_TreeReader_words (T : Tx K mg) : NoAttr K (He.ga K "TreeReader") "words" := He.noat_ok (T.c.fact 100 (f := .noat "TreeReader" "words") rfl)
theorem Tx.mk_TreeReader (T : Tx K mg) : Mk K (He.ga K "TreeReader") (He.ma K (He.ga K "TreeReader") "__init__") := He.mkr_ok (T.c.fact 101 (f := .mkr "TreeReader") rfl)
theorem Tx.e_GroundError_GroundError (T : Tx K mg) : PySem.W.exmOne K (.ref (He.ga K "GroundError")) (.ref (He.ga K "GroundError")) = some true := He.exm_ok (T.c.fact 102 (f := .exm "GroundError" "GroundError" true) rfl)
theorem Tx.e_GroundError_BadSignature (T : Tx K mg) : PySem.W.exmOne K (.ref (He.ga K "GroundError")) (.ref (He.ga K "BadSignature")) = some false := He.exm_ok (T.c.fact 103 (f := .exm "GroundError" "BadSignature" false) rfl)
theorem Tx.e_GroundError_BadTree (T : Tx K mg) : PySem.W.exmOne K (.ref (He.ga K "GroundError")) (.ref (He.ga K "BadTree")) = some false := He.exm_ok (T.c.fact 104 (f := .exm "GroundError" "BadTree" false) rfl)
theorem Tx.e_GroundError_BadRules (T : Tx K mg) : PySem.W.exmOne K (.ref (He.ga K "GroundError")) (.ref (He.ga K "BadRules")) = some false := He.exm_ok (T.c.fact 105 (f := .exm "GroundError" "BadRules" false) rfl)
theorem Tx.e_GroundError_BadText (T : Tx K mg) : PySem.W.exmOne K (.ref (He.ga K "GroundError")) (.ref (He.ga K "BadText")) = some false := He.exm_ok (T.c.fact 106 (f := .exm "GroundError" "BadText" false) rfl)
theorem Tx.e_BadSignature_GroundError (T : Tx K mg) : PySem.W.exmOne K (.ref (He.ga K "BadSignature")) (.ref (He.ga K "GroundError")) = some true := He.exm_ok (T.c.fact 107 (f := .exm "BadSignature" "GroundError" true) rfl)
theorem Tx.e_BadSignature_BadSignature (T : Tx K mg) : PySem.W.exmOne K (.ref (He.ga K "BadSignature")) (.ref (He.ga K "BadSignature")) = some true := He.exm_ok (T.c.fact 108 (f := .exm "BadSignature" "BadSignature" true) rfl)
theorem Tx.e_BadSignature_BadTree (T : Tx K mg) : PySem.W.exmOne K (.ref (He.ga K "BadSignature")) (.ref (He.ga K "BadTree")) = some false := He.exm_ok (T.c.fact 109 (f := .exm "BadSignature" "BadTree" false) rfl)
theorem Tx.e_BadSignature_BadRules (T : Tx K mg) : PySem.W.exmOne K (.ref (He.ga K "BadSignature")) (.ref (He.ga K "BadRules")) = some false := He.exm_ok (T.c.fact 110 (f := .exm "BadSignature" "BadRules" false) rfl)
theorem Tx.e_BadSignature_BadText (T : Tx K mg) : PySem.W.exmOne K (.ref (He.ga K "BadSignature")) (.ref (He.ga K "BadText")) = some false := He.exm_ok (T.c.fact 111 (f := .exm "BadSignature" "BadText" false) rfl)
theorem Tx.e_BadTree_GroundError (T : Tx K mg) : PySem.W.exmOne K (.ref (He.ga K "BadTree")) (.ref (He.ga K "GroundError")) = some true := He.exm_ok (T.c.fact 112 (f := .exm "BadTree" "GroundError" true) rfl)
theorem Tx.e_BadTree_BadSignature (T : Tx K mg) : PySem.W.exmOne K (.ref (He.ga K "BadTree")) (.ref (He.ga K "BadSignature")) = some false := He.exm_ok (T.c.fact 113 (f := .exm "BadTree" "BadSignature" false) rfl)
theorem Tx.e_BadTree_BadTree (T : Tx K mg) : PySem.W.exmOne K (.ref (He.ga K "BadTree")) (.ref (He.ga K "BadTree")) = some true := He.exm_ok (T.c.fact 114 (f := .exm "BadTree" "BadTree" true) rfl)
theorem Tx.e_BadTree_BadRules (T : Tx K mg) : PySem.W.exmOne K (.ref (He.ga K "BadTree")) (.ref (He.ga K "BadRules")) = some false := He.exm_ok (T.c.fact 115 (f := .exm "BadTree" "BadRules" false) rfl)
theorem Tx.e_BadTree_BadText (T : Tx K mg) : PySem.W.exmOne K (.ref (He.ga K "BadTree")) (.ref (He.ga K "BadText")) = some false := He.exm_ok (T.c.fact 116 (f := .exm "BadTree" "BadText" false) rfl)
theorem Tx.e_BadRules_GroundError (T : Tx K mg) : PySem.W.exmOne K (.ref (He.ga K "BadRules")) (.ref (He.ga K "GroundError")) = some true := He.exm_ok (T.c.fact 117 (f := .exm "BadRules" "GroundError" true) rfl)
theorem Tx.e_BadRules_BadSignature (T : Tx K mg) : PySem.W.exmOne K (.ref (He.ga K "BadRules")) (.ref (He.ga K "BadSignature")) = some false := He.exm_ok (T.c.fact 118 (f := .exm "BadRules" "BadSignature" false) rfl)
theorem Tx.e_BadRules_BadTree (T : Tx K mg) : PySem.W.exmOne K (.ref (He.ga K "BadRules")) (.ref (He.ga K "BadTree")) = some false := He.exm_ok (T.c.fact 119 (f := .exm "BadRules" "BadTree" false) rfl)
theorem Tx.e_BadRules_BadRules (T : Tx K mg) : PySem.W.exmOne K (.ref (He.ga K "BadRules")) (.ref (He.ga K "BadRules")) = some true := He.exm_ok (T.c.fact 120 (f := .exm "BadRules" "BadRules" true) rfl)
theorem Tx.e_BadRules_BadText (T : Tx K mg) : PySem.W.exmOne K (.ref (He.ga K "BadRules")) (.ref (He.ga K "BadText")) = some false := He.exm_ok (T.c.fact 121 (f := .exm "BadRules" "BadText" false) rfl)
theorem Tx.e_BadText_GroundError (T : Tx K mg) : PySem.W.exmOne K (.ref (He.ga K "BadText")) (.ref (He.ga K "GroundError")) = some true := He.exm_ok (T.c.fact 122 (f := .exm "BadText" "GroundError" true) rfl)
theorem Tx.e_BadText_BadSignature (T : Tx K mg) : PySem.W.exmOne K (.ref (He.ga K "BadText")) (.ref (He.ga K "BadSignature")) = some false := He.exm_ok (T.c.fact 123 (f := .exm "BadText" "BadSignature" false) rfl)
theorem Tx.e_BadText_BadTree (T : Tx K mg) : PySem.W.exmOne K (.ref (He.ga K "BadText")) (.ref (He.ga K "BadTree")) = some false := He.exm_ok (T.c.fact 124 (f := .exm "BadText" "BadTree" false) rfl)
theorem Tx.e_BadText_BadRules (T : Tx K mg) : PySem.W.exmOne K (.ref (He.ga K "BadText")) (.ref (He.ga K "BadRules")) = some false := He.exm_ok (T.c.fact 125 (f := .exm "BadText" "BadRules" false) rfl)
theorem Tx.e_BadText_BadText (T : Tx K mg) : PySem.W.exmOne K (.ref (He.ga K "BadText")) (.ref (He.ga K "BadText")) = some true := He.exm_ok (T.c.fact 126 (f := .exm "BadText" "BadText" true) rfl)
theorem Tx.f_is_int (T : Tx K mg) : ∃ fd, FunD K "is_int" "is_int" (defArgs s_is_int) (defBody s_is_int) (defScope s_is_int) [] [] (He.fAd K ("is_int", none)) fd := T.c.def_ 0 (d := d_is_int) rfl
theorem Tx.f_within (T : Tx K mg) : ∃ fd, FunD K "within" "within" (defArgs s_within) (defBody s_within) (defScope s_within) [] [] (He.fAd K ("within", none)) fd := T.c.def_ 1 (d := d_within) rfl
theorem Tx.f_is_row (T : Tx K mg) : ∃ fd, FunD K "is_row" "is_row" (defArgs s_is_row) (defBody s_is_row) (defScope s_is_row) [] [] (He.fAd K ("is_row", none)) fd := T.c.def_ 2 (d := d_is_row) rfl
theorem Tx.f_is_low_name (T : Tx K mg) : ∃ fd, FunD K "is_low_name" "is_low_name" (defArgs s_is_low_name) (defBody s_is_low_name) (defScope s_is_low_name) [] [] (He.fAd K ("is_low_name", none)) fd := T.c.def_ 3 (d := d_is_low_name) rfl
theorem Tx.f_is_signature (T : Tx K mg) : ∃ fd, FunD K "is_signature" "is_signature" (defArgs s_is_signature) (defBody s_is_signature) (defScope s_is_signature) [] [] (He.fAd K ("is_signature", none)) fd := T.c.def_ 4 (d := d_is_signature) rfl
theorem Tx.f_need_signature (T : Tx K mg) : ∃ fd, FunD K "need_signature" "need_signature" (defArgs s_need_signature) (defBody s_need_signature) (defScope s_need_signature) [] [] (He.fAd K ("need_signature", none)) fd := T.c.def_ 5 (d := d_need_signature) rfl
theorem Tx.f_is_small_tree (T : Tx K mg) : ∃ fd, FunD K "is_small_tree" "is_small_tree" (defArgs s_is_small_tree) (defBody s_is_small_tree) (defScope s_is_small_tree) [] [] (He.fAd K ("is_small_tree", none)) fd := T.c.def_ 6 (d := d_is_small_tree) rfl
theorem Tx.f_is_tree (T : Tx K mg) : ∃ fd, FunD K "is_tree" "is_tree" (defArgs s_is_tree) (defBody s_is_tree) (defScope s_is_tree) [] [] (He.fAd K ("is_tree", none)) fd := T.c.def_ 7 (d := d_is_tree) rfl
theorem Tx.f_need_tree (T : Tx K mg) : ∃ fd, FunD K "need_tree" "need_tree" (defArgs s_need_tree) (defBody s_need_tree) (defScope s_need_tree) [] [] (He.fAd K ("need_tree", none)) fd := T.c.def_ 8 (d := d_need_tree) rfl
theorem Tx.f_through (T : Tx K mg) : ∃ fd, FunD K "through" "through" (defArgs s_through) (defBody s_through) (defScope s_through) [] [] (He.fAd K ("through", none)) fd := T.c.def_ 9 (d := d_through) rfl
theorem Tx.f_is_rule (T : Tx K mg) : ∃ fd, FunD K "is_rule" "is_rule" (defArgs s_is_rule) (defBody s_is_rule) (defScope s_is_rule) [] [] (He.fAd K ("is_rule", none)) fd := T.c.def_ 10 (d := d_is_rule) rfl
theorem Tx.f_are_right_rules (T : Tx K mg) : ∃ fd, FunD K "are_right_rules" "are_right_rules" (defArgs s_are_right_rules) (defBody s_are_right_rules) (defScope s_are_right_rules) [] [] (He.fAd K ("are_right_rules", none)) fd := T.c.def_ 11 (d := d_are_right_rules) rfl
theorem Tx.f_are_rules (T : Tx K mg) : ∃ fd, FunD K "are_rules" "are_rules" (defArgs s_are_rules) (defBody s_are_rules) (defScope s_are_rules) [] [] (He.fAd K ("are_rules", none)) fd := T.c.def_ 12 (d := d_are_rules) rfl
theorem Tx.f_need_rules (T : Tx K mg) : ∃ fd, FunD K "need_rules" "need_rules" (defArgs s_need_rules) (defBody s_need_rules) (defScope s_need_rules) [] [] (He.fAd K ("need_rules", none)) fd := T.c.def_ 13 (d := d_need_rules) rfl
theorem Tx.f_words_in (T : Tx K mg) : ∃ fd, FunD K "words_in" "words_in" (defArgs s_words_in) (defBody s_words_in) (defScope s_words_in) [] [] (He.fAd K ("words_in", none)) fd := T.c.def_ 14 (d := d_words_in) rfl
theorem Tx.f_is_numeral (T : Tx K mg) : ∃ fd, FunD K "is_numeral" "is_numeral" (defArgs s_is_numeral) (defBody s_is_numeral) (defScope s_is_numeral) [] [] (He.fAd K ("is_numeral", none)) fd := T.c.def_ 15 (d := d_is_numeral) rfl
theorem Tx.f_Reader___init__ (T : Tx K mg) : ∃ fd, FunD K "__init__" "Reader.__init__" (defArgs s_Reader___init__) (defBody s_Reader___init__) (defScope s_Reader___init__) [] [] (He.fAd K ("Reader", some "__init__")) fd := T.c.def_ 16 (d := d_Reader___init__) rfl
theorem Tx.f_Reader_word (T : Tx K mg) : ∃ fd, FunD K "word" "Reader.word" (defArgs s_Reader_word) (defBody s_Reader_word) (defScope s_Reader_word) [] [] (He.fAd K ("Reader", some "word")) fd := T.c.def_ 17 (d := d_Reader_word) rfl
theorem Tx.f_Reader_stop (T : Tx K mg) : ∃ fd, FunD K "stop" "Reader.stop" (defArgs s_Reader_stop) (defBody s_Reader_stop) (defScope s_Reader_stop) [] [] (He.fAd K ("Reader", some "stop")) fd := T.c.def_ 18 (d := d_Reader_stop) rfl
theorem Tx.f_Reader_mark (T : Tx K mg) : ∃ fd, FunD K "mark" "Reader.mark" (defArgs s_Reader_mark) (defBody s_Reader_mark) (defScope s_Reader_mark) [] [] (He.fAd K ("Reader", some "mark")) fd := T.c.def_ 19 (d := d_Reader_mark) rfl
theorem Tx.f_Reader_goes_on (T : Tx K mg) : ∃ fd, FunD K "goes_on" "Reader.goes_on" (defArgs s_Reader_goes_on) (defBody s_Reader_goes_on) (defScope s_Reader_goes_on) [] [] (He.fAd K ("Reader", some "goes_on")) fd := T.c.def_ 20 (d := d_Reader_goes_on) rfl
theorem Tx.f_Reader_numeral (T : Tx K mg) : ∃ fd, FunD K "numeral" "Reader.numeral" (defArgs s_Reader_numeral) (defBody s_Reader_numeral) (defScope s_Reader_numeral) [] [] (He.fAd K ("Reader", some "numeral")) fd := T.c.def_ 21 (d := d_Reader_numeral) rfl
theorem Tx.f_Reader_end (T : Tx K mg) : ∃ fd, FunD K "end" "Reader.end" (defArgs s_Reader_end) (defBody s_Reader_end) (defScope s_Reader_end) [] [] (He.fAd K ("Reader", some "end")) fd := T.c.def_ 22 (d := d_Reader_end) rfl
theorem Tx.f_Reader_due (T : Tx K mg) : ∃ fd, FunD K "due" "Reader.due" (defArgs s_Reader_due) (defBody s_Reader_due) (defScope s_Reader_due) [] [] (He.fAd K ("Reader", some "due")) fd := T.c.def_ 23 (d := d_Reader_due) rfl
theorem Tx.f_write_signature (T : Tx K mg) : ∃ fd, FunD K "write_signature" "write_signature" (defArgs s_write_signature) (defBody s_write_signature) (defScope s_write_signature) [] [] (He.fAd K ("write_signature", none)) fd := T.c.def_ 24 (d := d_write_signature) rfl
theorem Tx.f_read_signature (T : Tx K mg) : ∃ fd, FunD K "read_signature" "read_signature" (defArgs s_read_signature) (defBody s_read_signature) (defScope s_read_signature) [] [] (He.fAd K ("read_signature", none)) fd := T.c.def_ 25 (d := d_read_signature) rfl
theorem Tx.f_written_tree (T : Tx K mg) : ∃ fd, FunD K "written_tree" "written_tree" (defArgs s_written_tree) (defBody s_written_tree) (defScope s_written_tree) [] [] (He.fAd K ("written_tree", none)) fd := T.c.def_ 26 (d := d_written_tree) rfl
theorem Tx.f_write_tree (T : Tx K mg) : ∃ fd, FunD K "write_tree" "write_tree" (defArgs s_write_tree) (defBody s_write_tree) (defScope s_write_tree) [] [] (He.fAd K ("write_tree", none)) fd := T.c.def_ 27 (d := d_write_tree) rfl
theorem Tx.f_TreeReader_symbol (T : Tx K mg) : ∃ fd, FunD K "symbol" "TreeReader.symbol" (defArgs s_TreeReader_symbol) (defBody s_TreeReader_symbol) (defScope s_TreeReader_symbol) [] [] (He.fAd K ("TreeReader", some "symbol")) fd := T.c.def_ 28 (d := d_TreeReader_symbol) rfl
theorem Tx.f_TreeReader_tree (T : Tx K mg) : ∃ fd, FunD K "tree" "TreeReader.tree" (defArgs s_TreeReader_tree) (defBody s_TreeReader_tree) (defScope s_TreeReader_tree) [] [] (He.fAd K ("TreeReader", some "tree")) fd := T.c.def_ 29 (d := d_TreeReader_tree) rfl
theorem Tx.f_TreeReader_closed (T : Tx K mg) : ∃ fd, FunD K "closed" "TreeReader.closed" (defArgs s_TreeReader_closed) (defBody s_TreeReader_closed) (defScope s_TreeReader_closed) [] [] (He.fAd K ("TreeReader", some "closed")) fd := T.c.def_ 30 (d := d_TreeReader_closed) rfl
theorem Tx.f_TreeReader_rule (T : Tx K mg) : ∃ fd, FunD K "rule" "TreeReader.rule" (defArgs s_TreeReader_rule) (defBody s_TreeReader_rule) (defScope s_TreeReader_rule) [] [] (He.fAd K ("TreeReader", some "rule")) fd := T.c.def_ 31 (d := d_TreeReader_rule) rfl
theorem Tx.f_read_tree (T : Tx K mg) : ∃ fd, FunD K "read_tree" "read_tree" (defArgs s_read_tree) (defBody s_read_tree) (defScope s_read_tree) [] [] (He.fAd K ("read_tree", none)) fd := T.c.def_ 32 (d := d_read_tree) rfl
theorem Tx.f_written_rules (T : Tx K mg) : ∃ fd, FunD K "written_rules" "written_rules" (defArgs s_written_rules) (defBody s_written_rules) (defScope s_written_rules) [] [] (He.fAd K ("written_rules", none)) fd := T.c.def_ 33 (d := d_written_rules) rfl
theorem Tx.f_write_rules (T : Tx K mg) : ∃ fd, FunD K "write_rules" "write_rules" (defArgs s_write_rules) (defBody s_write_rules) (defScope s_write_rules) [] [] (He.fAd K ("write_rules", none)) fd := T.c.def_ 34 (d := d_write_rules) rfl
theorem Tx.f_read_rules (T : Tx K mg) : ∃ fd, FunD K "read_rules" "read_rules" (defArgs s_read_rules) (defBody s_read_rules) (defScope s_read_rules) [] [] (He.fAd K ("read_rules", none)) fd := T.c.def_ 35 (d := d_read_rules) rfl
theorem Tx.f__law_jug (T : Tx K mg) : ∃ fd, FunD K "_law_jug" "_law_jug" (defArgs s__law_jug) (defBody s__law_jug) (defScope s__law_jug) [] [] (He.fAd K ("_law_jug", none)) fd := T.c.def_ 36 (d := d__law_jug) rfl
theorem Tx.f__law_take (T : Tx K mg) : ∃ fd, FunD K "_law_take" "_law_take" (defArgs s__law_take) (defBody s__law_take) (defScope s__law_take) [] [] (He.fAd K ("_law_take", none)) fd := T.c.def_ 37 (d := d__law_take) rfl
theorem Tx.f__law_same (T : Tx K mg) : ∃ fd, FunD K "_law_same" "_law_same" (defArgs s__law_same) (defBody s__law_same) (defScope s__law_same) [] [] (He.fAd K ("_law_same", none)) fd := T.c.def_ 38 (d := d__law_same) rfl
theorem Tx.f__law_signature (T : Tx K mg) : ∃ fd, FunD K "_law_signature" "_law_signature" (defArgs s__law_signature) (defBody s__law_signature) (defScope s__law_signature) [] [] (He.fAd K ("_law_signature", none)) fd := T.c.def_ 39 (d := d__law_signature) rfl
theorem Tx.f__law_tree (T : Tx K mg) : ∃ fd, FunD K "_law_tree" "_law_tree" (defArgs s__law_tree) (defBody s__law_tree) (defScope s__law_tree) [] [] (He.fAd K ("_law_tree", none)) fd := T.c.def_ 40 (d := d__law_tree) rfl
theorem Tx.f__law_rules (T : Tx K mg) : ∃ fd, FunD K "_law_rules" "_law_rules" (defArgs s__law_rules) (defBody s__law_rules) (defScope s__law_rules) [] [] (He.fAd K ("_law_rules", none)) fd := T.c.def_ 41 (d := d__law_rules) rfl
theorem Tx.f__law_tree_text (T : Tx K mg) : ∃ fd, FunD K "_law_tree_text" "_law_tree_text" (defArgs s__law_tree_text) (defBody s__law_tree_text) (defScope s__law_tree_text) [] [] (He.fAd K ("_law_tree_text", none)) fd := T.c.def_ 42 (d := d__law_tree_text) rfl
theorem Tx.f__law_rules_text (T : Tx K mg) : ∃ fd, FunD K "_law_rules_text" "_law_rules_text" (defArgs s__law_rules_text) (defBody s__law_rules_text) (defScope s__law_rules_text) [] [] (He.fAd K ("_law_rules_text", none)) fd := T.c.def_ 43 (d := d__law_rules_text) rfl
theorem Tx.f__law_words (T : Tx K mg) : ∃ fd, FunD K "_law_words" "_law_words" (defArgs s__law_words) (defBody s__law_words) (defScope s__law_words) [] [] (He.fAd K ("_law_words", none)) fd := T.c.def_ 44 (d := d__law_words) rfl
theorem Tx.f__law_loose (T : Tx K mg) : ∃ fd, FunD K "_law_loose" "_law_loose" (defArgs s__law_loose) (defBody s__law_loose) (defScope s__law_loose) [] [] (He.fAd K ("_law_loose", none)) fd := T.c.def_ 45 (d := d__law_loose) rfl
theorem Tx.f__law_word (T : Tx K mg) : ∃ fd, FunD K "_law_word" "_law_word" (defArgs s__law_word) (defBody s__law_word) (defScope s__law_word) [] [] (He.fAd K ("_law_word", none)) fd := T.c.def_ 46 (d := d__law_word) rfl
theorem Tx.f_law (T : Tx K mg) : ∃ fd, FunD K "law" "law" (defArgs s_law) (defBody s_law) (defScope s_law) [] [] (He.fAd K ("law", none)) fd := T.c.def_ 47 (d := d_law) rfl
theorem Tx.f_TreeReader_word (T : Tx K mg) : ∃ fd, FunD K "word" "Reader.word" (defArgs s_Reader_word) (defBody s_Reader_word) (defScope s_Reader_word) [] [] (He.fAd K ("TreeReader", some "word")) fd := T.c.def_ 48 (d := d_TreeReader_word) rfl
theorem Tx.f_TreeReader_stop (T : Tx K mg) : ∃ fd, FunD K "stop" "Reader.stop" (defArgs s_Reader_stop) (defBody s_Reader_stop) (defScope s_Reader_stop) [] [] (He.fAd K ("TreeReader", some "stop")) fd := T.c.def_ 49 (d := d_TreeReader_stop) rfl
theorem Tx.f_TreeReader_mark (T : Tx K mg) : ∃ fd, FunD K "mark" "Reader.mark" (defArgs s_Reader_mark) (defBody s_Reader_mark) (defScope s_Reader_mark) [] [] (He.fAd K ("TreeReader", some "mark")) fd := T.c.def_ 50 (d := d_TreeReader_mark) rfl
theorem Tx.f_TreeReader_goes_on (T : Tx K mg) : ∃ fd, FunD K "goes_on" "Reader.goes_on" (defArgs s_Reader_goes_on) (defBody s_Reader_goes_on) (defScope s_Reader_goes_on) [] [] (He.fAd K ("TreeReader", some "goes_on")) fd := T.c.def_ 51 (d := d_TreeReader_goes_on) rfl
theorem Tx.f_TreeReader_numeral (T : Tx K mg) : ∃ fd, FunD K "numeral" "Reader.numeral" (defArgs s_Reader_numeral) (defBody s_Reader_numeral) (defScope s_Reader_numeral) [] [] (He.fAd K ("TreeReader", some "numeral")) fd := T.c.def_ 52 (d := d_TreeReader_numeral) rfl
theorem Tx.f_TreeReader_end (T : Tx K mg) : ∃ fd, FunD K "end" "Reader.end" (defArgs s_Reader_end) (defBody s_Reader_end) (defScope s_Reader_end) [] [] (He.fAd K ("TreeReader", some "end")) fd := T.c.def_ 53 (d := d_TreeReader_end) rfl
theorem Tx.f_TreeReader_due (T : Tx K mg) : ∃ fd, FunD K "due" "Reader.due" (defArgs s_Reader_due) (defBody s_Reader_due) (defScope s_Reader_due) [] [] (He.fAd K ("TreeReader", some "due")) fd := T.c.def_ 54 (d := d_TreeReader_due) rfl
end
end G

set_option Elab.async false
set_option linter.all false
set_option maxRecDepth 100000
set_option maxHeartbeats 0
namespace G
open PySem PySem.Spec PyProof.Rows L2
abbrev hk : PySem.W.Hook := hookY 6 fa fn [("written_tree", none)] exB csY cvY
def ob (s : PySem.W.SharedT) : AlY := obsY 6 fa fn [("written_tree", none)] exB csY (HandSHeadRun.getT s)
theorem ob_eq (s : PySem.W.SharedT) : ob s = hk.obs s.abs := obsY_eq (HandSHeadRun.getT_eq s)
theorem run (w : World) : HandSHeadRun.RunEq R (PySem.W.view R.prog [lawAt]) hk ob 4000 la w := by
  intro os
  kernel_rfl
end G

set_option Elab.async false
set_option linter.all false
set_option maxRecDepth 100000
set_option maxHeartbeats 4000000
namespace G
open PySem PySem.Spec PyProof.Rows L2
/-! ### heaps -/
/-- a tuple (its description never changes) -/
def TupO : HO → Prop
  | .tup _ => True
  | .frz _ _ => True
  | _ => False
/-- the tuples are kept -/
def Kt (H H' : Hp) : Prop := ∀ b o, TupO o → H b = some o → H' b = some o
theorem Kt.rfl' {H : Hp} : Kt H H := fun _ _ _ e => e
theorem Kt.trans {H H1 H2 : Hp} (a : Kt H H1) (b : Kt H1 H2) : Kt H H2 := fun c o t e => b c o t (a c o t e)
theorem Kt.upd {H H' : Hp} {p : Addr} {o : HO} (a : Kt H H') (h : ∀ u, H' p = some u → ¬ TupO u) : Kt H (upd H' p o) := fun b u t e => by
  have e1 := a b u t e
  by_cases hb : b = p
  · subst hb
    exact absurd t (h u e1)
  · rw [upd_ne hb]
    exact e1
theorem Kt.new {H H' : Hp} {p : Addr} {o : HO} (a : Kt H H') (h : H' p = none) : Kt H (L2.upd H' p o) := a.upd fun u e => by rw [h] at e; cases e
theorem Kt.lst {H H' : Hp} {p : Addr} {o : HO} {xs : List V} (a : Kt H H') (h : H' p = some (.lst xs)) : Kt H (L2.upd H' p o) := a.upd fun u e t => by rw [h] at e; cases e; exact t
theorem Kt.ins {H H' : Hp} {p C dx : Addr} {o : HO} {fs : List (Str × V)} (a : Kt H H') (h : H' p = some (.ins C dx fs)) : Kt H (L2.upd H' p o) := a.upd fun u e t => by rw [h] at e; cases e; exact t
theorem old_upd {H : Hp} {p q : Addr} {o u : HO} (h : H q = some u) (hp : H p = none) : upd H p o q = some u := by
  rw [upd_ne (ne_of_none h hp)]
  exact h
theorem kt_sqt {K : PySem.W.Frag} {H H' : Hp} {a : Addr} {xs : List V} (e : Kt H H') (h : SqT K H a xs) : SqT K H' a xs := by
  rcases h with (h | ⟨o, h⟩) | h
  · exact .inl (.inl (e _ _ trivial h))
  · exact .inl (.inr ⟨o, e _ _ trivial h⟩)
  · exact .inr h
end G
namespace L2
open PySem PySem.Spec PyProof.Rows
theorem Same.kt {H H' : Hp} (a : Same H H') : G.Kt H H' := fun c o _ e => a c o e
theorem Same.new {H H' : Hp} {p : Addr} {o : HO} (a : Same H H') (h : H' p = none) : Same H (upd H' p o) := fun b u e => by
  have e1 := a b u e
  rw [upd_ne (ne_of_none e1 h)]
  exact e1
end L2
namespace G
open PySem PySem.Spec PyProof.Rows L2
/-! ### data without lists -/
mutual
def tt : PyData → Bool
  | .tuple xs => tts xs
  | .list _ => false
  | .dict _ => false
  | _ => true
def tts : List PyData → Bool
  | [] => true
  | x :: xs => tt x && tts xs
end
mutual
theorem dp_kt {K : PySem.W.Frag} {H H' : Hp} (e : Kt H H') : ∀ (d : PyData) (v : V), tt d = true → Dp K H v d → Dp K H' v d
  | .none, _, _, h => by cases h; exact .non
  | .bool b, _, _, h => by cases h; exact .bl b
  | .int i, _, _, h => by cases h; exact .int i
  | .str x, _, _, h => by cases h; exact .str x
  | .list xs, _, t, _ => by simp [tt] at t
  | .dict xs, _, t, _ => by simp [tt] at t
  | .tuple xs, _, t, h => by
    cases h with
    | tup hs ha => exact .tup (kt_sqt e hs) (dps_kt e xs _ (by simpa [tt] using t) ha)
theorem dps_kt {K : PySem.W.Frag} {H H' : Hp} (e : Kt H H') : ∀ (ds : List PyData) (vs : List V), tts ds = true → DpAll K H vs ds → DpAll K H' vs ds
  | [], _, _, h => by cases h; exact .nil
  | d :: ds, _, t, h => by
    have t' : tt d = true ∧ tts ds = true := by simpa [tts] using t
    cases h with
    | cons h1 h2 => exact .cons (dp_kt e d _ t'.1 h1) (dps_kt e ds _ t'.2 h2)
end
theorem dp_tup {K : PySem.W.Frag} {H : Hp} {v : V} {ds : List PyData} (h : Dp K H v (.tuple ds)) : ∃ a xs, v = .ref a ∧ SqT K H a xs ∧ DpAll K H xs ds := by
  cases h with
  | tup hs ha => exact ⟨_, _, rfl, hs, ha⟩
end G
namespace L2
open PySem PySem.Spec PyProof.Rows
theorem DpAll.len {K : PySem.W.Frag} {H : Hp} : ∀ {vs : List V} {ds : List PyData}, DpAll K H vs ds → vs.length = ds.length
  | _, _, .nil => rfl
  | _, _, .cons _ t => by rw [List.length_cons, List.length_cons, DpAll.len t]
theorem DpAll.get {K : PySem.W.Frag} {H : Hp} : ∀ {vs : List V} {ds : List PyData} {i : Nat} {d : PyData}, DpAll K H vs ds → ds[i]? = some d → ∃ v, vs[i]? = some v ∧ Dp K H v d
  | _, _, i, d, .nil, e => by simp at e
  | _, _, 0, d, .cons h _, e => by simp at e; subst e; exact ⟨_, rfl, h⟩
  | _, _, i + 1, d, .cons _ t, e => by
    obtain ⟨v, h1, h2⟩ := DpAll.get (i := i) t (by simpa using e)
    exact ⟨v, by simpa using h1, h2⟩
theorem DpAll.get' {K : PySem.W.Frag} {H : Hp} : ∀ {vs : List V} {ds : List PyData} {i : Nat} {v : V}, DpAll K H vs ds → vs[i]? = some v → ∃ d, ds[i]? = some d ∧ Dp K H v d
  | _, _, i, d, .nil, e => by simp at e
  | _, _, 0, d, .cons h _, e => by simp at e; subst e; exact ⟨_, rfl, h⟩
  | _, _, i + 1, d, .cons _ t, e => by
    obtain ⟨v, h1, h2⟩ := DpAll.get' (i := i) t (by simpa using e)
    exact ⟨v, by simpa using h1, h2⟩
theorem DpAll.snoc {K : PySem.W.Frag} {H : Hp} : ∀ {vs : List V} {ds : List PyData} {v : V} {d : PyData}, DpAll K H vs ds → Dp K H v d → DpAll K H (vs ++ [v]) (ds ++ [d])
  | _, _, _, _, .nil, h => .cons h .nil
  | _, _, _, _, .cons a t, h => .cons a (DpAll.snoc t h)
end L2
namespace G
open PySem PySem.Spec PyProof.Rows L2
/-! ### types of data -/
def tyD : PyData → String
  | .none => "NoneType"
  | .bool _ => "bool"
  | .int _ => "int"
  | .str _ => "str"
  | .list _ => "list"
  | .tuple _ => "tuple"
  | .dict _ => "dict"
theorem sqt_ty {K : PySem.W.Frag} {H : Hp} {a : Addr} {xs : List V} (h : SqT K H a xs) : TyX K H (.ref a) (.type "tuple") := by
  rcases h with (h | ⟨o, h⟩) | ⟨o, its, n, h, c, _⟩
  · exact .base (.tup h)
  · exact .fTuple h
  · exact .kTuple h c
theorem sql_ty {K : PySem.W.Frag} {H : Hp} {a : Addr} {xs : List V} (h : SqL K H a xs) : TyX K H (.ref a) (.type "list") := by
  rcases h with (h | ⟨o, h⟩) | ⟨o, its, n, h, c, _⟩
  · exact .base (.lst h)
  · exact .base (.frz h)
  · exact .kList h c
theorem dp_ty {K : PySem.W.Frag} {H : Hp} {v : V} {d : PyData} (h : Dp K H v d) : TyX K H v (.type (tyD d)) := by
  cases h with
  | non => exact .base .non
  | bl b => exact .base (.bl b)
  | int i => exact .base (.int i)
  | str x => exact .base (.str x)
  | lst hs _ => exact sql_ty hs
  | tup hs _ => exact sqt_ty hs
def isI : PyData → Bool
  | .int _ => true
  | .bool _ => true
  | _ => false
def isB : PyData → Bool
  | .bool _ => true
  | _ => false
def isS : PyData → Bool
  | .str _ => true
  | _ => false
def isT : PyData → Bool
  | .tuple _ => true
  | _ => false
theorem kit_I {K : PySem.W.Frag} (d : PyData) : PySem.W.kitOne K (.type (tyD d)) (.type "int") = some (isI d) := kit_ty <| match d with
  | .none => (by decide +kernel : kitB "NoneType" "int" = some false)
  | .bool _ => (by decide +kernel : kitB "bool" "int" = some true)
  | .int _ => (by decide +kernel : kitB "int" "int" = some true)
  | .str _ => (by decide +kernel : kitB "str" "int" = some false)
  | .list _ => (by decide +kernel : kitB "list" "int" = some false)
  | .tuple _ => (by decide +kernel : kitB "tuple" "int" = some false)
  | .dict _ => (by decide +kernel : kitB "dict" "int" = some false)
theorem kit_B {K : PySem.W.Frag} (d : PyData) : PySem.W.kitOne K (.type (tyD d)) (.type "bool") = some (isB d) := kit_ty <| match d with
  | .none => (by decide +kernel : kitB "NoneType" "bool" = some false)
  | .bool _ => (by decide +kernel : kitB "bool" "bool" = some true)
  | .int _ => (by decide +kernel : kitB "int" "bool" = some false)
  | .str _ => (by decide +kernel : kitB "str" "bool" = some false)
  | .list _ => (by decide +kernel : kitB "list" "bool" = some false)
  | .tuple _ => (by decide +kernel : kitB "tuple" "bool" = some false)
  | .dict _ => (by decide +kernel : kitB "dict" "bool" = some false)
theorem kit_S {K : PySem.W.Frag} (d : PyData) : PySem.W.kitOne K (.type (tyD d)) (.type "str") = some (isS d) := kit_ty <| match d with
  | .none => (by decide +kernel : kitB "NoneType" "str" = some false)
  | .bool _ => (by decide +kernel : kitB "bool" "str" = some false)
  | .int _ => (by decide +kernel : kitB "int" "str" = some false)
  | .str _ => (by decide +kernel : kitB "str" "str" = some true)
  | .list _ => (by decide +kernel : kitB "list" "str" = some false)
  | .tuple _ => (by decide +kernel : kitB "tuple" "str" = some false)
  | .dict _ => (by decide +kernel : kitB "dict" "str" = some false)
theorem kit_T {K : PySem.W.Frag} (d : PyData) : PySem.W.kitOne K (.type (tyD d)) (.type "tuple") = some (isT d) := kit_ty <| match d with
  | .none => (by decide +kernel : kitB "NoneType" "tuple" = some false)
  | .bool _ => (by decide +kernel : kitB "bool" "tuple" = some false)
  | .int _ => (by decide +kernel : kitB "int" "tuple" = some false)
  | .str _ => (by decide +kernel : kitB "str" "tuple" = some false)
  | .list _ => (by decide +kernel : kitB "list" "tuple" = some false)
  | .tuple _ => (by decide +kernel : kitB "tuple" "tuple" = some true)
  | .dict _ => (by decide +kernel : kitB "dict" "tuple" = some false)
/-! ### a def, as its callers use it -/
structure Cl (P : Program) (w : World) (K : PySem.W.Frag) (mg : Str → Option Value) (base : Heap) (CX : CXT) (k : Nat) (x : Str) (ps : List Str) (sp : Sp) : Prop where
  ex : ∃ (f : Addr) (fd : FuncData), mg x = some (.ref f) ∧ PySem.W.keepIn K (.ref f) = true ∧ Binds K fd ps [] ∧ FnOk P w K mg base CX k f fd ps sp
/-- a method of the class at C -/
structure Ml (P : Program) (w : World) (K : PySem.W.Frag) (mg : Str → Option Value) (base : Heap) (CX : CXT) (k : Nat) (C : Addr) (m : Str) (ps : List Str) (sp : Sp) : Prop where
  ex : ∃ (f : Addr) (fd : FuncData), Cls K C ∧ Meth K C m f ∧ Binds K fd ps [] ∧ FnOk P w K mg base CX k f fd ps sp
/-- the class x at C, made by its __init__ -/
structure Kl (P : Program) (w : World) (K : PySem.W.Frag) (mg : Str → Option Value) (base : Heap) (CX : CXT) (k : Nat) (C : Addr) (x : Str) (ps : List Str) (sp : Sp) : Prop where
  ex : ∃ (f : Addr) (fd : FuncData), mg x = some (.ref C) ∧ Mk K C f ∧ Binds K fd ps [] ∧ FnOk P w K mg base CX k f fd ps sp
section
variable {X : Cx} {CX : CXT} {k j : Nat} {x m : Str} {ps : List Str} {sp : Sp} {E : XK} {t : TA} {ta : TE} {e o : Expr} {es : List Expr} {p pos apos : Pos} {C : Addr} {pl : Sem Bool}
theorem pe_cl (c : Cl X.prog X.w X.K X.mg X.base CX k x ps sp) (hr : Room j X.A) (hk : k ≤ j) (hx : Passes CX X E) (ha : PA X (e :: es) t) (hg : Gl X x := by rfl)
    (he : starEach (e :: es) X.env = (false, eval e X.env) :: starEach es X.env := by rfl) (hpl : (backTo pos (starEach es X.env)).any (·.1) = false := by rfl) (hd : (x == ("__debug__" : Str)) = false := by decide) :
    PE X (.Call (.Name x p) (e :: es) [] pos) (tCall sp [] E t) := by
  obtain ⟨f, fd, h1, h2, h3, h4⟩ := c.ex
  exact pe_call h4 (hr.mono hk) hg h1 h2 h3 .nil hx ha hd he hpl
theorem pe_cl0 (c : Cl X.prog X.w X.K X.mg X.base CX k x ps sp) (hr : Room j X.A) (hk : k ≤ j) (hx : Passes CX X E) (hg : Gl X x := by rfl) (hd : (x == ("__debug__" : Str)) = false := by decide) :
    PE X (.Call (.Name x p) [] [] pos) (tCall sp [] E tNil) := by
  obtain ⟨f, fd, h1, h2, h3, h4⟩ := c.ex
  exact pe_call0 h4 (hr.mono hk) hg h1 h2 h3 .nil hx hd
theorem pe_ml (c : Ml X.prog X.w X.K X.mg X.base CX k C m ps sp) (hr : Room j X.A) (hk : k ≤ j) (hx : Passes CX X E) (ho : PE X o ta) (ha : PA X (e :: es) t)
    (hst : starEach (e :: es) X.env = (false, eval e X.env) :: starEach es X.env := by rfl) (hpl : (backTo pos (starEach es X.env)).any (·.1) = false := by rfl)
    (ht : eval (.Call (.Attribute o m apos) (e :: es) [] pos) X.env = (do
      let ov ← eval o X.env
      standAt apos.atName
      let (f, first) ← holding [ov] (getMethod ov m pl)
      callWith pos f first (backTo pos (starEach (e :: es) X.env)) (backToKw pos (keywordEach [] X.env))) := by rfl) :
    PE X (.Call (.Attribute o m apos) (e :: es) [] pos) (tMeth C m sp [] E ta t) := by
  obtain ⟨f, fd, h1, h2, h3, h4⟩ := c.ex
  exact pe_meth ho h1 h2 h4 (hr.mono hk) h3 .nil hx ha hst hpl ht
theorem pe_ml0 (c : Ml X.prog X.w X.K X.mg X.base CX k C m ps sp) (hr : Room j X.A) (hk : k ≤ j) (hx : Passes CX X E) (ho : PE X o ta)
    (ht : eval (.Call (.Attribute o m apos) [] [] pos) X.env = (do
      let ov ← eval o X.env
      standAt apos.atName
      let (f, first) ← holding [ov] (getMethod ov m pl)
      callWith pos f first (backTo pos (starEach [] X.env)) (backToKw pos (keywordEach [] X.env))) := by rfl) :
    PE X (.Call (.Attribute o m apos) [] [] pos) (tMeth C m sp [] E ta tNil) := by
  obtain ⟨f, fd, h1, h2, h3, h4⟩ := c.ex
  exact pe_meth0 ho h1 h2 h4 (hr.mono hk) h3 .nil hx ht
end
end G

set_option Elab.async false
set_option linter.all false
set_option maxRecDepth 100000
set_option maxHeartbeats 4000000
namespace G
open PySem PySem.Spec PyProof.Rows L2
/-! ### data at extensions -/
theorem same_sqt {K : PySem.W.Frag} {H H' : Hp} {a : Addr} {xs : List V} (e : Same H H') (h : SqT K H a xs) : SqT K H' a xs := kt_sqt (Same.kt e) h
mutual
theorem dp_same {K : PySem.W.Frag} {H H' : Hp} (e : Same H H') : ∀ (d : PyData) (v : V), Dp K H v d → Dp K H' v d
  | .none, _, h => by cases h; exact .non
  | .bool b, _, h => by cases h; exact .bl b
  | .int i, _, h => by cases h; exact .int i
  | .str x, _, h => by cases h; exact .str x
  | .dict xs, _, h => by cases h
  | .list xs, _, h => by
    cases h with
    | lst hs ha => exact .lst (e.seq hs) (dps_same e xs _ ha)
  | .tuple xs, _, h => by
    cases h with
    | tup hs ha => exact .tup (same_sqt e hs) (dps_same e xs _ ha)
theorem dps_same {K : PySem.W.Frag} {H H' : Hp} (e : Same H H') : ∀ (ds : List PyData) (vs : List V), DpAll K H vs ds → DpAll K H' vs ds
  | [], _, h => by cases h; exact .nil
  | d :: ds, _, h => by
    cases h with
    | cons h1 h2 => exact .cons (dp_same e d _ h1) (dps_same e ds _ h2)
end
theorem dpI {K : PySem.W.Frag} {H : Hp} {v : V} {i : Int} (h : Dp K H v (.int i)) : v = .int i := by cases h; rfl
theorem dpB {K : PySem.W.Frag} {H : Hp} {v : V} {b : Bool} (h : Dp K H v (.bool b)) : v = .bl b := by cases h; rfl
theorem dpS {K : PySem.W.Frag} {H : Hp} {v : V} {x : Str} (h : Dp K H v (.str x)) : v = .str x := by cases h; rfl
theorem dpN {K : PySem.W.Frag} {H : Hp} {v : V} (h : Dp K H v .none) : v = .non := by cases h; rfl
theorem dps_bools {K : PySem.W.Frag} {H : Hp} : ∀ {vs : List V} {bs : List Bool}, DpAll K H vs (bs.map .bool) → vs = bs.map V.bl
  | _, [], h => by cases h; rfl
  | _, b :: bs, h => by
    cases h with
    | cons h1 h2 => rw [dpB h1, dps_bools h2]; rfl
theorem dps_strs {K : PySem.W.Frag} {H : Hp} : ∀ {vs : List V} {bs : List Str}, DpAll K H vs (bs.map .str) → vs = bs.map V.str
  | _, [], h => by cases h; rfl
  | _, b :: bs, h => by
    cases h with
    | cons h1 h2 => rw [dpS h1, dps_strs h2]; rfl
theorem dps_ints {K : PySem.W.Frag} {H : Hp} : ∀ {vs : List V} {bs : List Int}, DpAll K H vs (bs.map .int) → vs = bs.map V.int
  | _, [], h => by cases h; rfl
  | _, b :: bs, h => by
    cases h with
    | cons h1 h2 => rw [dpI h1, dps_ints h2]; rfl
theorem strs_dps {K : PySem.W.Frag} {H : Hp} : ∀ (bs : List Str), DpAll K H (bs.map V.str) (bs.map .str)
  | [] => .nil
  | b :: bs => .cons (.str b) (strs_dps bs)
theorem ints_dps {K : PySem.W.Frag} {H : Hp} : ∀ (bs : List Int), DpAll K H (bs.map V.int) (bs.map .int)
  | [] => .nil
  | b :: bs => .cons (.int b) (ints_dps bs)
theorem bools_dps {K : PySem.W.Frag} {H : Hp} : ∀ (bs : List Bool), DpAll K H (bs.map V.bl) (bs.map .bool)
  | [] => .nil
  | b :: bs => .cons (.bl b) (bools_dps bs)
theorem sq_of {K : PySem.W.Frag} {H : Hp} {a : Addr} {xs : List V} (h : H a = some (.lst xs)) : SqL K H a xs := Or.inl (Or.inl h)
theorem st_of {K : PySem.W.Frag} {H : Hp} {a : Addr} {xs : List V} (h : H a = some (.tup xs)) : SqT K H a xs := Or.inl (Or.inl h)
theorem sz_of {n : Nat} (h : n ≤ 100000) : n ≤ sizeLine := Nat.le_trans h (by decide)
theorem sz_lt {n : Nat} (h : n < 100000) : n < sizeLine := Nat.lt_of_lt_of_le h (by decide)
theorem hu65 {k : Nat} {A : Around} (r : Room k A) : A.units + 65 < cLine := by have := r.un; omega
theorem back {H H' : Hp} {p : Addr} (e : Same H H') (h : H' p = none) : H p = none := Same.free e h
/-! ### what an expression comes to, as data -/
def EvD (K : PySem.W.Frag) (te : TE) (σ : L2.St) (H : Hp) (d : PyData) : Prop := ∀ H1, Same H H1 → ∀ Q : VK, (∀ v H2, Same H1 H2 → Dp K H2 v d → Q v H2) → te σ H1 Q
/-- a new list -/
def EvN (K : PySem.W.Frag) (te : TE) (σ : L2.St) (H : Hp) (ds : List PyData) : Prop := ∀ H1, Same H H1 → ∀ Q : VK, (∀ p vs H2, Same H1 H2 → H1 p = none → H2 p = some (.lst vs) → DpAll K H2 vs ds → Q (.ref p) H2) → te σ H1 Q
def EvT (tt : TT) (σ : L2.St) (H : Hp) (b : Bool) : Prop := ∀ H1, Same H H1 → ∀ Q : Bool → Hp → Prop, (∀ H2, Same H1 H2 → Q b H2) → tt σ H1 Q
def EvA (K : PySem.W.Frag) (ta : TA) (σ : L2.St) (H : Hp) (ds : List PyData) : Prop := ∀ H1, Same H H1 → ∀ Q : List V → Hp → Prop, (∀ vs H2, Same H1 H2 → DpAll K H2 vs ds → Q vs H2) → ta σ H1 Q
/-- a def that changes nothing and hands back data: R args result -/
def spD (K : PySem.W.Frag) (R : List PyData → PyData → Prop) : Sp := fun vs H Q _ => ∃ ds r, DpAll K H vs ds ∧ R ds r ∧ ∀ v H', Same H H' → Dp K H' v r → Q v H'
section
variable {K : PySem.W.Frag} {σ : L2.St} {H H' : Hp} {ta tb tc te : TE} {t u : TT} {d e : PyData}
theorem EvD.mono (s : Same H H') (h : EvD K te σ H d) : EvD K te σ H' d := fun H1 a Q q => h H1 (s.trans a) Q q
theorem EvN.mono {ds : List PyData} (s : Same H H') (h : EvN K te σ H ds) : EvN K te σ H' ds := fun H1 a Q q => h H1 (s.trans a) Q q
theorem EvT.mono {b : Bool} (s : Same H H') (h : EvT t σ H b) : EvT t σ H' b := fun H1 a Q q => h H1 (s.trans a) Q q
theorem ed_var {i : Nat} {v : V} (hd : Dp K H v d) (h : σ[i]? = some (some v) := by rfl) : EvD K (tVar i) σ H d := fun H1 s Q q => ⟨v, h, q v H1 (Same.refl H1) (dp_same s d v hd)⟩
theorem ed_vi {i : Nat} {n : Int} (h : σ[i]? = some (some (.int n)) := by rfl) : EvD K (tVar i) σ H (.int n) := ed_var (.int n) h
theorem ed_vs {i : Nat} {n : Str} (h : σ[i]? = some (some (.str n)) := by rfl) : EvD K (tVar i) σ H (.str n) := ed_var (.str n) h
theorem ed_i {n : Int} : EvD K (tC (.int n)) σ H (.int n) := fun H1 _ _ q => q _ H1 (Same.refl H1) (.int n)
theorem ed_s {n : Str} : EvD K (tC (.str n)) σ H (.str n) := fun H1 _ _ q => q _ H1 (Same.refl H1) (.str n)
theorem ed_b {n : Bool} : EvD K (tC (.bl n)) σ H (.bool n) := fun H1 _ _ q => q _ H1 (Same.refl H1) (.bl n)
theorem ed_n : EvD K (tC .non) σ H .none := fun H1 _ _ q => q _ H1 (Same.refl H1) .non
/-- two values -/
theorem ed_op {r : R2} (ha : EvD K ta σ H d) (hb : EvD K tb σ H e) {z : PyData} (hr : ∀ x y H1, Same H H1 → Dp K H1 x d → Dp K H1 y e → ∀ Q : VK, (∀ v H2, Same H1 H2 → Dp K H2 v z → Q v H2) → r x y H1 Q) : EvD K (tOp r ta tb) σ H z := fun H1 s Q q =>
  ha H1 s _ fun x H2 s2 hx => hb H2 (s.trans s2) _ fun y H3 s3 hy => hr x y H3 ((s.trans s2).trans s3) (dp_same s3 d x hx) hy Q fun v H4 s4 hv => q v H4 ((s2.trans s3).trans s4) hv
theorem ed_I0 {g : Int → Int → V} {i j : Int} {z : PyData} (ha : EvD K ta σ H (.int i)) (hb : EvD K tb σ H (.int j)) (hz : ∀ H, Dp K H (g i j) z) : EvD K (tOp (rI0 g) ta tb) σ H z :=
  ed_op ha hb fun x y H1 _ hx hy Q q => ⟨i, j, dpI hx, dpI hy, q _ H1 (Same.refl H1) (hz H1)⟩
theorem ed_I {C : Int → Int → Prop} {g : Int → Int → V} {i j : Int} {z : PyData} (ha : EvD K ta σ H (.int i)) (hb : EvD K tb σ H (.int j)) (hc : C i j) (hz : ∀ H, Dp K H (g i j) z) : EvD K (tOp (rI C g) ta tb) σ H z :=
  ed_op ha hb fun x y H1 _ hx hy Q q => ⟨i, j, dpI hx, dpI hy, hc, q _ H1 (Same.refl H1) (hz H1)⟩
theorem ed_add {i j : Int} (ha : EvD K ta σ H (.int i)) (hb : EvD K tb σ H (.int j)) : EvD K (tOp (rI0 fun i j => .int (i + j)) ta tb) σ H (.int (i + j)) := ed_I0 ha hb fun _ => .int _
theorem ed_sub {i j : Int} (ha : EvD K ta σ H (.int i)) (hb : EvD K tb σ H (.int j)) : EvD K (tOp (rI0 fun i j => .int (i - j)) ta tb) σ H (.int (i - j)) := ed_I0 ha hb fun _ => .int _
theorem ed_lt {i j : Int} (ha : EvD K ta σ H (.int i)) (hb : EvD K tb σ H (.int j)) : EvD K (tOp (rI0 fun i j => .bl (decide (i < j))) ta tb) σ H (.bool (decide (i < j))) := ed_I0 ha hb fun _ => .bl _
theorem ed_le {i j : Int} (ha : EvD K ta σ H (.int i)) (hb : EvD K tb σ H (.int j)) : EvD K (tOp (rI0 fun i j => .bl (decide (i ≤ j))) ta tb) σ H (.bool (decide (i ≤ j))) := ed_I0 ha hb fun _ => .bl _
theorem ed_gt {i j : Int} (ha : EvD K ta σ H (.int i)) (hb : EvD K tb σ H (.int j)) : EvD K (tOp (rI0 fun i j => .bl (decide (j < i))) ta tb) σ H (.bool (decide (j < i))) := ed_I0 ha hb fun _ => .bl _
theorem ed_eqI {i j : Int} (ha : EvD K ta σ H (.int i)) (hb : EvD K tb σ H (.int j)) : EvD K (tOp rEq ta tb) σ H (.bool (decide (i = j))) :=
  ed_op ha hb fun x y H1 _ hx hy Q q => by
    rw [dpI hx, dpI hy]
    refine ⟨rfl, q _ H1 (Same.refl H1) ?_⟩
    have : decide (V.int i = V.int j) = decide (i = j) := by simp
    rw [this]; exact .bl _
theorem ed_neI {i j : Int} (ha : EvD K ta σ H (.int i)) (hb : EvD K tb σ H (.int j)) : EvD K (tOp rNe ta tb) σ H (.bool (!decide (i = j))) :=
  ed_op ha hb fun x y H1 _ hx hy Q q => by
    rw [dpI hx, dpI hy]
    refine ⟨rfl, q _ H1 (Same.refl H1) ?_⟩
    have : decide (V.int i = V.int j) = decide (i = j) := by simp
    rw [this]; exact .bl _
theorem ed_eqS {i j : Str} (ha : EvD K ta σ H (.str i)) (hb : EvD K tb σ H (.str j)) : EvD K (tOp rEq ta tb) σ H (.bool (decide (i = j))) :=
  ed_op ha hb fun x y H1 _ hx hy Q q => by
    rw [dpS hx, dpS hy]
    refine ⟨rfl, q _ H1 (Same.refl H1) ?_⟩
    have : decide (V.str i = V.str j) = decide (i = j) := by simp
    rw [this]; exact .bl _
theorem ed_neS {i j : Str} (ha : EvD K ta σ H (.str i)) (hb : EvD K tb σ H (.str j)) : EvD K (tOp rNe ta tb) σ H (.bool (!decide (i = j))) :=
  ed_op ha hb fun x y H1 _ hx hy Q q => by
    rw [dpS hx, dpS hy]
    refine ⟨rfl, q _ H1 (Same.refl H1) ?_⟩
    have : decide (V.str i = V.str j) = decide (i = j) := by simp
    rw [this]; exact .bl _
theorem ed_eqB {i j : Bool} (ha : EvD K ta σ H (.bool i)) (hb : EvD K tb σ H (.bool j)) : EvD K (tOp rEq ta tb) σ H (.bool (decide (i = j))) :=
  ed_op ha hb fun x y H1 _ hx hy Q q => by
    rw [dpB hx, dpB hy]
    refine ⟨rfl, q _ H1 (Same.refl H1) ?_⟩
    have : decide (V.bl i = V.bl j) = decide (i = j) := by simp
    rw [this]; exact .bl _
theorem ed_neB {i j : Bool} (ha : EvD K ta σ H (.bool i)) (hb : EvD K tb σ H (.bool j)) : EvD K (tOp rNe ta tb) σ H (.bool (!decide (i = j))) :=
  ed_op ha hb fun x y H1 _ hx hy Q q => by
    rw [dpB hx, dpB hy]
    refine ⟨rfl, q _ H1 (Same.refl H1) ?_⟩
    have : decide (V.bl i = V.bl j) = decide (i = j) := by simp
    rw [this]; exact .bl _
def isN : PyData → Bool
  | .none => true
  | _ => false
theorem dp_non {H1 : Hp} {x : V} (h : Dp K H1 x d) : decide (x = .non) = isN d := by cases h <;> simp [isN]
theorem ed_isN (ha : EvD K ta σ H d) : EvD K (tOp (fun x y H Q => y = .non ∧ Q (.bl (decide (x = .non))) H) ta (tC .non)) σ H (.bool (isN d)) := fun H1 s Q q =>
  ha H1 s _ fun x H2 s2 hx => ⟨rfl, by rw [dp_non hx]; exact q _ H2 s2 (.bl _)⟩
theorem ed_eqD (ha : EvD K ta σ H d) (hb : EvD K tb σ H e) (sd : SeqAt.shaped d = true) (se : SeqAt.shaped e = true) : EvD K (tOp (rEqD K) ta tb) σ H (.bool (PyData.eqv d e)) :=
  ed_op ha hb fun x y H1 _ hx hy Q q => ⟨d, e, hx, hy, sd, se, q _ H1 (Same.refl H1) (.bl _)⟩
theorem ed_neD (ha : EvD K ta σ H d) (hb : EvD K tb σ H e) (sd : SeqAt.shaped d = true) (se : SeqAt.shaped e = true) : EvD K (tOp (rNeD K) ta tb) σ H (.bool (!PyData.eqv d e)) :=
  ed_op ha hb fun x y H1 _ hx hy Q q => ⟨d, e, hx, hy, sd, se, q _ H1 (Same.refl H1) (.bl _)⟩
theorem ed_not {b : Bool} (ha : EvD K ta σ H (.bool b)) : EvD K (tNotV ta) σ H (.bool (!b)) := fun H1 s Q q => ha H1 s _ fun x H2 s2 hx => ⟨b, dpB hx, q _ H2 s2 (.bl _)⟩
theorem ed_and {a b : Bool} (ha : EvD K ta σ H (.bool a)) (hb : a = true → EvD K tb σ H (.bool b)) : EvD K (tAndV ta tb) σ H (.bool (a && b)) := fun H1 s Q q => ha H1 s _ fun x H2 s2 hx => ⟨a, dpB hx, by
  cases a with
  | false => exact iteF (q _ H2 s2 (.bl _))
  | true => exact iteT (hb rfl H2 (s.trans s2) Q fun v H3 s3 hv => q v H3 (s2.trans s3) hv)⟩
theorem ed_or {a b : Bool} (ha : EvD K ta σ H (.bool a)) (hb : a = false → EvD K tb σ H (.bool b)) : EvD K (tOrV ta tb) σ H (.bool (a || b)) := fun H1 s Q q => ha H1 s _ fun x H2 s2 hx => ⟨a, dpB hx, by
  cases a with
  | true => exact iteT (q _ H2 s2 (.bl _))
  | false => exact iteF (hb rfl H2 (s.trans s2) Q fun v H3 s3 hv => q v H3 (s2.trans s3) hv)⟩
theorem ed_if {b : Bool} (ht : EvT t σ H b) (ha : b = true → EvD K ta σ H d) (hb : b = false → EvD K tb σ H d) : EvD K (tIf t ta tb) σ H d := fun H1 s Q q => ht H1 s _ fun H2 s2 => by
  cases b with
  | true => exact iteT (ha rfl H2 (s.trans s2) Q fun v H3 s3 hv => q v H3 (s2.trans s3) hv)
  | false => exact iteF (hb rfl H2 (s.trans s2) Q fun v H3 s3 hv => q v H3 (s2.trans s3) hv)
theorem ed_chain {i j k : Int} {p q : Int → Int → Bool} (ha : EvD K ta σ H (.int i)) (hb : EvD K tb σ H (.int j)) (hc : p i j = true → EvD K tc σ H (.int k)) :
    EvD K (tChain (rI0 fun i j => .bl (p i j)) (rI0 fun i j => .bl (q i j)) ta tb tc) σ H (.bool (p i j && q j k)) := fun H1 s Q kq => ha H1 s _ fun x H2 s2 hx => hb H2 (s.trans s2) _ fun y H3 s3 hy => by
  refine ⟨i, j, dpI hx, dpI hy, p i j, rfl, ?_⟩
  cases h : p i j with
  | false =>
    rw [h] at kq
    exact iteF (kq _ H3 (s2.trans s3) (.bl _))
  | true =>
    rw [h] at kq
    refine iteT (hc h H3 ((s.trans s2).trans s3) _ fun z H4 s4 hz => ⟨j, k, dpI hy, dpI hz, ?_⟩)
    exact kq _ H4 ((s2.trans s3).trans s4) (.bl _)
theorem ed_chainLe {i j k : Int} (ha : EvD K ta σ H (.int i)) (hb : EvD K tb σ H (.int j)) (hc : EvD K tc σ H (.int k)) :
    EvD K (tChain (rI0 fun i j => .bl (decide (i ≤ j))) (rI0 fun i j => .bl (decide (i ≤ j))) ta tb tc) σ H (.bool (decide (i ≤ j) && decide (j ≤ k))) := ed_chain (p := fun i j => decide (i ≤ j)) (q := fun i j => decide (i ≤ j)) ha hb fun _ => hc
/-! ### tests -/
theorem et_test {b : Bool} (h : EvD K te σ H (.bool b)) : EvT (tTest te) σ H b := fun H1 s Q q => h H1 s _ fun v H2 s2 hv => ⟨b, dpB hv, q H2 s2⟩
theorem et_B {b : Bool} (h : EvD K te σ H (.bool b)) : EvT (tB te) σ H b := fun H1 s Q q => h H1 s _ fun v H2 s2 hv => ⟨b, dpB hv, q H2 s2⟩
theorem et_not {b : Bool} (h : EvT t σ H b) : EvT (tNot t) σ H (!b) := fun H1 s Q q => h H1 s _ fun H2 s2 => q H2 s2
theorem et_and {a b : Bool} (h1 : EvT t σ H a) (h2 : a = true → EvT u σ H b) : EvT (tAnd t u) σ H (a && b) := fun H1 s Q q => h1 H1 s _ fun H2 s2 => by
  cases a with
  | true => exact iteT (h2 rfl H2 (s.trans s2) Q fun H3 s3 => q H3 (s2.trans s3))
  | false => exact iteF (q H2 s2)
theorem et_or {a b : Bool} (h1 : EvT t σ H a) (h2 : a = false → EvT u σ H b) : EvT (tOr t u) σ H (a || b) := fun H1 s Q q => h1 H1 s _ fun H2 s2 => by
  cases a with
  | false => exact iteF (h2 rfl H2 (s.trans s2) Q fun H3 s3 => q H3 (s2.trans s3))
  | true => exact iteT (q H2 s2)
/-! ### arguments, displays, calls -/
theorem ea_nil : EvA K tNil σ H [] := fun H1 _ _ q => q [] H1 (Same.refl H1) .nil
theorem ea_cons {ts : TA} {ds : List PyData} (h : EvD K te σ H d) (r : EvA K ts σ H ds) : EvA K (tCons te ts) σ H (d :: ds) := fun H1 s Q q => h H1 s _ fun v H2 s2 hv => r H2 (s.trans s2) _ fun vs H3 s3 hvs => q _ H3 (s2.trans s3) (.cons (dp_same s3 d v hv) hvs)
theorem ed_tup {ts : TA} {ds : List PyData} (h : EvA K ts σ H ds) (hl : ds.length ≤ 1000) : EvD K (tTup ts) σ H (.tuple ds) := fun H1 s Q q => h H1 s _ fun vs H2 s2 hv => ⟨by rw [hv.len]; exact sz_of (by omega), fun p hp => q _ _ (s2.new hp) (.tup (st_of upd_same) (dps_same ((Same.refl H2).new hp) ds vs hv))⟩
theorem en_lst {ts : TA} {ds : List PyData} (h : EvA K ts σ H ds) (hl : ds.length ≤ 1000) : EvN K (tLst ts) σ H ds := fun H1 s Q q => h H1 s _ fun vs H2 s2 hv => ⟨by rw [hv.len]; exact sz_of (by omega), fun p hp => q p vs _ (s2.new hp) (back s2 hp) upd_same (dps_same ((Same.refl H2).new hp) ds vs hv)⟩
theorem ed_ofN {ds : List PyData} (h : EvN K te σ H ds) : EvD K te σ H (.list ds) := fun H1 s Q q => h H1 s _ fun p vs H2 s2 _ hp hv => q _ H2 s2 (.lst (sq_of hp) hv)
theorem ed_call {R : List PyData → PyData → Prop} {E : XK} {ts : TA} {ds : List PyData} {r : PyData} (h : EvA K ts σ H ds) (hR : R ds r) : EvD K (tCall (spD K R) [] E ts) σ H r := fun H1 s Q q => h H1 s _ fun vs H2 s2 hv => ⟨ds, r, by rw [List.append_nil]; exact hv, hR, fun v H3 s3 h3 => q v H3 (s2.trans s3) h3⟩
theorem ed_isi {n : String} {b : Bool} (ha : EvD K ta σ H d) (hk : PySem.W.kitOne K (.type (tyD d)) (.type n) = some b) : EvD K (tCB (rIsi K) (tCons ta (tCons (tC (.ty n)) tNil))) σ H (.bool b) := fun H1 s Q q =>
  ha H1 s _ fun x H2 s2 hx => ⟨x, .ty n, _, _, b, rfl, .ty n, dp_ty hx, hk, q _ H2 s2 (.bl b)⟩
theorem ed_lenT {ds : List PyData} (ha : EvD K ta σ H (.tuple ds)) : EvD K (tCB (fun xs H Q => ∃ p ys, xs = [.ref p] ∧ (SqL K H p ys ∨ SqT K H p ys) ∧ Q (.int ys.length) H) (tCons ta tNil)) σ H (.int ds.length) := fun H1 s Q q =>
  ha H1 s _ fun x H2 s2 hx => by
    obtain ⟨a, xs, rfl, hs, hv⟩ := dp_tup hx
    refine ⟨a, xs, rfl, .inr hs, ?_⟩
    rw [hv.len]
    exact q _ H2 s2 (.int _)
theorem ed_lenN {ds : List PyData} (ha : EvN K ta σ H ds) : EvD K (tCB (fun xs H Q => ∃ p ys, xs = [.ref p] ∧ (SqL K H p ys ∨ SqT K H p ys) ∧ Q (.int ys.length) H) (tCons ta tNil)) σ H (.int ds.length) := fun H1 s Q q =>
  ha H1 s _ fun p vs H2 s2 _ hp hv => ⟨p, vs, rfl, .inl (sq_of hp), by rw [hv.len]; exact q _ H2 s2 (.int _)⟩
theorem ed_lenL {ds : List PyData} (ha : EvD K ta σ H (.list ds)) : EvD K (tCB (fun xs H Q => ∃ p ys, xs = [.ref p] ∧ (SqL K H p ys ∨ SqT K H p ys) ∧ Q (.int ys.length) H) (tCons ta tNil)) σ H (.int ds.length) := fun H1 s Q q =>
  ha H1 s _ fun x H2 s2 hx => by
    cases hx with
    | lst hs hv => exact ⟨_, _, rfl, .inl hs, by rw [hv.len]; exact q _ H2 s2 (.int _)⟩
theorem ed_lenS {x : Str} (ha : EvD K ta σ H (.str x)) (hl : x.length ≤ 100000) : EvD K (tCB (fun xs H Q => ∃ z, xs = [.str z] ∧ z.length ≤ sizeLine ∧ Q (.int z.length) H) (tCons ta tNil)) σ H (.int x.length) := fun H1 s Q q =>
  ha H1 s _ fun v H2 s2 hx => ⟨x, by rw [dpS hx], sz_of hl, q _ H2 s2 (.int _)⟩
theorem ed_ixT {ds : List PyData} {i : Int} (ha : EvD K ta σ H (.tuple ds)) (hb : EvD K tb σ H (.int i)) (h : atI ds i = some d) : EvD K (tOp (rIxT K) ta tb) σ H d :=
  ed_op ha hb fun x y H1 _ hx hy Q q => by
    obtain ⟨a, xs, rfl, hs, hv⟩ := dp_tup hx
    unfold atI at h
    cases en : ixN ds.length i with
    | none => rw [en] at h; cases h
    | some k =>
      rw [en] at h
      obtain ⟨v, h1, h2⟩ := hv.get (show ds[k]? = some d from h)
      refine ⟨a, xs, i, v, rfl, dpI hy, hs, ?_, q v H1 (Same.refl H1) h2⟩
      unfold atI
      rw [hv.len, en]
      exact h1
theorem ed_ixL {ds : List PyData} {i : Nat} (ha : EvD K ta σ H (.list ds)) (hb : EvD K tb σ H (.int i)) (h : ds[i]? = some d) : EvD K (tOp (rIxL K) ta tb) σ H d :=
  ed_op ha hb fun x y H1 _ hx hy Q q => by
    cases hx with
    | lst hs hv =>
      obtain ⟨v, hv1, hv2⟩ := hv.get h
      exact ⟨_, _, (i : Int), v, rfl, dpI hy, hs, atI_nat hv1, q v H1 (Same.refl H1) hv2⟩
theorem ed_ixS {x : Str} {i : Int} {c : Nat} (ha : EvD K ta σ H (.str x)) (hb : EvD K tb σ H (.int i)) (hl : x.length ≤ 100000) (h : atI x.cps.toList i = some c) : EvD K (tOp rIxS ta tb) σ H (.str ⟨#[c]⟩) :=
  ed_op ha hb fun v y H1 _ hx hy Q q => ⟨x, i, c, dpS hx, dpI hy, sz_of hl, h, q _ H1 (Same.refl H1) (.str _)⟩
theorem ed_addS {x y : Str} (ha : EvD K ta σ H (.str x)) (hb : EvD K tb σ H (.str y)) (hl : x.length + y.length ≤ 100000) : EvD K (tOp (fun x y H Q => ∃ i j, x = .str i ∧ y = .str j ∧ i.length + j.length ≤ sizeLine ∧ Q (.str (i ++ j)) H) ta tb) σ H (.str (x ++ y)) :=
  ed_op ha hb fun v w H1 _ hx hy Q q => ⟨x, y, dpS hx, dpS hy, sz_of hl, q _ H1 (Same.refl H1) (.str _)⟩
theorem ed_all {bs : List Bool} (h : EvN K ta σ H (bs.map .bool)) : EvD K (tCB (rAll K) (tCons ta tNil)) σ H (.bool (bs.all id)) := fun H1 s Q q => h H1 s _ fun p vs H2 s2 _ hp hv => ⟨p, bs, rfl, by rw [← dps_bools hv]; exact sq_of hp, q _ H2 s2 (.bl _)⟩
theorem ed_any {bs : List Bool} (h : EvN K ta σ H (bs.map .bool)) : EvD K (tCB (rAny K) (tCons ta tNil)) σ H (.bool (bs.any id)) := fun H1 s Q q => h H1 s _ fun p vs H2 s2 _ hp hv => ⟨p, bs, rfl, by rw [← dps_bools hv]; exact sq_of hp, q _ H2 s2 (.bl _)⟩
theorem ed_tupN {ds : List PyData} (h : EvN K ta σ H ds) : EvD K (tCB (fun xs H Q => ∃ p ys, xs = [.ref p] ∧ ((SqL K H p ys ∧ ∀ l, H l = none → Q (.ref l) (upd H l (.tup ys))) ∨ (SqT K H p ys ∧ Q (.ref p) H))) (tCons ta tNil)) σ H (.tuple ds) := fun H1 s Q q =>
  h H1 s _ fun p vs H2 s2 _ hp hv => ⟨p, vs, rfl, .inl ⟨sq_of hp, fun l hl => q _ _ (s2.new hl) (.tup (st_of upd_same) (dps_same ((Same.refl H2).new hl) ds vs hv))⟩⟩
theorem ed_tupL {ds : List PyData} (h : EvD K ta σ H (.list ds)) : EvD K (tCB (fun xs H Q => ∃ p ys, xs = [.ref p] ∧ ((SqL K H p ys ∧ ∀ l, H l = none → Q (.ref l) (upd H l (.tup ys))) ∨ (SqT K H p ys ∧ Q (.ref p) H))) (tCons ta tNil)) σ H (.tuple ds) := fun H1 s Q q =>
  h H1 s _ fun v H2 s2 hx => by
    cases hx with
    | lst hs hv => exact ⟨_, _, rfl, .inl ⟨hs, fun l hl => q _ _ (s2.new hl) (.tup (st_of upd_same) (dps_same ((Same.refl H2).new hl) ds _ hv))⟩⟩
end
end G

set_option Elab.async false
set_option linter.all false
set_option maxRecDepth 100000
set_option maxHeartbeats 4000000
namespace G
open PySem PySem.Spec PyProof.Rows L2
/-! ### what is walked, as data -/
structure WkD (K : PySem.W.Frag) (J : It) (H0 : Hp) (xs : List PyData) : Prop where
  goes : ∀ i H, i < xs.length → Same H0 H → J.go i H
  stops : ∀ H, Same H0 H → J.stop xs.length H
  yields : ∀ i H x H' d, xs[i]? = some d → Same H0 H → J.yld i H x H' → Same H H' ∧ Dp K H' x d
def EvI (K : PySem.W.Frag) (wi : TI) (σ : L2.St) (H : Hp) (xs : List PyData) : Prop := ∀ H1, Same H H1 → ∀ R : It → Hp → Prop, (∀ J H2, Same H1 H2 → WkD K J H2 xs → R J H2) → wi σ H1 R
section
variable {K : PySem.W.Frag} {σ : L2.St} {H H' : Hp} {tl te : TE} {t : TT} {d e : PyData}
theorem wk_tup {a : Addr} {vs : List V} {xs : List PyData} (hs : SqT K H a vs) (hv : DpAll K H vs xs) : WkD K (Itt K a) H xs where
  goes := fun i H1 hi s => by
    have : i < vs.length := by rw [hv.len]; exact hi
    exact ⟨vs, vs[i], same_sqt s hs, by simp [this]⟩
  stops := fun H1 s => ⟨vs, same_sqt s hs, by rw [hv.len]; exact Nat.le_refl _⟩
  yields := fun i H1 x H2 d hd s y => by
    obtain ⟨e, y⟩ := y
    subst e
    have h1 := y vs (same_sqt s hs)
    obtain ⟨v, h2, h3⟩ := hv.get hd
    rw [h1] at h2
    cases h2
    exact ⟨Same.refl _, dp_same s d x h3⟩
theorem wk_list {a : Addr} {vs : List V} {xs : List PyData} (hs : SqL K H a vs) (hv : DpAll K H vs xs) : WkD K (Itl K a) H xs where
  goes := fun i H1 hi s => by
    have : i < vs.length := by rw [hv.len]; exact hi
    exact ⟨vs, vs[i], s.seq hs, by simp [this]⟩
  stops := fun H1 s => ⟨vs, s.seq hs, by rw [hv.len]; exact Nat.le_refl _⟩
  yields := fun i H1 x H2 d hd s y => by
    obtain ⟨e, y⟩ := y
    subst e
    have h1 := y vs (s.seq hs)
    obtain ⟨v, h2, h3⟩ := hv.get hd
    rw [h1] at h2
    cases h2
    exact ⟨Same.refl _, dp_same s d x h3⟩
theorem ei_tup {xs : List PyData} (h : EvD K tl σ H (.tuple xs)) : EvI K (iTup K tl) σ H xs := fun H1 s R q => h H1 s _ fun v H2 s2 hv => by
  obtain ⟨a, vs, rfl, hs, hvs⟩ := dp_tup hv
  exact ⟨a, rfl, ⟨vs, hs⟩, q _ H2 s2 (wk_tup hs hvs)⟩
theorem ei_list {xs : List PyData} (h : EvD K tl σ H (.list xs)) : EvI K (iList K tl) σ H xs := fun H1 s R q => h H1 s _ fun v H2 s2 hv => by
  cases hv with
  | lst hs hvs => exact ⟨_, rfl, ⟨_, hs⟩, q _ H2 s2 (wk_list hs hvs)⟩
theorem ei_listN {xs : List PyData} (h : EvN K tl σ H xs) : EvI K (iList K tl) σ H xs := ei_list (ed_ofN h)
theorem ei_str {x : Str} (h : EvD K tl σ H (.str x)) : EvI K (iStr tl) σ H (x.cps.toList.map fun c => .str ⟨#[c]⟩) := fun H1 s R q => h H1 s _ fun v H2 s2 hv =>
  ⟨x, dpS hv, q _ H2 s2
    { goes := fun i H3 hi _ => by show i < x.cps.size; simpa using hi
      stops := fun H3 _ => by simp [Its]
      yields := fun i H3 y H4 d hd _ hy => by
        obtain ⟨e, c, hc, e2⟩ := hy
        subst e e2
        have : d = .str ⟨#[c]⟩ := by
          rw [List.getElem?_map] at hd
          have e3 : x.cps.toList[i]? = some c := by simpa using hc
          rw [e3] at hd
          exact (Option.some.inj hd).symm
        rw [this]
        exact ⟨Same.refl _, .str _⟩ }⟩
def intsD (n : Nat) : List PyData := (List.range n).map fun (i : Nat) => .int (i : Int)
theorem ei_range {n : Int} {ta : TE} (h : EvD K ta σ H (.int n)) (hn : n ≤ 1000000) (h0 : 0 ≤ n) : EvI K (iRng1 (tCons ta tNil)) σ H (intsD n.toNat) := fun H1 s R q => h H1 s _ fun v H2 s2 hv =>
  ⟨n, by rw [dpI hv], by omega, by omega, q _ H2 s2
    { goes := fun i H3 hi _ => by show i < n.toNat; simpa [intsD] using hi
      stops := fun H3 _ => by show n.toNat ≤ _; simp [intsD]
      yields := fun i H3 y H4 d hd _ hy => by
        obtain ⟨e, e2⟩ := hy
        subst e e2
        have hi : i < n.toNat := by
          have := (List.getElem?_eq_some_iff.mp hd).1
          simpa [intsD] using this
        have : d = .int (0 + (i : Int)) := by
          have e3 : (intsD n.toNat)[i]? = some (.int (i : Int)) := by simp [intsD, hi]
          rw [e3] at hd
          rw [← Option.some.inj hd]; simp
        rw [this]
        exact ⟨Same.refl _, .int _⟩ }⟩
/-! ### comprehensions -/
theorem en_lc {wi : TI} {g : TG} {vs : List Nat} {xs : List PyData} (p : PyData → Bool) (f : PyData → PyData) (hi : EvI K wi σ H xs) (hl : xs.length ≤ 100000) (htt : ∀ x ∈ xs, p x = true → tt (f x) = true)
    (hel : ∀ x ∈ xs, ∀ v H1, Same H H1 → Dp K H1 v x → ∀ W : L2.St → Hp → Prop, (∀ σ2, wipe σ2 vs = wipe σ vs → EvT t σ2 H1 (p x) → (p x = true → EvD K te σ2 H1 (f x)) → W σ2 H1) → g v (wipe σ vs) H1 W) :
    EvN K (tLc wi g t te vs) σ H ((xs.filter p).map f) := by
  intro H1 s Q q
  refine hi H1 s _ fun J H2 s2 w D hD => ?_
  refine ⟨fun i m H' => m = xs.length - i ∧ i ≤ xs.length ∧ Same H2 H' ∧ ∃ acc, H' D = some (.lst acc) ∧ DpAll K H' acc (((xs.take i).filter p).map f) ∧ acc.length ≤ i ∧ tts (((xs.take i).filter p).map f) = true, ⟨xs.length, by simp, Nat.zero_le _, (Same.refl H2).new hD, [], upd_same, by simpa using DpAll.nil, Nat.le_refl _, by simp [tts]⟩, ?_⟩
  rintro i m H3 ⟨rfl, hile, s3, acc, hacc, hdp, hal, htts⟩
  by_cases hlt : i < xs.length
  · refine .inr ⟨w.goes i H3 hlt s3, fun H' => i + 1 ≤ xs.length ∧ Same H2 H' ∧ ∃ acc, H' D = some (.lst acc) ∧ DpAll K H' acc (((xs.take (i + 1)).filter p).map f) ∧ acc.length ≤ i + 1 ∧ tts (((xs.take (i + 1)).filter p).map f) = true,
      fun H' ⟨a, b⟩ => ⟨xs.length - (i + 1), by omega, rfl, a, b⟩, fun x H4 y => ?_⟩
    have hx : xs[i]? = some xs[i] := by simp [hlt]
    obtain ⟨s4, hxd⟩ := w.yields i H3 x H4 _ hx s3 y
    have hmem : xs[i] ∈ xs := List.getElem_mem hlt
    have etake : xs.take (i + 1) = xs.take i ++ [xs[i]] := by rw [List.take_succ, hx]; rfl
    have sHH4 : Same H H4 := ((s.trans s2).trans s3).trans s4
    refine hel _ hmem x H4 sHH4 hxd _ fun σ2 hw ht he => ⟨hw, ?_⟩
    refine ht H4 (Same.refl _) _ fun H5 s5 => ?_
    cases hp : p xs[i] with
    | true =>
      refine iteT (he hp H5 s5 _ fun z H6 s6 hz => ?_)
      have s36 : Same H3 H6 := (s4.trans s5).trans s6
      have hD6 := s36 _ _ hacc
      refine ⟨acc, hD6, sz_lt (by omega), hlt, ?_, _, upd_same, ?_, by simp; omega, ?_⟩
      · intro b o e
        rw [upd_ne (ne_of_none e hD)]
        exact s36 _ _ (s3 _ _ e)
      · rw [etake, List.filter_append, List.map_append]
        have hk : Kt H6 (upd H6 D (.lst (acc ++ [z]))) := Kt.rfl'.lst hD6
        have e1 : (List.filter p [xs[i]]).map f = [f xs[i]] := by simp [hp]
        rw [e1]
        exact (dps_kt hk _ _ htts (dps_same s36 _ _ hdp)).snoc (dp_kt hk _ _ (htt _ hmem hp) hz)
      · rw [etake, List.filter_append, List.map_append]
        have e1 : (List.filter p [xs[i]]).map f = [f xs[i]] := by simp [hp]
        rw [e1]
        have : ∀ l : List PyData, tts l = true → tts (l ++ [f xs[i]]) = true := by
          intro l
          induction l with
          | nil => intro _; simp [tts, htt _ hmem hp]
          | cons a r ih => intro h; simp [tts] at h ⊢; exact ⟨h.1, ih h.2⟩
        exact this _ htts
    | false =>
      refine iteF ⟨hlt, (s3.trans s4).trans s5, acc, (s4.trans s5) _ _ hacc, ?_, by omega, ?_⟩
      · rw [etake, List.filter_append, List.map_append]
        have e1 : (List.filter p [xs[i]]).map f = [] := by simp [hp]
        rw [e1, List.append_nil]
        exact dps_same (s4.trans s5) _ _ hdp
      · rw [etake, List.filter_append, List.map_append]
        have e1 : (List.filter p [xs[i]]).map f = [] := by simp [hp]
        rw [e1, List.append_nil]
        exact htts
  · have e : i = xs.length := by omega
    subst e
    rw [List.take_length] at hdp
    exact .inl ⟨w.stops H3 s3, q D acc H3 (s2.trans s3) (back s2 hD) hacc hdp⟩
theorem et_yes : EvT tYes σ H true := fun H1 _ _ q => q H1 (Same.refl H1)
/-- no test -/
theorem en_lcA {wi : TI} {g : TG} {vs : List Nat} {xs : List PyData} (f : PyData → PyData) (hi : EvI K wi σ H xs) (hl : xs.length ≤ 100000) (htt : ∀ x ∈ xs, tt (f x) = true)
    (hel : ∀ x ∈ xs, ∀ v H1, Same H H1 → Dp K H1 v x → ∀ W : L2.St → Hp → Prop, (∀ σ2, wipe σ2 vs = wipe σ vs → EvD K te σ2 H1 (f x) → W σ2 H1) → g v (wipe σ vs) H1 W) :
    EvN K (tLc wi g tYes te vs) σ H (xs.map f) := by
  have h := en_lc (t := tYes) (fun _ => true) f hi hl (fun x hx _ => htt x hx) fun x hx v H1 s hv W hW => hel x hx v H1 s hv W fun σ2 hw he => hW σ2 hw et_yes fun _ => he
  rwa [List.filter_eq_self.mpr (by simp)] at h
/-- .. the list as ys -/
theorem en_lcE {wi : TI} {g : TG} {vs : List Nat} {xs ys : List PyData} (f : PyData → PyData) (hy : xs.map f = ys) (hi : EvI K wi σ H xs) (hl : xs.length ≤ 100000) (htt : ∀ x ∈ xs, tt (f x) = true)
    (hel : ∀ x ∈ xs, ∀ v H1, Same H H1 → Dp K H1 v x → ∀ W : L2.St → Hp → Prop, (∀ σ2, wipe σ2 vs = wipe σ vs → EvD K te σ2 H1 (f x) → W σ2 H1) → g v (wipe σ vs) H1 W) :
    EvN K (tLc wi g tYes te vs) σ H ys := hy ▸ en_lcA f hi hl htt hel
theorem wipe_set1 {σ : L2.St} {i : Nat} {o : Option V} : wipe ((wipe σ [i]).set i o) [i] = wipe σ [i] := by
  simp only [wipe, List.set_set]
theorem wipe_set2 {σ : L2.St} {i j : Nat} {o u : Option V} : wipe (((wipe σ [i, j]).set i o).set j u) [i, j] = wipe σ [i, j] := by
  by_cases h : i = j
  · subst h; simp only [wipe, List.set_set]
  · simp only [wipe]
    rw [List.set_comm _ _ (fun e => h e.symm), List.set_comm _ _ h]
    simp only [List.set_set]
    rw [List.set_comm _ _ h]
    simp only [List.set_set]
end
end G
namespace G
open PySem PySem.Spec PyProof.Rows L2
section
variable {X : Cx}
theorem op_inS : OpR X (compareOp .In) (fun x y H Q => ∃ (c : Nat) (z : Str), x = .str ⟨#[c]⟩ ∧ y = .str z ∧ Q (.bl (decide (c ∈ z.cps.toList))) H) := op_in_sign
theorem op_notInS : OpR X (compareOp .NotIn) (fun x y H Q => ∃ (c : Nat) (z : Str), x = .str ⟨#[c]⟩ ∧ y = .str z ∧ Q (.bl (!decide (c ∈ z.cps.toList))) H) := op_notIn_sign
/-- a constant of the module -/
theorem pe_ki {x : Str} {i : Int} {pos : Pos} (hg : Gl X x) (h : ∃ t, X.mg x = some (.int i t)) (hd : (x == ("__debug__" : Str)) = false := by decide) : PE X (.Name x pos) (tC (.int i)) := by
  obtain ⟨t, e⟩ := h
  exact pe_glob hg e ⟨t, rfl⟩ hd
theorem pe_ks {x : Str} {i : Str} {pos : Pos} (hg : Gl X x) (h : ∃ t, X.mg x = some (.str i t)) (hd : (x == ("__debug__" : Str)) = false := by decide) : PE X (.Name x pos) (tC (.str i)) := by
  obtain ⟨t, e⟩ := h
  exact pe_glob hg e ⟨t, rfl⟩ hd
end
section
variable {K : PySem.W.Frag} {σ : L2.St} {H H' : Hp} {ta tb te : TE} {t : TT} {d e : PyData}
theorem ed_inS {c : Nat} {z : Str} (ha : EvD K ta σ H (.str ⟨#[c]⟩)) (hb : EvD K tb σ H (.str z)) : EvD K (tOp (fun x y H Q => ∃ (c : Nat) (z : Str), x = .str ⟨#[c]⟩ ∧ y = .str z ∧ Q (.bl (decide (c ∈ z.cps.toList))) H) ta tb) σ H (.bool (decide (c ∈ z.cps.toList))) :=
  ed_op ha hb fun x y H1 _ hx hy Q q => ⟨c, z, dpS hx, dpS hy, q _ H1 (Same.refl H1) (.bl _)⟩
theorem ed_notInS {c : Nat} {z : Str} (ha : EvD K ta σ H (.str ⟨#[c]⟩)) (hb : EvD K tb σ H (.str z)) : EvD K (tOp (fun x y H Q => ∃ (c : Nat) (z : Str), x = .str ⟨#[c]⟩ ∧ y = .str z ∧ Q (.bl (!decide (c ∈ z.cps.toList))) H) ta tb) σ H (.bool (!decide (c ∈ z.cps.toList))) :=
  ed_op ha hb fun x y H1 _ hx hy Q q => ⟨c, z, dpS hx, dpS hy, q _ H1 (Same.refl H1) (.bl _)⟩
/-! ### statements of a def that hands back data -/
theorem s_ret {D : Ends} (h : EvD K te σ H d) (q : ∀ v H', Same H H' → Dp K H' v d → D.rt v H') : tRet te D σ H := h H (Same.refl H) D.rt q
theorem s_if {D : Ends} {a b : TS} {c : Bool} (h : EvT t σ H c) (h1 : c = true → ∀ H', Same H H' → a D σ H') (h2 : c = false → ∀ H', Same H H' → b D σ H') : tIfS t a b D σ H := h H (Same.refl H) _ fun H' s => by
  cases c with
  | true => exact iteT (h1 rfl H' s)
  | false => exact iteF (h2 rfl H' s)
theorem s_set {D : Ends} {i : Nat} (h : EvD K te σ H d) (q : ∀ v H', Same H H' → Dp K H' v d → D.nx (σ.set i (some v)) H') : tAsg te (gName i) D σ H := h H (Same.refl H) _ q
/-- a new list goes to a name -/
theorem s_setN {D : Ends} {i : Nat} {ds : List PyData} (h : EvN K te σ H ds) (q : ∀ p vs H', Same H H' → H p = none → H' p = some (.lst vs) → DpAll K H' vs ds → D.nx (σ.set i (some (.ref p))) H') : tAsg te (gName i) D σ H := h H (Same.refl H) _ q
end
end G

set_option Elab.async false
set_option linter.all false
set_option maxRecDepth 100000
set_option maxHeartbeats 4000000
/-! sets of tuples of whole numbers, nested; by the way of the table alone -/
namespace SN
open PySem PySem.Spec PyProof.Rows L2
mutual
def num : NestedKey → Bool
  | .num _ => true
  | .tup ks => nums ks
  | .none => false
  | .text _ => false
def nums : List NestedKey → Bool
  | [] => true
  | k :: ks => num k && nums ks
end
section
variable {P : Program} {w : World}
/-- no class statement of a program is met, n levels down -/
def Plain (P : Program) (w : World) (n : Nat) (s : Shared) (v : Value) : Prop := ∀ (A : Around) (E : Value → Shared → Prop) (Q : Bool → Shared → Prop), Q false s → wpAny (model P w) A (ofAClassStatement n v) Q E s
/-- the hash is told by the value -/
def Told (P : Program) (w : World) (n : Nat) (s : Shared) (v : Value) : Prop := ∀ (A : Around) (E : Value → Shared → Prop) (Q : Bool → Shared → Prop), Q true s → wpAny (model P w) A (hashByValue n v) Q E s
theorem Plain.flat {n : Nat} {s : Shared} {v : Value} (e : ofAClassStatement n v = pure false) : Plain P w n s v := fun A E Q q => by rw [e]; exact wpAny_pure q
theorem Told.flat {n : Nat} {s : Shared} {v : Value} (e : hashByValue n v = pure true) : Told P w n s v := fun A E Q q => by rw [e]; exact wpAny_pure q
theorem Plain.row {n m : Nat} {s : Shared} {a : Addr} {o : Obj} {vs : Array Value} (ho : s.heap.get? a = some o) (hc : o.cls = .type "tuple") (hd : o.data = .seq vs m) (hv : ∀ v ∈ vs.toList, Plain P w n s v) : Plain P w (n + 1) s (.ref a) := fun A E Q q => by
  have ty : s.TypeIs (.ref a) "tuple" := ⟨o, ho, hc⟩
  unfold ofAClassStatement
  refine wpAny_bind (wpAny_typeOf ty ?_)
  dsimp only
  have tt : (("tuple" : String) == "tuple") = true := by decide
  simp only [tt, if_true, Bool.not_true, Bool.false_eq_true, if_false]
  try refine wpAny_bind (wpAny_pure ?_)
  try simp only [Bool.not_true, Bool.false_eq_true, if_false]
  show wpAny _ _ (seqItems? (.ref a) >>= _) _ _ s
  refine wpAny_bind (wpAny_seqItems ho hd ?_)
  dsimp only
  refine wpAny_bind ?_
  show wpAny _ _ (forIn vs _ _) _ _ s
  rw [← Array.forIn_toList]
  refine wpAny_forIn_list _ (fun rest r z => r.1 = none ∧ z = s ∧ ∀ v ∈ rest, Plain P w n s v) _ ?_ ?_ _ _ ⟨rfl, rfl, hv⟩
  · rintro v rest r z ⟨hr, rfl, al⟩
    refine wpAny_bind (al v List.mem_cons_self _ _ _ ?_)
    simp only [Bool.false_eq_true, if_false]
    exact wpAny_pure ⟨rfl, rfl, fun u m => al u (List.mem_cons_of_mem _ m)⟩
  · rintro ⟨r1, r2⟩ z ⟨hr, rfl, _⟩
    simp only at hr
    subst hr
    exact wpAny_pure q
theorem Told.row {n m : Nat} {s : Shared} {a : Addr} {o : Obj} {vs : Array Value} (ho : s.heap.get? a = some o) (hc : o.cls = .type "tuple") (hd : o.data = .seq vs m) (hv : ∀ v ∈ vs.toList, Told P w n s v) : Told P w (n + 1) s (.ref a) := fun A E Q q => by
  have ty : s.TypeIs (.ref a) "tuple" := ⟨o, ho, hc⟩
  unfold hashByValue
  refine wpAny_bind (wpAny_specialOf ty F.slot_tuple_hash.lookup ?_)
  show wpAny _ _ (seqItems? (.ref a) >>= _) _ _ s
  refine wpAny_bind (wpAny_seqItems ho hd ?_)
  refine wpAny_bind ?_
  show wpAny _ _ (forIn vs _ _) _ _ s
  rw [← Array.forIn_toList]
  refine wpAny_forIn_list _ (fun rest r z => r.1 = none ∧ z = s ∧ ∀ v ∈ rest, Told P w n s v) _ ?_ ?_ _ _ ⟨rfl, rfl, hv⟩
  · rintro v rest r z ⟨hr, rfl, al⟩
    refine wpAny_bind (al v List.mem_cons_self _ _ _ ?_)
    simp only [Bool.not_true, Bool.false_eq_true, if_false]
    exact wpAny_pure ⟨rfl, rfl, fun u m => al u (List.mem_cons_of_mem _ m)⟩
  · rintro ⟨r1, r2⟩ z ⟨hr, rfl, _⟩
    simp only at hr
    subst hr
    exact wpAny_pure q
mutual
theorem plain_key : ∀ (k : NestedKey) (v : Value) (n : Nat) (s : Shared), NestedIs s.heap k v → num k = true → k.depth ≤ n → Plain P w n s v
  | .none, _, n, s, x, nk, _ => by simp [num] at nk
  | .text _, _, n, s, x, nk, _ => by simp [num] at nk
  | .num i, _, n, s, x, _, _ => by cases x <;> exact .flat (by cases n <;> rfl)
  | .tup ks, _, n, s, x, nk, hn => by
    cases x with
    | tup hg hc hd hk =>
      simp only [NestedKey.depth] at hn
      cases n with
      | zero => omega
      | succ n => exact .row hg hc hd (plain_keys ks _ n s hk (by simpa [num] using nk) (by omega))
theorem plain_keys : ∀ (ks : List NestedKey) (vs : List Value) (n : Nat) (s : Shared), NestedAll s.heap ks vs → nums ks = true → NestedKey.depthAll ks ≤ n → ∀ v ∈ vs, Plain P w n s v
  | [], _, n, s, x, _, _, v, hv => by cases x; cases hv
  | k :: ks, _, n, s, x, nk, hn, v, hv => by
    cases x with
    | cons x1 x2 =>
      simp only [NestedKey.depthAll] at hn
      simp only [nums, Bool.and_eq_true] at nk
      rcases List.mem_cons.mp hv with e | hv
      · rw [e]; exact plain_key k _ n s x1 nk.1 (by omega)
      · exact plain_keys ks _ n s x2 nk.2 (by omega) v hv
end
mutual
theorem told_key : ∀ (k : NestedKey) (v : Value) (n : Nat) (s : Shared), NestedIs s.heap k v → num k = true → k.depth ≤ n → Told P w n s v
  | .none, _, n, s, x, nk, _ => by simp [num] at nk
  | .text _, _, n, s, x, nk, _ => by simp [num] at nk
  | .num i, _, n, s, x, _, _ => by cases x <;> exact .flat (by cases n <;> rfl)
  | .tup ks, _, n, s, x, nk, hn => by
    cases x with
    | tup hg hc hd hk =>
      simp only [NestedKey.depth] at hn
      cases n with
      | zero => omega
      | succ n => exact .row hg hc hd (told_keys ks _ n s hk (by simpa [num] using nk) (by omega))
theorem told_keys : ∀ (ks : List NestedKey) (vs : List Value) (n : Nat) (s : Shared), NestedAll s.heap ks vs → nums ks = true → NestedKey.depthAll ks ≤ n → ∀ v ∈ vs, Told P w n s v
  | [], _, n, s, x, _, _, v, hv => by cases x; cases hv
  | k :: ks, _, n, s, x, nk, hn, v, hv => by
    cases x with
    | cons x1 x2 =>
      simp only [NestedKey.depthAll] at hn
      simp only [nums, Bool.and_eq_true] at nk
      rcases List.mem_cons.mp hv with e | hv
      · rw [e]; exact told_key k _ n s x1 nk.1 (by omega)
      · exact told_keys ks _ n s x2 nk.2 (by omega) v hv
end
/-- the tuple at a is the key k -/
structure At (h : Heap) (k : NestedKey) (a : Addr) : Prop where
  is : NestedIs h k (.ref a)
  dep : k.depth ≤ 8
  num : num k = true
theorem At.kept {h h' : Heap} {k : NestedKey} {a : Addr} (x : At h k a) (kp : ∀ b o, h.get? b = some o → h'.get? b = some o) : At h' k a := ⟨NestedIs.at (fun b o _ _ e _ => kp b o e) _ _ x.is, x.dep, x.num⟩
theorem At.past {h h' : Heap} {k : NestedKey} {a S : Addr} {o : Obj} {es : Array (Int × Value)} {ep : Nat} {t : SetTable} (x : At h k a) (ho : h.get? S = some o) (hd : o.data = .set es ep t) (hs : Heap.SameBut S h h') : At h' k a :=
  ⟨NestedIs.at (fun b ob _ _ e ed => by
    refine (hs.2 b fun z => ?_).trans e
    subst z
    rw [ho] at e
    cases e
    rw [hd] at ed
    cases ed) _ _ x.is, x.dep, x.num⟩
section
variable {A : Around} {E : Value → Shared → Prop} {s : Shared}
/-- two such tuples compared -/
theorem eq_keys {x y : NestedKey} {a b : Addr} {Q : Bool → Shared → Prop} (hu : A.units + 8 < cLine) (hx : At s.heap x a) (hy : At s.heap y b) (q : Q (decide (x = y)) s) : wpAny (model P w) A (eqBool (.ref a) (.ref b)) Q E s :=
  (nestedKind P w).eqBool hu ⟨hx.is, hx.dep⟩ ⟨hy.is, hy.dep⟩ q
/-- a search among them shows nothing -/
theorem unseen {k : NestedKey} {b : Addr} {Q : Bool → Shared → Prop} (hk : At s.heap k b) {ys : List Value} (hy : ∀ y ∈ ys, ∃ k' c, y = Value.ref c ∧ At s.heap k' c) (q : Q false s) : wpAny (model P w) A (searchCouldBeSeen (.ref b) ys) Q E s := by
  unfold searchCouldBeSeen
  refine wpAny_bind ?_
  refine wpAny_forIn_list _ (fun rest r z => r.1 = none ∧ z = s ∧ ∀ y ∈ rest, ∃ k' c, y = Value.ref c ∧ At s.heap k' c) _ ?_ ?_ _ _ ⟨rfl, rfl, hy⟩
  · rintro v rest r z ⟨hr, rfl, al⟩
    obtain ⟨k', c, rfl, hc⟩ := al v List.mem_cons_self
    have al' : ∀ y ∈ rest, ∃ k' c, y = Value.ref c ∧ At z.heap k' c := fun u m => al u (List.mem_cons_of_mem _ m)
    dsimp only
    by_cases hv : (b == c || (carriedByValue (.ref b) && carriedByValue (.ref c))) = true
    · refine wp_if_pos hv ?_
      exact wpAny_pure ⟨rfl, rfl, al'⟩
    · refine wp_if_neg hv ?_
      refine wpAny_bind ((nestedKind P w).quiet ⟨hk.is, hk.dep⟩ ?_)
      simp only [Bool.not_true, Bool.false_eq_true, if_false]
      refine wpAny_bind ((nestedKind P w).quiet ⟨hc.is, hc.dep⟩ ?_)
      simp only [Bool.not_true, Bool.false_eq_true, if_false]
      refine wpAny_bind (plain_key k _ 8 _ hk.is hk.num hk.dep _ _ _ ?_)
      simp only [Bool.false_eq_true, if_false]
      refine wpAny_bind (plain_key k' _ 8 _ hc.is hc.num hc.dep _ _ _ ?_)
      simp only [Bool.false_eq_true, if_false]
      exact wpAny_pure ⟨rfl, rfl, al'⟩
  · rintro ⟨r1, r2⟩ z ⟨hr, rfl, _⟩
    simp only at hr
    subst hr
    exact wpAny_pure q
end
/-! ### what stands in the table -/
abbrev HK (w : World) (k : NestedKey) : Int := NestedKey.hash w k
abbrev Ent : Type := Addr × NestedKey
def hashes (w : World) (L : List Ent) : List Int := L.map fun p => HK w p.2
def rowsN (w : World) (L : List Ent) : List (Int × Value) := L.map fun p => (HK w p.2, Value.ref p.1)
theorem rowsN_len {w : World} {L : List Ent} {es : Array (Int × Value)} (h : es.toList = rowsN w L) : es.size = L.length := by
  rw [← Array.length_toList, h, rowsN, List.length_map]
/-- the set at S without its tuples -/
structure Tab0 (w : World) (h : Heap) (S : Addr) (L : List Ent) (es : Array (Int × Value)) (ep : Nat) (t : SetTable) : Prop where
  ob : ∃ o, h.get? S = some o ∧ o.ExactSet ∧ o.data = .set es ep t
  rows : es.toList = rowsN w L
  tab : TabOk t (hashes w L)
  nd : (L.map (·.2)).Nodup
  plain : t.plain = true
  led : w.params.followText "set-order" = true ∨ t.led = true
  room : L.length * 5 < t.mask * 3
  few : L.length < 64
structure Tab (w : World) (h : Heap) (S : Addr) (L : List Ent) (es : Array (Int × Value)) (ep : Nat) (t : SetTable) : Prop where
  t0 : Tab0 w h S L es ep t
  keys : ∀ p ∈ L, At h p.2 p.1
section
variable {A : Around} {E : Value → Shared → Prop} {s : Shared} {S : Addr} {L : List Ent} {es : Array (Int × Value)} {ep : Nat} {t : SetTable}
theorem Tab0.size {h : Heap} (R : Tab0 w h S L es ep t) : es.size = L.length := rowsN_len R.rows
theorem fits_of {t : SetTable} {n : Nat} (h0 : t.dummies = #[]) (h1 : t.place.size = n) (h2 : n ≤ t.mask) : t.fits n = true := by
  unfold SetTable.fits SetTable.fill
  rw [h0, Bool.and_eq_true, beq_iff_eq, decide_eq_true_eq]
  exact ⟨h1, by show t.place.size + 0 ≤ t.mask; omega⟩
theorem Tab0.fits {h : Heap} (R : Tab0 w h S L es ep t) : t.fits es.size = true := by
  have h1 := R.tab.sz
  have h3 := R.room
  have h2 := R.size
  unfold hashes at h1
  rw [List.length_map] at h1
  exact fits_of R.tab.dm (by omega) (by omega)
theorem Tab0.entry {h : Heap} (R : Tab0 w h S L es ep t) {i : Nat} {p : Ent} (e : L[i]? = some p) : es[i]? = some (HK w p.2, Value.ref p.1) := by
  rw [← Array.getElem?_toList, R.rows, rowsN, List.getElem?_map, e]
  rfl
theorem Tab0.stays {h : Heap} (R : Tab0 w h S L es ep t) : ¬ t.gaveWay = true := by
  have := mask_odd R.tab.mok
  unfold SetTable.gaveWay
  rw [this]
  decide
theorem dummy_nth (m : Nat) : ∀ (n : Nat) (p : SetTable.Probe), p.dummy = none → (nth m p n).dummy = none
  | 0, _, h => h
  | n + 1, p, h => dummy_nth m n (adv m p) (by unfold adv; split <;> exact h)
/-- where the way of the hash h begins -/
abbrev first (m : Nat) (h : Int) : SetTable.Probe := runAt m (SetTable.bits h % (m + 1)) (SetTable.bits h)
/-- THE SEARCH from the c-th place of the way on; K: the first free place -/
theorem search_go (R : Tab w s.heap S L es ep t) {x : Addr} {k : NestedKey} (hx : At s.heap k x) (hu : A.units + 8 < cLine) {K : Nat} (hKf : K < 10 * SetTable.turns t.mask)
    (hK : way t.mask (HK w k) K ∉ t.place.toList) (hKb : ∀ c, c < K → way t.mask (HK w k) c ∈ t.place.toList) {Q : SetFound → Shared → Prop}
    (hin : k ∈ L.map (·.2) → Q (.there none) s) (hout : k ∉ L.map (·.2) → Q (.free (way t.mask (HK w k) K) false) s) :
    ∀ (f c : Nat) (st : Option SetTable.Probe), st.getD (t.probeStart (HK w k)) = nth t.mask (first t.mask (HK w k)) c → c ≤ K → K - c < f →
      (∀ (i : Nat) (p : Ent), L[i]? = some p → p.2 = k → ∃ d, c ≤ d ∧ d < K ∧ t.place.toList[i]? = some (way t.mask (HK w k) d)) →
      wpAny (model P w) A (setSearchFrom S (.ref x) (HK w k) true f st) Q E s
  | 0, _, _, _, _, hf, _ => absurd hf (Nat.not_lt_zero _)
  | f + 1, c, st, hst, hc, hf, met => by
    obtain ⟨o, ho, hex, hd⟩ := R.t0.ob
    have ris := R.t0.tab.ris
    rw [setSearchFrom_succ]
    refine wpAny_bind (wpAny_setState_of ho hd R.t0.fits ?_)
    dsimp only
    refine wp_if_neg R.t0.stays ?_
    try refine wpAny_bind (wpAny_pure ?_)
    have on : ∀ q, nth t.mask (nth t.mask (first t.mask (HK w k)) c) q = nth t.mask (first t.mask (HK w k)) (c + q) := fun q => (nth_add t.mask c _ q).symm
    have onj : ∀ q, (nth t.mask (nth t.mask (first t.mask (HK w k)) c) q).j = way t.mask (HK w k) (c + q) := fun q => congrArg SetTable.Probe.j (on q)
    have hKc : c + (K - c) = K := by omega
    have spec := go_spec t ris R.t0.tab.dm (fun i => (es[i]?.map (·.1)).getD 0) (HK w k) (10 * SetTable.turns t.mask) (K - c) (nth t.mask (first t.mask (HK w k)) c) (dummy_nth _ c _ rfl) (by omega)
      (fun q hq => by rw [onj]; exact hKb _ (by omega)) (by rw [onj, hKc]; exact hK)
    have hashAt : ∀ (i : Nat) (p : Ent), L[i]? = some p → (fun i => (es[i]?.map (·.1)).getD 0) i = HK w p.2 := fun i p hp => by
      show (es[i]?.map (·.1)).getD 0 = _
      rw [R.t0.entry hp]
      rfl
    rcases spec with ⟨q, i, hq, hi, hh, hno, hpr⟩ | ⟨hno, hpr⟩
    · rw [onj] at hi
      have hpr' : t.probe (fun i => (es[i]?.map (·.1)).getD 0) (HK w k) (st.getD (t.probeStart (HK w k))) = some (.candidate (way t.mask (HK w k) (c + q)) i (nth t.mask (first t.mask (HK w k)) (c + (q + 1)))) := by
        rw [hst, ← onj, ← on]
        exact hpr
      rw [hpr']
      dsimp only
      have hil : i < L.length := by
        have h1 := (List.getElem?_eq_some_iff.mp hi).1
        have h2 := R.t0.tab.sz
        unfold hashes at h2
        rw [List.length_map] at h2
        rw [Array.length_toList, h2] at h1
        exact h1
      obtain ⟨p, hp⟩ : ∃ p, L[i]? = some p := ⟨_, List.getElem?_eq_getElem hil⟩
      have pm : p ∈ L := List.mem_of_getElem? hp
      have pk := R.keys p pm
      have live : t.slot (way t.mask (HK w k) (c + q)) = .live i := slot_live ris hi
      have rest : wpAny (model P w) A (searchRest S (.ref x) (HK w k) true f es t (way t.mask (HK w k) (c + q)) i (nth t.mask (first t.mask (HK w k)) (c + (q + 1)))) Q E s := by
        unfold searchRest
        rw [R.t0.entry hp]
        dsimp only
        refine wpAny_bind (wpAny_holding (eq_keys hu pk hx ?_))
        refine wpAny_bind (wpAny_setState_of ho hd R.t0.fits ?_)
        dsimp only
        by_cases same : p.2 = k
        · refine wp_if_pos (by simp [same]) ?_
          exact wpAny_pure (hin (List.mem_map.mpr ⟨p, pm, same⟩))
        · refine wp_if_neg (by simp [same]) ?_
          try refine wpAny_bind (wpAny_pure ?_)
          rw [sameMem]
          dsimp only
          simp only [if_true, live, R.t0.entry hp]
          refine wpAny_bind (wpAny_isSame_ref_self (wpAny_bind (wpAny_pure ?_)))
          simp only [if_true]
          refine wp_if_neg (by simp [same]) ?_
          refine search_go R hx hu hKf hK hKb hin hout f (c + (q + 1)) _ rfl (by omega) (by omega) fun j r hj hr => ?_
          obtain ⟨d, d1, d2, d3⟩ := met j r hj hr
          refine ⟨d, ?_, d2, d3⟩
          have no1 : ¬ d < c + q := fun z => hno (d - c) j (by omega) (by rw [onj, show c + (d - c) = d by omega]; exact d3) ((hashAt j r hj).trans (by rw [hr]))
          have no2 : d ≠ c + q := fun z => by
            subst z
            have l2 := slot_live ris d3
            rw [live] at l2
            injection l2 with l2
            subst l2
            rw [hp] at hj
            exact same ((congrArg Prod.snd (Option.some.inj hj)).trans hr)
          omega
      by_cases hl : t.led = true
      · refine wp_if_neg (by simp [hl]) ?_
        try refine wpAny_bind (wpAny_pure ?_)
        exact rest
      · refine wp_if_pos (by simp [hl]) ?_
        refine wpAny_bind (unseen hx (fun y hy => ?_) ?_)
        · obtain ⟨e, he, rfl⟩ := List.mem_map.mp hy
          have he1 : e ∈ es.toList := by
            have : e ∈ es ∧ e.1 = HK w k := by simpa using he
            simpa using this.1
          rw [R.t0.rows] at he1
          obtain ⟨r, hr, rfl⟩ := List.mem_map.mp he1
          exact ⟨r.2, r.1, rfl, R.keys r hr⟩
        · refine wp_if_neg (by decide) ?_
          try refine wpAny_bind (wpAny_pure ?_)
          exact rest
    · have hpr' : t.probe (fun i => (es[i]?.map (·.1)).getD 0) (HK w k) (st.getD (t.probeStart (HK w k))) = some (.empty (way t.mask (HK w k) K) none) := by
        have e2 : way t.mask (HK w k) K = (nth t.mask (nth t.mask (first t.mask (HK w k)) c) (K - c)).j := by rw [onj, hKc]
        rw [hst, e2]
        exact hpr
      rw [hpr']
      dsimp only
      refine wpAny_pure (hout fun hm => ?_)
      obtain ⟨r, hr, e⟩ := List.mem_map.mp hm
      obtain ⟨j, hj⟩ := List.mem_iff_getElem?.mp hr
      obtain ⟨d, d1, d2, d3⟩ := met j r hj e
      exact hno (d - c) j (by omega) (by rw [onj, show c + (d - c) = d by omega]; exact d3) ((hashAt j r hj).trans (by rw [e]))
theorem search_key (R : Tab w s.heap S L es ep t) {x : Addr} {k : NestedKey} (hx : At s.heap k x) (hu : A.units + 8 < cLine) {Q : SetFound → Shared → Prop} (hin : k ∈ L.map (·.2) → Q (.there none) s)
    (hout : ∀ K, k ∉ L.map (·.2) → way t.mask (HK w k) K ∉ t.place.toList → (∀ c, c < K → way t.mask (HK w k) c ∈ t.place.toList) → Q (.free (way t.mask (HK w k) K) false) s) :
    wpAny (model P w) A (setSearch S (.ref x) (HK w k) true) Q E s := by
  have room := R.t0.room
  have len : (hashes w L).length = L.length := List.length_map _
  obtain ⟨K, hKf, hK, hKb⟩ := R.t0.tab.first (by rw [len]; omega) (HK w k)
  have small : K < 100000 := by
    have : 10 * SetTable.turns t.mask ≤ 1420 := by
      unfold SetTable.turns
      rcases R.t0.tab.mok with e | e | e <;> omega
    omega
  unfold setSearch
  refine search_go R hx hu hKf hK hKb hin (fun hn => hout K hn hK hKb) 100000 0 none rfl (Nat.zero_le _) (by omega) fun i p hp hk => ?_
  have hi : (hashes w L)[i]? = some (HK w k) := by
    rw [hashes, List.getElem?_map, hp, ← hk]
    rfl
  have hil : i < t.place.toList.length := by
    rw [Array.length_toList, R.t0.tab.sz, len]
    exact (List.getElem?_eq_some_iff.mp hp).1
  obtain ⟨d, hd, e⟩ := R.t0.tab.before hK hi (List.getElem?_eq_getElem hil)
  exact ⟨d, Nat.zero_le _, hd, by rw [List.getElem?_eq_getElem hil, e]⟩
/-! ### the table laid anew -/
theorem drawn_rows {order : Array Nat} (hr : es.toList = rowsN w L) (hp : order.toList.Perm (List.range L.length)) :
    ∃ M : List Ent, (order.filterMap (es[·]?)).toList = rowsN w M ∧ M.Perm L ∧ hashes w M = order.toList.map fun i => (es.map (·.1)).getD i 0 := by
  have sz := rowsN_len hr
  have ent : ∀ (i : Nat) (p : Ent), L[i]? = some p → es[i]? = some (HK w p.2, Value.ref p.1) := fun i p e => by
    rw [← Array.getElem?_toList, hr, rowsN, List.getElem?_map, e]
    rfl
  have key : ∀ l : List Nat, (∀ i ∈ l, i < L.length) → l.filterMap (fun i => es[i]?) = rowsN w (l.filterMap fun i => L[i]?) ∧ hashes w (l.filterMap fun i => L[i]?) = l.map fun i => (es.map (·.1)).getD i 0 := by
    intro l
    induction l with
    | nil => exact fun _ => ⟨rfl, rfl⟩
    | cons i l ih =>
      intro hl
      obtain ⟨p, hp⟩ : ∃ p, L[i]? = some p := ⟨_, List.getElem?_eq_getElem (hl i List.mem_cons_self)⟩
      obtain ⟨e1, e2⟩ := ih fun j hj => hl j (List.mem_cons_of_mem _ hj)
      have e3 : (es.map (·.1)).getD i 0 = HK w p.2 := by
        have e5 : (es.map (·.1))[i]? = some (HK w p.2) := by rw [Array.getElem?_map, ent i p hp]; rfl
        simp [Array.getD_eq_getD_getElem?, e5]
      rw [List.filterMap_cons_some (ent i p hp), List.filterMap_cons_some hp, List.map_cons, e1, e3, ← e2]
      exact ⟨rfl, rfl⟩
  obtain ⟨e1, e2⟩ := key order.toList fun i hi => List.mem_range.mp (hp.mem_iff.mp hi)
  refine ⟨_, by first | (rw [Array.toList_filterMap]; exact e1) | simpa using e1, ?_, e2⟩
  have all : (List.range L.length).filterMap (fun i => L[i]?) = L := by
    refine List.ext_getElem? fun i => ?_
    have h : ∀ n, n ≤ L.length → (List.range n).filterMap (fun i => L[i]?) = L.take n := by
      intro n
      induction n with
      | zero => exact fun _ => rfl
      | succ n ih =>
        intro hn
        have hlt : n < L.length := hn
        rw [List.range_succ, List.filterMap_append, ih (Nat.le_of_lt hlt), List.take_succ, List.getElem?_eq_getElem hlt, List.filterMap_cons_some (List.getElem?_eq_getElem hlt)]
        rfl
    rw [h _ (Nat.le_refl _), List.take_length]
  have pm := hp.filterMap fun i => L[i]?
  rw [all] at pm
  exact pm
theorem relay_go {o : Obj} (ho : s.heap.get? S = some o) (hex : o.ExactSet) (hd : o.data = .set es ep t) (hr : es.toList = rowsN w L) (hsz : t.place.size = es.size) (hdm : t.dummies = #[]) (hfl : es.size ≤ t.mask)
    (nd : (L.map (·.2)).Nodup) (keys : ∀ p ∈ L, At s.heap p.2 p.1) (pl : t.plain = true) (ld : w.params.followText "set-order" = true ∨ t.led = true) (few : L.length < 64) {n M : Nat}
    (hw : SetTable.sizeAbove n - 1 = M) (hM : MaskOk M) (hw2 : SetTable.sizeAbove n ≤ 128) (hn : L.length * 5 < M * 3) {Q : Unit → Shared → Prop}
    (q : ∀ h' L' es' ep' t', Heap.SameBut S s.heap h' → Tab w h' S L' es' ep' t' → L'.Perm L → Q () { s with heap := h' }) : wpAny (model P w) A (setRelay S n) Q E s := by
  have sl := rowsN_len hr
  obtain ⟨t', order, e, hp, T, em, el, ep', ed⟩ := relaid_ok t (hs := es.map (·.1)) (wanted := n) hw hM (by rw [Array.size_map, sl]; omega)
  rw [Array.size_map, sl] at hp
  obtain ⟨L2, r1, r2, r3⟩ := drawn_rows hr hp
  rw [← r3] at T
  have hs2 : (order.filterMap (es[·]?)).size = es.size := by rw [rowsN_len r1, r2.length_eq, sl]
  rw [setRelay_eq]
  refine wpAny_bind (wpAny_setState_of ho hd (fits_of hdm hsz hfl) ?_)
  dsimp only
  refine wp_if_neg (by rw [sizeLine_eq]; omega) ?_
  try refine wpAny_bind (wpAny_pure ?_)
  rw [e]
  dsimp only
  refine wpAny_bind ?_
  refine wp_if_neg (by rw [hs2]; simp) ?_
  try refine wpAny_bind (wpAny_pure ?_)
  refine wpAny_pure ?_
  dsimp only
  refine wpAny_storeSet_of ho hd ?_ (by rw [hs2, sl, sizeLine_eq]; omega)
  have sb : Heap.SameBut S s.heap (s.heap.update S (Obj.putSet (order.filterMap (es[·]?)) t')) := Heap.SameBut.update ..
  refine q _ L2 (order.filterMap (es[·]?)) (ep + 1) t' sb ⟨⟨⟨_, store_at ho hd, ⟨hex.1, hex.2.1, hex.2.2⟩, rfl⟩, r1, T, (r2.map (·.2)).nodup_iff.mpr nd, by rw [ep']; exact pl, by rw [el]; exact ld, ?_, by rw [r2.length_eq]; exact few⟩, fun p hpm => (keys p (r2.mem_iff.mp hpm)).past ho hd sb⟩ r2
  rw [r2.length_eq, em]
  exact hn
/-! ### one more -/
theorem add_key (R : Tab w s.heap S L es ep t) {x : Addr} {k : NestedKey} (hx : At s.heap k x) (hu : A.units + 8 < cLine) (hfew : L.length + 1 < 64) {Q : Bool → Shared → Prop}
    (q : ∀ b h' L' es' ep' t', Heap.SameBut S s.heap h' → Tab w h' S L' es' ep' t' → (k ∈ L.map (·.2) → L' = L) → (k ∉ L.map (·.2) → L'.Perm ((x, k) :: L)) → Q b { s with heap := h' }) :
    wpAny (model P w) A (setAddHashed S (.ref x) (HK w k)) Q E s := by
  obtain ⟨o, ho, hex, hd⟩ := R.t0.ob
  have sl := R.t0.size
  have room := R.t0.room
  have len : (hashes w L).length = L.length := List.length_map _
  unfold setAddHashed
  refine wpAny_holding ?_
  rw [show (100000 : Nat) = 99999 + 1 from rfl, setAddHashedIn_succ]
  refine wpAny_bind (wpAny_setState_of ho hd R.t0.fits ?_)
  dsimp only
  refine wp_if_neg (by simp [byScan, Value.scannable]) ?_
  try refine wpAny_bind (wpAny_pure ?_)
  refine wpAny_bind (search_key R hx hu (fun hm => ?_) fun K hm hK hb => ?_)
  · dsimp only
    exact wpAny_pure (q false s.heap L es ep t (Heap.SameBut.refl S s.heap) R (fun _ => rfl) fun z => absurd hm z)
  · dsimp only
    refine wpAny_bind (wpAny_setState_of ho hd R.t0.fits ?_)
    dsimp only
    obtain ⟨q1, q2, q3, q4, q5, q6, q7, q8, q9⟩ := R.t0.tab.put hK hb
    have hp1 : (t.put (way t.mask (HK w k) K)).1.plain = true := by rw [q6]; exact R.t0.plain
    generalize hpt : t.put (way t.mask (HK w k) K) = pt at q1 q3 q4 q5 q6 q7 q8 q9 hp1 ⊢
    obtain ⟨t1, p⟩ := pt
    dsimp only at q1 q3 q4 q5 q6 q7 q8 q9 hp1 ⊢
    subst q1
    first
      | (refine wpAny_bind ?_; refine wp_if_pos hp1 ?_; refine told_key k _ 8 _ hx.is hx.num hx.dep _ _ _ ?_)
      | refine wp_if_pos hp1 (wpAny_bind (told_key k _ 8 _ hx.is hx.num hx.dep _ _ _ ?_))
    simp only [if_true]
    have hin : (SetTable.insertAt es (SetTable.below t.place (way t.mask (HK w k) K)) (HK w k, Value.ref x)).toList = rowsN w (L.take (SetTable.below t.place (way t.mask (HK w k) K)) ++ (x, k) :: L.drop (SetTable.below t.place (way t.mask (HK w k) K))) := by
      rw [SetTable.toList_insertAt, R.t0.rows]
      unfold rowsN
      rw [List.map_append, List.map_cons, List.map_take, List.map_drop]
    generalize SetTable.below t.place (way t.mask (HK w k) K) = p at q2 q3 hin ⊢
    have pm := put_perm L p (x, k)
    have hhs : hashes w (L.take p ++ (x, k) :: L.drop p) = (hashes w L).take p ++ HK w k :: (hashes w L).drop p := by
      unfold hashes
      rw [List.map_append, List.map_cons, List.map_take, List.map_drop]
    rw [← hhs] at q3
    have nd1 : ((L.take p ++ (x, k) :: L.drop p).map (·.2)).Nodup := (pm.map (·.2)).nodup_iff.mpr (List.nodup_cons.mpr ⟨hm, R.t0.nd⟩)
    have hlen := pm.length_eq
    rw [List.length_cons] at hlen
    have hes := rowsN_len hin
    generalize SetTable.insertAt es p (HK w k, Value.ref x) = es1 at hin hes ⊢
    generalize L.take p ++ (x, k) :: L.drop p = L1 at pm hlen q3 nd1 hin hes
    rw [hlen] at hes
    have len1 : (hashes w L1).length = L1.length := List.length_map _
    refine wpAny_bind (wpAny_storeSet_of ho hd ?_ (by rw [hes, sizeLine_eq]; omega))
    have sb : Heap.SameBut S s.heap (s.heap.update S (Obj.putSet es1 t1)) := Heap.SameBut.update ..
    have ho1 := store_at (es' := es1) (t' := t1) ho hd
    generalize s.heap.update S (Obj.putSet es1 t1) = h1 at sb ho1 ⊢
    have keys1 : ∀ p ∈ L1, At h1 p.2 p.1 := fun p hp => by
      rcases List.mem_cons.mp (pm.mem_iff.mp hp) with e | hp
      · rw [e]; exact hx.past ho hd sb
      · exact (R.keys p hp).past ho hd sb
    have ld1 : w.params.followText "set-order" = true ∨ t1.led = true := by rw [q5]; exact R.t0.led
    have ful : t1.tooFull = true ↔ (L.length + 1) * 5 ≥ t1.mask * 3 := by
      unfold SetTable.tooFull
      rw [decide_eq_true_eq, q9, len]
    by_cases hf : t1.tooFull = true
    · first
        | (refine wpAny_bind ?_; refine wp_if_pos (by simp [hf]) ?_)
        | (refine wp_if_pos (by simp [hf]) ?_; refine wpAny_bind ?_)
      have full := ful.mp hf
      rw [sl]
      have two : (t.mask = 7 ∧ L.length = 4) ∨ (t.mask = 31 ∧ L.length = 18) := by
        rcases R.t0.tab.mok with e | e | e
        · exact .inl ⟨e, by omega⟩
        · exact .inr ⟨e, by omega⟩
        · omega
      have go : ∀ M, SetTable.sizeAbove (SetTable.grown (L.length + 1)) - 1 = M → MaskOk M → SetTable.sizeAbove (SetTable.grown (L.length + 1)) ≤ 128 → (L.length + 1) * 5 < M * 3 →
          wpAny (model P w) A (setRelay S (SetTable.grown (L.length + 1))) (fun _ z => wpAny (model P w) A (pure true) Q E z) E { s with heap := h1 } := fun M z1 z2 z3 z4 => by
        refine relay_go (s := { s with heap := h1 }) ho1 ⟨hex.1, hex.2.1, hex.2.2⟩ rfl hin (by rw [q3.sz, len1, hlen, hes]) q3.dm (by omega) nd1 keys1 hp1 ld1 (by omega) z1 z2 z3 (by omega) ?_
        exact fun h2 L2 es2 ep2 t2 sb2 R2 pm2 => wpAny_pure (q true h2 L2 es2 ep2 t2 (sb.trans sb2) R2 (fun z => absurd z hm) fun _ => pm2.trans pm)
      rcases two with ⟨_, e2⟩ | ⟨_, e2⟩
      · exact go 31 (by rw [e2, size_20]) (.inr (.inl rfl)) (by rw [e2, size_20]; decide) (by omega)
      · exact go 127 (by rw [e2, size_76]) (.inr (.inr rfl)) (by rw [e2, size_76]; decide) (by omega)
    · first
        | refine wp_if_neg (by simp [hf]) ?_
        | (refine wpAny_bind ?_; refine wp_if_neg (by simp [hf]) ?_; refine wpAny_pure ?_)
      have nf : ¬ ((L.length + 1) * 5 ≥ t1.mask * 3) := fun z => hf (ful.mpr z)
      exact wpAny_pure (q true h1 L1 es1 (ep + 1) t1 sb ⟨⟨⟨_, ho1, ⟨hex.1, hex.2.1, hex.2.2⟩, rfl⟩, hin, q3, nd1, hp1, ld1, by omega, by omega⟩, keys1⟩ (fun z => absurd z hm) fun _ => pm)
end
/-! ### set(xs) -/
/-- a set that grows: T i h stands when i items are in -/
structure Grows (P : Program) (w : World) (A : Around) (S : Addr) (h0 : Heap) (n : Nat) (Pv : Nat → Value → Prop) (T : Nat → Heap → Prop) : Prop where
  stays : ∀ i h h', T i h → (∀ b o, h0.get? b = some o → h.get? b = some o) → (∀ b o, h0.get? b = some o → h'.get? b = some o) → (∀ o, h.get? S = some o → h'.get? S = some o) → T i h'
  step : ∀ (i : Nat) (v : Value) (s : Shared) (E : Value → Shared → Prop) (Q : Bool → Shared → Prop), i < n → Pv i v → T i s.heap → (∀ b o, h0.get? b = some o → s.heap.get? b = some o) →
    (∀ b h' tk, Heap.SameBut S s.heap h' → s.toks ≤ tk → T (i + 1) h' → Q b { s with heap := h', toks := tk }) → wpAny (model P w) A (setAdd S v) Q E s
section
variable {A : Around} {E : Value → Shared → Prop} {s : Shared}
theorem grow_loop {I S : Addr} {fp wr : List Addr} {G : Array GenState → Array GenState → Prop} {n : Nat} {Pv : Nat → Value → Prop} {St : Nat → Shared → Prop} {R : Result → Shared → Prop} {h0 : Heap} {T : Nat → Heap → Prop}
    (W : WalksS P w A.in1 I fp wr G n Pv St) (hSf : S ∉ fp) (g : Grows P w A.in1 S h0 n Pv T) (hS0 : h0.get? S = none) (hw0 : ∀ b ∈ wr, h0.get? b = none) :
    ∀ (k i : Nat) (s : Shared), n - i = k → i ≤ n → St i s → (∀ b o, h0.get? b = some o → s.heap.get? b = some o) → T i s.heap →
      (∀ s', Moved (S :: wr) G s s' → T n s'.heap → (∀ b o, h0.get? b = some o → s'.heap.get? b = some o) → R (.ok (.ret .none)) s') →
      codeAny (model P w) A (.builtin "set.update.loop" ⟨[.ref S, .ref I], []⟩) R s := by
  have hSw : S ∉ wr := fun h => hSf (W.sub _ h)
  have hsub : ∀ b ∈ wr, b ∈ S :: wr := fun b hb => List.mem_cons_of_mem _ hb
  have past : ∀ {s s' : Shared}, Moved wr G s s' → (∀ b o, h0.get? b = some o → s.heap.get? b = some o) → ∀ b o, h0.get? b = some o → s'.heap.get? b = some o := fun m k b o e =>
    m.heap b o (fun hb => by rw [hw0 b hb] at e; cases e) (k b o e)
  intro k
  induction k with
  | zero =>
    intro i s hk hi hst kp hT hR
    obtain rfl : i = n := by omega
    refine codeAny_builtin F.entry_set_update_loop ?_
    rw [Around.under_plainId F.plain_set_update_loop _]
    show wpAny _ A.in1 (pyNext (.ref I) >>= _) _ _ s
    refine wpAny_bind (W.done s _ _ hst fun s' m => ?_)
    have kp' := past m kp
    show wpAny _ A.in1 (ret Value.none) _ _ s'
    exact wpAny_pure (hR s' (m.mono hsub) (g.stays _ _ _ hT kp kp' fun o e => m.heap S o hSw e) kp')
  | succ k ih =>
    intro i s hk hi hst kp hT hR
    have hlt : i < n := by omega
    refine codeAny_builtin F.entry_set_update_loop ?_
    rw [Around.under_plainId F.plain_set_update_loop _]
    show wpAny _ A.in1 (pyNext (.ref I) >>= _) _ _ s
    refine wpAny_bind (W.item i s _ _ hlt hst fun v s' hP hst' m => ?_)
    have kp' := past m kp
    show wpAny _ A.in1 (holding [v] (setAdd S v) >>= _) _ _ s'
    refine wpAny_bind (wpAny_holding ?_)
    refine g.step i v s' _ _ hlt hP (g.stays _ _ _ hT kp kp' fun o e => m.heap S o hSw e) kp' fun b h' tk sb htk hT2 => ?_
    have kp2 : ∀ b o, h0.get? b = some o → h'.get? b = some o := fun b o e => (sb.2 b (fun z => by rw [z, hS0] at e; cases e)).trans (kp' b o e)
    refine wpAny_pure ⟨plainId_quiet F.plain_set_update_loop _, ih (i + 1) _ (by omega) hlt (W.frame _ s' _ _ hst' htk fun b hb o e => ?_) kp2 hT2 fun s'' m2 hT3 kp3 => ?_⟩
    · rw [sb.2 b (fun z : b = S => hSf (by rw [← z]; exact hb))]; exact e
    · refine hR s'' (Moved.trans W.gtrans ((m.mono hsub).then_heap htk fun b o hb e => ?_) m2) hT3 kp3
      rw [sb.2 b (fun z : b = S => hb (by rw [z]; exact List.mem_cons_self))]; exact e
/-- the new set -/
abbrev newSet (w : World) : Obj := { cls := .type "set", dict := none, data := .set #[] 0 (.fresh 0 0 (!w.params.followText "set-order")) }
set_option maxHeartbeats 3200000 in
theorem call_set_list {l : Addr} {items : Array Value} {T : Nat → Heap → Prop} {Q : Value → Shared → Prop} (hh : A.handled = none) (hl : s.heap.IsList l items)
    (g : Grows P w A.in1.in1.in1 s.heap.objs.size s.heap items.size (fun i v => items[i]? = some v) T) (h0 : ∀ h : Heap, h.get? s.heap.objs.size = some (newSet w) → (∀ b o, s.heap.get? b = some o → h.get? b = some o) → T 0 h)
    (q : ∀ (h' : Heap) (tk : Nat), T items.size h' → (∀ b o, s.heap.get? b = some o → h'.get? b = some o) → Q (.ref s.heap.objs.size) { s with heap := h', toks := tk }) : wpAny (model P w) A (call (.type "set") [.ref l]) Q E s := by
  obtain ⟨c, tl, hmro⟩ := F.called_set.mro
  have hmade := F.called_set.made
  have hsub := F.called_set.sub
  refine wpAny_call (codeAny_of_tree ?_)
  show wpAny _ _ (callAny (.type "set") _) _ _ _
  refine wpAny_pure ⟨Code.quiet_builtin _ (by decide +kernel), codeAny_builtin F.entry_type_call ?_⟩
  rw [Around.under_plain (weight_type_call_type "set" [.ref l] []) rfl]
  have h1 := F.called_set.notType
  have h2 := F.called_set.canCreate
  have hct := F.typeCall_set_1 (.ref l)
  repeat (any_goals (first | assumption | wp_step))

  refine codeAny_mono (code_set_led1 (.ref l) (E := E) (Q₁ := fun ob z => ob = .ref s.heap.objs.size ∧ z = { s with heap := s.heap.push (newSet w) }) ⟨rfl, rfl⟩) fun r z hr => ?_
  cases r with
  | error e => exact hr
  | ok fl =>
    cases fl with
    | ret ob =>
      obtain ⟨rfl, rfl⟩ := hr
      have hS : (s.heap.push (newSet w)).get? s.heap.objs.size = some (newSet w) := Heap.get?_push_size _ rfl
      have hT : Shared.TypeIs { s with heap := s.heap.push (newSet w) } (.ref s.heap.objs.size) "set" := ⟨_, hS, rfl⟩
      have hli := F.called_set.init.lookup
      have hbi := F.called_set.init.bind (.ref s.heap.objs.size)
      repeat (any_goals (first | assumption | wp_step))

      refine codeAny_mono (codeAny_call_builtin (R := wants (fun r z => r = .none ∧ ∃ h' tk, z = { s with heap := h', toks := tk } ∧ T items.size h' ∧ (∀ b o, s.heap.get? b = some o → h'.get? b = some o)) E) F.called_set.init.plain F.entry_set_init (check_set_init_1 hT ?_)) fun r₂ s₂ hr₂ => ?_
      · obtain ⟨ol, hol, hcl, nl, hdl⟩ := hl
        obtain ⟨ocls, odict, odata, oslots⟩ := ol
        simp only at hcl hdl
        subst hcl; subst hdl
        have hol' : (s.heap.push (newSet w)).get? l = some { cls := .type "list", dict := odict, data := .seq items nl, slots := oslots } := Heap.get?_push_of_some _ hol
        have hsls := F.sub_list_set
        have hslf := F.sub_list_frozenset
        have hne : (Value.type "list" == Value.type "dict") = false := by decide
        have hl1 : (s.heap.push (newSet w)).IsList l items := ⟨_, hol', rfl, nl, rfl⟩
        unfold Builtin.«set.__init__» noKeywords Builtin.Frozenset.updateFrom
        generalize hPI : pyIter = PI
        wp_walk
        subst hPI

        refine wpAny_pyIter_list hl1 ?_
        refine wpAny_bind (wpAny_runValue ?_)
        have lS : l < s.heap.objs.size := Heap.lt_size hol
        have hh3 : A.in1.in1.in1.handled = none := by simp [hh]
        have sz1 : (s.heap.push (newSet w)).objs.size = s.heap.objs.size + 1 := Heap.size_push ..
        have gone : ∀ b, s.heap.objs.size ≤ b → s.heap.get? b = none := fun b hb => by
          cases z : s.heap.get? b with
          | none => rfl
          | some o => exact absurd (Heap.lt_size z) (Nat.not_lt.mpr hb)
        have two : ∀ b o, s.heap.get? b = some o → ((s.heap.push (newSet w)).push { cls := .type "list_iterator", data := .fields #[.ref l, .int 0 0] }).get? b = some o := fun b o e => Heap.get?_push_of_some _ (Heap.get?_push_of_some _ e)
        refine grow_loop (h0 := s.heap) (T := T) ((Walks.list hh3 _ l (by rw [sz1]; exact Nat.ne_of_lt (Nat.lt_succ_of_lt lS)) items).toS) (by rw [sz1]; simp only [List.mem_cons, List.not_mem_nil, or_false, not_or]; exact ⟨Nat.ne_of_lt (Nat.lt_succ_self _), Nat.ne_of_gt lS⟩) g (gone _ (Nat.le_refl _)) (fun b hb => gone b (by
            rw [List.mem_singleton.mp hb, sz1]
            exact Nat.le_succ _)) (items.size - 0) 0 _ (by omega) (Nat.zero_le _) ⟨⟨_, Heap.get?_push_size _ rfl, rfl, rfl⟩, (hl1.push _)⟩ two (h0 _ (Heap.get?_push_of_some _ hS) two) ?hR
        intro s' m hT' kp
        obtain ⟨h', g2, d', tk', os'⟩ := s'
        have eg : g2 = s.gens := m.gens
        have ed : d' = s.drawn := m.drawn
        have eo : os' = s.os := m.os
        subst eg; subst ed; subst eo
        show wpAny _ _ _ _ _ _
        refine wpAny_pure ?_
        show wpAny _ _ (ret Value.none) _ _ _
        exact wpAny_pure ⟨rfl, h', tk', rfl, hT', kp⟩

      · cases r₂ with
        | error e => exact hr₂
        | ok fl₂ =>
          cases fl₂ with
          | ret r =>
            obtain ⟨rfl, h', tk, rfl, hT', kp⟩ := hr₂
            repeat (any_goals (first | assumption | wp_step))
            exact q _ _ hT' kp
          | _ => exact hr₂.elim
    | _ => exact hr.elim
set_option maxHeartbeats 3200000 in
theorem call_set_tuple {l : Addr} {items : Array Value} {T : Nat → Heap → Prop} {Q : Value → Shared → Prop} (hh : A.handled = none) (hl : s.heap.IsTuple l items)
    (g : Grows P w A.in1.in1.in1 s.heap.objs.size s.heap items.size (fun i v => items[i]? = some v) T) (h0 : ∀ h : Heap, h.get? s.heap.objs.size = some (newSet w) → (∀ b o, s.heap.get? b = some o → h.get? b = some o) → T 0 h)
    (q : ∀ (h' : Heap) (tk : Nat), T items.size h' → (∀ b o, s.heap.get? b = some o → h'.get? b = some o) → Q (.ref s.heap.objs.size) { s with heap := h', toks := tk }) : wpAny (model P w) A (call (.type "set") [.ref l]) Q E s := by
  obtain ⟨c, tl, hmro⟩ := F.called_set.mro
  have hmade := F.called_set.made
  have hsub := F.called_set.sub
  refine wpAny_call (codeAny_of_tree ?_)
  show wpAny _ _ (callAny (.type "set") _) _ _ _
  refine wpAny_pure ⟨Code.quiet_builtin _ (by decide +kernel), codeAny_builtin F.entry_type_call ?_⟩
  rw [Around.under_plain (weight_type_call_type "set" [.ref l] []) rfl]
  have h1 := F.called_set.notType
  have h2 := F.called_set.canCreate
  have hct := F.typeCall_set_1 (.ref l)
  repeat (any_goals (first | assumption | wp_step))

  refine codeAny_mono (code_set_led1 (.ref l) (E := E) (Q₁ := fun ob z => ob = .ref s.heap.objs.size ∧ z = { s with heap := s.heap.push (newSet w) }) ⟨rfl, rfl⟩) fun r z hr => ?_
  cases r with
  | error e => exact hr
  | ok fl =>
    cases fl with
    | ret ob =>
      obtain ⟨rfl, rfl⟩ := hr
      have hS : (s.heap.push (newSet w)).get? s.heap.objs.size = some (newSet w) := Heap.get?_push_size _ rfl
      have hT : Shared.TypeIs { s with heap := s.heap.push (newSet w) } (.ref s.heap.objs.size) "set" := ⟨_, hS, rfl⟩
      have hli := F.called_set.init.lookup
      have hbi := F.called_set.init.bind (.ref s.heap.objs.size)
      repeat (any_goals (first | assumption | wp_step))

      refine codeAny_mono (codeAny_call_builtin (R := wants (fun r z => r = .none ∧ ∃ h' tk, z = { s with heap := h', toks := tk } ∧ T items.size h' ∧ (∀ b o, s.heap.get? b = some o → h'.get? b = some o)) E) F.called_set.init.plain F.entry_set_init (check_set_init_1 hT ?_)) fun r₂ s₂ hr₂ => ?_
      · obtain ⟨ol, hol, hcl, nl, hdl⟩ := hl
        obtain ⟨ocls, odict, odata, oslots⟩ := ol
        simp only at hcl hdl
        subst hcl; subst hdl
        have hol' : (s.heap.push (newSet w)).get? l = some { cls := .type "tuple", dict := odict, data := .seq items nl, slots := oslots } := Heap.get?_push_of_some _ hol
        have hsls := F.sub_tuple_set
        have hslf := F.sub_tuple_frozenset
        have hne : (Value.type "tuple" == Value.type "dict") = false := by decide
        have hl1 : (s.heap.push (newSet w)).IsTuple l items := ⟨_, hol', rfl, nl, rfl⟩
        unfold Builtin.«set.__init__» noKeywords Builtin.Frozenset.updateFrom
        generalize hPI : pyIter = PI
        wp_walk
        subst hPI

        refine wpAny_pyIter_tuple hl1 ?_
        refine wpAny_bind (wpAny_runValue ?_)
        have lS : l < s.heap.objs.size := Heap.lt_size hol
        have hh3 : A.in1.in1.in1.handled = none := by simp [hh]
        have sz1 : (s.heap.push (newSet w)).objs.size = s.heap.objs.size + 1 := Heap.size_push ..
        have gone : ∀ b, s.heap.objs.size ≤ b → s.heap.get? b = none := fun b hb => by
          cases z : s.heap.get? b with
          | none => rfl
          | some o => exact absurd (Heap.lt_size z) (Nat.not_lt.mpr hb)
        have two : ∀ b o, s.heap.get? b = some o → ((s.heap.push (newSet w)).push { cls := .type "tuple_iterator", data := .fields #[.ref l, .int 0 0] }).get? b = some o := fun b o e => Heap.get?_push_of_some _ (Heap.get?_push_of_some _ e)
        refine grow_loop (h0 := s.heap) (T := T) ((Walks.tuple hh3 _ l (by rw [sz1]; exact Nat.ne_of_lt (Nat.lt_succ_of_lt lS)) items).toS) (by rw [sz1]; simp only [List.mem_cons, List.not_mem_nil, or_false, not_or]; exact ⟨Nat.ne_of_lt (Nat.lt_succ_self _), Nat.ne_of_gt lS⟩) g (gone _ (Nat.le_refl _)) (fun b hb => gone b (by
            rw [List.mem_singleton.mp hb, sz1]
            exact Nat.le_succ _)) (items.size - 0) 0 _ (by omega) (Nat.zero_le _) ⟨⟨_, Heap.get?_push_size _ rfl, rfl, rfl⟩, (hl1.push _)⟩ two (h0 _ (Heap.get?_push_of_some _ hS) two) ?hR
        intro s' m hT' kp
        obtain ⟨h', g2, d', tk', os'⟩ := s'
        have eg : g2 = s.gens := m.gens
        have ed : d' = s.drawn := m.drawn
        have eo : os' = s.os := m.os
        subst eg; subst ed; subst eo
        show wpAny _ _ _ _ _ _
        refine wpAny_pure ?_
        show wpAny _ _ (ret Value.none) _ _ _
        exact wpAny_pure ⟨rfl, h', tk', rfl, hT', kp⟩

      · cases r₂ with
        | error e => exact hr₂
        | ok fl₂ =>
          cases fl₂ with
          | ret r =>
            obtain ⟨rfl, h', tk, rfl, hT', kp⟩ := hr₂
            repeat (any_goals (first | assumption | wp_step))
            exact q _ _ hT' kp
          | _ => exact hr₂.elim
    | _ => exact hr.elim
end
/-! ### .. of texts -/
theorem grows_txt {A : Around} {S : Addr} {h0 : Heap} {items : Array Value} {xs : List Str} (hx : StrsAre items.toList xs) (hnd : xs.Nodup) (hf : xs.length < 64) :
    Grows P w A S h0 items.size (fun i v => items[i]? = some v) (fun i h => h.SetOf (PySem.strKind P w) S (fun k => (xs.take i).contains k) i) where
  stays := fun i h h' hT _ _ hS => by
    obtain ⟨o, es, ep, t, ho, r⟩ := hT
    exact ⟨o, es, ep, t, hS o ho, r⟩
  step := fun i v s E Q hi hv hT kp q => by
    have hl := StrsAre.len_eq hx
    rw [Array.length_toList] at hl
    obtain ⟨tk, rfl⟩ := SS.strs_at hx i v (by rw [Array.getElem?_toList]; exact hv)
    have hxi : xs[i]? = some (xs.getD i Str.empty) := by
      rw [List.getD_eq_getElem?_getD, List.getElem?_eq_getElem (by omega)]
      rfl
    unfold setAdd
    refine wpAny_holding ?_
    refine wpAny_bind ((PySem.strKind P w).pyHash (k := xs.getD i Str.empty) (strKind_is _ _ _ _) ?_)
    refine wpAny_setAddHashed_of (knd := PySem.strKind P w) (s := { s with toks := s.toks + 1 }) (strKind_is _ _ _ _) rfl hT (by unfold scanBound; omega) fun h' sb hS2 => ?_
    refine q _ h' _ sb (Nat.le_succ _) ?_
    have new : (xs.take i).contains (xs.getD i Str.empty) = false := by
      cases e : (xs.take i).contains (xs.getD i Str.empty) with
      | false => rfl
      | true =>
        have hm : xs.getD i Str.empty ∈ xs.take i := by simpa using e
        obtain ⟨j, hj⟩ := List.mem_iff_getElem?.mp hm
        have hji : j < i := by
          have := (List.getElem?_eq_some_iff.mp hj).1
          rw [List.length_take] at this
          omega
        rw [List.getElem?_take_of_lt hji] at hj
        have := (List.getElem?_inj (by omega : j < xs.length) hnd).mp (hj.trans hxi.symm)
        omega
    refine PyProof.Rows.SetOf_congr hS2 (fun k => ?_) (if_neg (by rw [new]; decide))
    rw [List.take_succ, hxi]
    show ((xs.take i).contains k || decide (k = xs.getD i Str.empty)) = _
    rw [List.contains_append]
    congr 1
    by_cases e : k = xs.getD i Str.empty
    · rw [e]; simp
    · have e2 : ¬ xs.getD i Str.empty = k := fun z => e z.symm
      simp [e, Option.toList]
/-! ### .. of keys -/
/-- the set holds what the first i items are -/
structure Has (ks : List Ent) (i : Nat) (L : List Ent) : Prop where
  sub : ∀ p ∈ L, p ∈ ks.take i
  all : ∀ p ∈ ks.take i, p.2 ∈ L.map (·.2)
  len : L.length ≤ i
  dis : (ks.map (·.2)).Nodup → L.length = i
theorem has_zero (ks : List Ent) : Has ks 0 [] := ⟨fun p h => (by cases h), fun p h => (by simp at h), Nat.le_refl _, fun _ => rfl⟩
theorem Has.next {ks L L' : List Ent} {i : Nat} {p : Ent} (g : Has ks i L) (h : ks[i]? = some p) (h1 : p.2 ∈ L.map (·.2) → L' = L) (h2 : p.2 ∉ L.map (·.2) → L'.Perm (p :: L)) : Has ks (i + 1) L' := by
  have e : ks.take (i + 1) = ks.take i ++ [p] := by rw [List.take_succ, h]; rfl
  by_cases hm : p.2 ∈ L.map (·.2)
  · rw [h1 hm]
    refine ⟨fun r hr => by rw [e]; exact List.mem_append_left _ (g.sub r hr), fun r hr => ?_, Nat.le_succ_of_le g.len, fun nd => ?_⟩
    · rw [e] at hr
      rcases List.mem_append.mp hr with z | z
      · exact g.all r z
      · rw [List.mem_singleton.mp z]; exact hm
    · exfalso
      obtain ⟨r, hr, er⟩ := List.mem_map.mp hm
      obtain ⟨j, hj⟩ := List.mem_iff_getElem?.mp (g.sub r hr)
      have hji : j < i := by
        have := (List.getElem?_eq_some_iff.mp hj).1
        rw [List.length_take] at this
        omega
      rw [List.getElem?_take_of_lt hji] at hj
      have a1 : (ks.map (·.2))[j]? = some p.2 := by rw [List.getElem?_map, hj, ← er]; rfl
      have a2 : (ks.map (·.2))[i]? = some p.2 := by rw [List.getElem?_map, h]; rfl
      have := (List.getElem?_inj (List.getElem?_eq_some_iff.mp a1).1 nd).mp (a1.trans a2.symm)
      omega
  · have pm := h2 hm
    refine ⟨fun r hr => ?_, fun r hr => ?_, by rw [pm.length_eq]; exact Nat.succ_le_succ g.len, fun nd => by rw [pm.length_eq, List.length_cons, g.dis nd]⟩
    · rw [e]
      rcases List.mem_cons.mp (pm.mem_iff.mp hr) with z | z
      · rw [z]; exact List.mem_append_right _ (List.mem_singleton.mpr rfl)
      · exact List.mem_append_left _ (g.sub r z)
    · rw [e] at hr
      rw [(pm.map (·.2)).mem_iff, List.map_cons]
      rcases List.mem_append.mp hr with z | z
      · exact List.mem_cons_of_mem _ (g.all r z)
      · rw [List.mem_singleton.mp z]; exact List.mem_cons_self
def keyT (w : World) (S : Addr) (ks : List Ent) (i : Nat) (h : Heap) : Prop := ∃ L es ep t, Tab w h S L es ep t ∧ Has ks i L
theorem grows_key {A : Around} {S : Addr} {h0 : Heap} {items : Array Value} (ks : List Ent) (hu : A.units + 8 < cLine) (hi : items.toList = ks.map fun p => Value.ref p.1) (hk : ∀ p ∈ ks, At h0 p.2 p.1) (hf : ks.length < 64) :
    Grows P w A S h0 items.size (fun i v => items[i]? = some v) (keyT w S ks) where
  stays := fun i h h' hT kp kp' hS => by
    obtain ⟨L, es, ep, t, R, g⟩ := hT
    obtain ⟨o, ho, r⟩ := R.t0.ob
    exact ⟨L, es, ep, t, ⟨⟨⟨o, hS o ho, r⟩, R.t0.rows, R.t0.tab, R.t0.nd, R.t0.plain, R.t0.led, R.t0.room, R.t0.few⟩, fun p hp => (hk p (List.mem_of_mem_take (g.sub p hp))).kept kp'⟩, g⟩
  step := fun i v s E Q hlt hv hT kp q => by
    obtain ⟨L, es, ep, t, R, g⟩ := hT
    have hsz : items.size = ks.length := by rw [← Array.length_toList, hi, List.length_map]
    obtain ⟨p, hp⟩ : ∃ p, ks[i]? = some p := ⟨_, List.getElem?_eq_getElem (by omega)⟩
    obtain rfl : v = .ref p.1 := by
      rw [← Array.getElem?_toList, hi, List.getElem?_map, hp] at hv
      exact (Option.some.inj hv).symm
    have hx : At s.heap p.2 p.1 := (hk p (List.mem_of_getElem? hp)).kept kp
    unfold setAdd
    refine wpAny_holding ?_
    refine wpAny_bind ((nestedKind P w).pyHash hu ⟨hx.is, hx.dep⟩ ?_)
    exact add_key (s := { s with toks := s.toks + p.2.draws }) R hx hu (by have := g.len; omega) fun b h' L' es' ep' t' sb R' c1 c2 => q _ h' _ sb (Nat.le_add_right _ _) ⟨L', es', ep', t', R', g.next hp c1 c2⟩
theorem keyT_zero {w : World} {S : Addr} {ks : List Ent} {h : Heap} (ho : h.get? S = some (newSet w)) : keyT w S ks 0 h := by
  refine ⟨[], #[], 0, .fresh 0 0 (!w.params.followText "set-order"), ⟨⟨⟨_, ho, ⟨rfl, rfl, rfl⟩, rfl⟩, rfl, ⟨List.Pairwise.nil, rfl, rfl, .inl rfl, fun x hx => (by cases hx), fun i h j hi => (by simp [hashes] at hi)⟩, List.nodup_nil, rfl, ?_, by show 0 * 5 < 7 * 3; decide, by show 0 < 64; decide⟩, fun p hp => (by cases hp)⟩, has_zero ks⟩
  show _ ∨ (!w.params.followText "set-order") = true
  cases w.params.followText "set-order"
  · exact .inr rfl
  · exact .inl rfl
end
end SN

set_option Elab.async false
set_option linter.all false
set_option maxRecDepth 100000
set_option maxHeartbeats 4000000
namespace G
open PySem PySem.Spec PyProof.Rows L2
/-! ### defs that may raise -/
/-- R: what it hands back; Y: which class it raises -/
def spX (K : PySem.W.Frag) (R : List PyData → PyData → Prop) (Y : List PyData → Addr → Prop) : Sp := fun vs H Q E => ∃ ds, DpAll K H vs ds ∧
  ((∃ r, R ds r ∧ ∀ v H', Same H H' → Dp K H' v r → Q v H') ∨ ∃ C, Y ds C ∧ ∀ H', Same H H' → E (.ref C) none H')
section
variable {K : PySem.W.Frag} {σ : L2.St} {H H' : Hp} {ta tb te : TE} {t : TT} {d e : PyData}
theorem ed_callX {R : List PyData → PyData → Prop} {Y : List PyData → Addr → Prop} {E : XK} {ts : TA} {ds : List PyData} {r : PyData} (h : EvA K ts σ H ds) (hr : R ds r) : EvD K (tCall (spX K R Y) [] E ts) σ H r := fun H1 s Q q =>
  h H1 s _ fun vs H2 s2 hv => ⟨ds, by rw [List.append_nil]; exact hv, .inl ⟨r, hr, fun v H' s' hv => q v H' (s2.trans s') hv⟩⟩
/-- the call raises -/
theorem er_callX {R : List PyData → PyData → Prop} {Y : List PyData → Addr → Prop} {E : XK} {ts : TA} {ds : List PyData} {C : Addr} {Q : VK} (h : EvA K ts σ H ds) (hr : Y ds C) (q : ∀ H', Same H H' → E (.ref C) none H') : tCall (spX K R Y) [] E ts σ H Q :=
  h H (Same.refl H) _ fun vs H2 s2 hv => ⟨ds, by rw [List.append_nil]; exact hv, .inr ⟨C, hr, fun H' s' => q H' (s2.trans s')⟩⟩
end
section
variable {X : Cx} {CX : CXT} {k j : Nat} {x : Str} {ps : List Str} {sp : Sp} {E : L2.St → XK} {t : TA} {e : Expr} {es : List Expr} {p pos : Pos}
/-- in the body of a try -/
theorem pe_clS (c : Cl X.prog X.w X.K X.mg X.base CX k x ps sp) (hr : Room j X.A) (hk : k ≤ j) (hx : ∀ σ, PassesAt CX X σ (E σ)) (ha : PA X (e :: es) t) (hg : Gl X x := by rfl)
    (he : starEach (e :: es) X.env = (false, eval e X.env) :: starEach es X.env := by rfl) (hpl : (backTo pos (starEach es X.env)).any (·.1) = false := by rfl) (hd : (x == ("__debug__" : Str)) = false := by decide) :
    PE X (.Call (.Name x p) (e :: es) [] pos) (tCallS sp E t) := by
  obtain ⟨f, fd, h1, h2, h3, h4⟩ := c.ex
  exact pe_callS h4 (hr.mono hk) hg h1 h2 h3 hx ha hd he hpl
end
/-! ### by the answer -/
section
variable {K : PySem.W.Frag} {σ : L2.St} {H H' : Hp} {ta tb te : TE} {t u : TT} {d e : PyData} {a b c : Bool} {D : Ends} {x y : TS}
theorem EvT.to (h : EvT t σ H a) (e : a = b) : EvT t σ H b := e ▸ h
theorem EvD.to (h : EvD K te σ H d) (x : d = e) : EvD K te σ H e := x ▸ h
theorem et_orT (h : EvT t σ H a) (ha : a = true) : EvT (tOr t u) σ H true := (et_or (a := true) (b := true) (h.to ha) fun z => nomatch z).to rfl
theorem et_orF (h : EvT t σ H a) (ha : a = false) (h2 : EvT u σ H b) : EvT (tOr t u) σ H b := (et_or (a := false) (h.to ha) fun _ => h2).to (Bool.false_or b)
theorem et_andF (h : EvT t σ H a) (ha : a = false) : EvT (tAnd t u) σ H false := (et_and (a := false) (b := false) (h.to ha) fun z => nomatch z).to rfl
theorem et_andT (h : EvT t σ H a) (ha : a = true) (h2 : EvT u σ H b) : EvT (tAnd t u) σ H b := (et_and (a := true) (h.to ha) fun _ => h2).to (Bool.true_and b)
theorem ed_orT (h : EvD K ta σ H (.bool a)) (ha : a = true) : EvD K (tOrV ta tb) σ H (.bool true) := (ed_or (a := true) (b := true) (ha ▸ h) fun z => nomatch z).to rfl
theorem ed_orF (h : EvD K ta σ H (.bool a)) (ha : a = false) (h2 : EvD K tb σ H (.bool b)) : EvD K (tOrV ta tb) σ H (.bool b) := (ed_or (a := false) (ha ▸ h) fun _ => h2).to (congrArg _ (Bool.false_or b))
theorem ed_andF (h : EvD K ta σ H (.bool a)) (ha : a = false) : EvD K (tAndV ta tb) σ H (.bool false) := (ed_and (a := false) (b := false) (ha ▸ h) fun z => nomatch z).to rfl
theorem ed_andT (h : EvD K ta σ H (.bool a)) (ha : a = true) (h2 : EvD K tb σ H (.bool b)) : EvD K (tAndV ta tb) σ H (.bool b) := (ed_and (a := true) (ha ▸ h) fun _ => h2).to (congrArg _ (Bool.true_and b))
theorem s_ifT (h : EvT t σ H c) (hc : c = true) (h1 : ∀ H', Same H H' → x D σ H') : tIfS t x y D σ H := s_if (h.to hc) (fun _ => h1) fun z => nomatch z
theorem s_ifF (h : EvT t σ H c) (hc : c = false) (h1 : ∀ H', Same H H' → y D σ H') : tIfS t x y D σ H := s_if (h.to hc) (fun z => nomatch z) fun _ => h1
theorem ed_ifT (h : EvT t σ H c) (hc : c = true) (h1 : EvD K ta σ H d) : EvD K (tIf t ta tb) σ H d := ed_if (h.to hc) (fun _ => h1) fun z => nomatch z
theorem ed_ifF (h : EvT t σ H c) (hc : c = false) (h1 : EvD K tb σ H d) : EvD K (tIf t ta tb) σ H d := ed_if (h.to hc) (fun z => nomatch z) fun _ => h1
end
/-! ### lists of data at their ends -/
section
variable {K : PySem.W.Frag} {H : Hp}
theorem dps_app : ∀ {us vs : List V} {xs ys : List PyData}, DpAll K H us xs → DpAll K H vs ys → DpAll K H (us ++ vs) (xs ++ ys)
  | _, _, _, _, .nil, h => h
  | _, _, _, _, .cons a t, h => .cons a (dps_app t h)
theorem dps_split : ∀ {xs ys : List PyData} {vs : List V}, DpAll K H vs (xs ++ ys) → ∃ us ws, vs = us ++ ws ∧ DpAll K H us xs ∧ DpAll K H ws ys
  | [], _, _, h => ⟨[], _, rfl, .nil, h⟩
  | _ :: xs, _, _, h => by
    cases h with
    | cons a t =>
      obtain ⟨us, ws, e, h1, h2⟩ := dps_split (xs := xs) t
      exact ⟨_ :: us, ws, by rw [e]; rfl, .cons a h1, h2⟩
theorem dps_last {xs : List PyData} {d : PyData} {vs : List V} (h : DpAll K H vs (xs ++ [d])) : ∃ us v, vs = us ++ [v] ∧ DpAll K H us xs ∧ Dp K H v d := by
  obtain ⟨us, ws, e, h1, h2⟩ := dps_split h
  cases h2 with
  | cons a t => cases t; exact ⟨us, _, e, h1, a⟩
theorem last_at {α : Type} (us : List α) (v : α) : (us ++ [v])[(us ++ [v]).length - 1]? = some v := by simp
theorem init_of {α : Type} (us : List α) (v : α) : (us ++ [v]).dropLast = us := by simp
end
/-! ### tuples cut -/
section
variable {K : PySem.W.Frag} {σ : L2.St} {H H' : Hp} {ta tb te : TE} {d e : PyData}
/-- a pair goes to two names -/
theorem g_pair {i j : Nat} {v : V} {d1 d2 : PyData} {Q : L2.St → Hp → Prop} (h : Dp K H v (.tuple [d1, d2])) (q : ∀ v1 v2, Dp K H v1 d1 → Dp K H v2 d2 → Q ((σ.set i (some v1)).set j (some v2)) H) : gTup K 2 (gCons (gName i) (gCons (gName j) gNil)) v σ H Q := by
  obtain ⟨a, xs, rfl, hs, hv⟩ := dp_tup h
  cases hv with
  | cons h1 t =>
    cases t with
    | cons h2 t =>
      cases t
      exact ⟨a, _, rfl, hs, rfl, _, _, rfl, _, _, rfl, rfl, q _ _ h1 h2⟩
end
/-! ### comprehensions over a list told by a map -/
section
variable {K : PySem.W.Frag} {σ : L2.St} {H H' : Hp} {tl te : TE} {t : TT} {d e : PyData}
theorem tts_snoc : ∀ {l : List PyData} {d : PyData}, tts l = true → tt d = true → tts (l ++ [d]) = true
  | [], d, _, h => by simp [tts, h]
  | a :: r, d, h, h2 => by
    simp [tts] at h ⊢
    exact ⟨h.1, tts_snoc h.2 h2⟩
theorem tts_of : ∀ {l : List PyData}, (∀ d ∈ l, tt d = true) → tts l = true
  | [], _ => rfl
  | a :: r, h => by
    simp [tts, h a List.mem_cons_self]
    exact tts_of fun d hd => h d (List.mem_cons_of_mem _ hd)
theorem en_lcP {α : Type} {wi : TI} {g : TG} {vs : List Nat} (l : List α) (c : α → PyData) (p : α → Bool) (f : α → PyData) (hi : EvI K wi σ H (l.map c)) (hl : l.length ≤ 100000) (htt : ∀ a ∈ l, p a = true → tt (f a) = true)
    (hel : ∀ a ∈ l, ∀ v H1, Same H H1 → Dp K H1 v (c a) → ∀ W : L2.St → Hp → Prop, (∀ σ2, wipe σ2 vs = wipe σ vs → EvT t σ2 H1 (p a) → (p a = true → EvD K te σ2 H1 (f a)) → W σ2 H1) → g v (wipe σ vs) H1 W) :
    EvN K (tLc wi g t te vs) σ H ((l.filter p).map f) := by
  intro H1 s Q q
  refine hi H1 s _ fun J H2 s2 w D hD => ?_
  have hlen : (l.map c).length = l.length := List.length_map _
  refine ⟨fun i m H' => m = l.length - i ∧ i ≤ l.length ∧ Same H2 H' ∧ ∃ acc, H' D = some (.lst acc) ∧ DpAll K H' acc (((l.take i).filter p).map f) ∧ acc.length ≤ i ∧ tts (((l.take i).filter p).map f) = true,
    ⟨l.length, by simp, Nat.zero_le _, (Same.refl H2).new hD, [], upd_same, by simpa using DpAll.nil, Nat.le_refl _, by simp [tts]⟩, ?_⟩
  rintro i m H3 ⟨rfl, hile, s3, acc, hacc, hdp, hal, htts⟩
  by_cases hlt : i < l.length
  · refine .inr ⟨w.goes i H3 (by rw [hlen]; exact hlt) s3, fun H' => i + 1 ≤ l.length ∧ Same H2 H' ∧ ∃ acc, H' D = some (.lst acc) ∧ DpAll K H' acc (((l.take (i + 1)).filter p).map f) ∧ acc.length ≤ i + 1 ∧ tts (((l.take (i + 1)).filter p).map f) = true,
      fun H' ⟨a, b⟩ => ⟨l.length - (i + 1), by omega, rfl, a, b⟩, fun x H4 y => ?_⟩
    have hx : (l.map c)[i]? = some (c l[i]) := by rw [List.getElem?_map, List.getElem?_eq_getElem hlt]; rfl
    obtain ⟨s4, hxd⟩ := w.yields i H3 x H4 _ hx s3 y
    have hmem : l[i] ∈ l := List.getElem_mem hlt
    have etake : l.take (i + 1) = l.take i ++ [l[i]] := by rw [List.take_succ, List.getElem?_eq_getElem hlt]; rfl
    refine hel _ hmem x H4 (((s.trans s2).trans s3).trans s4) hxd _ fun σ2 hw ht he => ⟨hw, ?_⟩
    refine ht H4 (Same.refl _) _ fun H5 s5 => ?_
    cases hp : p l[i] with
    | true =>
      refine iteT (he hp H5 s5 _ fun z H6 s6 hz => ?_)
      have s36 : Same H3 H6 := (s4.trans s5).trans s6
      have hD6 := s36 _ _ hacc
      have e1 : ((l.take (i + 1)).filter p).map f = ((l.take i).filter p).map f ++ [f l[i]] := by
        rw [etake, List.filter_append, List.map_append]
        simp [hp]
      refine ⟨acc, hD6, sz_lt (by omega), hlt, fun b o e => ?_, _, upd_same, ?_, by simp; omega, ?_⟩
      · rw [upd_ne (ne_of_none e hD)]
        exact s36 _ _ (s3 _ _ e)
      · rw [e1]
        have hk : Kt H6 (upd H6 D (.lst (acc ++ [z]))) := Kt.rfl'.lst hD6
        exact (dps_kt hk _ _ htts (dps_same s36 _ _ hdp)).snoc (dp_kt hk _ _ (htt _ hmem hp) hz)
      · rw [e1]
        exact tts_snoc htts (htt _ hmem hp)
    | false =>
      have e1 : ((l.take (i + 1)).filter p).map f = ((l.take i).filter p).map f := by
        rw [etake, List.filter_append, List.map_append]
        simp [hp]
      refine iteF ⟨hlt, (s3.trans s4).trans s5, acc, (s4.trans s5) _ _ hacc, ?_, by omega, ?_⟩
      · rw [e1]; exact dps_same (s4.trans s5) _ _ hdp
      · rw [e1]; exact htts
  · have e : i = l.length := by omega
    subst e
    rw [List.take_length] at hdp
    refine .inl ⟨?_, q D acc H3 (s2.trans s3) (back s2 hD) hacc hdp⟩
    have := w.stops H3 s3
    rwa [hlen] at this
theorem en_lcM {α : Type} {wi : TI} {g : TG} {vs : List Nat} (l : List α) (c f : α → PyData) (hi : EvI K wi σ H (l.map c)) (hl : l.length ≤ 100000) (htt : ∀ a ∈ l, tt (f a) = true)
    (hel : ∀ a ∈ l, ∀ v H1, Same H H1 → Dp K H1 v (c a) → ∀ W : L2.St → Hp → Prop, (∀ σ2, wipe σ2 vs = wipe σ vs → EvD K te σ2 H1 (f a) → W σ2 H1) → g v (wipe σ vs) H1 W) :
    EvN K (tLc wi g tYes te vs) σ H (l.map f) := by
  have h := en_lcP (t := tYes) l c (fun _ => true) f hi hl (fun a ha _ => htt a ha) fun a ha v H1 s hv W hW => hel a ha v H1 s hv W fun σ2 hw he => hW σ2 hw et_yes fun _ => he
  rwa [List.filter_eq_self.mpr (by simp)] at h
/-- all(..) of a comprehension -/
theorem ed_allM {α : Type} {wi : TI} {g : TG} {vs : List Nat} (l : List α) (c : α → PyData) (p : α → Bool) (hi : EvI K wi σ H (l.map c)) (hl : l.length ≤ 100000)
    (hel : ∀ a ∈ l, ∀ v H1, Same H H1 → Dp K H1 v (c a) → ∀ W : L2.St → Hp → Prop, (∀ σ2, wipe σ2 vs = wipe σ vs → EvD K te σ2 H1 (.bool (p a)) → W σ2 H1) → g v (wipe σ vs) H1 W) :
    EvD K (tCB (rAll K) (tCons (tLc wi g tYes te vs) tNil)) σ H (.bool (l.all p)) := by
  have h := en_lcM (te := te) l c (fun a => .bool (p a)) hi hl (fun _ _ => rfl) hel
  have h2 := ed_all (bs := l.map p) (by rw [List.map_map]; exact h)
  rwa [List.all_map] at h2
end
/-! ### len(set(..)) of distinct keys -/
mutual
/-- tuples of numbers, of the nesting n -/
def kd : Nat → PyData → Bool
  | _, .int _ => true
  | n + 1, .tuple xs => kds n xs
  | _, _ => false
def kds : Nat → List PyData → Bool
  | _, [] => true
  | n, x :: xs => kd n x && kds n xs
end
mutual
def nk : PyData → NestedKey
  | .int i => .num i
  | .tuple xs => .tup (nks xs)
  | _ => .none
def nks : List PyData → List NestedKey
  | [] => []
  | x :: xs => nk x :: nks xs
end
mutual
theorem nk_num : ∀ (n : Nat) (d : PyData), kd n d = true → SN.num (nk d) = true ∧ (nk d).depth ≤ n
  | _, .int i, _ => ⟨rfl, Nat.zero_le _⟩
  | n + 1, .tuple xs, h => by
    obtain ⟨a, b⟩ := nks_num n xs (by simpa [kd] using h)
    exact ⟨by simpa [nk, SN.num] using a, by simpa [nk, NestedKey.depth] using b⟩
  | 0, .tuple xs, h => by simp [kd] at h
  | _, .none, h => by simp [kd] at h
  | _, .bool _, h => by simp [kd] at h
  | _, .str _, h => by simp [kd] at h
  | _, .list _, h => by simp [kd] at h
  | _, .dict _, h => by simp [kd] at h
theorem nks_num : ∀ (n : Nat) (ds : List PyData), kds n ds = true → SN.nums (nks ds) = true ∧ NestedKey.depthAll (nks ds) ≤ n
  | _, [], _ => ⟨rfl, Nat.zero_le _⟩
  | n, d :: ds, h => by
    simp only [kds, Bool.and_eq_true] at h
    obtain ⟨a, b⟩ := nk_num n d h.1
    obtain ⟨a2, b2⟩ := nks_num n ds h.2
    exact ⟨by simp [nks, SN.nums, a, a2], by simp only [nks, NestedKey.depthAll]; omega⟩
end
mutual
theorem nk_inj : ∀ (n : Nat) (d : PyData) (m : Nat) (e : PyData), kd n d = true → kd m e = true → nk d = nk e → d = e
  | _, .int i, _, .int j, _, _, h => by simp [nk] at h; rw [h]
  | _, .int i, _ + 1, .tuple ys, _, _, h => by simp [nk] at h
  | n + 1, .tuple xs, _, .int j, _, _, h => by simp [nk] at h
  | n + 1, .tuple xs, m + 1, .tuple ys, hx, hy, h => by
    simp [nk] at h
    rw [nks_inj n xs m ys (by simpa [kd] using hx) (by simpa [kd] using hy) h]
  | 0, .tuple xs, _, _, h, _, _ => by simp [kd] at h
  | _, _, 0, .tuple xs, _, h, _ => by simp [kd] at h
  | _, .none, _, _, h, _, _ => by simp [kd] at h
  | _, .bool _, _, _, h, _, _ => by simp [kd] at h
  | _, .str _, _, _, h, _, _ => by simp [kd] at h
  | _, .list _, _, _, h, _, _ => by simp [kd] at h
  | _, .dict _, _, _, h, _, _ => by simp [kd] at h
  | _, _, _, .none, _, h, _ => by simp [kd] at h
  | _, _, _, .bool _, _, h, _ => by simp [kd] at h
  | _, _, _, .str _, _, h, _ => by simp [kd] at h
  | _, _, _, .list _, _, h, _ => by simp [kd] at h
  | _, _, _, .dict _, _, h, _ => by simp [kd] at h
theorem nks_inj : ∀ (n : Nat) (ds : List PyData) (m : Nat) (es : List PyData), kds n ds = true → kds m es = true → nks ds = nks es → ds = es
  | _, [], _, [], _, _, _ => rfl
  | _, [], _, e :: es, _, _, h => by simp [nks] at h
  | _, d :: ds, _, [], _, _, h => by simp [nks] at h
  | n, d :: ds, m, e :: es, hd, he, h => by
    simp only [kds, Bool.and_eq_true] at hd he
    simp [nks] at h
    rw [nk_inj n d m e hd.1 he.1 h.1, nks_inj n ds m es hd.2 he.2 h.2]
end
section
variable {X : Cx} {pins : List (Addr × Obj)} {σ : L2.St} {H : Hp} {s : Shared}
mutual
theorem is_nk (I : Inv X pins σ H s) : ∀ (n : Nat) (d : PyData) (v : V) (u : Value), kd n d = true → Dp X.K H v d → L2.RelV v u → NestedIs s.heap (nk d) u
  | _, .int i, v, u, _, h, r => by
    cases h
    obtain ⟨t, rfl⟩ := r
    exact .int i t
  | n + 1, .tuple xs, v, u, k, h, r => by
    obtain ⟨a, vs, rfl, hs, hv⟩ := dp_tup h
    obtain rfl : u = .ref a := r
    obtain ⟨its, rv, ⟨o, ho, hc, m, hd⟩, _⟩ := I.tuple hs
    exact .tup ho hc hd (by simpa using is_nks I n xs vs its (by simpa [kd] using k) hv rv)
  | 0, .tuple xs, _, _, h, _, _ => by simp [kd] at h
  | _, .none, _, _, h, _, _ => by simp [kd] at h
  | _, .bool _, _, _, h, _, _ => by simp [kd] at h
  | _, .str _, _, _, h, _, _ => by simp [kd] at h
  | _, .list _, _, _, h, _, _ => by simp [kd] at h
  | _, .dict _, _, _, h, _, _ => by simp [kd] at h
theorem is_nks (I : Inv X pins σ H s) : ∀ (n : Nat) (ds : List PyData) (vs : List V) (us : List Value), kds n ds = true → DpAll X.K H vs ds → L2.Vals vs us → NestedAll s.heap (nks ds) us
  | _, [], _, _, _, h, r => by
    cases h
    cases r
    exact .nil
  | n, d :: ds, _, _, k, h, r => by
    simp only [kds, Bool.and_eq_true] at k
    cases h with
    | cons h1 h2 =>
      cases r with
      | cons r1 r2 => exact .cons (is_nk I n d _ _ k.1 h1 r1) (is_nks I n ds _ _ k.2 h2 r2)
end
/-- rows of tuples as the set's entries -/
theorem ents_of (I : Inv X pins σ H s) : ∀ (ds : List PyData) (vs : List V) (us : List Value), (∀ d ∈ ds, isT d = true ∧ kd 8 d = true) → DpAll X.K H vs ds → L2.Vals vs us → ∃ ks : List SN.Ent, us = ks.map (fun p => Value.ref p.1) ∧ (∀ p ∈ ks, SN.At s.heap p.2 p.1) ∧ ks.map (·.2) = ds.map nk
  | [], _, _, _, h, r => by
    cases h
    cases r
    exact ⟨[], rfl, fun p hp => (by cases hp), rfl⟩
  | d :: ds, _, _, k, h, r => by
    cases h with
    | cons h1 h2 =>
      cases r with
      | cons r1 r2 =>
        obtain ⟨ks, e1, e2, e3⟩ := ents_of I ds _ _ (fun z hz => k z (List.mem_cons_of_mem _ hz)) h2 r2
        obtain ⟨k1, k2⟩ := k d List.mem_cons_self
        have is := is_nk I 8 d _ _ k2 h1 r1
        obtain ⟨n1, n2⟩ := nk_num 8 d k2
        cases d with
        | tuple xs =>
          obtain ⟨a, ws, rfl, _, _⟩ := dp_tup h1
          obtain rfl := (show _ = Value.ref a from r1)
          exact ⟨(a, nk (.tuple xs)) :: ks, by rw [e1]; rfl, fun p hp => by
            rcases List.mem_cons.mp hp with rfl | hp
            · exact ⟨is, n2, n1⟩
            · exact e2 p hp, by rw [List.map_cons, List.map_cons, e3]⟩
        | _ => simp [isT] at k1
theorem strs_of : ∀ (xs : List Str) (vs : List V) (us : List Value), DpAll X.K H vs (xs.map .str) → L2.Vals vs us → PyProof.Rows.StrsAre us xs
  | [], _, _, h, r => by
    cases h
    cases r
    exact .nil
  | x :: xs, _, _, h, r => by
    cases h with
    | cons h1 h2 =>
      cases r with
      | cons r1 r2 =>
        obtain rfl := dpS h1
        obtain ⟨t, rfl⟩ := r1
        exact .cons x t (strs_of xs _ _ h2 r2)
end
def tLenSetD (K : PySem.W.Frag) (ta : TE) : TE := fun σ H Q => ta σ H fun x H1 => ∃ ds, (Dp K H1 x (.list ds) ∨ Dp K H1 x (.tuple ds)) ∧ ((∃ xs : List Str, ds = xs.map .str) ∨ ∀ d ∈ ds, isT d = true ∧ kd 8 d = true) ∧ ds.Nodup ∧ ds.length < 64 ∧
  Q (.int ds.length) H1
theorem pe_lenSetD {X : Cx} {a : Expr} {ta : TE} {p p2 q pos : Pos} (hc : X.calm = true) (hu : X.A.units + 70 < cLine) (hg : Gl X "len") (hm : X.mg "len" = none) (hg2 : Gl X "set") (hm2 : X.mg "set" = none) (ha : PE X a ta)
    (na : starEach [a] X.env = (false, eval a X.env) :: starEach [] X.env := by rfl) : PE X (.Call (.Name "len" p) [.Call (.Name "set" p2) [a] [] q] [] pos) (tLenSetD X.K ta) := by
  refine ⟨fun pins s σ H Q I h => ?_⟩
  refine Call_ (ld_blt I hg hm PySem.boot_len ?_)
  refine PyProof.Rows.callWith_builtin1 (PyProof.Rows.args_cons ?_ rfl) rfl rfl
  refine Call_ (ld_blt I hg2 hm2 PyProof.Rows.boot_set ?_)
  refine PyProof.Rows.callWith_type1 (PyProof.Rows.args_cons (thn (ha.run pins s σ H _ I h) fun v s1 ⟨x, H1, I1, r1, q1⟩ => PyProof.Rows.args_nil ?_) na) na rfl
  obtain ⟨ds, hd, hk, nd, hf, q⟩ := q1
  have hh := I1.ok.hd hc
  have h3 : X.A.in1.in1.in1.units + 8 < cLine := by simp only [Around.in1_units]; omega
  obtain ⟨l, vs, its, rfl, hv, rv, con⟩ : ∃ (l : Addr) (vs : List V) (its : List Value), x = .ref l ∧ DpAll X.K H1 vs ds ∧ L2.Vals vs its ∧ (s1.heap.IsList l its.toArray ∨ s1.heap.IsTuple l its.toArray) := by
    rcases hd with hd | hd
    · cases hd with
      | lst hs hv =>
        obtain ⟨its, rv, pl, _⟩ := I1.list hs
        exact ⟨_, _, its, rfl, hv, rv, .inl pl.isList⟩
    · obtain ⟨l, vs, rfl, hs, hv⟩ := dp_tup hd
      obtain ⟨its, rv, pl, _⟩ := I1.tuple hs
      exact ⟨l, vs, its, rfl, hv, rv, .inr pl⟩
  cases r1
  have hsz : its.toArray.size = ds.length := by rw [List.size_toArray, ← rv.length, hv.len]
  have key : ∀ {T : Nat → Heap → Prop} {Q : Value → Shared → Prop} {E : Value → Shared → Prop}, SN.Grows X.prog X.w X.A.in1.in1.in1 s1.heap.objs.size s1.heap its.toArray.size (fun i v => its.toArray[i]? = some v) T →
      (∀ h : Heap, h.get? s1.heap.objs.size = some (SN.newSet X.w) → (∀ b o, s1.heap.get? b = some o → h.get? b = some o) → T 0 h) →
      (∀ (h' : Heap) (tk : Nat), T its.toArray.size h' → (∀ b o, s1.heap.get? b = some o → h'.get? b = some o) → Q (.ref s1.heap.objs.size) { s1 with heap := h', toks := tk }) → wpAny (model X.prog X.w) X.A (call (.type "set") [.ref l]) Q E s1 := fun g h0 q => by
    rcases con with con | con
    · exact SN.call_set_list hh con g h0 q
    · exact SN.call_set_tuple hh con g h0 q
  have fin : ∀ (h' : Heap) (tk : Nat) (o : Obj) (es : Array (Int × Value)) (ep : Nat) (t : SetTable), (∀ b o, s1.heap.get? b = some o → h'.get? b = some o) → h'.get? s1.heap.objs.size = some o → o.ExactSet → o.data = .set es ep t → t.fits es.size = true → es.size = ds.length →
      wpAny (model X.prog X.w) X.A (call (.builtin "len") [.ref s1.heap.objs.size]) (fun v s2 => ∃ x H2, Inv X pins σ H2 s2 ∧ L2.RelV x v ∧ Q x H2) X.xe { s1 with heap := h', toks := tk } := fun h' tk o es ep t kp ho hex hd hfit hn => by
    have I2 : Inv X pins σ H1 { s1 with heap := h', toks := tk } := I1.kept kp
    exact call_len_set ho hex hd hfit (by rw [hn]; omega) ⟨.int ds.length, H1, I2.tok _, ⟨_, by rw [hn]⟩, q⟩
  rcases hk with ⟨xs, rfl⟩ | hk
  · have nx : xs.Nodup := List.Pairwise.of_map _ (fun a b (hne : PyData.str a ≠ .str b) e => hne (by rw [e])) nd
    rw [List.length_map] at hf hsz
    refine key (SN.grows_txt (by simpa using strs_of xs _ _ hv rv) nx hf) (fun h e _ => ?_) fun h' tk hT kp => PyProof.Rows.args_nil ?_
    · exact PyProof.Rows.SetOf_congr ((PyProof.Rows.setObjOf_fresh (knd := PySem.strKind X.prog X.w) _).setOf e (by unfold scanBound; omega)) (fun _ => rfl) rfl
    · obtain ⟨o, es, ep, t, ho, hex, hd, _, _, _, hfit, hn⟩ := hT
      exact fin h' tk o es ep t kp ho hex hd hfit (by rw [hn, hsz, List.length_map])
  · obtain ⟨ks, e1, e2, e3⟩ := ents_of I1 ds _ _ hk hv rv
    have hl : ks.length = ds.length := by
      have := congrArg List.length e3
      simpa using this
    refine key (SN.grows_key ks h3 (by simpa using e1) e2 (by omega)) (fun h e _ => SN.keyT_zero e) fun h' tk hT kp => PyProof.Rows.args_nil ?_
    obtain ⟨L, es, ep, t, R, g⟩ := hT
    obtain ⟨o, ho, hex, hd⟩ := R.t0.ob
    have nn : (ks.map (·.2)).Nodup := by
      rw [e3]
      exact List.pairwise_map.mpr (List.Pairwise.imp_of_mem (fun {a b} ha hb hne e => hne (nk_inj 8 a 8 b (hk a ha).2 (hk b hb).2 e)) nd)
    exact fin h' tk o es ep t kp ho hex hd R.t0.fits (by rw [R.t0.size, g.dis nn, hsz])
theorem ed_lenSet {K : PySem.W.Frag} {σ : L2.St} {H : Hp} {ta : TE} {ds : List PyData} (h : EvD K ta σ H (.list ds)) (h1 : (∃ xs : List Str, ds = xs.map .str) ∨ ∀ d ∈ ds, isT d = true ∧ kd 8 d = true) (h2 : ds.Nodup) (h3 : ds.length < 64) : EvD K (tLenSetD K ta) σ H (.int ds.length) := fun H1 s Q q =>
  h H1 s _ fun v H2 s2 hv => ⟨ds, .inl hv, h1, h2, h3, q _ _ s2 (.int _)⟩
theorem ed_lenSetT {K : PySem.W.Frag} {σ : L2.St} {H : Hp} {ta : TE} {ds : List PyData} (h : EvD K ta σ H (.tuple ds)) (h1 : (∃ xs : List Str, ds = xs.map .str) ∨ ∀ d ∈ ds, isT d = true ∧ kd 8 d = true) (h2 : ds.Nodup) (h3 : ds.length < 64) : EvD K (tLenSetD K ta) σ H (.int ds.length) := fun H1 s Q q =>
  h H1 s _ fun v H2 s2 hv => ⟨ds, .inr hv, h1, h2, h3, q _ _ s2 (.int _)⟩
theorem ed_min {K : PySem.W.Frag} {σ : L2.St} {H : Hp} {ta : TE} {ns : List Int} {m : Int} (h : EvN K ta σ H (ns.map .int)) (hm : m ∈ ns) (hle : ∀ y ∈ ns, m ≤ y) : EvD K (tCB (rMin K) (tCons ta tNil)) σ H (.int m) := fun H1 s Q q =>
  h H1 s _ fun p vs H2 s2 _ hp hv => ⟨p, ns, rfl, by rw [← dps_ints hv]; exact sq_of hp, List.length_pos_of_mem hm, fun m' h1 h2 => by
    have : m' = m := Int.le_antisymm (h2 m hm) (hle m' h1)
    rw [this]; exact q _ H2 s2 (.int _)⟩
end G

set_option Elab.async false
set_option linter.all false
set_option maxRecDepth 100000
set_option maxHeartbeats 4000000
namespace G
open PySem PySem.Spec PyProof.Rows L2
section
variable {P : Program} {w : World} {K : PySem.W.Frag} {mg : Str → Option Value} {base : Heap}
/-! ### names -/
def isInt : PyData → Bool
  | .int _ => true
  | _ => false
theorem isInt_eq (d : PyData) : (isI d && !isB d) = isInt d := by cases d <;> rfl
def Ris_int : List PyData → PyData → Prop
  | [d], r => r = .bool (isInt d)
  | _, _ => False
theorem sc_is_int : FnScope ["thing"] ["thing"] (defScope s_is_int) := ⟨rfl, rfl, rfl, by decide +kernel, rfl, by decide +kernel, by decide +kernel⟩
theorem ok_is_int (T : Tx K mg)  : Cl P w K mg base CX0 1 "is_int" ["thing"] (spD K Ris_int) := by
  obtain ⟨fd, F⟩ := T.f_is_int
  refine ⟨_, fd, T.g_is_int, F.kp, F.bindsN fun _ _ _ _ _ _ us hl => match us, hl with | [_], _ => rfl, F.ok sc_is_int (fun vs H Q E h => ?_) (fun cdv A outer s H vs Q E hr h => ?_)⟩
  · obtain ⟨ds, r, hd, hR, _⟩ := h
    match ds, hR with
    | [_], _ => exact hd.len
  · obtain ⟨ds, r, hd, hR, q⟩ := h
    match ds, vs, hd, hR with
    | [d0], [v0], .cons h0 .nil, hR =>
    refine ⟨_, PSs.nox (pss_one (ps_ret (pe_and (pe_callB call_isi (by rfl) T.b_isinstance PyProof.Rows.Boot.«isinstance» (pa_cons (pv 0) (pa_cons (pe_bltn (v := .ty "int") (by rfl) T.b_int PyProof.Rows.Boot.«int» rfl) pa_nil))) (pe_one (pe_not (pe_callB call_isi (by rfl) T.b_isinstance PyProof.Rows.Boot.«isinstance» (pa_cons (pv 0) (pa_cons (pe_bltn (v := .ty "bool") (by rfl) T.b_bool PyProof.Rows.Boot.«bool» rfl) pa_nil)))))))), ?_⟩
    obtain rfl : r = .bool (isInt d0) := hR
    rw [← isInt_eq] at q
    exact s_ret (ed_and (ed_isi (ed_var h0) (kit_I d0)) fun _ => ed_not (ed_isi (ed_var h0) (kit_B d0))) q
def isIn (d : PyData) (lo hi : Int) : Bool := match d with
  | .int i => decide (lo ≤ i) && decide (i ≤ hi)
  | _ => false
def Rwithin : List PyData → PyData → Prop
  | [d, a, b], r => ∃ lo hi : Int, a = .int lo ∧ b = .int hi ∧ r = .bool (isIn d lo hi)
  | _, _ => False
theorem sc_within : FnScope ["thing", "low", "high"] ["thing", "low", "high"] (defScope s_within) := ⟨rfl, rfl, rfl, by decide +kernel, rfl, by decide +kernel, by decide +kernel⟩
theorem ok_within (T : Tx K mg)  : Cl P w K mg base CX0 2 "within" ["thing", "low", "high"] (spD K Rwithin) := by
  obtain ⟨fd, F⟩ := T.f_within
  refine ⟨_, fd, T.g_within, F.kp, F.bindsN fun _ _ _ _ _ _ us hl => match us, hl with | [_, _, _], _ => rfl, F.ok sc_within (fun vs H Q E h => ?_) (fun cdv A outer s H vs Q E hr h => ?_)⟩
  · obtain ⟨ds, r, hd, hR, _⟩ := h
    match ds, hR with
    | [_, _, _], _ => exact hd.len
  · obtain ⟨ds, r, hd, hR, q⟩ := h
    match ds, vs, hd, hR with
    | [d0, d1, d2], [v0, v1, v2], .cons h0 (.cons h1 (.cons h2 .nil)), hR =>
    refine ⟨_, PSs.nox (pss_one (ps_ret (pe_and (G.pe_cl (ok_is_int T) hr (by decide) pass0 (pa_cons (pv 0) pa_nil)) (pe_one (pe_chain op_le op_le (pv 1) (pv 0) (pv 2)))))), ?_⟩
    obtain ⟨lo, hi, rfl, rfl, rfl⟩ := hR
    refine s_ret (d := .bool (isIn d0 lo hi)) ?_ q
    cases d0 with
    | int n => exact ed_and (a := true) (ed_call (ea_cons (ed_var h0) ea_nil) rfl) fun _ => ed_chainLe (ed_var h1) (ed_var h0) (ed_var h2)
    | _ => exact ed_and (a := false) (b := false) (ed_call (ea_cons (ed_var h0) ea_nil) rfl) fun z => nomatch z
def isRow (d : PyData) (lo hi : Int) : Bool := match d with
  | .tuple xs => decide (lo ≤ (xs.length : Int)) && decide ((xs.length : Int) ≤ hi)
  | _ => false
def Ris_row : List PyData → PyData → Prop
  | [d, a, b], r => ∃ lo hi : Int, a = .int lo ∧ b = .int hi ∧ r = .bool (isRow d lo hi)
  | _, _ => False
theorem sc_is_row : FnScope ["thing", "low", "high"] ["thing", "low", "high"] (defScope s_is_row) := ⟨rfl, rfl, rfl, by decide +kernel, rfl, by decide +kernel, by decide +kernel⟩
theorem ok_is_row (T : Tx K mg)  : Cl P w K mg base CX0 1 "is_row" ["thing", "low", "high"] (spD K Ris_row) := by
  obtain ⟨fd, F⟩ := T.f_is_row
  refine ⟨_, fd, T.g_is_row, F.kp, F.bindsN fun _ _ _ _ _ _ us hl => match us, hl with | [_, _, _], _ => rfl, F.ok sc_is_row (fun vs H Q E h => ?_) (fun cdv A outer s H vs Q E hr h => ?_)⟩
  · obtain ⟨ds, r, hd, hR, _⟩ := h
    match ds, hR with
    | [_, _, _], _ => exact hd.len
  · obtain ⟨ds, r, hd, hR, q⟩ := h
    match ds, vs, hd, hR with
    | [d0, d1, d2], [v0, v1, v2], .cons h0 (.cons h1 (.cons h2 .nil)), hR =>
    refine ⟨_, PSs.nox (pss_one (ps_ret (pe_and (pe_callB call_isi (by rfl) T.b_isinstance PyProof.Rows.Boot.«isinstance» (pa_cons (pv 0) (pa_cons (pe_bltn (v := .ty "tuple") (by rfl) T.b_tuple PyProof.Rows.Boot.«tuple» rfl) pa_nil))) (pe_one (pe_chain op_le op_le (pv 1) (pe_callB call_len_seq (by rfl) T.b_len PyProof.Rows.Boot.«len» (pa_cons (pv 0) pa_nil)) (pv 2)))))), ?_⟩
    obtain ⟨lo, hi, rfl, rfl, rfl⟩ := hR
    refine s_ret (d := .bool (isRow d0 lo hi)) ?_ q
    cases d0 with
    | tuple n => exact ed_and (a := true) (ed_isi (ed_var h0) (kit_T _)) fun _ => ed_chainLe (ed_var h1) (ed_lenT (ed_var h0)) (ed_var h2)
    | _ => exact ed_and (a := false) (b := false) (ed_isi (ed_var h0) (kit_T _)) fun z => nomatch z
def smallL : List Nat := ("abcdefghijklmnopqrstuvwxyz" : Str).cps.toList
def digL : List Nat := ("0123456789" : Str).cps.toList
def isSm (c : Nat) : Bool := decide (c ∈ smallL)
def isDg (c : Nat) : Bool := decide (c ∈ digL)
def isRun (c : Nat) : Bool := isSm c || isDg c
def lowL : List Nat → Bool
  | [] => false
  | c :: r => decide (r.length < 10) && isSm c && (c :: r).all isRun
def lowD : PyData → Bool
  | .str x => lowL x.cps.toList
  | _ => false
def Ris_low_name : List PyData → PyData → Prop
  | [d], r => (∀ x, d = .str x → x.length ≤ 100000) ∧ r = .bool (lowD d)
  | _, _ => False
theorem low_long {x : Str} (h : (decide ((1 : Int) ≤ (x.length : Int)) && decide ((x.length : Int) ≤ 10)) = false) : lowL x.cps.toList = false := by
  have e : x.length = x.cps.toList.length := by simp [Str.length]
  rw [e] at h
  cases q : x.cps.toList with
  | nil => rfl
  | cons c r =>
    rw [q, List.length_cons] at h
    have h2 : (1 : Int) ≤ ((r.length + 1 : Nat) : Int) := by omega
    rw [decide_eq_true h2, Bool.true_and] at h
    have h3 : ¬ (((r.length + 1 : Nat) : Int) ≤ 10) := of_decide_eq_false h
    unfold lowL
    have : ¬ r.length < 10 := by omega
    simp [this]
theorem sc_is_low_name : FnScope ["thing", "sign"] ["thing"] (defScope s_is_low_name) := ⟨rfl, rfl, rfl, by decide +kernel, rfl, by decide +kernel, by decide +kernel⟩
theorem ok_is_low_name (T : Tx K mg)  : Cl P w K mg base CX0 1 "is_low_name" ["thing"] (spD K Ris_low_name) := by
  obtain ⟨fd, F⟩ := T.f_is_low_name
  refine ⟨_, fd, T.g_is_low_name, F.kp, F.bindsN fun _ _ _ _ _ _ us hl => match us, hl with | [_], _ => rfl, F.ok sc_is_low_name (fun vs H Q E h => ?_) (fun cdv A outer s H vs Q E hr h => ?_)⟩
  · obtain ⟨ds, r, hd, hR, _⟩ := h
    match ds, hR with
    | [_], _ => exact hd.len
  · obtain ⟨ds, r, hd, hR, q⟩ := h
    match ds, vs, hd, hR with
    | [d0], [v0], .cons h0 .nil, hR =>
    refine ⟨_, PSs.nox (pss_cons (ps_if (PW.pt (pw_or (pt_not (pt_val (pe_callB call_isi (by rfl) T.b_isinstance PyProof.Rows.Boot.«isinstance» (pa_cons (pv 0) (pa_cons (pe_bltn (v := .ty "str") (by rfl) T.b_str PyProof.Rows.Boot.«str» rfl) pa_nil))))) (pw_or (pt_not (pt_chain op_le op_le pe_int (pe_callB call_len_str (by rfl) T.b_len PyProof.Rows.Boot.«len» (pa_cons (pv 0) pa_nil)) (G.pe_ki (by rfl) T.c_LONGEST_NAME))) (pw_or1 (pt_cmpR G.op_notInS (pe_ix ix_str (pv 0) pe_int (fun _ _ => rfl)) (G.pe_ks (by rfl) T.c_SMALL_LETTERS) rfl))))) (pss_one (ps_ret pe_bl)) pss_nil)
  (pss_one (ps_ret (pe_callB (cr_all rfl) (by rfl) T.b_all PyProof.Rows.Boot.«all» (pa_cons (pe_lc (own := [("sign", 1)]) (g := (gName 1)) rfl sc_is_low_name.nd (pi_str (pv 0)) (blkOk_by (own := [("sign", 1)]) (N := ["thing", "sign"]) (sc := defScope s_is_low_name) (by decide +kernel)) (fun _ _ _ _ _ => (pg_name (i := 1) sc_is_low_name.nd rfl (by first | exact Or.inl rfl | exact Or.inr rfl))) (fun _ _ _ _ _ => pts_nil) (fun _ _ _ _ _ => (pe_or (pe_cmpR G.op_inS (pv 1) (G.pe_ks (by rfl) T.c_SMALL_LETTERS) rfl) (pe_one (pe_cmpR G.op_inS (pv 1) (G.pe_ks (by rfl) T.c_DIGITS) rfl))))) pa_nil))))), ?_⟩
    obtain ⟨hl, rfl⟩ := hR
    cases d0 with
    | str x =>
      have hx : x.length ≤ 100000 := hl x rfl
      have hd : Dp K H v0 (.str x) := h0
      have e : x.length = x.cps.toList.length := by simp [Str.length]
      by_cases hb : (decide ((1 : Int) ≤ (x.length : Int)) && decide ((x.length : Int) ≤ 10)) = true
      · obtain ⟨hb1, hb2⟩ := Bool.and_eq_true_iff.mp hb
        have hb1 := of_decide_eq_true hb1
        have hb2 := of_decide_eq_true hb2
        obtain ⟨c, l, hcl⟩ : ∃ c l, x.cps.toList = c :: l := by
          cases q : x.cps.toList with
          | nil => rw [e, q, List.length_nil] at hb1; exact absurd hb1 (by decide)
          | cons c l => exact ⟨c, l, rfl⟩
        have hll : l.length < 10 := by rw [e, hcl, List.length_cons] at hb2; omega
        have hlow : lowL x.cps.toList = (isSm c && (c :: l).all isRun) := by
          rw [hcl]; show (decide (l.length < 10) && isSm c && (c :: l).all isRun) = _; rw [decide_eq_true hll, Bool.true_and]
        refine s_if (et_or (a := false) (et_not (et_B (ed_isi (ed_var hd) (kit_S _)))) fun _ => et_or (a := false) (by rw [← show (!(decide ((1 : Int) ≤ (x.length : Int)) && decide ((x.length : Int) ≤ 10))) = false by rw [hb]; rfl]; exact et_not (et_test (ed_chainLe ed_i (ed_lenS (ed_var hd) hx) ed_i))) fun hn => et_test (ed_notInS (c := c) (ed_ixS (ed_var hd) ed_i hx (by rw [hcl]; exact atI_nat (j := 0) rfl)) ed_s)) (fun hc H' s => ?_) (fun hc H' s => ?_)
        · have hc : isSm c = false := by simpa [isSm, smallL] using hc
          refine s_ret (K := K) ed_b fun v H2 s2 hv => q v H2 (s.trans s2) ?_
          rw [show lowD (.str x) = false by show lowL _ = false; rw [hlow, hc]; rfl]
          exact hv
        · have hc : isSm c = true := by simpa [isSm, smallL] using hc
          have hd' : Dp K H' v0 (.str x) := dp_same s _ _ hd
          refine s_ret (K := K) (ed_all (bs := x.cps.toList.map isRun) (en_lcE (fun (d : PyData) => PyData.bool (match d with | .str y => isRun (y.cps.toList.headD 0) | _ => false)) (by rw [List.map_map, List.map_map]; rfl) (ei_str (ed_var hd')) (by rw [List.length_map, ← e]; exact hx) (fun _ _ => rfl) fun y hy v H1 s1 hv W hW => ?_)) fun v H2 s2 hv => q v H2 (s.trans s2) ?_
          · obtain ⟨c', _, rfl⟩ := List.mem_map.mp hy
            refine hW _ wipe_set1 ?_
            exact ed_or (ed_inS (c := c') (ed_var hv) ed_s) fun _ => ed_inS (c := c') (ed_var hv) ed_s
          rw [show lowD (.str x) = (x.cps.toList.map isRun).all id by show lowL _ = _; rw [hlow, hc, hcl, Bool.true_and]; simp]
          exact hv
      · have hb' := Bool.eq_false_iff.mpr hb
        refine s_if (et_or (a := false) (et_not (et_B (ed_isi (ed_var hd) (kit_S _)))) fun _ => et_or (a := true) (b := true) (by rw [← show (!(decide ((1 : Int) ≤ (x.length : Int)) && decide ((x.length : Int) ≤ 10))) = true by rw [hb']; rfl]; exact et_not (et_test (ed_chainLe ed_i (ed_lenS (ed_var hd) hx) ed_i))) fun z => nomatch z) (fun _ H' s => ?_) fun z => nomatch z
        refine s_ret (K := K) ed_b fun v H2 s2 hv => q v H2 (s.trans s2) ?_
        rw [show lowD (.str x) = false from low_long hb']
        exact hv
    | _ => exact s_if (et_or (a := true) (b := true) (et_not (et_B (ed_isi (ed_var h0) (kit_S _)))) fun z => nomatch z) (fun _ H' s => s_ret ed_b fun v H2 s2 hv => q v H2 (s.trans s2) hv) fun z => nomatch z
end
end G


set_option Elab.async false
set_option linter.all false
set_option maxRecDepth 100000
set_option maxHeartbeats 4000000
namespace G
open PySem PySem.Spec PyProof.Rows L2
theorem hu70 {k : Nat} {A : Around} (r : Room k A) : A.units + 70 < cLine := by have := r.un; omega
/-! ### signatures and trees, in plain Lean -/
abbrev Sg := List (Str × Nat)
def entD (e : Str × Nat) : PyData := .tuple [.str e.1, .int (e.2 : Int)]
def sigD (sg : Sg) : PyData := .tuple (sg.map entD)
inductive Tr where
  | n0 (f : Nat)
  | n1 (f : Nat) (a : Tr)
  | n2 (f : Nat) (a b : Tr)
namespace Tr
def hd : Tr → Nat
  | n0 f => f
  | n1 f _ => f
  | n2 f _ _ => f
def kids : Tr → List Tr
  | n0 _ => []
  | n1 _ a => [a]
  | n2 _ a b => [a, b]
def toD : Tr → PyData
  | n0 f => .tuple [.int (f : Int)]
  | n1 f a => .tuple [.int (f : Int), toD a]
  | n2 f a b => .tuple [.int (f : Int), toD a, toD b]
def size : Tr → Nat
  | n0 _ => 1
  | n1 _ a => size a + 1
  | n2 _ a b => size a + size b + 1
def dep : Tr → Nat
  | n0 _ => 1
  | n1 _ a => dep a + 1
  | n2 _ a b => max (dep a) (dep b) + 1
/-- every symbol has as many children as sg says -/
def ok (sg : Sg) : Tr → Prop
  | n0 f => ∃ x, sg[f]? = some (x, 0)
  | n1 f a => (∃ x, sg[f]? = some (x, 1)) ∧ ok sg a
  | n2 f a b => (∃ x, sg[f]? = some (x, 2)) ∧ ok sg a ∧ ok sg b
theorem toD_eq (t : Tr) : t.toD = .tuple (.int (t.hd : Int) :: t.kids.map toD) := by cases t <;> rfl
theorem size_pos (t : Tr) : 0 < t.size := by cases t <;> simp [size]
theorem dep_pos (t : Tr) : 0 < t.dep := by cases t <;> simp [dep]
theorem dep_le_size (t : Tr) : t.dep ≤ t.size := by
  induction t with
  | n0 f => exact Nat.le_refl _
  | n1 f a ih => simp [dep, size]; exact ih
  | n2 f a b ia ib => simp [dep, size]; omega
theorem size_eq (t : Tr) : t.size = (t.kids.map size).sum + 1 := by cases t <;> simp [size, kids]
theorem kid_ok {sg : Sg} {t c : Tr} (h : ok sg t) (hc : c ∈ t.kids) : ok sg c := by
  cases t with
  | n0 f => simp [kids] at hc
  | n1 f a => simp [kids] at hc; subst hc; exact h.2
  | n2 f a b =>
    simp [kids] at hc
    rcases hc with rfl | rfl
    · exact h.2.1
    · exact h.2.2
theorem kid_dep {t c : Tr} (hc : c ∈ t.kids) : c.dep + 1 ≤ t.dep := by
  cases t with
  | n0 f => simp [kids] at hc
  | n1 f a => simp [kids] at hc; subst hc; exact Nat.le_refl _
  | n2 f a b =>
    simp [kids] at hc
    rcases hc with rfl | rfl <;> simp [dep] <;> omega
theorem hd_at {sg : Sg} {t : Tr} (h : ok sg t) : ∃ x, sg[t.hd]? = some (x, t.kids.length) := by
  cases t with
  | n0 f => exact h
  | n1 f a => exact h.1
  | n2 f a b => exact h.1
theorem kids_len (t : Tr) : t.kids.length ≤ 2 := by cases t <;> simp [kids]
theorem toD_tt : ∀ t : Tr, tt t.toD = true
  | n0 f => rfl
  | n1 f a => by simp [toD, tt, tts, toD_tt a]
  | n2 f a b => by simp [toD, tt, tts, toD_tt a, toD_tt b]
theorem toD_lay : ∀ t : Tr, t.toD.canLay0 = true
  | n0 f => rfl
  | n1 f a => by simp [toD, PyData.canLay0, PyData.canLayAll0, toD_lay a]
  | n2 f a b => by simp [toD, PyData.canLay0, PyData.canLayAll0, toD_lay a, toD_lay b]
theorem toD_depth : ∀ t : Tr, t.toD.depth ≤ t.dep + 1
  | n0 f => by simp [toD, PyData.depth, PyData.depthAll, dep]
  | n1 f a => by have := toD_depth a; simp [toD, PyData.depth, PyData.depthAll, dep]; omega
  | n2 f a b => by have := toD_depth a; have := toD_depth b; simp [toD, PyData.depth, PyData.depthAll, dep]; omega
theorem toD_kd : ∀ (t : Tr) (n : Nat), t.dep ≤ n → kd n t.toD = true
  | n0 f, 0, h => by simp [dep] at h
  | n0 f, n + 1, h => by simp [toD, kd, kds]
  | n1 f a, 0, h => by simp [dep] at h
  | n1 f a, n + 1, h => by
    have := toD_kd a n (by simp [dep] at h; omega)
    simp [toD, kd, kds, this]
  | n2 f a b, 0, h => by simp [dep] at h
  | n2 f a b, n + 1, h => by
    have h1 := toD_kd a n (by simp [dep] at h; omega)
    have h2 := toD_kd b n (by simp [dep] at h; omega)
    simp [toD, kd, kds, h1, h2]
theorem toD_inj : ∀ {t u : Tr}, t.toD = u.toD → t = u := by
  intro t
  induction t with
  | n0 f =>
    intro u h
    cases u <;> simp [toD] at h
    rw [Int.ofNat.inj h]
  | n1 f a ih =>
    intro u h
    cases u <;> simp [toD] at h
    rw [Int.ofNat.inj h.1, ih h.2]
  | n2 f a b ia ib =>
    intro u h
    cases u <;> simp [toD] at h
    rw [Int.ofNat.inj h.1, ia h.2.1, ib h.2.2]
end Tr
/-! ### eqv of data -/
theorem Tr.eqv_toD : ∀ t u : Tr, PyData.eqv t.toD u.toD = true → t = u := by
  intro t
  induction t with
  | n0 f =>
    intro u h
    cases u <;> simp [Tr.toD, PyData.eqv, PyData.eqvAll] at h
    rw [Int.ofNat.inj h]
  | n1 f a ih =>
    intro u h
    cases u <;> simp [Tr.toD, PyData.eqv, PyData.eqvAll] at h
    rw [Int.ofNat.inj h.1, ih _ h.2]
  | n2 f a b ia ib =>
    intro u h
    cases u <;> simp [Tr.toD, PyData.eqv, PyData.eqvAll] at h
    rw [Int.ofNat.inj h.1, ia _ h.2.1, ib _ h.2.2]
theorem shaped_of {d : PyData} (h : d.canLay0 = true) (h2 : d.depth ≤ 64) : SeqAt.shaped d = true := by
  unfold SeqAt.shaped
  rw [h, Bool.true_and]
  exact decide_eq_true h2
theorem shaped_list {ds : List PyData} {n : Nat} (h : ∀ d ∈ ds, d.canLay0 = true ∧ d.depth ≤ n) (hn : n ≤ 63) : SeqAt.shaped (.list ds) = true := by
  have h1 : PyData.canLayAll0 ds = true := by
    induction ds with
    | nil => rfl
    | cons a r ih => simp [PyData.canLayAll0, (h a List.mem_cons_self).1]; exact ih fun d hd => h d (List.mem_cons_of_mem _ hd)
  have h2 : PyData.depthAll ds ≤ n := by
    induction ds with
    | nil => simp [PyData.depthAll]
    | cons a r ih =>
      have := (h a List.mem_cons_self).2
      have := ih (fun d hd => h d (List.mem_cons_of_mem _ hd)) (by simp [PyData.canLayAll0] at h1; exact h1.2)
      simp [PyData.depthAll]; omega
  refine shaped_of (by simpa [PyData.canLay0] using h1) (by simp [PyData.depth]; omega)
theorem eqv_nilL (ds : List PyData) : PyData.eqv (.list ds) (.list []) = ds.isEmpty := by cases ds <;> simp [PyData.eqv, PyData.eqvAll]
theorem eqv_nilT (ds : List PyData) : PyData.eqv (.tuple ds) (.tuple []) = ds.isEmpty := by cases ds <;> simp [PyData.eqv, PyData.eqvAll]
theorem shaped_nilL : SeqAt.shaped (.list []) = true := by decide +kernel
theorem shaped_nilT : SeqAt.shaped (.tuple []) = true := by decide +kernel
/-! ### right signatures -/
structure SgLike (sg : Sg) : Prop where
  ne : sg ≠ []
  few : sg.length ≤ 12
  low : ∀ e ∈ sg, lowL e.1.cps.toList = true
  short : ∀ e ∈ sg, e.1.length ≤ 10
  ar : ∀ e ∈ sg, e.2 ≤ 2
  nd : (sg.map (·.1)).Nodup
def SgOk (sg : Sg) : Prop := SgLike sg ∧ ∃ e ∈ sg, e.2 = 0
end G

set_option Elab.async false
set_option linter.all false
set_option maxRecDepth 100000
set_option maxHeartbeats 4000000
namespace L2
open PySem PySem.Spec PyProof.Rows
theorem Same.own {H H' : Hp} {p : Addr} {o : HO} (a : Same H H') (h : H p = none) : Same H (upd H' p o) := fun b u e => by
  rw [upd_ne (ne_of_none e h)]
  exact a b u e
end L2
namespace G
open PySem PySem.Spec PyProof.Rows L2
section
variable {K : PySem.W.Frag} {σ : L2.St} {H H' : Hp} {ta tb te : TE} {t : TT} {d e : PyData} {D : Ends} {i j p : Nat} {us : List V} {v : V} {ds : List PyData}
/-! ### loops -/
theorem s_while {tb : TS} {W : Nat → L2.St → Hp → Prop} {m0 : Nat} (h0 : W m0 σ H) (turn : ∀ m σ' H', W m σ' H' → ∃ b, EvT t σ' H' b ∧ ∀ H1, Same H' H1 →
    (b = true → tb { D with nx := fun σ2 H2 => ∃ m', m' < m ∧ W m' σ2 H2, ct := fun σ2 H2 => ∃ m', m' < m ∧ W m' σ2 H2, bk := D.nx } σ' H1) ∧ (b = false → D.nx σ' H1)) : tWhile t tb D σ H :=
  ⟨W, ⟨m0, h0⟩, fun m σ' H' w => by
    obtain ⟨b, ht, h⟩ := turn m σ' H' w
    refine ht H' (Same.refl H') _ fun H1 s1 => ?_
    cases b with
    | true => exact iteT ⟨_, fun _ _ n => n, (h H1 s1).1 rfl⟩
    | false => exact iteF ((h H1 s1).2 rfl)⟩
/-! ### two names at once -/
theorem s_par {t1 t2 : TE} {d1 d2 : PyData} (h1 : EvD K t1 σ H d1) (h2 : EvD K t2 σ H d2) (q : ∀ v w H', Same H H' → Dp K H' v d1 → Dp K H' w d2 → D.nx ((σ.set i (some v)).set j (some w)) H') : tPar i j (tCons t1 (tCons t2 tNil)) D σ H :=
  (ea_cons h1 (ea_cons h2 ea_nil)) H (Same.refl H) _ fun vs H' s hv => by
    cases hv with
    | cons a r =>
      cases r with
      | cons b r => cases r; exact ⟨_, _, rfl, q _ _ H' s a b⟩
theorem s_parN {t1 t2 : TE} {d2 : PyData} (h1 : EvN K t1 σ H ds) (h2 : EvD K t2 σ H d2) (q : ∀ p vs w H', Same H H' → H p = none → H' p = some (.lst vs) → DpAll K H' vs ds → Dp K H' w d2 → D.nx ((σ.set i (some (.ref p))).set j (some w)) H') : tPar i j (tCons t1 (tCons t2 tNil)) D σ H :=
  h1 H (Same.refl H) _ fun p vs H1 s1 hn hp hv => h2 H1 s1 _ fun w H2 s2 hw => ⟨_, _, rfl, q p vs w H2 (s1.trans s2) hn (s2 _ _ hp) (dps_same s2 _ _ hv) hw⟩
theorem s_parNN {t1 t2 : TE} {es : List PyData} (h1 : EvN K t1 σ H ds) (h2 : EvN K t2 σ H es) (q : ∀ p vs r ws H', Same H H' → H p = none → H' p = some (.lst vs) → DpAll K H' vs ds → H r = none → r ≠ p → H' r = some (.lst ws) → DpAll K H' ws es → D.nx ((σ.set i (some (.ref p))).set j (some (.ref r))) H') : tPar i j (tCons t1 (tCons t2 tNil)) D σ H :=
  h1 H (Same.refl H) _ fun p vs H1 s1 hn hp hv => h2 H1 s1 _ fun r ws H2 s2 hr hp2 hw => ⟨_, _, rfl, q p vs r ws H2 (s1.trans s2) hn (s2 _ _ hp) (dps_same s2 _ _ hv) (back s1 hr) (fun z => by rw [z, hp] at hr; cases hr) hp2 hw⟩
/-! ### a list at a name -/
theorem lst_ty {q : Addr} (h : H q = some (.lst us)) : tyV K "list" (.ref q) H := .inl ⟨rfl, us, sq_of h⟩
/-- x.pop() -/
theorem x_pop {q : Addr} {Q : VK} (hv : σ[i]? = some (some (.ref q))) (hq : H q = some (.lst (us ++ [v]))) (k : Q v (upd H q (.lst us))) : tBM0 K "list" rPop (tVar i) σ H Q :=
  ⟨_, hv, lst_ty hq, q, us ++ [v], v, rfl, rfl, hq, last_at us v, by rw [init_of]; exact k⟩
/-- x.append(..) -/
theorem s_append {q : Addr} (hv : σ[i]? = some (some (.ref q))) (hq : H q = some (.lst us)) (he : EvD K te σ H d) (hl : us.length < 100000) (k : ∀ v H', Same H H' → H' q = some (.lst us) → Dp K H' v d → D.nx σ (upd H' q (.lst (us ++ [v])))) :
    tDrop (tBM K "list" rAppend (tVar i) (tCons te tNil)) D σ H :=
  ⟨_, hv, lst_ty hq, he H (Same.refl H) _ fun v H' s hd => ⟨q, us, v, rfl, rfl, s _ _ hq, sz_lt hl, k v H' s (s _ _ hq) hd⟩⟩
/-- x.extend(a new list) -/
theorem s_extend {q : Addr} (hv : σ[i]? = some (some (.ref q))) (hq : H q = some (.lst us)) (he : EvN K te σ H ds) (hl : us.length + ds.length ≤ 100000) (k : ∀ vs H', Same H H' → H' q = some (.lst us) → DpAll K H' vs ds → D.nx σ (upd H' q (.lst (us ++ vs)))) :
    tDrop (tBM K "list" rExtend (tVar i) (tCons te tNil)) D σ H :=
  ⟨_, hv, lst_ty hq, he H (Same.refl H) _ fun p vs H' s hp hpl hd => ⟨q, p, us, vs, rfl, rfl, s _ _ hq, hpl, sz_of (by rw [hd.len]; exact hl), k vs H' s (s _ _ hq) hd⟩⟩
/-- what stands at a name -/
theorem ed_lstV {q : Addr} (hv : σ[i]? = some (some (.ref q))) (hq : H q = some (.lst us)) (hd : DpAll K H us ds) : EvD K (tVar i) σ H (.list ds) := ed_var (.lst (sq_of hq) hd) hv
theorem s_aug {n k : Int} (hv : σ[i]? = some (some (.int n))) (he : EvD K te σ H (.int k)) (q : ∀ H', Same H H' → D.nx (σ.set i (some (.int (n + k)))) H') : tAug i te (ipI fun i j => i + j) D σ H :=
  ⟨_, hv, he H (Same.refl H) _ fun v H' s hd => ⟨n, k, rfl, dpI hd, q H' s⟩⟩
theorem s_drop (h : EvD K te σ H d) (q : ∀ H', Same H H' → D.nx σ H') : tDrop te D σ H := h H (Same.refl H) _ fun _ H' s _ => q H' s
/-! ### a tuple without its first -/
theorem cut1 (v : V) (vs : List V) : cutV (v :: vs) (some 1) none = vs := by
  unfold cutV
  rw [HT.sIx_none, show ((some 1 : Option Int)) = some ((1 : Nat) : Int) from rfl, HT.sIx_nat]
  simp
theorem ed_tail {x : PyData} (h : EvD K ta σ H (.tuple (x :: ds))) : EvD K (tSl (rSlA K) ta (tPart (tC (.int 1))) tNoPart) σ H (.tuple ds) := fun H1 s Q q =>
  h H1 s _ fun v H2 s2 hv => by
    obtain ⟨a, xs, rfl, hs, hvs⟩ := dp_tup hv
    cases hvs with
    | cons h1 h2 =>
      rename_i w ws
      refine ⟨1, rfl, a, w :: ws, rfl, hs, fun z => ?_, fun _ p hp => ?_⟩
      · have := z.1
        rw [show ((some 1 : Option Int)) = some ((1 : Nat) : Int) from rfl, HT.sIx_nat] at this
        simp at this
      · rw [cut1]
        exact q _ _ (s2.new hp) (.tup (st_of upd_same) (dps_same ((Same.refl H2).new hp) _ _ h2))
end
end G

set_option Elab.async false
set_option linter.all false
set_option maxRecDepth 100000
set_option maxHeartbeats 4000000
namespace G
open PySem PySem.Spec PyProof.Rows L2
/-! ### words of a text, in plain Lean -/
abbrev S (l : List Nat) : Str := ⟨l.toArray⟩
theorem S_tl (x : Str) : S x.cps.toList = x := rfl
theorem S_len (a : List Nat) : (S a).length = a.length := by simp [S, Str.length]
theorem S_inj {a b : List Nat} (h : S a = S b) : a = b := congrArg (fun x : Str => x.cps.toList) h
theorem S_cat (a b : List Nat) : S a ++ S b = S (a ++ b) := SX.S_cat a b
def isBl (c : Nat) : Bool := decide (c ∈ [32, 10])
/-- how many signs of a run stand at the head -/
def runN : List Nat → Nat
  | [] => 0
  | c :: r => if isRun c then runN r + 1 else 0
def arrow (c : Nat) (r : List Nat) : Bool := decide (c = 45) && decide (r.head? = some 62)
/-- the length of the word c.. with r behind c -/
def tok (c : Nat) (r : List Nat) : Nat := if isRun c then runN r + 1 else if arrow c r then 2 else 1
def wordsF : Nat → Nat → List Nat → List (List Nat × Nat)
  | 0, _, _ => []
  | _ + 1, _, [] => []
  | f + 1, at_, c :: r => let rest := wordsF f (at_ + tok c r) ((c :: r).drop (tok c r)); if isBl c then rest else ((c :: r).take (tok c r), at_) :: rest
def wordsOf (l : List Nat) : List (List Nat × Nat) := wordsF l.length 0 l
theorem tok_pos (c : Nat) (r : List Nat) : 1 ≤ tok c r := by
  unfold tok
  split
  · omega
  · split <;> omega
theorem runN_le : ∀ l, runN l ≤ l.length
  | [] => Nat.le_refl _
  | c :: r => by
    unfold runN
    split
    · have := runN_le r; simp; omega
    · simp
theorem tok_le (c : Nat) (r : List Nat) : tok c r ≤ r.length + 1 := by
  unfold tok
  split
  · have := runN_le r; omega
  · split
    · rename_i h
      cases r with
      | nil => simp [arrow] at h
      | cons a b => simp
    · omega
theorem wordsF_more : ∀ (f g at_ : Nat) (l : List Nat), l.length ≤ f → l.length ≤ g → wordsF f at_ l = wordsF g at_ l
  | 0, 0, _, _, _, _ => rfl
  | 0, g + 1, _, [], _, _ => rfl
  | 0, _ + 1, _, _ :: _, h, _ => by simp at h
  | f + 1, 0, _, [], _, _ => rfl
  | _ + 1, 0, _, _ :: _, _, h => by simp at h
  | f + 1, g + 1, _, [], _, _ => rfl
  | f + 1, g + 1, at_, c :: r, hf, hg => by
    have := tok_pos c r
    have h := wordsF_more f g (at_ + tok c r) ((c :: r).drop (tok c r)) (by simp at hf ⊢; omega) (by simp at hg ⊢; omega)
    simp only [wordsF, h]
theorem wordsF_len : ∀ (f at_ : Nat) (l : List Nat), (wordsF f at_ l).length ≤ l.length
  | 0, _, _ => by simp [wordsF]
  | _ + 1, _, [] => by simp [wordsF]
  | f + 1, at_, c :: r => by
    have := tok_pos c r
    have h := wordsF_len f (at_ + tok c r) ((c :: r).drop (tok c r))
    have h2 : ((c :: r).drop (tok c r)).length ≤ r.length := by simp; omega
    simp only [wordsF]
    split
    · simp; omega
    · simp; omega
/-- the text cs has the words ws -/
inductive Toks : List (List Nat) → List Nat → Prop
  | nil : Toks [] []
  | blank {c : Nat} {ws : List (List Nat)} {cs : List Nat} (hc : isBl c = true) (h : Toks ws cs) : Toks ws (c :: cs)
  | run {c : Nat} {w : List Nat} {ws : List (List Nat)} {cs : List Nat} (hc : isRun c = true) (hw : w.all isRun = true) (hn : ∀ d, cs.head? = some d → isRun d = false) (h : Toks ws cs) : Toks ((c :: w) :: ws) ((c :: w) ++ cs)
  | sign {c : Nat} {ws : List (List Nat)} {cs : List Nat} (hc : isRun c = false) (hb : isBl c = false) (ha : arrow c cs = false) (h : Toks ws cs) : Toks ([c] :: ws) (c :: cs)
  | arrow {ws : List (List Nat)} {cs : List Nat} (h : Toks ws cs) : Toks ([45, 62] :: ws) (45 :: 62 :: cs)
theorem runN_app : ∀ (w cs : List Nat), w.all isRun = true → (∀ d, cs.head? = some d → isRun d = false) → runN (w ++ cs) = w.length
  | [], [], _, _ => rfl
  | [], c :: cs, _, h => by simp [runN, h c rfl]
  | a :: w, cs, hw, h => by
    have hw : isRun a = true ∧ w.all isRun = true := by simpa using hw
    simp [runN, hw.1, runN_app w cs hw.2 h]
theorem blank_not_run {c : Nat} (h : isBl c = true) : isRun c = false := by
  have : c = 32 ∨ c = 10 := by simpa [isBl] using h
  rcases this with rfl | rfl <;> decide +kernel
theorem run_not_blank {c : Nat} (h : isRun c = true) : isBl c = false := by
  cases e : isBl c with
  | false => rfl
  | true => rw [blank_not_run e] at h; cases h
theorem Toks.words {ws : List (List Nat)} {cs : List Nat} (h : Toks ws cs) : ∀ (f at_ : Nat), cs.length ≤ f → (wordsF f at_ cs).map (·.1) = ws := by
  induction h with
  | nil => intro f at_ _; cases f <;> rfl
  | @blank c ws cs hc h ih =>
    intro f at_ hf
    cases f with
    | zero => simp at hf
    | succ f =>
      have ht : tok c cs = 1 := by
        have : c = 32 ∨ c = 10 := by simpa [isBl] using hc
        unfold tok
        rw [blank_not_run hc]
        rcases this with rfl | rfl <;> simp [G.arrow]
      simp only [wordsF, hc, if_true, ht, List.drop_one, List.tail_cons]
      exact ih f _ (by simp at hf; omega)
  | @run c w ws cs hc hw hn h ih =>
    intro f at_ hf
    cases f with
    | zero => simp at hf
    | succ f =>
      have ht : tok c (w ++ cs) = w.length + 1 := by unfold tok; rw [hc, if_pos rfl, runN_app w cs hw hn]
      have hd : (c :: (w ++ cs)).drop (w.length + 1) = cs := by simp
      have htk : (c :: (w ++ cs)).take (w.length + 1) = c :: w := by simp
      simp only [List.cons_append, wordsF, run_not_blank hc, ht, hd, htk]
      simp
      exact ih f _ (by simp at hf; omega)
  | @sign c ws cs hc hb ha h ih =>
    intro f at_ hf
    cases f with
    | zero => simp at hf
    | succ f =>
      have ht : tok c cs = 1 := by unfold tok; rw [hc, ha]; rfl
      simp only [wordsF, hb, ht, List.drop_one, List.tail_cons]
      simp
      exact ih f _ (by simp at hf; omega)
  | @arrow ws cs h ih =>
    intro f at_ hf
    cases f with
    | zero => simp at hf
    | succ f =>
      have h45 : isRun 45 = false := by decide +kernel
      have hb : isBl 45 = false := by decide +kernel
      have ht : tok 45 (62 :: cs) = 2 := by unfold tok; rw [h45]; rfl
      simp only [wordsF, hb, ht]
      simp
      exact ih f _ (by simp at hf; omega)
theorem Toks.words' {ws : List (List Nat)} {cs : List Nat} (h : Toks ws cs) : (wordsOf cs).map (·.1) = ws := h.words _ 0 (Nat.le_refl _)
/-! ### as data -/
def wordD (p : List Nat × Nat) : PyData := .tuple [.str (S p.1), .int (p.2 : Int)]
theorem wordD_tt (l : List (List Nat × Nat)) : tts (l.map wordD) = true := tts_of fun d hd => by
  obtain ⟨p, _, rfl⟩ := List.mem_map.mp hd
  rfl
theorem runsL : ("abcdefghijklmnopqrstuvwxyz0123456789" : Str).cps.toList = smallL ++ digL := by decide +kernel
theorem inRuns (c : Nat) : decide (c ∈ ("abcdefghijklmnopqrstuvwxyz0123456789" : Str).cps.toList) = isRun c := by
  rw [runsL]
  unfold isRun isSm isDg
  rw [← Bool.decide_or]
  simp [List.mem_append]
theorem inBlanks (c : Nat) : decide (c ∈ (" \n" : Str).cps.toList) = isBl c := by
  have : (" \n" : Str).cps.toList = [32, 10] := by decide +kernel
  rw [this]; rfl
/-- a part of a text -/
theorem cutS_nat (l : List Nat) (b e : Nat) (hb : b ≤ e) (he : e ≤ l.length) : cutS (S l) (some (b : Int)) (some (e : Int)) = S ((l.drop b).take (e - b)) := by
  unfold cutS
  rw [S_len, HT.sIx_nat, HT.sIx_nat, Nat.min_eq_left he, Nat.min_eq_left (Nat.le_trans hb he)]
/-- .. also behind its end -/
theorem cutS_over (l : List Nat) (b e : Nat) (hb : b ≤ l.length) : cutS (S l) (some (b : Int)) (some (e : Int)) = S ((l.drop b).take (e - b)) := by
  unfold cutS
  rw [S_len, HT.sIx_nat, HT.sIx_nat, Nat.min_eq_left hb]
  show S ((l.drop b).take (min e l.length - b)) = _
  congr 1
  by_cases h : e ≤ l.length
  · rw [Nat.min_eq_left h]
  · rw [Nat.min_eq_right (by omega), List.take_of_length_le (by simp), List.take_of_length_le (by simp; omega)]
section
variable {K : PySem.W.Frag} {σ : L2.St} {H H' : Hp} {ta tb te : TE}
theorem ed_cutS {l : List Nat} {b e : Nat} {tl th : TE} (h : EvD K ta σ H (.str (S l))) (h1 : EvD K tl σ H (.int (b : Int))) (h2 : EvD K th σ H (.int (e : Int))) (hl : l.length ≤ 100000) (hb : b ≤ l.length) :
    EvD K (tSl rSlS ta (tPart tl) (tPart th)) σ H (.str (S ((l.drop b).take (e - b)))) := fun H1 s Q q => h H1 s _ fun v H2 s2 hv => h1 H2 (s.trans s2) _ fun v1 H3 s3 hv1 => by
  refine ⟨_, dpI hv1, h2 H3 ((s.trans s2).trans s3) _ fun v2 H4 s4 hv2 => ⟨_, dpI hv2, S l, dpS hv, sz_of (by rw [S_len]; exact hl), ?_⟩⟩
  rw [cutS_over l b e hb]
  exact q _ _ ((s2.trans s3).trans s4) (.str _)
/-- a sign of a text -/
theorem ed_sign {l : List Nat} {i c : Nat} (ha : EvD K ta σ H (.str (S l))) (hb : EvD K tb σ H (.int (i : Int))) (hl : l.length ≤ 100000) (h : l[i]? = some c) : EvD K (tOp rIxS ta tb) σ H (.str ⟨#[c]⟩) :=
  ed_ixS ha hb (by rw [S_len]; exact hl) (atI_nat h)
end
end G

set_option Elab.async false
set_option linter.all false
set_option maxRecDepth 100000
set_option maxHeartbeats 4000000
namespace G
open PySem PySem.Spec PyProof.Rows L2
section
variable {P : Program} {w : World} {K : PySem.W.Frag} {mg : Str → Option Value} {base : Heap}
theorem least_of {ns : List Int} (h : ns ≠ []) : ∃ m ∈ ns, ∀ y ∈ ns, m ≤ y := by
  induction ns with
  | nil => exact absurd rfl h
  | cons a r ih =>
    by_cases hr : r = []
    · subst hr
      exact ⟨a, List.mem_cons_self, fun y hy => by simp at hy; omega⟩
    · obtain ⟨m, h1, h2⟩ := ih hr
      by_cases hle : a ≤ m
      · exact ⟨a, List.mem_cons_self, fun y hy => by
          rcases List.mem_cons.mp hy with rfl | hy
          · exact Int.le_refl _
          · exact Int.le_trans hle (h2 y hy)⟩
      · exact ⟨m, List.mem_cons_of_mem _ h1, fun y hy => by
          rcases List.mem_cons.mp hy with rfl | hy
          · omega
          · exact h2 y hy⟩
def Ris_signature : List PyData → PyData → Prop
  | [d], r => (d = .tuple [] ∧ r = .bool false) ∨ ∃ sg, SgLike sg ∧ d = sigD sg ∧ r = .bool (decide (∃ e ∈ sg, e.2 = 0))
  | _, _ => False
theorem sc_is_signature : FnScope ["thing", "entry", "name", "arity", "names"] ["thing"] (defScope s_is_signature) := ⟨rfl, rfl, rfl, by decide +kernel, rfl, by decide +kernel, by decide +kernel⟩
theorem ok_is_signature (T : Tx K mg)  : Cl P w K mg base CX0 3 "is_signature" ["thing"] (spD K Ris_signature) := by
  obtain ⟨fd, F⟩ := T.f_is_signature
  refine ⟨_, fd, T.g_is_signature, F.kp, F.bindsN fun _ _ _ _ _ _ us hl => match us, hl with | [_], _ => rfl, F.ok sc_is_signature (fun vs H Q E h => ?_) (fun cdv A outer s H vs Q E hr h => ?_)⟩
  · obtain ⟨ds, r, hd, hR, _⟩ := h
    match ds, hR with
    | [_], _ => exact hd.len
  · obtain ⟨ds, r, hd, hR, q⟩ := h
    match ds, vs, hd, hR with
    | [d0], [v0], .cons h0 .nil, hR =>
    refine ⟨_, PSs.nox (pss_cons (ps_if (PW.pt (pw_or (pt_not (pt_val (G.pe_cl (ok_is_row T) hr (by decide) pass0 (pa_cons (pv 0) (pa_cons pe_int (pa_cons (G.pe_ki (by rfl) T.c_MOST_SYMBOLS) pa_nil)))))) (pw_or1 (pt_not (pt_val (pe_callB (cr_all rfl) (by rfl) T.b_all PyProof.Rows.Boot.«all» (pa_cons (pe_lc (own := [("entry", 1)]) (g := (gName 1)) rfl sc_is_signature.nd (pi_tup (pv 0)) (blkOk_by (own := [("entry", 1)]) (N := ["thing", "entry", "name", "arity", "names"]) (sc := defScope s_is_signature) (by decide +kernel)) (fun _ _ _ _ _ => (pg_name (i := 1) sc_is_signature.nd rfl (by first | exact Or.inl rfl | exact Or.inr rfl))) (fun _ _ _ _ _ => pts_nil) (fun _ _ _ _ _ => (G.pe_cl (ok_is_row T) hr (by decide) pass0 (pa_cons (pv 1) (pa_cons pe_int (pa_cons pe_int pa_nil)))))) pa_nil))))))) (pss_one (ps_ret pe_bl)) pss_nil)
  (pss_cons (ps_if (pt_not (pt_val (pe_callB (cr_all rfl) (by rfl) T.b_all PyProof.Rows.Boot.«all» (pa_cons (pe_lc (own := [("name", 2), ("arity", 3)]) (g := (gTup K 2 (gCons (gName 2) (gCons (gName 3) gNil)))) rfl sc_is_signature.nd (pi_tup (pv 0)) (blkOk_by (own := [("name", 2), ("arity", 3)]) (N := ["thing", "entry", "name", "arity", "names"]) (sc := defScope s_is_signature) (by decide +kernel)) (fun _ _ _ _ _ => (pg_tup rfl (pgs_cons (pg_name (i := 2) sc_is_signature.nd rfl (by first | exact Or.inl rfl | exact Or.inr rfl)) (pgs_cons (pg_name (i := 3) sc_is_signature.nd rfl (by first | exact Or.inl rfl | exact Or.inr rfl)) pgs_nil)))) (fun _ _ _ _ _ => pts_nil) (fun _ _ _ _ _ => (pe_and (G.pe_cl (ok_is_low_name T) hr (by decide) pass0 (pa_cons (pv 2) pa_nil)) (pe_one (G.pe_cl (ok_within T) hr (by decide) pass0 (pa_cons (pv 3) (pa_cons pe_int (pa_cons (G.pe_ki (by rfl) T.c_MOST_ARITY) pa_nil)))))))) pa_nil)))) (pss_one (ps_ret pe_bl)) pss_nil)
  (pss_cons (ps_setLc (i := 4) (own := [("name", 2), ("arity", 3)]) (g := (gTup K 2 (gCons (gName 2) (gCons (gName 3) gNil)))) rfl sc_is_signature.nd rfl rfl (sw_true rfl rfl rfl (by decide +kernel)) (pi_tup (pv 0)) (blkOk_by (own := [("name", 2), ("arity", 3)]) (N := ["thing", "entry", "name", "arity", "names"]) (sc := defScope s_is_signature) (by decide +kernel)) (fun _ _ _ _ _ => (pg_tup rfl (pgs_cons (pg_name (i := 2) sc_is_signature.nd rfl (by first | exact Or.inl rfl | exact Or.inr rfl)) (pgs_cons (pg_name (i := 3) sc_is_signature.nd rfl (by first | exact Or.inl rfl | exact Or.inr rfl)) pgs_nil)))) (fun _ _ _ _ _ => pts_nil) (fun _ _ _ _ _ => (pv 2)))
  (pss_one (ps_ret (pe_and (pe_cmpR op_eq (G.pe_lenSetD rfl (G.hu70 hr) (by rfl) T.b_len (by rfl) T.b_set (pv 4)) (pe_callB call_len_seq (by rfl) T.b_len PyProof.Rows.Boot.«len» (pa_cons (pv 4) pa_nil)) (nomark _)) (pe_one (pe_cmpR op_eq (pe_callB (cr_min rfl) (by rfl) T.b_min PyProof.Rows.Boot.«min» (pa_cons (pe_lc (own := [("name", 2), ("arity", 3)]) (g := (gTup K 2 (gCons (gName 2) (gCons (gName 3) gNil)))) rfl sc_is_signature.nd (pi_tup (pv 0)) (blkOk_by (own := [("name", 2), ("arity", 3)]) (N := ["thing", "entry", "name", "arity", "names"]) (sc := defScope s_is_signature) (by decide +kernel)) (fun _ _ _ _ _ => (pg_tup rfl (pgs_cons (pg_name (i := 2) sc_is_signature.nd rfl (by first | exact Or.inl rfl | exact Or.inr rfl)) (pgs_cons (pg_name (i := 3) sc_is_signature.nd rfl (by first | exact Or.inl rfl | exact Or.inr rfl)) pgs_nil)))) (fun _ _ _ _ _ => pts_nil) (fun _ _ _ _ _ => (pv 3))) pa_nil)) pe_int (nomark _))))))))), ?_⟩
    rcases hR with ⟨rfl, rfl⟩ | ⟨sg, hs, rfl, rfl⟩
    · exact s_ifT (et_orT (et_not (et_test (ed_call (ea_cons (ed_var h0) (ea_cons ed_i (ea_cons ed_i ea_nil))) ⟨1, 12, rfl, rfl, rfl⟩))) rfl) rfl fun H' s => s_ret ed_b fun v H2 s2 hv => q v H2 (s.trans s2) hv
    · have hlen := hs.few
      have hne : 1 ≤ sg.length := List.length_pos_iff.mpr hs.ne
      have hsz : sg.length ≤ 100000 := by omega
      refine s_ifF (et_orF (et_not (et_test (ed_call (ea_cons (ed_var h0) (ea_cons ed_i (ea_cons ed_i ea_nil))) ⟨1, 12, rfl, rfl, rfl⟩))) ?_ (et_not (et_test (ed_allM sg entD (fun _ => true) (ei_tup (ed_var h0)) hsz fun a ha v H1 s hv W hW =>
        hW _ wipe_set1 ((ed_call (ea_cons (ed_var hv) (ea_cons ed_i (ea_cons ed_i ea_nil))) ⟨2, 2, rfl, rfl, rfl⟩).to (by rfl)))))) (by simp) fun Ha sa => ?_
      · show (!(decide ((1 : Int) ≤ ((sg.map entD).length : Int)) && decide (((sg.map entD).length : Int) ≤ 12))) = false
        rw [List.length_map]
        simp; omega
      have ha0 : Dp K Ha v0 (sigD sg) := dp_same sa _ _ h0
      have f1 : ∀ a ∈ sg, ∀ x, PyData.str a.1 = .str x → x.length ≤ 100000 := fun a ha x hx => by
        injection hx with hx
        rw [← hx]
        have := hs.short a ha
        omega
      have f3 : ∀ a ∈ sg, PyData.bool (isIn (.int (a.2 : Int)) 0 2) = .bool true := fun a ha => by
        have := hs.ar a ha
        show PyData.bool (decide ((0 : Int) ≤ (a.2 : Int)) && decide ((a.2 : Int) ≤ 2)) = _
        congr 1
        simp; omega
      refine s_ifF (et_not (et_test (ed_allM sg entD (fun _ => true) (ei_tup (ed_var ha0)) hsz fun a ha v H1 s hv W hW => g_pair hv fun w1 w2 h1 h2 => hW _ wipe_set2
        (ed_andT (ed_call (ea_cons (ed_var h1) ea_nil) ⟨f1 a ha, rfl⟩) (hs.low a ha) ((ed_call (ea_cons (ed_var h2) (ea_cons ed_i (ea_cons ed_i ea_nil))) ⟨0, 2, rfl, rfl, rfl⟩).to (f3 a ha)))))) (by simp) fun Hb sb => ?_
      have hb0 : Dp K Hb v0 (sigD sg) := dp_same sb _ _ ha0
      refine s_setN (K := K) (en_lcM sg entD (fun a => .str a.1) (ei_tup (ed_var hb0)) hsz (fun _ _ => rfl) fun a ha v H1 s hv W hW => g_pair hv fun w1 w2 h1 h2 => hW _ wipe_set2 (ed_var h1)) fun p vs Hc sc hp hps hvs => ?_
      have hc0 : Dp K Hc v0 (sigD sg) := dp_same sc _ _ hb0
      have hpd : Dp K Hc (.ref p) (.list (sg.map fun a => .str a.1)) := .lst (sq_of hps) hvs
      have sall : Same H Hc := (sa.trans sb).trans sc
      have hnd : (sg.map fun a => PyData.str a.1).Nodup := by
        have := List.Pairwise.map (S := fun a b : PyData => a ≠ b) PyData.str (fun a b (h : a ≠ b) e => h (by injection e)) hs.nd
        rwa [List.map_map] at this
      obtain ⟨m, hm1, hm2⟩ := least_of (ns := sg.map fun a => (a.2 : Int)) (by simpa using hs.ne)
      have hmd : decide (m = 0) = decide (∃ e ∈ sg, e.2 = 0) := by
        rw [decide_eq_decide]
        constructor
        · rintro rfl
          obtain ⟨e, he, h0⟩ := List.mem_map.mp hm1
          exact ⟨e, he, by simpa using h0⟩
        · rintro ⟨e, he, h0⟩
          have h1 := hm2 (e.2 : Int) (List.mem_map.mpr ⟨e, he, rfl⟩)
          obtain ⟨e2, he2, h2⟩ := List.mem_map.mp hm1
          have h2 : ((e2.2 : Nat) : Int) = m := h2
          omega
      refine s_ret (ed_andT (ed_eqI (ed_lenSet (ed_var hpd) (.inl ⟨sg.map (·.1), by rw [List.map_map]; rfl⟩) hnd (by simp; omega)) (ed_lenL (ed_var hpd))) (by simp) (ed_eqI (ed_min (ns := sg.map fun a => (a.2 : Int)) (by rw [List.map_map]; exact en_lcM sg entD (fun a => .int (a.2 : Int)) (ei_tup (ed_var hc0)) hsz (fun _ _ => rfl) fun a ha v H1 s hv W hW => g_pair hv fun w1 w2 h1 h2 => hW _ wipe_set2 (ed_var h2)) hm1 hm2) ed_i)) fun v H2 s2 hv => q v H2 (sall.trans s2) ?_
      rw [hmd] at hv
      exact hv
def Rneed_signature : List PyData → PyData → Prop
  | [d], r => (∃ sg, SgOk sg ∧ d = sigD sg) ∧ r = .none
  | _, _ => False
def Yneed_signature (K : PySem.W.Frag) : List PyData → Addr → Prop
  | [d], C => d = .tuple [] ∧ C = He.ga K "BadSignature"
  | _, _ => False
theorem sc_need_signature : FnScope ["signature"] ["signature"] (defScope s_need_signature) := ⟨rfl, rfl, rfl, by decide +kernel, rfl, by decide +kernel, by decide +kernel⟩
theorem ok_need_signature (T : Tx K mg)  : Cl P w K mg base (L2.CX P w) 4 "need_signature" ["signature"] (spX K Rneed_signature (Yneed_signature K)) := by
  obtain ⟨fd, F⟩ := T.f_need_signature
  refine ⟨_, fd, T.g_need_signature, F.kp, F.bindsN fun _ _ _ _ _ _ us hl => match us, hl with | [_], _ => rfl, F.ok sc_need_signature (fun vs H Q E h => ?_) (fun cdv A outer s H vs Q E hr h => ?_)⟩
  · obtain ⟨ds, hd, ⟨r, hR, _⟩ | ⟨C, hR, _⟩⟩ := h
    · match ds, hR with
      | [_], _ => exact hd.len
    · match ds, hR with
      | [_], _ => exact hd.len
  · refine ⟨_, (pss_one (ps_if (pt_not (pt_val (G.pe_cl (ok_is_signature T) hr (by decide) pass0 (pa_cons (pv 0) pa_nil)))) (pss_one (ps_raise rfl (takes_of rfl rfl rfl rfl) (pmk_own PySem.F.excBase_ValueError T.x_BadSignature.1 T.g_BadSignature T.x_BadSignature.2.1 (raises_own T.x_BadSignature.2.2.1 T.x_BadSignature.2.2.2) (by rfl)))) pss_nil)), ?_⟩
    obtain ⟨ds, hd, ⟨r, hR, q⟩ | ⟨C, hR, q⟩⟩ := h
    · match ds, vs, hd, hR with
      | [d0], [v0], .cons h0 .nil, hR =>
      obtain ⟨⟨sg, hs, rfl⟩, rfl⟩ := hR
      exact s_ifF (et_not (et_B (ed_call (ea_cons (ed_var h0) ea_nil) (.inr ⟨sg, hs.1, rfl, rfl⟩)))) (by simp [hs.2]) fun H' s => q _ _ s .non
    · match ds, vs, hd, hR with
      | [d0], [v0], .cons h0 .nil, hR =>
      obtain ⟨rfl, rfl⟩ := hR
      exact s_ifT (et_not (et_B (ed_call (ea_cons (ed_var h0) ea_nil) (.inl ⟨rfl, rfl⟩)))) rfl fun H' s => q _ s
end
end G


set_option Elab.async false
set_option linter.all false
set_option maxRecDepth 100000
set_option maxHeartbeats 4000000
namespace G
open PySem PySem.Spec PyProof.Rows L2
theorem sig_at {sg : Sg} {f n : Nat} {x : Str} (h : sg[f]? = some (x, n)) : atI (sg.map entD) (f : Int) = some (entD (x, n)) := atI_nat (by rw [List.getElem?_map, h]; rfl)
theorem at0 {d : PyData} {ds : List PyData} : atI (d :: ds) 0 = some d := atI_nat (j := 0) rfl
theorem at1 {d e : PyData} {ds : List PyData} : atI (d :: e :: ds) 1 = some e := atI_nat (j := 1) rfl
/-- an entry of the waiting list -/
def wentD (p : Tr × Nat) : PyData := .tuple [p.1.toD, .int (p.2 : Int)]
theorem wentD_tt (l : List (Tr × Nat)) : tts (l.map wentD) = true := tts_of fun d hd => by
  obtain ⟨p, _, rfl⟩ := List.mem_map.mp hd
  simp [wentD, tt, tts, Tr.toD_tt]
theorem wentD_sh (l : List (Tr × Nat)) (h : ∀ p ∈ l, p.1.dep ≤ 50) : SeqAt.shaped (.list (l.map wentD)) = true := shaped_list (n := 60) (fun d hd => by
  obtain ⟨p, hp, rfl⟩ := List.mem_map.mp hd
  have := Tr.toD_depth p.1
  have := h p hp
  refine ⟨by simp [wentD, PyData.canLay0, PyData.canLayAll0, Tr.toD_lay], ?_⟩
  simp [wentD, PyData.depth, PyData.depthAll]; omega) (by decide)
theorem len_le_sum : ∀ l : List (Tr × Nat), l.length ≤ (l.map (·.1.size)).sum
  | [] => by simp
  | a :: r => by have := a.1.size_pos; have := len_le_sum r; simp; omega
theorem sum_app (l k : List Nat) : (l ++ k).sum = l.sum + k.sum := by simp
section
variable {P : Program} {w : World} {K : PySem.W.Frag} {mg : Str → Option Value} {base : Heap}
def Ris_small_tree : List PyData → PyData → Prop
  | [s, d], r => ∃ sg, s = sigD sg ∧ sg.length ≤ 12 ∧ ((d = .none ∧ r = .bool false) ∨ ∃ t : Tr, d = t.toD ∧ t.ok sg ∧ t.size ≤ 1000 ∧ t.dep ≤ 50 ∧ r = .bool true)
  | _, _ => False
theorem sc_is_small_tree : FnScope ["signature", "thing", "waiting", "size", "part", "depth", "child"] ["signature", "thing"] (defScope s_is_small_tree) := ⟨rfl, rfl, rfl, by decide +kernel, rfl, by decide +kernel, by decide +kernel⟩
theorem ok_is_small_tree (T : Tx K mg)  : Cl P w K mg base CX0 3 "is_small_tree" ["signature", "thing"] (spD K Ris_small_tree) := by
  obtain ⟨fd, F⟩ := T.f_is_small_tree
  refine ⟨_, fd, T.g_is_small_tree, F.kp, F.bindsN fun _ _ _ _ _ _ us hl => match us, hl with | [_, _], _ => rfl, F.ok sc_is_small_tree (fun vs H Q E h => ?_) (fun cdv A outer s H vs Q E hr h => ?_)⟩
  · obtain ⟨ds, r, hd, hR, _⟩ := h
    match ds, hR with
    | [_, _], _ => exact hd.len
  · obtain ⟨ds, r, hd, hR, q⟩ := h
    match ds, vs, hd, hR with
    | [d0, d1], [v0, v1], .cons h0 (.cons h1 .nil), hR =>
    refine ⟨_, PSs.nox (pss_cons (ps_par (i := 2) (j := 3) rfl sc_is_small_tree.nd rfl rfl (by decide) rfl rfl (pa_cons (pe_lst (pa_cons (pe_tup (pa_cons (pv 1) (pa_cons pe_int pa_nil))) pa_nil)) (pa_cons pe_int pa_nil)) (by rfl))
  (pss_cons (ps_while PassesOwn.never (pt_cmpR (op_neD hr.units) (pv 2) (pe_lst pa_nil) (nomark _)) (pss_cons (ps_asg (pe_bm0 PySem.F.plainAttrs_list PySem.F.slot_list_pop PySem.F.type_list_pop mt_pop (pv 2)) (pg_tup rfl (pgs_cons (pg_name (i := 4) sc_is_small_tree.nd rfl (by first | exact Or.inl rfl | exact Or.inr rfl)) (pgs_cons (pg_name (i := 5) sc_is_small_tree.nd rfl (by first | exact Or.inl rfl | exact Or.inr rfl)) pgs_nil))))
  (pss_cons (ps_aug (i := 3) sc_is_small_tree.nd rfl (Or.inl rfl) pe_int ip_add)
  (pss_cons (ps_if (PW.pt (pw_or (pt_cmpR op_gt (pv 3) (G.pe_ki (by rfl) T.c_MOST_SIZE) (nomark _)) (pw_or (pt_cmpR op_gt (pv 5) (G.pe_ki (by rfl) T.c_MOST_DEPTH) (nomark _)) (pw_or (pt_not (pt_val (pe_callB call_isi (by rfl) T.b_isinstance PyProof.Rows.Boot.«isinstance» (pa_cons (pv 4) (pa_cons (pe_bltn (v := .ty "tuple") (by rfl) T.b_tuple PyProof.Rows.Boot.«tuple» rfl) pa_nil))))) (pw_or1 (pt_cmpR (op_eqD hr.units) (pv 4) (pe_tup pa_nil) (nomark _))))))) (pss_one (ps_ret pe_bl)) pss_nil)
  (pss_cons (ps_if (PW.pt (pw_or (pt_not (pt_val (G.pe_cl (ok_within T) hr (by decide) pass0 (pa_cons (pe_ix ix_tup (pv 4) pe_int (fun _ _ => rfl)) (pa_cons pe_int (pa_cons (pe_op op_sub (pe_callB call_len_seq (by rfl) T.b_len PyProof.Rows.Boot.«len» (pa_cons (pv 0) pa_nil)) pe_int) pa_nil)))))) (pw_or1 (pt_cmpR op_ne (pe_callB call_len_seq (by rfl) T.b_len PyProof.Rows.Boot.«len» (pa_cons (pv 4) pa_nil)) (pe_op op_add (pe_ix ix_tup (pe_ix ix_tup (pv 0) (pe_ix ix_tup (pv 4) pe_int (fun _ _ => rfl)) (fun _ _ => rfl)) pe_int (fun _ _ => rfl)) pe_int) (nomark _))))) (pss_one (ps_ret pe_bl)) pss_nil)
  (pss_one (ps_expr (pe_bm PySem.F.plainAttrs_list PySem.F.slot_list_extend PySem.F.type_list_extend mt_extend (pv 2) (pa_cons (pe_lc (own := [("child", 6)]) (g := (gName 6)) rfl sc_is_small_tree.nd (pi_tup (pe_slice sl_tupA (pv 4) (po_some pe_int) po_none)) (blkOk_by (own := [("child", 6)]) (N := ["signature", "thing", "waiting", "size", "part", "depth", "child"]) (sc := defScope s_is_small_tree) (by decide +kernel)) (fun _ _ _ _ _ => (pg_name (i := 6) sc_is_small_tree.nd rfl (by first | exact Or.inl rfl | exact Or.inr rfl))) (fun _ _ _ _ _ => pts_nil) (fun _ _ _ _ _ => (pe_tup (pa_cons (pv 6) (pa_cons (pe_op op_add (pv 5) pe_int) pa_nil))))) pa_nil)))))))))
  (pss_one (ps_ret pe_bl)))), ?_⟩
    obtain ⟨sg, rfl, hsg, hR⟩ := hR
    rcases hR with ⟨rfl, rfl⟩ | ⟨t, rfl, hok, hsz, hdp, rfl⟩
    · refine s_parN (K := K) (en_lst (ea_cons (ed_tup (ea_cons (ed_var h1) (ea_cons ed_i ea_nil)) (by decide)) ea_nil) (by decide)) ed_i fun W vs w H' s hn hp hvs hw => ?_
      obtain rfl := dpI hw
      cases hvs with
      | cons hv hr' =>
        cases hr'
        rename_i v
        refine s_while (W := fun m σ' H'' => σ' = [some v0, some v1, some (.ref W), some (.int 0), none, none, none] ∧ H'' = H') (m0 := 0) ⟨rfl, rfl⟩ ?_
        rintro m σ' H'' ⟨rfl, rfl⟩
        refine ⟨true, (et_test (ed_neD (ed_lstV rfl hp (.cons hv .nil)) (ed_ofN (en_lst ea_nil (by decide))) (by decide +kernel) shaped_nilL)).to (by rw [eqv_nilL]; rfl), fun H1 s1 => ⟨fun _ => ?_, fun z => nomatch z⟩⟩
        have hp1 := s1 _ _ hp
        refine x_pop (us := []) rfl hp1 (g_pair (dp_kt (Kt.rfl'.lst hp1) _ _ rfl (dp_same s1 _ _ hv)) fun v1' v2' h1' h2' => ?_)
        obtain rfl := dpI h2'
        have e1 := dpN h1'
        refine s_aug (K := K) rfl ed_i fun H2 s2 => ?_
        have sall : Same H H2 := ((s.trans s1).own hn).trans s2
        refine s_ifT (et_orF (et_test (K := K) (ed_gt (ed_vi rfl) ed_i)) rfl (et_orF (et_test (K := K) (ed_gt (ed_vi rfl) ed_i)) rfl (et_orT (et_not (et_B (ed_isi (ed_var (dp_same s2 _ _ h1')) (kit_T _)))) rfl))) rfl fun H3 s3 => ?_
        exact s_ret ed_b fun v H4 s4 hv => q v H4 ((sall.trans s3).trans s4) hv
    · refine s_parN (K := K) (en_lst (ea_cons (ed_tup (ea_cons (ed_var h1) (ea_cons ed_i ea_nil)) (by simp)) ea_nil) (by simp)) ed_i fun W vs w H' s hn hp hvs hw => ?_
      obtain rfl := dpI hw
      refine s_while (W := fun m σ' H'' => ∃ (l : List (Tr × Nat)) (vs : List V) (n : Nat) (x4 x5 x6 : Option V), σ' = [some v0, some v1, some (.ref W), some (.int (n : Int)), x4, x5, x6] ∧ Same H H'' ∧ H'' W = some (.lst vs) ∧ DpAll K H'' vs (l.map wentD) ∧
        (∀ p ∈ l, p.1.ok sg ∧ p.2 + p.1.dep ≤ 51 ∧ 1 ≤ p.2) ∧ n + (l.map (·.1.size)).sum ≤ 1000 ∧ m = (l.map (·.1.size)).sum) (m0 := t.size)
        ⟨[(t, 1)], vs, 0, none, none, none, rfl, s, hp, hvs, fun p hp => by simp at hp; subst hp; exact ⟨hok, by show 1 + t.dep ≤ 51; omega, Nat.le_refl _⟩, by simpa using hsz, by simp⟩ ?_
      rintro m σ' H1 ⟨l, us, n, x4, x5, x6, rfl, s1, hW, hus, hl, hn1, rfl⟩
      refine ⟨_, et_test (ed_neD (ed_lstV rfl hW hus) (ed_ofN (en_lst ea_nil (by decide))) (wentD_sh l fun p hp => by have := hl p hp; omega) shaped_nilL), fun H2 s2 => ⟨fun hb => ?_, fun hb => ?_⟩⟩
      · rw [eqv_nilL] at hb
        rcases List.eq_nil_or_concat l with rfl | ⟨l, ⟨t, d⟩, rfl⟩
        · exact nomatch hb
        obtain ⟨hok, htd, hd1⟩ := hl (t, d) (by simp)
        have htd : d + t.dep ≤ 51 := htd
        have hd1 : 1 ≤ d := hd1
        have hok : t.ok sg := hok
        rw [List.concat_eq_append, List.map_append] at hus
        obtain ⟨us, v, rfl, hus, hv⟩ := dps_last hus
        have hW2 := s2 _ _ hW
        have hk : Kt H2 (upd H2 W (.lst us)) := Kt.rfl'.lst hW2
        have kv := dp_kt hk _ _ (by simp [wentD, tt, tts, Tr.toD_tt]) (dp_same s2 _ _ hv)
        refine x_pop rfl hW2 (g_pair kv fun v1' v2' h1' h2' => ?_)
        obtain rfl := dpI h2'
        have sA : Same H (upd H2 W (.lst us)) := (s1.trans s2).own hn
        have husA := dps_kt hk _ _ (wentD_tt l) (dps_same s2 _ _ hus)
        refine s_aug (K := K) rfl ed_i fun H3 s3 => ?_
        have hW3 : H3 W = some (.lst us) := s3 _ _ upd_same
        have hus3 := dps_same s3 _ _ husA
        have hp3 : Dp K H3 v1' t.toD := dp_same s3 _ _ h1'
        have hsum : (((l.concat (t, d)).map (·.1.size)).sum) = (l.map (·.1.size)).sum + t.size := by simp
        rw [hsum] at hn1
        have := t.size_pos
        have := t.dep_pos
        have hdp50 : t.dep ≤ 50 := by omega
        have hsh : SeqAt.shaped t.toD = true := shaped_of t.toD_lay (by have := t.toD_depth; omega)
        have c1 : decide (((1000 : Int)) < ((n : Nat) : Int) + 1) = false := by simp; omega
        have c2 : decide (((60 : Int)) < ((d : Nat) : Int)) = false := by simp; omega
        have c3 : (!isT t.toD) = false := by rw [Tr.toD_eq]; rfl
        have c4 : PyData.eqv t.toD (.tuple []) = false := by rw [Tr.toD_eq, eqv_nilT]; rfl
        refine s_ifF (et_orF (et_test (K := K) (ed_gt (ed_vi rfl) ed_i)) c1 (et_orF (et_test (K := K) (ed_gt (ed_vi rfl) ed_i)) c2 (et_orF (et_not (et_B (ed_isi (ed_var hp3) (kit_T _)))) c3 (et_test (ed_eqD (ed_var hp3) (ed_tup ea_nil (by decide)) hsh shaped_nilT))))) c4 fun H4 s4 => ?_
        have hW4 := s4 _ _ hW3
        have sH4 : Same H H4 := (sA.trans s3).trans s4
        have hp4 : Dp K H4 v1' (.tuple (.int (t.hd : Int) :: t.kids.map Tr.toD)) := by
          rw [← Tr.toD_eq]
          exact dp_same s4 _ _ hp3
        have h04 : Dp K H4 v0 (sigD sg) := dp_same sH4 _ _ h0
        obtain ⟨x, hx⟩ := Tr.hd_at hok
        have hlt : t.hd < sg.length := (List.getElem?_eq_some_iff.mp hx).1
        have hI : isIn (.int (t.hd : Int)) 0 (((sg.map entD).length : Int) - 1) = true := by
          rw [List.length_map]
          simp [isIn]; omega
        refine s_ifF (et_orF (et_not (et_test (ed_call (ea_cons (ed_ixT (ed_var hp4) ed_i at0) (ea_cons ed_i (ea_cons (ed_sub (ed_lenT (ed_var h04)) ed_i) ea_nil))) ⟨_, _, rfl, rfl, rfl⟩))) (by rw [hI]; rfl)
          (et_test (ed_neI (ed_lenT (ed_var hp4)) (ed_add (ed_ixT (ed_ixT (ed_var h04) (ed_ixT (ed_var hp4) ed_i at0) (sig_at hx)) ed_i at1) ed_i)))) (by simp) fun H5 s5 => ?_
        have hW5 := s5 _ _ hW4
        have hp5 := dp_same s5 _ _ hp4
        have hk2 := t.kids_len
        have hul : us.length = l.length := by rw [hus.len, List.length_map]
        have hll : l.length ≤ 1000 := by
          have := len_le_sum l
          omega
        refine s_extend (K := K) rfl hW5 (en_lcM t.kids Tr.toD (fun c => wentD (c, d + 1)) (ei_tup (ed_tail (ed_var hp5))) (by omega) (fun c _ => by simp [wentD, tt, tts, Tr.toD_tt]) fun c hc v H6 s6 hv Wd hWd => hWd _ wipe_set1
          (ed_tup (ea_cons (ed_var hv) (ea_cons ((ed_add (ed_vi rfl) ed_i).to (by simp)) ea_nil)) (by simp))) (by simp; omega) fun ws H6 s6 hW6 hws => ?_
        have hk6 : Kt H6 (upd H6 W (.lst (us ++ ws))) := Kt.rfl'.lst hW6
        have hus6 := dps_same ((s4.trans s5).trans s6) _ _ hus3
        have hlist : l.map wentD ++ t.kids.map (fun c => wentD (c, d + 1)) = (l ++ t.kids.map fun c => (c, d + 1)).map wentD := by
          rw [List.map_append, List.map_map]; rfl
        have hsz2 := t.size_eq
        have hsum2 : ((l ++ t.kids.map fun c => (c, d + 1)).map (fun p : Tr × Nat => p.1.size)).sum = (l.map (·.1.size)).sum + (t.kids.map Tr.size).sum := by
          rw [List.map_append, sum_app, List.map_map]; rfl
        refine ⟨_, ?_, l ++ t.kids.map fun c => (c, d + 1), us ++ ws, n + 1, some v1', some (.int (d : Int)), x6, rfl, ((sH4.trans s5).trans s6).own hn, upd_same, ?_, ?_, ?_, rfl⟩
        · rw [hsum2, hsum]; omega
        · rw [← hlist]
          exact dps_kt hk6 _ _ (by rw [hlist]; exact wentD_tt _) (dps_app hus6 hws)
        · intro p hp
          rcases List.mem_append.mp hp with hp | hp
          · exact hl p (by simp [hp])
          · obtain ⟨c, hc, rfl⟩ := List.mem_map.mp hp
            have := Tr.kid_dep hc
            exact ⟨Tr.kid_ok hok hc, by show d + 1 + c.dep ≤ 51; omega, by show 1 ≤ d + 1; omega⟩
        · rw [hsum2]; omega
      · dsimp only
        refine s_ret (K := K) ed_b ?_
        exact fun v H4 s4 hv => q v H4 ((s1.trans s2).trans s4) hv
end
end G


set_option Elab.async false
set_option linter.all false
set_option maxRecDepth 100000
set_option maxHeartbeats 4000000
namespace G
open PySem PySem.Spec PyProof.Rows L2
/-! ### small trees and rules -/
structure TrOk (sg : Sg) (t : Tr) : Prop where
  ok : t.ok sg
  size : t.size ≤ 40
  dep : t.dep ≤ 7
abbrev Rl := Tr × Tr
def rlD (p : Rl) : PyData := .tuple [p.1.toD, p.2.toD]
def rlsD (rs : List Rl) : PyData := .tuple (rs.map rlD)
structure RlsOk (sg : Sg) (rs : List Rl) : Prop where
  few : rs.length ≤ 30
  tr : ∀ p ∈ rs, TrOk sg p.1 ∧ TrOk sg p.2 ∧ p.1 ≠ p.2
  nd : rs.Nodup
theorem rlD_inj {p q : Rl} (h : rlD p = rlD q) : p = q := by
  obtain ⟨a, b⟩ := p
  obtain ⟨c, d⟩ := q
  injection h with h
  injection h with h1 h2
  injection h2 with h2 _
  exact Prod.ext (Tr.toD_inj h1) (Tr.toD_inj h2)
theorem TrOk.sh {sg : Sg} {t : Tr} (h : TrOk sg t) : SeqAt.shaped t.toD = true := shaped_of t.toD_lay (by have := t.toD_depth; have := h.dep; omega)
section
variable {P : Program} {w : World} {K : PySem.W.Frag} {mg : Str → Option Value} {base : Heap}
def Ris_tree : List PyData → PyData → Prop
  | [s, d], r => ∃ sg, s = sigD sg ∧ SgOk sg ∧ ((d = .none ∧ r = .bool false) ∨ ∃ t, TrOk sg t ∧ d = t.toD ∧ r = .bool true)
  | _, _ => False
def YSig2 (K : PySem.W.Frag) : List PyData → Addr → Prop
  | [d, _], C => d = .tuple [] ∧ C = He.ga K "BadSignature"
  | _, _ => False
theorem sc_is_tree : FnScope ["signature", "thing"] ["signature", "thing"] (defScope s_is_tree) := ⟨rfl, rfl, rfl, by decide +kernel, rfl, by decide +kernel, by decide +kernel⟩
theorem ok_is_tree (T : Tx K mg)  : Cl P w K mg base (L2.CX P w) 5 "is_tree" ["signature", "thing"] (spX K Ris_tree (YSig2 K)) := by
  obtain ⟨fd, F⟩ := T.f_is_tree
  refine ⟨_, fd, T.g_is_tree, F.kp, F.bindsN fun _ _ _ _ _ _ us hl => match us, hl with | [_, _], _ => rfl, F.ok sc_is_tree (fun vs H Q E h => ?_) (fun cdv A outer s H vs Q E hr h => ?_)⟩
  · obtain ⟨ds, hd, ⟨r, hR, _⟩ | ⟨C, hR, _⟩⟩ := h
    · match ds, hR with
      | [_, _], _ => exact hd.len
    · match ds, hR with
      | [_, _], _ => exact hd.len
  · refine ⟨_, (pss_cons (ps_expr (G.pe_cl (ok_need_signature T) hr (by decide) (passes_call (takes_of rfl rfl rfl rfl) (fun _ _ _ _ h => h)) (pa_cons (pv 0) pa_nil)))
  (pss_one (ps_ret (G.pe_cl (ok_is_small_tree T) hr (by decide) pass0 (pa_cons (pv 0) (pa_cons (pv 1) pa_nil)))))), ?_⟩
    obtain ⟨ds, hd, ⟨r, hR, q⟩ | ⟨C, hR, q⟩⟩ := h
    · match ds, vs, hd, hR with
      | [d0, d1], [v0, v1], .cons h0 (.cons h1 .nil), hR =>
      obtain ⟨sg, rfl, hs, hR⟩ := hR
      refine s_drop (K := K) (ed_callX (ea_cons (ed_var h0) ea_nil) ⟨⟨sg, hs, rfl⟩, rfl⟩) fun H' s => ?_
      have hf := hs.1.few
      rcases hR with ⟨rfl, rfl⟩ | ⟨t, ht, rfl, rfl⟩
      · exact s_ret (ed_call (ea_cons (ed_var (dp_same s _ _ h0)) (ea_cons (ed_var (dp_same s _ _ h1)) ea_nil)) ⟨sg, rfl, hf, .inl ⟨rfl, rfl⟩⟩) fun v H2 s2 hv => q v H2 (s.trans s2) hv
      · exact s_ret (ed_call (ea_cons (ed_var (dp_same s _ _ h0)) (ea_cons (ed_var (dp_same s _ _ h1)) ea_nil)) ⟨sg, rfl, hf, .inr ⟨t, rfl, ht.ok, by have := ht.size; omega, by have := ht.dep; omega, rfl⟩⟩) fun v H2 s2 hv => q v H2 (s.trans s2) hv
    · match ds, vs, hd, hR with
      | [d0, d1], [v0, v1], .cons h0 (.cons h1 .nil), hR =>
      obtain ⟨rfl, rfl⟩ := hR
      exact er_callX (ea_cons (ed_var h0) ea_nil) ⟨rfl, rfl⟩ q
def Rneed_tree : List PyData → PyData → Prop
  | [s, d], r => ∃ sg, s = sigD sg ∧ SgOk sg ∧ r = .none ∧ ∃ t, TrOk sg t ∧ d = t.toD
  | _, _ => False
def Yneed_tree (K : PySem.W.Frag) : List PyData → Addr → Prop
  | [d, e], C => (d = .tuple [] ∧ C = He.ga K "BadSignature") ∨ (e = .none ∧ C = He.ga K "BadTree" ∧ ∃ sg, SgOk sg ∧ d = sigD sg)
  | _, _ => False
theorem sc_need_tree : FnScope ["signature", "tree"] ["signature", "tree"] (defScope s_need_tree) := ⟨rfl, rfl, rfl, by decide +kernel, rfl, by decide +kernel, by decide +kernel⟩
theorem ok_need_tree (T : Tx K mg)  : Cl P w K mg base (L2.CX P w) 6 "need_tree" ["signature", "tree"] (spX K Rneed_tree (Yneed_tree K)) := by
  obtain ⟨fd, F⟩ := T.f_need_tree
  refine ⟨_, fd, T.g_need_tree, F.kp, F.bindsN fun _ _ _ _ _ _ us hl => match us, hl with | [_, _], _ => rfl, F.ok sc_need_tree (fun vs H Q E h => ?_) (fun cdv A outer s H vs Q E hr h => ?_)⟩
  · obtain ⟨ds, hd, ⟨r, hR, _⟩ | ⟨C, hR, _⟩⟩ := h
    · match ds, hR with
      | [_, _], _ => exact hd.len
    · match ds, hR with
      | [_, _], _ => exact hd.len
  · refine ⟨_, (pss_one (ps_if (pt_not (pt_val (G.pe_cl (ok_is_tree T) hr (by decide) (passes_call (takes_of rfl rfl rfl rfl) (fun _ _ _ _ h => h)) (pa_cons (pv 0) (pa_cons (pv 1) pa_nil))))) (pss_one (ps_raise rfl (takes_of rfl rfl rfl rfl) (pmk_own PySem.F.excBase_ValueError T.x_BadTree.1 T.g_BadTree T.x_BadTree.2.1 (raises_own T.x_BadTree.2.2.1 T.x_BadTree.2.2.2) (by rfl)))) pss_nil)), ?_⟩
    obtain ⟨ds, hd, ⟨r, hR, q⟩ | ⟨C, hR, q⟩⟩ := h
    · match ds, vs, hd, hR with
      | [d0, d1], [v0, v1], .cons h0 (.cons h1 .nil), hR =>
      obtain ⟨sg, rfl, hs, rfl, t, ht, rfl⟩ := hR
      exact s_ifF (et_not (et_B (ed_callX (ea_cons (ed_var h0) (ea_cons (ed_var h1) ea_nil)) ⟨sg, rfl, hs, .inr ⟨t, ht, rfl, rfl⟩⟩))) rfl fun H' s => q _ _ s .non
    · match ds, vs, hd, hR with
      | [d0, d1], [v0, v1], .cons h0 (.cons h1 .nil), hR =>
      rcases hR with ⟨rfl, rfl⟩ | ⟨rfl, rfl, sg, hs, rfl⟩
      · exact er_callX (ea_cons (ed_var h0) (ea_cons (ed_var h1) ea_nil)) ⟨rfl, rfl⟩ q
      · exact s_ifT (et_not (et_B (ed_callX (ea_cons (ed_var h0) (ea_cons (ed_var h1) ea_nil)) ⟨sg, rfl, hs, .inl ⟨rfl, rfl⟩⟩))) rfl fun H' s => q _ s
def Ris_rule : List PyData → PyData → Prop
  | [s, d], r => ∃ sg p, s = sigD sg ∧ sg.length ≤ 12 ∧ d = rlD p ∧ TrOk sg p.1 ∧ TrOk sg p.2 ∧ p.1 ≠ p.2 ∧ r = .bool true
  | _, _ => False
theorem sc_is_rule : FnScope ["signature", "thing", "side"] ["signature", "thing"] (defScope s_is_rule) := ⟨rfl, rfl, rfl, by decide +kernel, rfl, by decide +kernel, by decide +kernel⟩
theorem ok_is_rule (T : Tx K mg)  : Cl P w K mg base CX0 4 "is_rule" ["signature", "thing"] (spD K Ris_rule) := by
  obtain ⟨fd, F⟩ := T.f_is_rule
  refine ⟨_, fd, T.g_is_rule, F.kp, F.bindsN fun _ _ _ _ _ _ us hl => match us, hl with | [_, _], _ => rfl, F.ok sc_is_rule (fun vs H Q E h => ?_) (fun cdv A outer s H vs Q E hr h => ?_)⟩
  · obtain ⟨ds, r, hd, hR, _⟩ := h
    match ds, hR with
    | [_, _], _ => exact hd.len
  · obtain ⟨ds, r, hd, hR, q⟩ := h
    match ds, vs, hd, hR with
    | [d0, d1], [v0, v1], .cons h0 (.cons h1 .nil), hR =>
    refine ⟨_, PSs.nox (pss_one (ps_ret (pe_and (G.pe_cl (ok_is_row T) hr (by decide) pass0 (pa_cons (pv 1) (pa_cons pe_int (pa_cons pe_int pa_nil)))) (pe_and (pe_callB (cr_all rfl) (by rfl) T.b_all PyProof.Rows.Boot.«all» (pa_cons (pe_lc (own := [("side", 2)]) (g := (gName 2)) rfl sc_is_rule.nd (pi_tup (pv 1)) (blkOk_by (own := [("side", 2)]) (N := ["signature", "thing", "side"]) (sc := defScope s_is_rule) (by decide +kernel)) (fun _ _ _ _ _ => (pg_name (i := 2) sc_is_rule.nd rfl (by first | exact Or.inl rfl | exact Or.inr rfl))) (fun _ _ _ _ _ => pts_nil) (fun _ _ _ _ _ => (G.pe_cl (ok_is_small_tree T) hr (by decide) pass0 (pa_cons (pv 0) (pa_cons (pv 2) pa_nil))))) pa_nil)) (pe_one (pe_cmpR (op_neD hr.units) (pe_ix ix_tup (pv 1) pe_int (fun _ _ => rfl)) (pe_ix ix_tup (pv 1) pe_int (fun _ _ => rfl)) (nomark _))))))), ?_⟩
    obtain ⟨sg, ⟨a, b⟩, rfl, hf, rfl, ha, hb, hab, rfl⟩ := hR
    have ha : TrOk sg a := ha
    have hb : TrOk sg b := hb
    have e1 : rlD (a, b) = .tuple ([a, b].map Tr.toD) := rfl
    refine s_ret (ed_andT (ed_call (ea_cons (ed_var h1) (ea_cons ed_i (ea_cons ed_i ea_nil))) ⟨2, 2, rfl, rfl, rfl⟩) rfl (ed_andT (ed_allM [a, b] Tr.toD (fun _ => true) (ei_tup (ed_var h1)) (by simp) fun c hc v H1 s hv W hW => hW _ wipe_set1
      (ed_call (ea_cons (ed_var (dp_same s _ _ h0)) (ea_cons (ed_var hv) ea_nil)) ⟨sg, rfl, hf, .inr ⟨c, rfl, ?_, ?_, ?_, rfl⟩⟩)) rfl
      ((ed_neD (ed_ixT (ed_var h1) ed_i at0) (ed_ixT (ed_var h1) ed_i at1) ha.sh hb.sh).to ?_))) q
    · simp at hc
      rcases hc with rfl | rfl
      · exact ha.ok
      · exact hb.ok
    · simp at hc
      rcases hc with rfl | rfl
      · have := ha.size; omega
      · have := hb.size; omega
    · simp at hc
      rcases hc with rfl | rfl
      · have := ha.dep; omega
      · have := hb.dep; omega
    · cases e : PyData.eqv a.toD b.toD with
      | false => rfl
      | true => exact absurd (Tr.eqv_toD _ _ e) hab
def Rare_right_rules : List PyData → PyData → Prop
  | [s, d], r => ∃ sg, s = sigD sg ∧ sg.length ≤ 12 ∧ ((d = .none ∧ r = .bool false) ∨ ∃ rs, RlsOk sg rs ∧ d = rlsD rs ∧ r = .bool true)
  | _, _ => False
theorem sc_are_right_rules : FnScope ["signature", "thing", "rule"] ["signature", "thing"] (defScope s_are_right_rules) := ⟨rfl, rfl, rfl, by decide +kernel, rfl, by decide +kernel, by decide +kernel⟩
theorem ok_are_right_rules (T : Tx K mg)  : Cl P w K mg base CX0 5 "are_right_rules" ["signature", "thing"] (spD K Rare_right_rules) := by
  obtain ⟨fd, F⟩ := T.f_are_right_rules
  refine ⟨_, fd, T.g_are_right_rules, F.kp, F.bindsN fun _ _ _ _ _ _ us hl => match us, hl with | [_, _], _ => rfl, F.ok sc_are_right_rules (fun vs H Q E h => ?_) (fun cdv A outer s H vs Q E hr h => ?_)⟩
  · obtain ⟨ds, r, hd, hR, _⟩ := h
    match ds, hR with
    | [_, _], _ => exact hd.len
  · obtain ⟨ds, r, hd, hR, q⟩ := h
    match ds, vs, hd, hR with
    | [d0, d1], [v0, v1], .cons h0 (.cons h1 .nil), hR =>
    refine ⟨_, PSs.nox (pss_cons (ps_if (PW.pt (pw_or (pt_not (pt_val (G.pe_cl (ok_is_row T) hr (by decide) pass0 (pa_cons (pv 1) (pa_cons pe_int (pa_cons (G.pe_ki (by rfl) T.c_MOST_RULES) pa_nil)))))) (pw_or1 (pt_not (pt_val (pe_callB (cr_all rfl) (by rfl) T.b_all PyProof.Rows.Boot.«all» (pa_cons (pe_lc (own := [("rule", 2)]) (g := (gName 2)) rfl sc_are_right_rules.nd (pi_tup (pv 1)) (blkOk_by (own := [("rule", 2)]) (N := ["signature", "thing", "rule"]) (sc := defScope s_are_right_rules) (by decide +kernel)) (fun _ _ _ _ _ => (pg_name (i := 2) sc_are_right_rules.nd rfl (by first | exact Or.inl rfl | exact Or.inr rfl))) (fun _ _ _ _ _ => pts_nil) (fun _ _ _ _ _ => (G.pe_cl (ok_is_rule T) hr (by decide) pass0 (pa_cons (pv 0) (pa_cons (pv 2) pa_nil))))) pa_nil))))))) (pss_one (ps_ret pe_bl)) pss_nil)
  (pss_one (ps_ret (pe_cmpR op_eq (G.pe_lenSetD rfl (G.hu70 hr) (by rfl) T.b_len (by rfl) T.b_set (pv 1)) (pe_callB call_len_seq (by rfl) T.b_len PyProof.Rows.Boot.«len» (pa_cons (pv 1) pa_nil)) (nomark _))))), ?_⟩
    obtain ⟨sg, rfl, hf, ⟨rfl, rfl⟩ | ⟨rs, hrs, rfl, rfl⟩⟩ := hR
    · exact s_ifT (et_orT (et_not (et_test (ed_call (ea_cons (ed_var h1) (ea_cons ed_i (ea_cons ed_i ea_nil))) ⟨0, 30, rfl, rfl, rfl⟩))) rfl) rfl fun H' s => s_ret ed_b fun v H2 s2 hv => q v H2 (s.trans s2) hv
    · have hl := hrs.few
      have c1 : (!isRow (rlsD rs) 0 30) = false := by
        show (!(decide ((0 : Int) ≤ ((rs.map rlD).length : Int)) && decide (((rs.map rlD).length : Int) ≤ 30))) = false
        rw [List.length_map]
        simp; omega
      have hnd : (rs.map rlD).Nodup := List.Pairwise.map (S := fun a b : PyData => a ≠ b) rlD (fun a b (h : a ≠ b) e => h (rlD_inj e)) hrs.nd
      refine s_ifF (et_orF (et_not (et_test (ed_call (ea_cons (ed_var h1) (ea_cons ed_i (ea_cons ed_i ea_nil))) ⟨0, 30, rfl, rfl, rfl⟩))) c1 (et_not (et_test (ed_allM rs rlD (fun _ => true) (ei_tup (ed_var h1)) (by omega) fun p hp v H1 s hv W hW => hW _ wipe_set1
        (ed_call (ea_cons (ed_var (dp_same s _ _ h0)) (ea_cons (ed_var hv) ea_nil)) ⟨sg, p, rfl, hf, rfl, (hrs.tr p hp).1, (hrs.tr p hp).2.1, (hrs.tr p hp).2.2, rfl⟩))))) (by simp) fun H' s => ?_
      refine s_ret ((ed_eqI (ed_lenSetT (ed_var (dp_same s _ _ h1)) (.inr fun d hd => ?_) hnd (by simp; omega)) (ed_lenT (ed_var (dp_same s _ _ h1)))).to (by simp)) fun v H2 s2 hv => q v H2 (s.trans s2) hv
      obtain ⟨p, hp, rfl⟩ := List.mem_map.mp hd
      refine ⟨rfl, ?_⟩
      have k1 := p.1.toD_kd 7 (hrs.tr p hp).1.dep
      have k2 := p.2.toD_kd 7 (hrs.tr p hp).2.1.dep
      simp [rlD, kd, kds, k1, k2]
def Rare_rules : List PyData → PyData → Prop
  | [s, d], r => ∃ sg, s = sigD sg ∧ SgOk sg ∧ ((d = .none ∧ r = .bool false) ∨ ∃ rs, RlsOk sg rs ∧ d = rlsD rs ∧ r = .bool true)
  | _, _ => False
theorem sc_are_rules : FnScope ["signature", "thing"] ["signature", "thing"] (defScope s_are_rules) := ⟨rfl, rfl, rfl, by decide +kernel, rfl, by decide +kernel, by decide +kernel⟩
theorem ok_are_rules (T : Tx K mg)  : Cl P w K mg base (L2.CX P w) 6 "are_rules" ["signature", "thing"] (spX K Rare_rules (YSig2 K)) := by
  obtain ⟨fd, F⟩ := T.f_are_rules
  refine ⟨_, fd, T.g_are_rules, F.kp, F.bindsN fun _ _ _ _ _ _ us hl => match us, hl with | [_, _], _ => rfl, F.ok sc_are_rules (fun vs H Q E h => ?_) (fun cdv A outer s H vs Q E hr h => ?_)⟩
  · obtain ⟨ds, hd, ⟨r, hR, _⟩ | ⟨C, hR, _⟩⟩ := h
    · match ds, hR with
      | [_, _], _ => exact hd.len
    · match ds, hR with
      | [_, _], _ => exact hd.len
  · refine ⟨_, (pss_cons (ps_expr (G.pe_cl (ok_need_signature T) hr (by decide) (passes_call (takes_of rfl rfl rfl rfl) (fun _ _ _ _ h => h)) (pa_cons (pv 0) pa_nil)))
  (pss_one (ps_ret (G.pe_cl (ok_are_right_rules T) hr (by decide) pass0 (pa_cons (pv 0) (pa_cons (pv 1) pa_nil)))))), ?_⟩
    obtain ⟨ds, hd, ⟨r, hR, q⟩ | ⟨C, hR, q⟩⟩ := h
    · match ds, vs, hd, hR with
      | [d0, d1], [v0, v1], .cons h0 (.cons h1 .nil), hR =>
      obtain ⟨sg, rfl, hs, hR⟩ := hR
      refine s_drop (K := K) (ed_callX (ea_cons (ed_var h0) ea_nil) ⟨⟨sg, hs, rfl⟩, rfl⟩) fun H' s => ?_
      exact s_ret (ed_call (ea_cons (ed_var (dp_same s _ _ h0)) (ea_cons (ed_var (dp_same s _ _ h1)) ea_nil)) ⟨sg, rfl, hs.1.few, hR⟩) fun v H2 s2 hv => q v H2 (s.trans s2) hv
    · match ds, vs, hd, hR with
      | [d0, d1], [v0, v1], .cons h0 (.cons h1 .nil), hR =>
      obtain ⟨rfl, rfl⟩ := hR
      exact er_callX (ea_cons (ed_var h0) ea_nil) ⟨rfl, rfl⟩ q
def Rneed_rules : List PyData → PyData → Prop
  | [s, d], r => ∃ sg, s = sigD sg ∧ SgOk sg ∧ r = .none ∧ ∃ rs, RlsOk sg rs ∧ d = rlsD rs
  | _, _ => False
def Yneed_rules (K : PySem.W.Frag) : List PyData → Addr → Prop
  | [d, e], C => (d = .tuple [] ∧ C = He.ga K "BadSignature") ∨ (e = .none ∧ C = He.ga K "BadRules" ∧ ∃ sg, SgOk sg ∧ d = sigD sg)
  | _, _ => False
theorem sc_need_rules : FnScope ["signature", "rules"] ["signature", "rules"] (defScope s_need_rules) := ⟨rfl, rfl, rfl, by decide +kernel, rfl, by decide +kernel, by decide +kernel⟩
theorem ok_need_rules (T : Tx K mg)  : Cl P w K mg base (L2.CX P w) 7 "need_rules" ["signature", "rules"] (spX K Rneed_rules (Yneed_rules K)) := by
  obtain ⟨fd, F⟩ := T.f_need_rules
  refine ⟨_, fd, T.g_need_rules, F.kp, F.bindsN fun _ _ _ _ _ _ us hl => match us, hl with | [_, _], _ => rfl, F.ok sc_need_rules (fun vs H Q E h => ?_) (fun cdv A outer s H vs Q E hr h => ?_)⟩
  · obtain ⟨ds, hd, ⟨r, hR, _⟩ | ⟨C, hR, _⟩⟩ := h
    · match ds, hR with
      | [_, _], _ => exact hd.len
    · match ds, hR with
      | [_, _], _ => exact hd.len
  · refine ⟨_, (pss_one (ps_if (pt_not (pt_val (G.pe_cl (ok_are_rules T) hr (by decide) (passes_call (takes_of rfl rfl rfl rfl) (fun _ _ _ _ h => h)) (pa_cons (pv 0) (pa_cons (pv 1) pa_nil))))) (pss_one (ps_raise rfl (takes_of rfl rfl rfl rfl) (pmk_own PySem.F.excBase_ValueError T.x_BadRules.1 T.g_BadRules T.x_BadRules.2.1 (raises_own T.x_BadRules.2.2.1 T.x_BadRules.2.2.2) (by rfl)))) pss_nil)), ?_⟩
    obtain ⟨ds, hd, ⟨r, hR, q⟩ | ⟨C, hR, q⟩⟩ := h
    · match ds, vs, hd, hR with
      | [d0, d1], [v0, v1], .cons h0 (.cons h1 .nil), hR =>
      obtain ⟨sg, rfl, hs, rfl, t, ht, rfl⟩ := hR
      exact s_ifF (et_not (et_B (ed_callX (ea_cons (ed_var h0) (ea_cons (ed_var h1) ea_nil)) ⟨sg, rfl, hs, .inr ⟨t, ht, rfl, rfl⟩⟩))) rfl fun H' s => q _ _ s .non
    · match ds, vs, hd, hR with
      | [d0, d1], [v0, v1], .cons h0 (.cons h1 .nil), hR =>
      rcases hR with ⟨rfl, rfl⟩ | ⟨rfl, rfl, sg, hs, rfl⟩
      · exact er_callX (ea_cons (ed_var h0) (ea_cons (ed_var h1) ea_nil)) ⟨rfl, rfl⟩ q
      · exact s_ifT (et_not (et_B (ed_callX (ea_cons (ed_var h0) (ea_cons (ed_var h1) ea_nil)) ⟨sg, rfl, hs, .inl ⟨rfl, rfl⟩⟩))) rfl fun H' s => q _ s
end
end G


set_option Elab.async false
set_option linter.all false
set_option maxRecDepth 100000
set_option maxHeartbeats 4000000
namespace G
open PySem PySem.Spec PyProof.Rows L2
section
variable {P : Program} {w : World} {K : PySem.W.Frag} {mg : Str → Option Value} {base : Heap}
/-- a new list comes back -/
def spN (K : PySem.W.Frag) (R : List PyData → List PyData → Prop) : Sp := fun vs H Q _ => ∃ ds rs, DpAll K H vs ds ∧ R ds rs ∧ ∀ p us H', Same H H' → H p = none → H' p = some (.lst us) → DpAll K H' us rs → Q (.ref p) H'
theorem en_call {σ : L2.St} {H : Hp} {R : List PyData → List PyData → Prop} {E : XK} {ts : TA} {ds rs : List PyData} (h : EvA K ts σ H ds) (hR : R ds rs) : EvN K (tCall (spN K R) [] E ts) σ H rs := fun H1 s Q q => h H1 s _ fun vs H2 s2 hv =>
  ⟨ds, rs, by rw [List.append_nil]; exact hv, hR, fun p us H3 s3 hp h3 h4 => q p us H3 (s2.trans s3) (back s2 hp) h3 h4⟩
theorem at_of {l r : List Nat} {a c : Nat} (h : l.drop a = c :: r) : l[a]? = some c ∧ a < l.length ∧ l.drop (a + 1) = r ∧ l.length = a + (r.length + 1) := by
  have h1 : a < l.length := by
    rcases Nat.lt_or_ge a l.length with h1 | h1
    · exact h1
    · rw [List.drop_eq_nil_of_le h1] at h; cases h
  rw [List.drop_eq_getElem_cons h1] at h
  injection h with h2 h3
  have h4 : r.length = l.length - (a + 1) := by rw [← h3, List.length_drop]
  exact ⟨by rw [List.getElem?_eq_getElem h1, h2], h1, h3, by omega⟩
def Rwords_in : List PyData → List PyData → Prop
  | [d], rs => ∃ l : List Nat, l.length ≤ 50000 ∧ d = .str (S l) ∧ rs = (wordsOf l).map wordD
  | _, _ => False
theorem sc_words_in : FnScope ["text", "found", "at", "begin"] ["text"] (defScope s_words_in) := ⟨rfl, rfl, rfl, by decide +kernel, rfl, by decide +kernel, by decide +kernel⟩
theorem ok_words_in (T : Tx K mg)  : Cl P w K mg base CX0 1 "words_in" ["text"] (spN K Rwords_in) := by
  obtain ⟨fd, F⟩ := T.f_words_in
  refine ⟨_, fd, T.g_words_in, F.kp, F.bindsN fun _ _ _ _ _ _ us hl => match us, hl with | [_], _ => rfl, F.ok sc_words_in (fun vs H Q E h => ?_) (fun cdv A outer s H vs Q E hr h => ?_)⟩
  · obtain ⟨ds, rs, hd, hR, _⟩ := h
    match ds, hR with
    | [_], _ => exact hd.len
  · obtain ⟨ds, rs, hd, hR, q⟩ := h
    match ds, vs, hd, hR with
    | [d0], [v0], .cons h0 .nil, hR =>
    refine ⟨_, PSs.nox (pss_cons (ps_par (i := 1) (j := 2) rfl sc_words_in.nd rfl rfl (by decide) rfl rfl (pa_cons (pe_lst pa_nil) (pa_cons pe_int pa_nil)) (by rfl))
  (pss_cons (ps_while PassesOwn.never (pt_cmpR op_lt (pv 2) (pe_callB call_len_str (by rfl) T.b_len PyProof.Rows.Boot.«len» (pa_cons (pv 0) pa_nil)) (nomark _)) (pss_cons (ps_set (i := 3) sc_words_in.nd rfl (by first | exact Or.inl rfl | exact Or.inr rfl) (pv 2))
  (pss_cons (ps_aug (i := 2) sc_words_in.nd rfl (Or.inl rfl) pe_int ip_add)
  (C8.pss_cut (ps_if (pt_cmpR G.op_inS (pe_ix ix_str (pv 0) (pv 3) (fun _ _ => rfl)) (G.pe_ks (by rfl) T.c_RUNS) rfl) (pss_one (ps_while PassesOwn.never (PW.pt (pw_and (pt_cmpR op_lt (pv 2) (pe_callB call_len_str (by rfl) T.b_len PyProof.Rows.Boot.«len» (pa_cons (pv 0) pa_nil)) (nomark _)) (pw_and1 (pt_cmpR G.op_inS (pe_ix ix_str (pv 0) (pv 2) (fun _ _ => rfl)) (G.pe_ks (by rfl) T.c_RUNS) rfl)))) (pss_one (ps_aug (i := 2) sc_words_in.nd rfl (Or.inl rfl) pe_int ip_add)))) (pss_one (ps_if (pt_cmpR op_eq (pe_slice sl_str (pv 0) (po_some (pv 3)) (po_some (pe_op op_add (pv 3) pe_int))) pe_str (nomark _)) (pss_one (ps_aug (i := 2) sc_words_in.nd rfl (Or.inl rfl) pe_int ip_add)) pss_nil)))
  (pss_one (ps_if (pt_cmpR G.op_notInS (pe_ix ix_str (pv 0) (pv 3) (fun _ _ => rfl)) (G.pe_ks (by rfl) T.c_BLANKS) rfl) (pss_one (ps_expr (pe_bm PySem.F.plainAttrs_list PySem.F.slot_list_append PySem.F.type_list_append mt_append (pv 1) (pa_cons (pe_tup (pa_cons (pe_slice sl_str (pv 0) (po_some (pv 3)) (po_some (pv 2))) (pa_cons (pv 3) pa_nil))) pa_nil)))) pss_nil))))))
  (pss_one (ps_ret (pv 1))))), ?_⟩
    obtain ⟨l, hl, rfl, rfl⟩ := hR
    refine s_parN (K := K) (en_lst ea_nil (by decide)) ed_i fun F vs w H' s hn hp hvs hw => ?_
    obtain rfl := dpI hw
    cases hvs
    refine s_while (W := fun m σ' H1 => ∃ (a : Nat) (acc : List (List Nat × Nat)) (us : List V) (x3 : Option V), σ' = [some v0, some (.ref F), some (.int (a : Int)), x3] ∧ Same H H1 ∧ H1 F = some (.lst us) ∧ DpAll K H1 us (acc.map wordD) ∧
      acc ++ wordsF (l.length - a) a (l.drop a) = wordsOf l ∧ a ≤ l.length ∧ acc.length ≤ a ∧ m = l.length - a) (m0 := l.length)
      ⟨0, [], [], none, rfl, s, hp, .nil, by simp [wordsOf], Nat.zero_le _, Nat.le_refl _, rfl⟩ ?_
    rintro m σ' H1 ⟨a, acc, us, x3, rfl, s1, hF, hus, hws, hal, hacc, rfl⟩
    refine ⟨_, et_test (K := K) (ed_lt (ed_vi rfl) (ed_lenS (ed_var (dp_same s1 _ _ h0)) (by rw [S_len]; omega))), fun H2 s2 => ⟨fun hb => ?_, fun hb => ?_⟩⟩
    · have hb := of_decide_eq_true hb
      rw [S_len] at hb
      obtain ⟨c, r, hcr⟩ : ∃ c r, l.drop a = c :: r := ⟨_, _, List.drop_eq_getElem_cons (by omega)⟩
      obtain ⟨hc, ha, hr, hlen⟩ := at_of hcr
      have hd2 : Dp K H2 v0 (.str (S l)) := dp_same (s1.trans s2) _ _ h0
      have hsz : l.length ≤ 100000 := by omega
      refine s_set (K := K) (ed_vi rfl) fun v H3 s3 hv => ?_
      obtain rfl := dpI hv
      refine s_aug (K := K) rfl ed_i fun H4 s4 => ?_
      have s24 := s3.trans s4
      have hd4 : Dp K H4 v0 (.str (S l)) := dp_same s24 _ _ hd2
      refine ⟨fun σ5 H5 => σ5 = [some v0, some (.ref F), some (.int ((a + tok c r : Nat) : Int)), some (.int (a : Int))] ∧ Same H4 H5, ?_, ?_⟩
      · refine s_if (et_test ((ed_inS (ed_sign (ed_var hd4) (ed_vi rfl) hsz hc) ed_s).to (congrArg PyData.bool (inRuns c)))) (fun hrun H5 s5 => ?_) (fun hrun H5 s5 => ?_)
        · refine s_while (W := fun m σ' H6 => ∃ k : Nat, σ' = [some v0, some (.ref F), some (.int ((a + 1 + k : Nat) : Int)), some (.int (a : Int))] ∧ Same H4 H6 ∧ runN r = k + runN (r.drop k) ∧ m = r.length - k ∧ k ≤ r.length) (m0 := r.length) ⟨0, rfl, s5, by simp, rfl, Nat.zero_le _⟩ ?_
          rintro m σ' H6 ⟨k, rfl, s6, hk, rfl, hkl⟩
          have hd6 : Dp K H6 v0 (.str (S l)) := dp_same s6 _ _ hd4
          have hdrop : l.drop (a + 1 + k) = r.drop k := by rw [← hr, List.drop_drop]
          cases hrk : r.drop k with
          | nil =>
            have hkl2 : r.length ≤ k := by
              have := congrArg List.length hrk
              simp at this; omega
            refine ⟨false, (et_andF (et_test (ed_lt (ed_vi rfl) (ed_lenS (ed_var hd6) (by rw [S_len]; omega)))) (by rw [S_len]; simp; omega)), fun H7 s7 => ⟨fun z => (nomatch z), fun _ => ?_⟩⟩
            dsimp only
            refine ⟨?_, s6.trans s7⟩
            rw [hrk] at hk
            simp only [runN, Nat.add_zero] at hk
            unfold tok
            rw [hrun, if_pos rfl, hk, show a + 1 + k = a + (k + 1) by omega]
          | cons c2 r2 =>
            rw [hrk] at hdrop
            obtain ⟨hc2, ha2, hr2, hlen2⟩ := at_of hdrop
            refine ⟨_, et_andT (et_test (ed_lt (ed_vi rfl) (ed_lenS (ed_var hd6) (by rw [S_len]; omega)))) (by rw [S_len]; simp; omega) (et_test ((ed_inS (ed_sign (ed_var hd6) (ed_vi rfl) hsz hc2) ed_s).to (congrArg PyData.bool (inRuns c2)))), fun H7 s7 => ⟨fun hrun2 => ?_, fun hrun2 => ?_⟩⟩
            · refine s_aug (K := K) rfl ed_i fun H8 s8 => ?_
              have hlt : k < r.length := by
                have := congrArg List.length hrk
                simp at this; omega
              refine ⟨r.length - (k + 1), by omega, k + 1, ?_, (s6.trans s7).trans s8, ?_, rfl, hlt⟩
              · have : ((a + 1 + k : Nat) : Int) + 1 = ((a + 1 + (k + 1) : Nat) : Int) := by omega
                rw [this]; rfl
              · rw [hk, hrk]
                have : r.drop (k + 1) = r2 := by rw [← List.drop_drop, hrk]; rfl
                rw [this]
                simp only [runN, hrun2, if_true]
                omega
            · dsimp only
              refine ⟨?_, s6.trans s7⟩
              rw [hrk] at hk
              simp only [runN, hrun2] at hk
              unfold tok
              rw [hrun, if_pos rfl, hk]
              simp only [Bool.false_eq_true, if_false, Nat.add_zero]
              rw [show a + 1 + k = a + (k + 1) by omega]
        · have hd5 : Dp K H5 v0 (.str (S l)) := dp_same s5 _ _ hd4
          have harr : decide (S ((l.drop a).take (a + 2 - a)) = ("->" : Str)) = arrow c r := by
            rw [hcr, Nat.add_sub_cancel_left]
            have e : ("->" : Str) = S [45, 62] := by decide +kernel
            rw [e]
            unfold arrow
            rw [← Bool.decide_and, decide_eq_decide]
            constructor
            · intro h
              have h := S_inj h
              cases r with
              | nil => simp at h
              | cons d r => simp at h ⊢; exact h
            · rintro ⟨rfl, h2⟩
              cases r with
              | nil => simp at h2
              | cons d r => simp at h2; subst h2; rfl
          refine s_if (et_test ((ed_eqS (ed_cutS (ed_var hd5) (ed_vi rfl) ((ed_add (ed_vi rfl) ed_i).to (show _ = PyData.int ((a + 2 : Nat) : Int) from congrArg PyData.int (by omega))) hsz (by omega)) ed_s).to (congrArg PyData.bool harr))) (fun harr H6 s6 => ?_) (fun harr H6 s6 => ?_)
          · refine s_aug (K := K) rfl ed_i fun H7 s7 => ⟨?_, (s5.trans s6).trans s7⟩
            have : tok c r = 2 := by unfold tok; rw [hrun, harr]; rfl
            rw [this, show (a : Int) + 1 + 1 = ((a + 2 : Nat) : Int) by omega]; rfl
          · refine ⟨?_, s5.trans s6⟩
            have : tok c r = 1 := by unfold tok; rw [hrun, harr]; rfl
            rw [this]; rfl
      · rintro σ5 H5 ⟨rfl, s5⟩
        have hd5 : Dp K H5 v0 (.str (S l)) := dp_same s5 _ _ hd4
        have s25 := s24.trans s5
        have hF5 := (s2.trans s25) _ _ hF
        have hus5 := dps_same (s2.trans s25) _ _ hus
        have hS5 : Same H H5 := (s1.trans s2).trans s25
        have htk := tok_le c r
        have htp := tok_pos c r
        have hstep : wordsF (l.length - a) a (l.drop a) = if isBl c then wordsF (l.length - (a + tok c r)) (a + tok c r) (l.drop (a + tok c r)) else ((l.drop a).take (tok c r), a) :: wordsF (l.length - (a + tok c r)) (a + tok c r) (l.drop (a + tok c r)) := by
          have e : l.length - a = (l.length - a - 1) + 1 := by omega
          rw [e, hcr]
          simp only [wordsF]
          have e2 : (c :: r).drop (tok c r) = l.drop (a + tok c r) := by rw [← hcr, List.drop_drop]
          rw [e2, wordsF_more (l.length - a - 1) (l.length - (a + tok c r)) _ _ (by simp; omega) (by simp)]
        have hul : us.length = acc.length := by rw [hus.len, List.length_map]
        refine s_if (et_test ((ed_notInS (ed_sign (ed_var hd5) (ed_vi rfl) hsz hc) ed_s).to (congrArg (fun b : Bool => PyData.bool (!b)) (inBlanks c)))) (fun hbl H6 s6 => ?_) (fun hbl H6 s6 => ?_)
        · have hbl : isBl c = false := by simpa using hbl
          rw [hbl] at hstep
          refine s_append (K := K) (us := us) rfl (s6 _ _ hF5) (d := wordD ((l.drop a).take (tok c r), a)) ((ed_tup (ea_cons (ed_cutS (ed_var (dp_same s6 _ _ hd5)) (ed_vi rfl) (ed_vi rfl) hsz (by omega)) (ea_cons (ed_vi rfl) ea_nil)) (by simp)).to (by rw [Nat.add_sub_cancel_left]; rfl)) (by omega) fun v H7 s7 hF7 hv => ?_
          have hk : Kt H7 (upd H7 F (.lst (us ++ [v]))) := Kt.rfl'.lst hF7
          refine ⟨_, ?_, a + tok c r, acc ++ [((l.drop a).take (tok c r), a)], us ++ [v], _, rfl, ((hS5.trans s6).trans s7).own hn, upd_same, ?_, ?_, by omega, by simp; omega, rfl⟩
          · omega
          · rw [List.map_append]
            exact (dps_kt hk _ _ (wordD_tt _) (dps_same (s6.trans s7) _ _ hus5)).snoc (dp_kt hk _ _ rfl hv)
          · rw [← hws, hstep]
            simp
        · have hbl : isBl c = true := by simpa using hbl
          rw [hbl] at hstep
          refine ⟨_, ?_, a + tok c r, acc, us, _, rfl, hS5.trans s6, s6 _ _ hF5, dps_same s6 _ _ hus5, ?_, by omega, by omega, rfl⟩
          · omega
          · rw [← hws, hstep]
            rfl
    · dsimp only
      have hb := of_decide_eq_false hb
      rw [S_len] at hb
      have e : a = l.length := by omega
      subst e
      have hacc2 : acc = wordsOf l := by
        rw [← hws, List.drop_length, Nat.sub_self]
        simp [wordsF]
      refine ⟨.ref F, rfl, ?_⟩
      exact q F us H2 (s1.trans s2) hn (s2 _ _ hF) (by rw [← hacc2]; exact dps_same s2 _ _ hus)
end
end G


set_option Elab.async false
set_option linter.all false
set_option maxRecDepth 100000
set_option maxHeartbeats 4000000
namespace G
open PySem PySem.Spec PyProof.Rows L2
/-! ### a reader -/
/-- only the object at a may have changed -/
def Mv (a : Addr) (H H' : Hp) : Prop := ∀ b o, b ≠ a → H b = some o → H' b = some o
theorem Mv.refl (a : Addr) (H : Hp) : Mv a H H := fun _ _ _ e => e
theorem Mv.trans {a : Addr} {H H1 H2 : Hp} (x : Mv a H H1) (y : Mv a H1 H2) : Mv a H H2 := fun b o n e => y b o n (x b o n e)
theorem Mv.of {a : Addr} {H H' : Hp} (s : Same H H') : Mv a H H' := fun b o _ e => s b o e
theorem Mv.upd {a : Addr} {H H' : Hp} {o : HO} (x : Mv a H H') : Mv a H (L2.upd H' a o) := fun b u n e => by
  rw [upd_ne n]
  exact x b u n e
theorem Mv.kt {a : Addr} {H H' : Hp} {C dx : Addr} {fs : List (Str × V)} (x : Mv a H H') (h : H a = some (.ins C dx fs)) : Kt H H' := fun b o t e => x b o (fun z => by subst z; rw [h] at e; cases e; exact t) e
/-- other objects too, that were made since H0 -/
theorem Mv.same0 {a : Addr} {H0 H H' : Hp} (s : Same H0 H) (n : H0 a = none) (x : Mv a H H') : Same H0 H' := fun b o e => x b o (fun z => by subst z; rw [n] at e; cases e) (s b o e)
structure RI where
  a : Addr
  C : Addr
  dx : Addr
  W : Addr
  tl : List (Str × V)
  l : List Nat
  ws : List (List Nat × Nat)
def RI.fs (r : RI) (k : Nat) : List (Str × V) := ("text", .str (S r.l)) :: ("words", .ref r.W) :: ("at", .int (k : Int)) :: r.tl
def RI.o (r : RI) (k : Nat) : HO := .ins r.C r.dx (r.fs k)
def RI.w (r : RI) (k : Nat) : List Nat := match r.ws[k]? with
  | some p => p.1
  | none => []
/-- the class and what a tree's reader has besides -/
def RC (K : PySem.W.Frag) (C : Addr) (tl : List (Str × V)) : Prop := (C = He.ga K "Reader" ∧ tl = []) ∨ (C = He.ga K "TreeReader" ∧ ∃ s d, tl = [(("signature" : Str), s), (("symbols" : Str), d)])
structure RI.at (r : RI) (K : PySem.W.Frag) (H : Hp) (k : Nat) : Prop where
  ob : H r.a = some (r.o k)
  wl : ∃ us, H r.W = some (.lst us) ∧ DpAll K H us (r.ws.map wordD)
  cl : RC K r.C r.tl
  few : r.ws.length ≤ 50000
  len : r.l.length ≤ 50000
section
variable {K : PySem.W.Frag} {r : RI} {k k' : Nat} {H H' : Hp} {σ : L2.St} {i : Nat} {C : Addr} {tl : List (Str × V)}
theorem RI.at.ne (h : r.at K H k) : r.W ≠ r.a := fun z => by
  obtain ⟨us, h1, _⟩ := h.wl
  rw [z, h.ob] at h1
  cases h1
theorem RI.at.same (s : Same H H') (h : r.at K H k) : r.at K H' k := by
  obtain ⟨us, h1, h2⟩ := h.wl
  exact ⟨s _ _ h.ob, ⟨us, s _ _ h1, dps_same s _ _ h2⟩, h.cl, h.few, h.len⟩
/-- when only other objects, or only the place, changed -/
theorem RI.at.mv (x : Mv r.a H H') (h : r.at K H k) (e : H' r.a = some (r.o k')) : r.at K H' k' := by
  obtain ⟨us, h1, h2⟩ := h.wl
  exact ⟨e, ⟨us, x _ _ h.ne h1, dps_kt (x.kt h.ob) _ _ (wordD_tt _) h2⟩, h.cl, h.few, h.len⟩
theorem RI.at.step (h : r.at K H k) : r.at K (upd H r.a (r.o k')) k' := h.mv (Mv.refl _ _).upd upd_same
/-- another object of the heap changes -/
theorem RI.at.other {b : Addr} {o : HO} {xs : List V} (h : r.at K H k) (hb : H b = some (.lst xs)) (hW : b ≠ r.W) : r.at K (upd H b o) k := by
  obtain ⟨us, h1, h2⟩ := h.wl
  refine ⟨?_, ⟨us, ?_, dps_kt (Kt.rfl'.lst hb) _ _ (wordD_tt _) h2⟩, h.cl, h.few, h.len⟩
  · rw [upd_ne (fun z => by subst z; rw [h.ob] at hb; cases hb)]; exact h.ob
  · rw [upd_ne (fun z => hW z.symm)]; exact h1
theorem rc_look (c : RC K C tl) {m : Str} (h1 : m ≠ "signature") (h2 : m ≠ "symbols") : tl.lookup m = none := by
  rcases c with ⟨_, rfl⟩ | ⟨_, s, d, rfl⟩
  · rfl
  · rw [List.lookup_cons, beq_false_of_ne h1, List.lookup_cons, beq_false_of_ne h2]; rfl
theorem rc_len (c : RC K C tl) : tl.length ≤ 2 := by
  rcases c with ⟨_, rfl⟩ | ⟨_, s, d, rfl⟩ <;> simp
theorem fs_look (c : RC K r.C r.tl) {m : Str} (h : (m ≠ "text" ∧ m ≠ "words" ∧ m ≠ "at" ∧ m ≠ "signature" ∧ m ≠ "symbols")) : (r.fs k).lookup m = none := by
  unfold RI.fs
  rw [List.lookup_cons, beq_false_of_ne h.1, List.lookup_cons, beq_false_of_ne h.2.1, List.lookup_cons, beq_false_of_ne h.2.2.1]
  exact rc_look c h.2.2.2.1 h.2.2.2.2
theorem fs_at : (r.fs k).lookup ("at" : Str) = some (.int (k : Int)) := rfl
theorem fs_words : (r.fs k).lookup ("words" : Str) = some (.ref r.W) := rfl
theorem fs_text : (r.fs k).lookup ("text" : Str) = some (.str (S r.l)) := rfl
theorem fs_put : putF "at" (.int (k' : Int)) (r.fs k) = r.fs k' := rfl
end
section
variable {K : PySem.W.Frag} {mg : Str → Option Value} {r : RI} {k k' : Nat} {H H' : Hp} {σ : L2.St} {i : Nat} {C : Addr} {tl : List (Str × V)}
theorem rc_cls (T : Tx K mg) (c : RC K C tl) : Cls K C := by
  rcases c with ⟨rfl, _⟩ | ⟨rfl, _⟩
  · exact T.k_Reader
  · exact T.k_TreeReader
theorem rc_at (T : Tx K mg) (c : RC K C tl) : NoAttr K C "at" := by
  rcases c with ⟨rfl, _⟩ | ⟨rfl, _⟩
  · exact T.n_Reader_at
  · exact T.n_TreeReader_at
theorem rc_words (T : Tx K mg) (c : RC K C tl) : NoAttr K C "words" := by
  rcases c with ⟨rfl, _⟩ | ⟨rfl, _⟩
  · exact T.n_Reader_words
  · exact T.n_TreeReader_words
theorem rc_text (T : Tx K mg) (c : RC K C tl) : NoAttr K C "text" := by
  rcases c with ⟨rfl, _⟩ | ⟨rfl, _⟩
  · exact T.n_Reader_text
  · exact T.n_TreeReader_text
/-- a field -/
theorem ed_fld {d : PyData} {f : Str} {v : V} {a dx : Addr} {fs : List (Str × V)} (hv : σ[i]? = some (some (.ref a))) (ho : H a = some (.ins C dx fs)) (hc : Cls K C) (hn : NoAttr K C f) (hf : fs.lookup f = some v) (hd : Dp K H v d) : EvD K (tFld K (tVar i) f) σ H d := fun H1 s Q q =>
  ⟨_, hv, a, C, dx, fs, v, rfl, s _ _ ho, hc, hn, hf, q v H1 (Same.refl H1) (dp_same s _ _ hd)⟩
theorem ed_at (T : Tx K mg) (h : r.at K H k) (hv : σ[i]? = some (some (.ref r.a))) : EvD K (tFld K (tVar i) "at") σ H (.int (k : Int)) := ed_fld hv h.ob (rc_cls T h.cl) (rc_at T h.cl) fs_at (.int _)
theorem ed_words (T : Tx K mg) (h : r.at K H k) (hv : σ[i]? = some (some (.ref r.a))) : EvD K (tFld K (tVar i) "words") σ H (.list (r.ws.map wordD)) := by
  obtain ⟨us, h1, h2⟩ := h.wl
  exact ed_fld hv h.ob (rc_cls T h.cl) (rc_words T h.cl) fs_words (.lst (sq_of h1) h2)
theorem ed_text (T : Tx K mg) (h : r.at K H k) (hv : σ[i]? = some (some (.ref r.a))) : EvD K (tFld K (tVar i) "text") σ H (.str (S r.l)) := ed_fld hv h.ob (rc_cls T h.cl) (rc_text T h.cl) fs_text (.str _)
/-- self.at += 1 -/
theorem s_step (T : Tx K mg) {D : Ends} (h : r.at K H k) (hv : σ[i]? = some (some (.ref r.a))) (q : ∀ H', Mv r.a H H' → r.at K H' (k + 1) → D.nx σ H') : sFldAug K (tVar i) (tC (.int 1)) rAdd "at" D σ H := by
  refine ⟨_, hv, r.a, r.C, r.dx, r.fs k, _, rfl, h.ob, rc_cls T h.cl, rc_at T h.cl, fs_at, (k : Int), 1, rfl, rfl, r.dx, r.fs k, h.ob, ?_, ?_⟩
  · have := rc_len h.cl
    unfold RI.fs
    simp; omega
  · rw [show ((k : Int) + 1) = ((k + 1 : Nat) : Int) by omega, fs_put]
    exact q _ (Mv.refl _ _).upd h.step
/-- e.f = value -/
theorem s_fld {D : Ends} {te : TE} {d : PyData} {f : Str} {a dx : Addr} {fs : List (Str × V)} (hv : σ[i]? = some (some (.ref a))) (ho : H a = some (.ins C dx fs)) (hc : Cls K C) (hn : NoAttr K C f) (hl : fs.length < 1000) (he : EvD K te σ H d)
    (q : ∀ v H', Same H H' → Dp K H' v d → D.nx σ (upd H' a (.ins C dx (putF f v fs)))) : sFld K (tVar i) te f D σ H := he H (Same.refl H) _ fun v H' s hd => ⟨_, hv, a, C, dx, fs, rfl, s _ _ ho, hc, hn, hl, q v H' s hd⟩
theorem s_fldN {D : Ends} {te : TE} {ds : List PyData} {f : Str} {a dx : Addr} {fs : List (Str × V)} (hv : σ[i]? = some (some (.ref a))) (ho : H a = some (.ins C dx fs)) (hc : Cls K C) (hn : NoAttr K C f) (hl : fs.length < 1000) (he : EvN K te σ H ds)
    (q : ∀ p us H', Same H H' → H p = none → H' p = some (.lst us) → DpAll K H' us ds → D.nx σ (upd H' a (.ins C dx (putF f (.ref p) fs)))) : sFld K (tVar i) te f D σ H := he H (Same.refl H) _ fun p us H' s hp hpl hd => ⟨_, hv, a, C, dx, fs, rfl, s _ _ ho, hc, hn, hl, q p us H' s hp hpl hd⟩
/-! ### promises of its methods -/
/-- the next word -/
def spWord (K : PySem.W.Frag) : Sp := fun vs H Q _ => ∃ (r : RI) (k : Nat), vs = [.ref r.a] ∧ r.at K H k ∧ ∀ H', Same H H' → Q (.str (S (r.w k))) H'
def spMark (K : PySem.W.Frag) : Sp := fun vs H Q _ => ∃ (r : RI) (k : Nat), vs = [.ref r.a, .str (S (r.w k))] ∧ r.at K H k ∧ ∀ H', Mv r.a H H' → r.at K H' (k + 1) → Q .non H'
def spGoes (K : PySem.W.Frag) : Sp := fun vs H Q _ => ∃ (r : RI) (k : Nat) (w : List Nat), vs = [.ref r.a, .str (S w)] ∧ r.at K H k ∧ (r.w k ≠ w → ∀ H', Same H H' → Q (.bl false) H') ∧ (r.w k = w → ∀ H', Mv r.a H H' → r.at K H' (k + 1) → Q (.bl true) H')
def spEnd (K : PySem.W.Frag) : Sp := fun vs H Q _ => ∃ (r : RI) (k : Nat), vs = [.ref r.a] ∧ r.at K H k ∧ r.w k = [] ∧ ∀ H', Same H H' → Q .non H'
def spDue (K : PySem.W.Frag) : Sp := fun vs H Q _ => ∃ x, vs = [x, .bl true] ∧ ∀ H', Same H H' → Q .non H'
end
end G

set_option Elab.async false
set_option linter.all false
set_option maxRecDepth 100000
set_option maxHeartbeats 4000000
namespace G
open PySem PySem.Spec PyProof.Rows L2
/-! ### numerals -/
def numOk (l : List Nat) : Bool := match l with
  | [] => false
  | c :: r => (c :: r).all isDg && (decide (c :: r = [48]) || !decide (c = 48))
section
variable {P : Program} {w : World} {K : PySem.W.Frag} {mg : Str → Option Value} {base : Heap}
def Ris_numeral : List PyData → PyData → Prop
  | [d], r => ∃ l : List Nat, l.length ≤ 100000 ∧ d = .str (S l) ∧ r = .bool (numOk l)
  | _, _ => False
theorem str0 : ("0" : Str) = S [48] := by decide +kernel
theorem strN : ("" : Str) = S [] := by decide +kernel
theorem eqS_dec (a b : List Nat) : decide (S a = S b) = decide (a = b) := by
  rw [decide_eq_decide]
  exact ⟨S_inj, fun h => h ▸ rfl⟩
theorem sc_is_numeral : FnScope ["word", "sign"] ["word"] (defScope s_is_numeral) := ⟨rfl, rfl, rfl, by decide +kernel, rfl, by decide +kernel, by decide +kernel⟩
theorem ok_is_numeral (T : Tx K mg)  : Cl P w K mg base CX0 1 "is_numeral" ["word"] (spD K Ris_numeral) := by
  obtain ⟨fd, F⟩ := T.f_is_numeral
  refine ⟨_, fd, T.g_is_numeral, F.kp, F.bindsN fun _ _ _ _ _ _ us hl => match us, hl with | [_], _ => rfl, F.ok sc_is_numeral (fun vs H Q E h => ?_) (fun cdv A outer s H vs Q E hr h => ?_)⟩
  · obtain ⟨ds, r, hd, hR, _⟩ := h
    match ds, hR with
    | [_], _ => exact hd.len
  · obtain ⟨ds, r, hd, hR, q⟩ := h
    match ds, vs, hd, hR with
    | [d0], [v0], .cons h0 .nil, hR =>
    refine ⟨_, PSs.nox (pss_cons (ps_if (PW.pt (pw_or (pt_cmpR op_eq (pv 0) pe_str (nomark _)) (pw_or1 (pt_not (pt_val (pe_callB (cr_all rfl) (by rfl) T.b_all PyProof.Rows.Boot.«all» (pa_cons (pe_lc (own := [("sign", 1)]) (g := (gName 1)) rfl sc_is_numeral.nd (pi_str (pv 0)) (blkOk_by (own := [("sign", 1)]) (N := ["word", "sign"]) (sc := defScope s_is_numeral) (by decide +kernel)) (fun _ _ _ _ _ => (pg_name (i := 1) sc_is_numeral.nd rfl (by first | exact Or.inl rfl | exact Or.inr rfl))) (fun _ _ _ _ _ => pts_nil) (fun _ _ _ _ _ => (pe_cmpR G.op_inS (pv 1) (G.pe_ks (by rfl) T.c_DIGITS) rfl))) pa_nil))))))) (pss_one (ps_ret pe_bl)) pss_nil)
  (pss_one (ps_ret (pe_or (pe_cmpR op_eq (pv 0) pe_str (nomark _)) (pe_one (pe_cmpR op_ne (pe_ix ix_str (pv 0) pe_int (fun _ _ => rfl)) pe_str (nomark _))))))), ?_⟩
    obtain ⟨l, hl, rfl, rfl⟩ := hR
    cases l with
    | nil => exact s_ifT (et_orT (et_test (ed_eqS (ed_var h0) ed_s)) (by rw [strN]; exact decide_eq_true rfl)) rfl fun H' s => s_ret ed_b fun v H2 s2 hv => q v H2 (s.trans s2) hv
    | cons c r =>
      have hall : EvD K (tCB (rAll K) (tCons (tLc (iStr (tVar 0)) (gName 1) tYes (tOp (fun x y H Q => ∃ (c : Nat) (z : Str), x = .str ⟨#[c]⟩ ∧ y = .str z ∧ Q (.bl (decide (c ∈ z.cps.toList))) H) (tVar 1) (tC (.str "0123456789"))) [1]) tNil)) (L2.start ["word", "sign"] [v0]) H (.bool ((c :: r).all isDg)) :=
        ed_allM (c :: r) (fun c => .str ⟨#[c]⟩) isDg (ei_str (ed_var h0)) hl fun c' _ v H1 s hv W hW => hW _ wipe_set1 (ed_inS (ed_var hv) ed_s)
      refine s_if (et_orF (et_test (ed_eqS (ed_var h0) ed_s)) (by rw [strN, eqS_dec]; exact decide_eq_false (by simp)) (et_not (et_test hall))) (fun hc H' s => ?_) (fun hc H' s => ?_)
      · have hc : ((c :: r).all isDg) = false := by simpa only [Bool.not_eq_true'] using hc
        refine s_ret (K := K) ed_b fun v H2 s2 hv => q v H2 (s.trans s2) ?_
        rw [show numOk (c :: r) = false by show ((c :: r).all isDg && _) = false; rw [hc]; rfl]
        exact hv
      · have hc : ((c :: r).all isDg) = true := by simpa only [Bool.not_eq_false'] using hc
        have h0' := dp_same s _ _ h0
        refine s_ret (ed_or (ed_eqS (ed_var h0') ed_s) fun _ => ed_neS (ed_ixS (c := c) (ed_var h0') ed_i (by rw [S_len]; exact hl) (atI_nat (j := 0) rfl)) ed_s) fun v H2 s2 hv => q v H2 (s.trans s2) ?_
        rw [str0, eqS_dec] at hv
        have e2 : decide ((⟨#[c]⟩ : Str) = S [48]) = decide (c = 48) := by
          rw [show (⟨#[c]⟩ : Str) = S [c] from rfl, eqS_dec, decide_eq_decide]
          simp
        rw [e2] at hv
        rw [show numOk (c :: r) = (decide (c :: r = [48]) || !decide (c = 48)) by show ((c :: r).all isDg && _) = _; rw [hc]; rfl]
        exact hv
/-! ### the reader's methods -/
theorem ed_word {r : RI} {k i : Nat} {H : Hp} {σ : L2.St} {E : XK} (h : r.at K H k) (hv : σ[i]? = some (some (.ref r.a))) : EvD K (tMeth r.C "word" (spWord K) [] E (tVar i) tNil) σ H (.str (S (r.w k))) := fun H1 s Q q =>
  ⟨_, hv, r.a, r.dx, r.fs k, rfl, (h.same s).ob, fs_look h.cl (by decide), r, k, rfl, h.same s, fun H' s' => q _ H' s' (.str _)⟩
theorem sc_Reader_word : FnScope ["self"] ["self"] (defScope s_Reader_word) := ⟨rfl, rfl, rfl, by decide +kernel, rfl, by decide +kernel, by decide +kernel⟩
theorem fo_Reader_word {f : Addr} {fd : FuncData} (T : Tx K mg)  (F : FunD K "word" "Reader.word" (defArgs s_Reader_word) (defBody s_Reader_word) (defScope s_Reader_word) [] [] f fd) : FnOk P w K mg base CX0 1 f fd ["self"] (spWord K) := by
  refine F.ok sc_Reader_word (fun vs H Q E h => ?_) (fun cdv A outer s H vs Q E hr h => ?_)
  · obtain ⟨r, k, rfl, _⟩ := h
    rfl
  · refine ⟨_, PSs.nox (pss_one (ps_ret (pe_ifExp (pt_cmpR op_lt (pe_fld (pv 0) rfl) (pe_callB call_len_seq (by rfl) T.b_len PyProof.Rows.Boot.«len» (pa_cons (pe_fld (pv 0) rfl) pa_nil)) (nomark _)) (pe_ix ix_tup (pe_ix ix_list (pe_fld (pv 0) rfl) (pe_fld (pv 0) rfl) (fun _ _ => rfl)) pe_int (fun _ _ => rfl)) pe_str))), ?_⟩
    obtain ⟨r, k, rfl, hr', q⟩ := h
    cases hk : r.ws[k]? with
    | some p =>
      have hlt : k < r.ws.length := (List.getElem?_eq_some_iff.mp hk).1
      refine s_ret (K := K) (d := .str (S (r.w k))) (ed_ifT (et_test (ed_lt (ed_at T hr' rfl) (ed_lenL (ed_words T hr' rfl)))) (by rw [List.length_map]; exact decide_eq_true (by omega)) (ed_ixT (ed_ixL (ed_words T hr' rfl) (ed_at T hr' rfl) (by rw [List.getElem?_map, hk]; rfl)) ed_i ?_)) fun v H2 s2 hv => ?_
      · rw [show r.w k = p.1 by unfold RI.w; rw [hk]]
        exact at0
      · rw [dpS hv]; exact q H2 s2
    | none =>
      have hge : r.ws.length ≤ k := by simpa using hk
      refine s_ret (K := K) (d := .str (S (r.w k))) (ed_ifF (et_test (ed_lt (ed_at T hr' rfl) (ed_lenL (ed_words T hr' rfl)))) (by rw [List.length_map]; exact decide_eq_false (by omega)) ?_) fun v H2 s2 hv => ?_
      · rw [show r.w k = [] by unfold RI.w; rw [hk]]
        exact (ed_s (n := "")).to (congrArg _ strN)
      · rw [dpS hv]; exact q H2 s2
theorem ml_word (T : Tx K mg)  {C : Addr} {tl : List (Str × V)} (c : RC K C tl) : Ml P w K mg base CX0 1 C "word" ["self"] (spWord K) := by
  rcases c with ⟨rfl, _⟩ | ⟨rfl, _⟩
  · obtain ⟨fd, F⟩ := T.f_Reader_word
    exact ⟨_, fd, T.k_Reader, T.m_Reader_word, F.bindsN fun _ _ _ _ _ _ us hl => match us, hl with | [_], _ => rfl, fo_Reader_word T F⟩
  · obtain ⟨fd, F⟩ := T.f_TreeReader_word
    exact ⟨_, fd, T.k_TreeReader, T.m_TreeReader_word, F.bindsN fun _ _ _ _ _ _ us hl => match us, hl with | [_], _ => rfl, fo_Reader_word T F⟩
theorem sc_Reader_mark : FnScope ["self", "word"] ["self", "word"] (defScope s_Reader_mark) := ⟨rfl, rfl, rfl, by decide +kernel, rfl, by decide +kernel, by decide +kernel⟩
theorem fo_Reader_mark {f : Addr} {fd : FuncData} (T : Tx K mg)  (F : FunD K "mark" "Reader.mark" (defArgs s_Reader_mark) (defBody s_Reader_mark) (defScope s_Reader_mark) [] [] f fd) : FnOk P w K mg base CX0 2 f fd ["self", "word"] (spMark K) := by
  refine F.ok sc_Reader_mark (fun vs H Q E h => ?_) (fun cdv A outer s H vs Q E hr h => ?_)
  · obtain ⟨r, k, rfl, _⟩ := h
    rfl
  · obtain ⟨r, k, rfl, hr', q⟩ := h
    have hC := hr'.cl
    refine ⟨_, PSs.nox (pss_cons (ps_if (pt_cmpR op_ne (G.pe_ml0 (G.ml_word T hC) hr (by decide) pass0 (pv 0)) (pv 1) (nomark _)) (pss_one ps_never) pss_nil)
  (pss_one (ps_fldaug (pv 0) pe_int in_add))), ?_⟩
    refine s_ifF (et_test (ed_neS (ed_word hr' rfl) (ed_vs rfl))) (by simp) fun H1 s1 => ?_
    refine s_step T (hr'.same s1) rfl fun H2 m2 h2 => q H2 ((Mv.of s1).trans m2) h2
theorem ml_mark (T : Tx K mg)  {C : Addr} {tl : List (Str × V)} (c : RC K C tl) : Ml P w K mg base CX0 2 C "mark" ["self", "word"] (spMark K) := by
  rcases c with ⟨rfl, _⟩ | ⟨rfl, _⟩
  · obtain ⟨fd, F⟩ := T.f_Reader_mark
    exact ⟨_, fd, T.k_Reader, T.m_Reader_mark, F.bindsN fun _ _ _ _ _ _ us hl => match us, hl with | [_, _], _ => rfl, fo_Reader_mark T F⟩
  · obtain ⟨fd, F⟩ := T.f_TreeReader_mark
    exact ⟨_, fd, T.k_TreeReader, T.m_TreeReader_mark, F.bindsN fun _ _ _ _ _ _ us hl => match us, hl with | [_, _], _ => rfl, fo_Reader_mark T F⟩
theorem sc_Reader_goes_on : FnScope ["self", "word"] ["self", "word"] (defScope s_Reader_goes_on) := ⟨rfl, rfl, rfl, by decide +kernel, rfl, by decide +kernel, by decide +kernel⟩
theorem fo_Reader_goes_on {f : Addr} {fd : FuncData} (T : Tx K mg)  (F : FunD K "goes_on" "Reader.goes_on" (defArgs s_Reader_goes_on) (defBody s_Reader_goes_on) (defScope s_Reader_goes_on) [] [] f fd) : FnOk P w K mg base CX0 2 f fd ["self", "word"] (spGoes K) := by
  refine F.ok sc_Reader_goes_on (fun vs H Q E h => ?_) (fun cdv A outer s H vs Q E hr h => ?_)
  · obtain ⟨r, k, w, rfl, _⟩ := h
    rfl
  · obtain ⟨r, k, w, rfl, hr', qf, qt⟩ := h
    have hC := hr'.cl
    refine ⟨_, PSs.nox (pss_cons (ps_if (pt_cmpR op_ne (G.pe_ml0 (G.ml_word T hC) hr (by decide) pass0 (pv 0)) (pv 1) (nomark _)) (pss_one (ps_ret pe_bl)) pss_nil)
  (pss_cons (ps_fldaug (pv 0) pe_int in_add)
  (pss_one (ps_ret pe_bl)))), ?_⟩
    refine s_if (et_test (ed_neS (ed_word hr' rfl) (ed_vs rfl))) (fun hb H1 s1 => ?_) (fun hb H1 s1 => ?_)
    · have hb : r.w k ≠ w := fun z => by rw [z] at hb; simp at hb
      exact s_ret (K := K) ed_b fun v H2 s2 hv => by rw [dpB hv]; exact qf hb H2 (s1.trans s2)
    · have hb : r.w k = w := by
        by_cases z : r.w k = w
        · exact z
        · simp at hb; exact absurd hb z
      refine s_step T (hr'.same s1) rfl fun H2 m2 h2 => ?_
      dsimp only
      refine s_ret (K := K) (d := .bool true) ed_b ?_
      intro v H3 s3 hv
      rw [dpB hv]
      exact qt hb H3 (((Mv.of s1).trans m2).trans (Mv.of s3)) (h2.same s3)
theorem ml_goes_on (T : Tx K mg)  {C : Addr} {tl : List (Str × V)} (c : RC K C tl) : Ml P w K mg base CX0 2 C "goes_on" ["self", "word"] (spGoes K) := by
  rcases c with ⟨rfl, _⟩ | ⟨rfl, _⟩
  · obtain ⟨fd, F⟩ := T.f_Reader_goes_on
    exact ⟨_, fd, T.k_Reader, T.m_Reader_goes_on, F.bindsN fun _ _ _ _ _ _ us hl => match us, hl with | [_, _], _ => rfl, fo_Reader_goes_on T F⟩
  · obtain ⟨fd, F⟩ := T.f_TreeReader_goes_on
    exact ⟨_, fd, T.k_TreeReader, T.m_TreeReader_goes_on, F.bindsN fun _ _ _ _ _ _ us hl => match us, hl with | [_, _], _ => rfl, fo_Reader_goes_on T F⟩
def numW (n : Nat) : List Nat := TL.numL n
theorem numW_ok : ∀ n : Nat, n < 100 → numOk (numW n) = true ∧ (numW n).length ≤ 2 ∧ (numW n).all (fun c => decide (48 ≤ c) && decide (c ≤ 57)) = true ∧ numW n ≠ [] ∧ NumText.digitsVal (numW n) = n := by decide +kernel
def spNumeral (K : PySem.W.Frag) : Sp := fun vs H Q _ => ∃ (r : RI) (k n m : Nat), vs = [.ref r.a, .int (m : Int)] ∧ r.at K H k ∧ r.w k = numW n ∧ n < 100 ∧ n ≤ m ∧ ∀ H', Mv r.a H H' → r.at K H' (k + 1) → Q (.int (n : Int)) H'
theorem ed_int {K : PySem.W.Frag} {σ : L2.St} {H : Hp} {ta : TE} {n : Nat} (h : EvD K ta σ H (.str (S (numW n)))) (hn : n < 100) : EvD K (tCB (fun xs H Q => ∃ a n, xs = [.str a] ∧ PySem.intText? a = some n ∧ a.length ≤ 640 ∧ Q (.int n) H) (tCons ta tNil)) σ H (.int (n : Int)) := fun H1 s Q q => h H1 s _ fun v H2 s2 hv => by
  obtain ⟨n1, n2, n3, n4, n5⟩ := numW_ok n hn
  have e := SX.int_S n3 n4 (by omega)
  rw [n5] at e
  exact ⟨S (numW n), (n : Int), by rw [dpS hv], e, by rw [S_len]; omega, q _ H2 s2 (.int _)⟩
theorem sc_Reader_numeral : FnScope ["self", "most", "word"] ["self", "most"] (defScope s_Reader_numeral) := ⟨rfl, rfl, rfl, by decide +kernel, rfl, by decide +kernel, by decide +kernel⟩
theorem fo_Reader_numeral {f : Addr} {fd : FuncData} (T : Tx K mg)  (F : FunD K "numeral" "Reader.numeral" (defArgs s_Reader_numeral) (defBody s_Reader_numeral) (defScope s_Reader_numeral) [] [] f fd) : FnOk P w K mg base CX0 2 f fd ["self", "most"] (spNumeral K) := by
  refine F.ok sc_Reader_numeral (fun vs H Q E h => ?_) (fun cdv A outer s H vs Q E hr h => ?_)
  · obtain ⟨r, k, n, m, rfl, _⟩ := h
    rfl
  · obtain ⟨r, k, n, m, rfl, hr', hw, hn, hm, q⟩ := h
    have hC := hr'.cl
    refine ⟨_, PSs.nox (pss_cons (ps_set (i := 2) sc_Reader_numeral.nd rfl (by first | exact Or.inl rfl | exact Or.inr rfl) (G.pe_ml0 (G.ml_word T hC) hr (by decide) pass0 (pv 0)))
  (pss_cons (ps_if (PW.pt (pw_or (pt_not (pt_val (G.pe_cl (ok_is_numeral T) hr (by decide) pass0 (pa_cons (pv 2) pa_nil)))) (pw_or (pt_cmpR op_gt (pe_callB call_len_str (by rfl) T.b_len PyProof.Rows.Boot.«len» (pa_cons (pv 2) pa_nil)) pe_int (nomark _)) (pw_or1 (pt_cmpR op_gt (pe_callTy call_int_str (by rfl) T.b_int PyProof.Rows.Boot.«int» (pa_cons (pv 2) pa_nil)) (pv 1) (nomark _)))))) (pss_one ps_never) pss_nil)
  (pss_cons (ps_fldaug (pv 0) pe_int in_add)
  (pss_one (ps_ret (pe_callTy call_int_str (by rfl) T.b_int PyProof.Rows.Boot.«int» (pa_cons (pv 2) pa_nil))))))), ?_⟩
    obtain ⟨n1, n2, n3, n4, n5⟩ := numW_ok n hn
    refine s_set (ed_word hr' rfl) fun v H1 s1 hv => ?_
    rw [hw] at hv
    obtain rfl := dpS hv
    refine s_ifF (et_orF (et_not (et_test (ed_call (ea_cons (ed_var hv) ea_nil) ⟨_, by omega, rfl, rfl⟩))) (by rw [n1]; rfl) (et_orF (et_test (ed_gt (ed_lenS (ed_var hv) (by rw [S_len]; omega)) ed_i)) (by rw [S_len]; exact decide_eq_false (by omega)) (et_test (ed_gt (ed_int (ed_var hv) hn) (ed_vi rfl))))) (decide_eq_false (by omega)) fun H2 s2 => ?_
    refine s_step T ((hr'.same s1).same s2) rfl fun H3 m3 h3 => ?_
    dsimp only
    refine s_ret (K := K) (d := .int (n : Int)) (ed_int (ed_vs rfl) hn) ?_
    intro v H4 s4 hv4
    rw [dpI hv4]
    exact q H4 ((((Mv.of s1).trans (Mv.of s2)).trans m3).trans (Mv.of s4)) (h3.same s4)
theorem ml_numeral (T : Tx K mg)  {C : Addr} {tl : List (Str × V)} (c : RC K C tl) : Ml P w K mg base CX0 2 C "numeral" ["self", "most"] (spNumeral K) := by
  rcases c with ⟨rfl, _⟩ | ⟨rfl, _⟩
  · obtain ⟨fd, F⟩ := T.f_Reader_numeral
    exact ⟨_, fd, T.k_Reader, T.m_Reader_numeral, F.bindsN fun _ _ _ _ _ _ us hl => match us, hl with | [_, _], _ => rfl, fo_Reader_numeral T F⟩
  · obtain ⟨fd, F⟩ := T.f_TreeReader_numeral
    exact ⟨_, fd, T.k_TreeReader, T.m_TreeReader_numeral, F.bindsN fun _ _ _ _ _ _ us hl => match us, hl with | [_, _], _ => rfl, fo_Reader_numeral T F⟩
theorem sc_Reader_end : FnScope ["self"] ["self"] (defScope s_Reader_end) := ⟨rfl, rfl, rfl, by decide +kernel, rfl, by decide +kernel, by decide +kernel⟩
theorem fo_Reader_end {f : Addr} {fd : FuncData} (T : Tx K mg)  (F : FunD K "end" "Reader.end" (defArgs s_Reader_end) (defBody s_Reader_end) (defScope s_Reader_end) [] [] f fd) : FnOk P w K mg base CX0 2 f fd ["self"] (spEnd K) := by
  refine F.ok sc_Reader_end (fun vs H Q E h => ?_) (fun cdv A outer s H vs Q E hr h => ?_)
  · obtain ⟨r, k, rfl, _⟩ := h
    rfl
  · obtain ⟨r, k, rfl, hr', hw, q⟩ := h
    have hC := hr'.cl
    refine ⟨_, PSs.nox (pss_one (ps_if (pt_cmpR op_ne (G.pe_ml0 (G.ml_word T hC) hr (by decide) pass0 (pv 0)) pe_str (nomark _)) (pss_one ps_never) pss_nil)), ?_⟩
    exact s_ifF (et_test (ed_neS (ed_word hr' rfl) ed_s)) (by rw [hw, strN]; simp) fun H1 s1 => q H1 s1
theorem ml_end (T : Tx K mg)  {C : Addr} {tl : List (Str × V)} (c : RC K C tl) : Ml P w K mg base CX0 2 C "end" ["self"] (spEnd K) := by
  rcases c with ⟨rfl, _⟩ | ⟨rfl, _⟩
  · obtain ⟨fd, F⟩ := T.f_Reader_end
    exact ⟨_, fd, T.k_Reader, T.m_Reader_end, F.bindsN fun _ _ _ _ _ _ us hl => match us, hl with | [_], _ => rfl, fo_Reader_end T F⟩
  · obtain ⟨fd, F⟩ := T.f_TreeReader_end
    exact ⟨_, fd, T.k_TreeReader, T.m_TreeReader_end, F.bindsN fun _ _ _ _ _ _ us hl => match us, hl with | [_], _ => rfl, fo_Reader_end T F⟩
theorem sc_Reader_due : FnScope ["self", "is_right"] ["self", "is_right"] (defScope s_Reader_due) := ⟨rfl, rfl, rfl, by decide +kernel, rfl, by decide +kernel, by decide +kernel⟩
theorem fo_Reader_due {f : Addr} {fd : FuncData} (T : Tx K mg)  (F : FunD K "due" "Reader.due" (defArgs s_Reader_due) (defBody s_Reader_due) (defScope s_Reader_due) [] [] f fd) : FnOk P w K mg base CX0 1 f fd ["self", "is_right"] (spDue K) := by
  refine F.ok sc_Reader_due (fun vs H Q E h => ?_) (fun cdv A outer s H vs Q E hr h => ?_)
  · obtain ⟨x, rfl, _⟩ := h
    rfl
  · obtain ⟨x, rfl, q⟩ := h
    refine ⟨_, PSs.nox (pss_one (ps_if (pt_not (pt_val (pv 1))) (pss_one ps_never) pss_nil)), ?_⟩
    exact s_ifF (et_not (et_test (K := K) (ed_var (.bl true)))) rfl fun H1 s1 => q H1 s1
theorem ml_due (T : Tx K mg)  {C : Addr} {tl : List (Str × V)} (c : RC K C tl) : Ml P w K mg base CX0 1 C "due" ["self", "is_right"] (spDue K) := by
  rcases c with ⟨rfl, _⟩ | ⟨rfl, _⟩
  · obtain ⟨fd, F⟩ := T.f_Reader_due
    exact ⟨_, fd, T.k_Reader, T.m_Reader_due, F.bindsN fun _ _ _ _ _ _ us hl => match us, hl with | [_, _], _ => rfl, fo_Reader_due T F⟩
  · obtain ⟨fd, F⟩ := T.f_TreeReader_due
    exact ⟨_, fd, T.k_TreeReader, T.m_TreeReader_due, F.bindsN fun _ _ _ _ _ _ us hl => match us, hl with | [_, _], _ => rfl, fo_Reader_due T F⟩
/-- what __init__ leaves: the fields of a new reader -/
def spInit (K : PySem.W.Frag) : Sp := fun vs H Q _ => ∃ (a C dx : Addr) (l : List Nat), vs = [.ref a, .str (S l)] ∧ H a = some (.ins C dx []) ∧ Cls K C ∧ NoAttr K C "text" ∧ NoAttr K C "words" ∧ NoAttr K C "at" ∧ l.length ≤ 50000 ∧
  ∀ H' W us, Mv a H H' → H W = none → W ≠ a → H' W = some (.lst us) → DpAll K H' us ((wordsOf l).map wordD) → H' a = some (.ins C dx [(("text" : Str), .str (S l)), (("words" : Str), .ref W), (("at" : Str), .int 0)]) → Q .non H'
theorem sc_Reader___init__ : FnScope ["self", "text"] ["self", "text"] (defScope s_Reader___init__) := ⟨rfl, rfl, rfl, by decide +kernel, rfl, by decide +kernel, by decide +kernel⟩
theorem fo_Reader___init__ {f : Addr} {fd : FuncData} (T : Tx K mg)  (F : FunD K "__init__" "Reader.__init__" (defArgs s_Reader___init__) (defBody s_Reader___init__) (defScope s_Reader___init__) [] [] f fd) : FnOk P w K mg base CX0 2 f fd ["self", "text"] (spInit K) := by
  refine F.ok sc_Reader___init__ (fun vs H Q E h => ?_) (fun cdv A outer s H vs Q E hr h => ?_)
  · obtain ⟨a, C, dx, l, rfl, _⟩ := h
    rfl
  · obtain ⟨a, C, dx, l, rfl, ho, hc, n1, n2, n3, hl, q⟩ := h
    refine ⟨_, PSs.nox (pss_cons (ps_if (pt_not (pt_val (pe_callB call_isi (by rfl) T.b_isinstance PyProof.Rows.Boot.«isinstance» (pa_cons (pv 1) (pa_cons (pe_bltn (v := .ty "str") (by rfl) T.b_str PyProof.Rows.Boot.«str» rfl) pa_nil))))) (pss_one ps_never) pss_nil)
  (pss_cons (ps_fld (pv 0) (pv 1) rfl)
  (pss_cons (ps_fld (pv 0) (G.pe_cl (ok_words_in T) hr (by decide) pass0 (pa_cons (pv 1) pa_nil)) rfl)
  (pss_one (ps_fld (pv 0) pe_int rfl))))), ?_⟩
    refine s_ifF (et_not (et_B (ed_isi (ed_vs (K := K) rfl) (kit_S _)))) rfl fun H1 s1 => ?_
    refine s_fld (K := K) rfl (s1 _ _ ho) hc n1 (by simp) (ed_vs rfl) fun v H2 s2 hv => ?_
    obtain rfl := dpS hv
    have m2 : Mv a H H2 := Mv.of (s1.trans s2)
    refine s_fldN (K := K) rfl upd_same hc n2 (by simp [putF]) (en_call (ea_cons (ed_vs rfl) ea_nil) ⟨l, hl, rfl, rfl⟩) fun W us H3 s3 hW hWl hus => ?_
    have m3 : Mv a H H3 := m2.upd.trans (Mv.of s3)
    have hWa : W ≠ a := fun z => by rw [z, upd_same] at hW; cases hW
    have hW0 : H W = none := by
      cases e : H W with
      | none => rfl
      | some o => rw [m2.upd W o hWa e] at hW; cases hW
    refine s_fld (K := K) rfl upd_same hc n3 (by show (2 : Nat) < 1000; decide) (ed_i (n := 0)) fun v H4 s4 hv4 => ?_
    obtain rfl := dpI hv4
    have k4 : Kt H3 (upd H4 a (.ins C dx (putF "at" (.int 0) (putF "words" (.ref W) (putF "text" (.str (S l)) []))))) := by
      have e3 : H3 a = some (.ins C dx (putF "text" (.str (S l)) [])) := s3 _ _ upd_same
      exact ((Mv.refl a H3).upd.trans (Mv.of s4)).upd.kt e3
    refine q _ W us (((m3.upd).trans (Mv.of s4)).upd) hW0 hWa ?_ (dps_kt k4 _ _ (wordD_tt _) hus) ?_
    · rw [upd_ne hWa]
      refine s4 _ _ ?_
      rw [upd_ne hWa]
      exact hWl
    · exact upd_same
theorem kl_Reader (T : Tx K mg)  : Kl P w K mg base CX0 2 (He.ga K "Reader") "Reader" ["self", "text"] (spInit K) := by
  obtain ⟨fd, F⟩ := T.f_Reader___init__
  exact ⟨_, fd, T.g_Reader, T.mk_Reader, F.bindsN fun _ _ _ _ _ _ us hl => match us, hl with | [_, _], _ => rfl, fo_Reader___init__ T F⟩
end
end G


set_option Elab.async false
set_option linter.all false
set_option maxRecDepth 100000
set_option maxHeartbeats 4000000
namespace G
open PySem PySem.Spec PyProof.Rows L2
section
variable {X : Cx} {CX : CXT} {k j : Nat} {x m : Str} {ps : List Str} {sp : Sp} {E : XK} {t : TA} {ta : TE} {e o : Expr} {es : List Expr} {p pos apos : Pos} {C : Addr} {pl : Sem Bool}
theorem pe_kl (c : Kl X.prog X.w X.K X.mg X.base CX k C x ps sp) (hr : Room j X.A) (hk : k + 1 ≤ j) (hx : Passes CX X E) (ha : PA X (e :: es) t) (hg : Gl X x := by rfl)
    (he : starEach (e :: es) X.env = (false, eval e X.env) :: starEach es X.env := by rfl) (hpl : (backTo pos (starEach es X.env)).any (·.1) = false := by rfl) (hd : (x == ("__debug__" : Str)) = false := by decide) :
    PE X (.Call (.Name x p) (e :: es) [] pos) (tMake C sp [] E t) := by
  obtain ⟨f, fd, h1, h2, h3, h4⟩ := c.ex
  exact pe_make h2 h4 (hr.mono hk) hg h1 h3 .nil hx ha hd he hpl
end
theorem iteT_of {c : Bool} {p q : Prop} (h : c = true) (x : p) : if c = true then p else q := by rw [if_pos h]; exact x
theorem iteF_of {c : Bool} {p q : Prop} (h : ¬ c = true) (x : q) : if c = true then p else q := by rw [if_neg h]; exact x
/-! ### what is still to be read -/
def Rem (r : RI) (k : Nat) (L : List (List Nat)) : Prop := (r.ws.map (·.1)).drop k = L
theorem Rem.w {r : RI} {k : Nat} {w : List Nat} {L : List (List Nat)} (h : Rem r k (w :: L)) : r.w k = w := by
  have h1 : (r.ws.map (·.1))[k]? = some w := by
    have := congrArg (fun l => l[0]?) h
    simpa [Rem] using this
  rw [List.getElem?_map] at h1
  unfold RI.w
  cases e : r.ws[k]? with
  | none => rw [e] at h1; cases h1
  | some p => rw [e] at h1; exact Option.some.inj h1
theorem Rem.next {r : RI} {k : Nat} {w : List Nat} {L : List (List Nat)} (h : Rem r k (w :: L)) : Rem r (k + 1) L := by
  unfold Rem at h ⊢
  rw [← List.drop_drop, h]
  rfl
theorem Rem.nil {r : RI} {k : Nat} (h : Rem r k []) : r.w k = [] := by
  have h1 : r.ws.length ≤ k := by
    have := congrArg List.length h
    simp at this; omega
  unfold RI.w
  rw [List.getElem?_eq_none h1]
/-! ### a reader and a list that grows -/
structure RF (K : PySem.W.Frag) (r : RI) (F : Addr) (H0 H : Hp) (k : Nat) (ds : List PyData) : Prop where
  rd : r.at K H k
  nF : F ≠ r.a
  nW : F ≠ r.W
  s0 : Same H0 H
  n0 : H0 r.a = none
  f0 : H0 F = none
  fl : ∃ us, H F = some (.lst us) ∧ DpAll K H us ds
  tt : tts ds = true
section
variable {K : PySem.W.Frag} {mg : Str → Option Value} {r : RI} {F : Addr} {H0 H H' : Hp} {k k' : Nat} {ds : List PyData} {d : PyData} {v : V} {σ : L2.St} {i : Nat}
theorem RF.same (s : Same H H') (h : RF K r F H0 H k ds) : RF K r F H0 H' k ds := by
  obtain ⟨us, h1, h2⟩ := h.fl
  exact ⟨h.rd.same s, h.nF, h.nW, h.s0.trans s, h.n0, h.f0, ⟨us, s _ _ h1, dps_same s _ _ h2⟩, h.tt⟩
theorem RF.mv (m : Mv r.a H H') (h : RF K r F H0 H k ds) (a : r.at K H' k') : RF K r F H0 H' k' ds := by
  obtain ⟨us, h1, h2⟩ := h.fl
  exact ⟨a, h.nF, h.nW, Mv.same0 h.s0 h.n0 m, h.n0, h.f0, ⟨us, m _ _ h.nF h1, dps_kt (m.kt h.rd.ob) _ _ h.tt h2⟩, h.tt⟩
theorem RF.push {us : List V} (h : RF K r F H0 H k ds) (hu : H F = some (.lst us)) (hd : Dp K H v d) (ht : G.tt d = true) : RF K r F H0 (upd H F (.lst (us ++ [v]))) k (ds ++ [d]) := by
  obtain ⟨us', h1, h2⟩ := h.fl
  rw [hu] at h1
  cases h1
  have hk : Kt H (upd H F (.lst (us ++ [v]))) := Kt.rfl'.lst hu
  exact ⟨h.rd.other hu h.nW, h.nF, h.nW, h.s0.own h.f0, h.n0, h.f0, ⟨_, upd_same, (dps_kt hk _ _ h.tt h2).snoc (dp_kt hk _ _ ht hd)⟩, tts_snoc h.tt ht⟩
/-- what stands at the list's name -/
theorem RF.ed (h : RF K r F H0 H k ds) (hv : σ[i]? = some (some (.ref F))) : EvD K (tVar i) σ H (.list ds) := by
  obtain ⟨us, h1, h2⟩ := h.fl
  exact ed_lstV hv h1 h2
/-- a mark -/
theorem x_mark {te : TE} {E : XK} {Q : VK} {L : List (List Nat)} {w : List Nat} (h : r.at K H k) (hr : Rem r k (w :: L)) (hv : σ[i]? = some (some (.ref r.a))) (he : EvD K te σ H (.str (S w))) (q : ∀ H', Mv r.a H H' → r.at K H' (k + 1) → Rem r (k + 1) L → Q .non H') :
    tMeth r.C "mark" (spMark K) [] E (tVar i) (tCons te tNil) σ H Q :=
  ⟨_, hv, r.a, r.dx, r.fs k, rfl, h.ob, fs_look h.cl (by decide), he H (Same.refl H) _ fun v H1 s1 hd => ⟨r, k, by rw [dpS hd, hr.w]; rfl, h.same s1, fun H' m a => q H' ((Mv.of s1).trans m) a hr.next⟩⟩
/-- goes_on, when it does -/
theorem x_goes {te : TE} {E : XK} {Q : VK} {L : List (List Nat)} {w : List Nat} (h : r.at K H k) (hr : Rem r k (w :: L)) (hv : σ[i]? = some (some (.ref r.a))) (he : EvD K te σ H (.str (S w))) (q : ∀ H', Mv r.a H H' → r.at K H' (k + 1) → Rem r (k + 1) L → Q (.bl true) H') :
    tMeth r.C "goes_on" (spGoes K) [] E (tVar i) (tCons te tNil) σ H Q :=
  ⟨_, hv, r.a, r.dx, r.fs k, rfl, h.ob, fs_look h.cl (by decide), he H (Same.refl H) _ fun v H1 s1 hd => ⟨r, k, w, by rw [dpS hd]; rfl, h.same s1, fun z => absurd hr.w z, fun _ H' m a => q H' ((Mv.of s1).trans m) a hr.next⟩⟩
/-- .. when it does not -/
theorem x_stays {te : TE} {E : XK} {Q : VK} {w : List Nat} (h : r.at K H k) (hr : r.w k ≠ w) (hv : σ[i]? = some (some (.ref r.a))) (he : EvD K te σ H (.str (S w))) (q : ∀ H', Same H H' → Q (.bl false) H') :
    tMeth r.C "goes_on" (spGoes K) [] E (tVar i) (tCons te tNil) σ H Q :=
  ⟨_, hv, r.a, r.dx, r.fs k, rfl, h.ob, fs_look h.cl (by decide), he H (Same.refl H) _ fun v H1 s1 hd => ⟨r, k, w, by rw [dpS hd]; rfl, h.same s1, fun _ H' s => q H' (s1.trans s), fun z => absurd z hr⟩⟩
theorem ed_end {E : XK} (h : r.at K H k) (hr : Rem r k []) (hv : σ[i]? = some (some (.ref r.a))) : EvD K (tMeth r.C "end" (spEnd K) [] E (tVar i) tNil) σ H .none := fun H1 s Q q =>
  ⟨_, hv, r.a, r.dx, r.fs k, rfl, (h.same s).ob, fs_look h.cl (by decide), r, k, rfl, h.same s, hr.nil, fun H' s' => q _ H' s' .non⟩
theorem ed_due {te : TE} {E : XK} (h : r.at K H k) (hv : σ[i]? = some (some (.ref r.a))) (he : EvD K te σ H (.bool true)) : EvD K (tMeth r.C "due" (spDue K) [] E (tVar i) (tCons te tNil)) σ H .none := fun H1 s Q q =>
  ⟨_, hv, r.a, r.dx, r.fs k, rfl, (h.same s).ob, fs_look h.cl (by decide), he H1 s _ fun v H2 s2 hd => ⟨.ref r.a, by rw [dpB hd]; rfl, fun H' s' => q _ H' (s2.trans s') .non⟩⟩
/-! ### texts joined, added -/
theorem ed_join {to te : TE} {a : List Nat} {ys : List (List Nat)} (ho : EvD K to σ H (.str (S a))) (he : EvN K te σ H (ys.map fun y => .str (S y))) (hb : ∀ y ∈ ys, y.length ≤ 10000) (hn : ys.length ≤ 1000) (ha : a.length ≤ 10) :
    EvD K (tM1 (fun x xs H Q => ∃ a p, ∃ ys : List Str, x = .str a ∧ xs = [.ref p] ∧ (SqL K H p (ys.map V.str) ∨ SqT K H p (ys.map V.str)) ∧ (ys.map (·.length)).sum + ys.length * a.length ≤ 16777216 ∧ Q (.str (Txt.join a ys)) H) to te) σ H (.str (S (TL.joinL a ys))) := fun H1 s Q q => by
  have key : ∀ l : List (List Nat), (∀ y ∈ l, y.length ≤ 10000) → (l.map List.length).sum ≤ l.length * 10000 := by
    intro l
    induction l with
    | nil => intro _; simp
    | cons y l ih =>
      intro h
      have := ih fun z hz => h z (List.mem_cons_of_mem _ hz)
      have := h y List.mem_cons_self
      simp [Nat.succ_mul]; omega
  have hk := key ys hb
  have hm : ys.length * 10000 ≤ 1000 * 10000 := Nat.mul_le_mul_right _ hn
  have hm2 : ys.length * a.length ≤ 1000 * 10 := Nat.mul_le_mul hn ha
  refine ho H1 s _ fun x H2 s2 hx => ⟨⟨_, dpS hx⟩, he H2 (s.trans s2) _ fun p vs H3 s3 _ hp hv => ?_⟩
  refine ⟨S a, p, ys.map S, dpS hx, rfl, .inl ?_, ?_, ?_⟩
  · have hv : DpAll K H3 vs ((ys.map S).map .str) := by rw [List.map_map]; exact hv
    rw [← dps_strs hv]
    exact sq_of hp
  · rw [List.map_map, List.length_map, S_len]
    have : (ys.map ((·.length) ∘ S)) = ys.map List.length := List.map_congr_left fun y _ => S_len y
    rw [this]; omega
  · rw [SX.join_S]
    exact q _ H3 (s2.trans s3) (.str _)
theorem ed_catS {ta tb : TE} {a b : List Nat} (ha : EvD K ta σ H (.str (S a))) (hb : EvD K tb σ H (.str (S b))) (hl : a.length + b.length ≤ 100000) : EvD K (tOp (fun x y H Q => ∃ i j, x = .str i ∧ y = .str j ∧ i.length + j.length ≤ sizeLine ∧ Q (.str (i ++ j)) H) ta tb) σ H (.str (S (a ++ b))) :=
  (ed_addS ha hb (by rw [S_len, S_len]; exact hl)).to (by rw [S_cat])
/-- a numeral -/
theorem x_numeral {te : TE} {E : XK} {Q : VK} {L : List (List Nat)} {n m : Nat} (h : r.at K H k) (hr : Rem r k (numW n :: L)) (hn : n < 100) (hm : n ≤ m) (hv : σ[i]? = some (some (.ref r.a))) (he : EvD K te σ H (.int (m : Int))) (q : ∀ H', Mv r.a H H' → r.at K H' (k + 1) → Rem r (k + 1) L → Q (.int (n : Int)) H') :
    tMeth r.C "numeral" (spNumeral K) [] E (tVar i) (tCons te tNil) σ H Q :=
  ⟨_, hv, r.a, r.dx, r.fs k, rfl, h.ob, fs_look h.cl (by decide), he H (Same.refl H) _ fun v H1 s1 hd => ⟨r, k, n, m, by rw [dpI hd]; rfl, h.same s1, hr.w, hn, hm, fun H' m a => q H' ((Mv.of s1).trans m) a hr.next⟩⟩
/-- a new reader and a new list -/
theorem s_newRF (T : Tx K mg) {te : TE} {D : Ends} {E : XK} {l : List Nat} {j : Nat} (he : EvD K te σ H (.str (S l))) (hl : l.length ≤ 50000)
    (q : ∀ a dx W F H', RF K ⟨a, He.ga K "Reader", dx, W, [], l, wordsOf l⟩ F H H' 0 [] → D.nx ((σ.set i (some (.ref a))).set j (some (.ref F))) H') :
    tPar i j (tCons (tMake (He.ga K "Reader") (spInit K) [] E (tCons te tNil)) (tCons (tLst tNil) tNil)) D σ H := by
  refine he H (Same.refl H) _ fun v H1 s1 hv => ?_
  obtain rfl := dpS hv
  intro a dx ha hdx hne
  have e1 : (upd (upd H1 dx (.own a)) a (.ins (He.ga K "Reader") dx [])) a = some (.ins (He.ga K "Reader") dx []) := upd_same
  refine ⟨a, He.ga K "Reader", dx, l, rfl, e1, T.k_Reader, T.n_Reader_text, T.n_Reader_words, T.n_Reader_at, hl, fun H2 W us m hW hWa hWl hus hfs => ⟨rfl, ?_⟩⟩
  have s12 : Same H1 H2 := fun b o e => by
    have hb : b ≠ a := fun z => by rw [z, ha] at e; cases e
    refine m b o hb ?_
    rw [upd_ne hb, upd_ne (fun z => by rw [z, hdx] at e; cases e)]
    exact e
  refine ⟨by simp, fun F hF => ⟨_, _, rfl, q a dx W F _ ?_⟩⟩
  have ha0 : H a = none := back s1 ha
  have hFa : F ≠ a := fun z => by rw [z, hfs] at hF; cases hF
  have hFW : F ≠ W := fun z => by rw [z, hWl] at hF; cases hF
  have sF : Same H2 (upd H2 F (.lst [])) := (Same.refl H2).new hF
  have hF0 : H F = none := back (s1.trans s12) hF
  have hat : (⟨a, He.ga K "Reader", dx, W, [], l, wordsOf l⟩ : RI).at K H2 0 := ⟨hfs, ⟨us, hWl, hus⟩, .inl ⟨rfl, rfl⟩, Nat.le_trans (wordsF_len _ _ _) hl, hl⟩
  exact ⟨hat.same sF, hFa, hFW, (s1.trans s12).trans sF, ha0, hF0, ⟨[], upd_same, .nil⟩, rfl⟩
theorem ed_inD {ta tb : TE} {d : PyData} {ds : List PyData} (ha : EvD K ta σ H d) (hb : EvD K tb σ H (.list ds)) (h1 : SeqAt.shaped d = true) (h2 : SeqAt.shaped (.list ds) = true) : EvD K (tOp (rInD K) ta tb) σ H (.bool (ds.any fun z => PyData.eqv z d)) :=
  ed_op ha hb fun x y H1 _ hx hy Q q => ⟨d, ds, hx, hy, h1, h2, q _ H1 (Same.refl H1) (.bl _)⟩
end
end G

set_option Elab.async false
set_option linter.all false
set_option maxRecDepth 100000
set_option maxHeartbeats 4000000
namespace G
open PySem PySem.Spec PyProof.Rows L2
/-! ### texts and words of signatures -/
def entT (e : Str × Nat) : List Nat := e.1.cps.toList ++ [47] ++ numW e.2
def sigT (sg : Sg) : List Nat := TL.joinL [44, 32] (sg.map entT)
def entW (e : Str × Nat) : List (List Nat) := [e.1.cps.toList, [47], numW e.2]
def sigW : Sg → List (List Nat)
  | [] => []
  | [e] => entW e
  | e :: e2 :: r => entW e ++ [44] :: sigW (e2 :: r)
theorem low_run {l : List Nat} (h : lowL l = true) : l ≠ [] ∧ l.all isRun = true ∧ l.length ≤ 10 := by
  cases l with
  | nil => simp [lowL] at h
  | cons c r =>
    simp only [lowL, Bool.and_eq_true, decide_eq_true_eq] at h
    exact ⟨by simp, h.2, by simp; omega⟩
theorem numW_run : ∀ n : Nat, n < 100 → (numW n).all isRun = true := by decide +kernel
theorem Toks.runL {w : List Nat} {ws : List (List Nat)} {cs : List Nat} (h1 : w ≠ []) (h2 : w.all isRun = true) (hn : ∀ d, cs.head? = some d → isRun d = false) (h : Toks ws cs) : Toks (w :: ws) (w ++ cs) := by
  cases w with
  | nil => exact absurd rfl h1
  | cons c r =>
    have h2 : isRun c = true ∧ r.all isRun = true := by simpa using h2
    exact .run h2.1 h2.2 hn h
theorem Toks.sg {c : Nat} {ws : List (List Nat)} {cs : List Nat} (h : Toks ws cs) (hc : isRun c = false := by decide +kernel) (hb : isBl c = false := by decide +kernel) (ha : decide (c = 45) = false := by decide) : Toks ([c] :: ws) (c :: cs) :=
  .sign hc hb (by unfold G.arrow; rw [ha]; rfl) h
theorem bl32 : isBl 32 = true := by decide +kernel
theorem Toks.sp {ws : List (List Nat)} {cs : List Nat} (h : Toks ws cs) : Toks ws (32 :: cs) := .blank bl32 h
def NoRun (cs : List Nat) : Prop := ∀ d, cs.head? = some d → isRun d = false
theorem nr_nil : NoRun [] := fun d h => by simp at h
theorem nr_cons {c : Nat} {cs : List Nat} (h : isRun c = false) : NoRun (c :: cs) := fun d e => by simp at e; subst e; exact h
theorem run_of {c : Nat} {b : Bool} (h : isRun c = b) : isRun c = b := h
theorem r47 : isRun 47 = false := by decide +kernel
theorem r44 : isRun 44 = false := by decide +kernel
theorem r40 : isRun 40 = false := by decide +kernel
theorem r41 : isRun 41 = false := by decide +kernel
theorem r32 : isRun 32 = false := by decide +kernel
theorem r59 : isRun 59 = false := by decide +kernel
theorem ent_toks {e : Str × Nat} (h1 : lowL e.1.cps.toList = true) (h2 : e.2 ≤ 2) {ws : List (List Nat)} {cs : List Nat} (h : Toks ws cs) (hn : NoRun cs) : Toks (entW e ++ ws) (entT e ++ cs) := by
  obtain ⟨a, b, _⟩ := low_run h1
  have c := (numW_ok e.2 (by omega)).2.2.2.1
  have d := numW_run e.2 (by omega)
  have := Toks.runL a b (nr_cons r47) (Toks.sg (c := 47) (Toks.runL c d hn h))
  simpa [entW, entT] using this
theorem sig_toks : ∀ {sg : Sg}, (∀ e ∈ sg, lowL e.1.cps.toList = true) → (∀ e ∈ sg, e.2 ≤ 2) → Toks (sigW sg) (sigT sg)
  | [], _, _ => .nil
  | [e], h1, h2 => by
    have := ent_toks (h1 e (by simp)) (h2 e (by simp)) .nil nr_nil
    simpa [sigW, sigT, TL.joinL] using this
  | e :: e2 :: r, h1, h2 => by
    have ih := sig_toks (sg := e2 :: r) (fun x hx => h1 x (List.mem_cons_of_mem _ hx)) (fun x hx => h2 x (List.mem_cons_of_mem _ hx))
    have := ent_toks (h1 e (by simp)) (h2 e (by simp)) (Toks.sg (c := 44) ih.sp) (nr_cons r44)
    simpa [sigW, sigT, TL.joinL] using this
theorem entT_len {e : Str × Nat} (h1 : lowL e.1.cps.toList = true) (h2 : e.2 ≤ 2) : (entT e).length ≤ 20 := by
  have a := (low_run h1).2.2
  have b := (numW_ok e.2 (by omega)).2.1
  simp [entT] at *; omega
theorem joinL_len (a : List Nat) (n : Nat) : ∀ ys : List (List Nat), (∀ y ∈ ys, y.length ≤ n) → (TL.joinL a ys).length ≤ ys.length * (n + a.length)
  | [], _ => by simp [TL.joinL]
  | [y], h => by
    have := h y (by simp)
    simp [TL.joinL]; omega
  | y :: z :: r, h => by
    have := h y (by simp)
    have ih := joinL_len a n (z :: r) fun x hx => h x (List.mem_cons_of_mem _ hx)
    simp [TL.joinL, Nat.add_mul] at *; omega
theorem sigT_len {sg : Sg} (h : SgLike sg) : (sigT sg).length ≤ 300 := by
  have := joinL_len [44, 32] 20 (sg.map entT) (fun y hy => by
    obtain ⟨e, he, rfl⟩ := List.mem_map.mp hy
    exact entT_len (h.low e he) (h.ar e he))
  have h2 := h.few
  simp [sigT] at *; omega
end G

set_option Elab.async false
set_option linter.all false
set_option maxRecDepth 100000
set_option maxHeartbeats 4000000
namespace G
open PySem PySem.Spec PyProof.Rows L2
section
variable {P : Program} {w : World} {K : PySem.W.Frag} {mg : Str → Option Value} {base : Heap}
def Rwrite_signature : List PyData → PyData → Prop
  | [d], r => ∃ sg, SgOk sg ∧ d = sigD sg ∧ r = .str (S (sigT sg))
  | _, _ => False
theorem ed_strI {σ : L2.St} {H : Hp} {ta : TE} {n : Nat} (h : EvD K ta σ H (.int (n : Int))) (hn : n < 1000000) : EvD K (tCB (fun xs H Q => ∃ i, xs = [.int i] ∧ i.natAbs.log2 < 1920 ∧ Q (.str (toString i)) H) (tCons ta tNil)) σ H (.str (S (numW n))) := fun H1 s Q q => h H1 s _ fun v H2 s2 hv => by
  refine ⟨(n : Int), by rw [dpI hv], ?_, ?_⟩
  · have : ((n : Int).natAbs) = n := by simp
    rw [this]
    by_cases h0 : n = 0
    · subst h0; decide
    · have := (Nat.log2_lt (k := 20) h0).mpr (by omega)
      omega
  · have e : (Str.ofString (toString ((n : Nat) : Int))) = S (numW n) := SX.num_S n
    rw [e]
    exact q _ H2 s2 (.str _)
theorem strSlash : ("/" : Str) = S [47] := by decide +kernel
theorem strComma2 : (", " : Str) = S [44, 32] := by decide +kernel
theorem strComma : ("," : Str) = S [44] := by decide +kernel
theorem sc_write_signature : FnScope ["signature", "name", "arity"] ["signature"] (defScope s_write_signature) := ⟨rfl, rfl, rfl, by decide +kernel, rfl, by decide +kernel, by decide +kernel⟩
theorem ok_write_signature (T : Tx K mg)  : Cl P w K mg base (L2.CX P w) 5 "write_signature" ["signature"] (spX K Rwrite_signature (Yneed_signature K)) := by
  obtain ⟨fd, F⟩ := T.f_write_signature
  refine ⟨_, fd, T.g_write_signature, F.kp, F.bindsN fun _ _ _ _ _ _ us hl => match us, hl with | [_], _ => rfl, F.ok sc_write_signature (fun vs H Q E h => ?_) (fun cdv A outer s H vs Q E hr h => ?_)⟩
  · obtain ⟨ds, hd, ⟨r, hR, _⟩ | ⟨C, hR, _⟩⟩ := h
    · match ds, hR with
      | [_], _ => exact hd.len
    · match ds, hR with
      | [_], _ => exact hd.len
  · refine ⟨_, (pss_cons (ps_expr (G.pe_cl (ok_need_signature T) hr (by decide) (passes_call (takes_of rfl rfl rfl rfl) (fun _ _ _ _ h => h)) (pa_cons (pv 0) pa_nil)))
  (pss_one (ps_ret (pe_join pe_str (pe_lc (own := [("name", 1), ("arity", 2)]) (g := (gTup K 2 (gCons (gName 1) (gCons (gName 2) gNil)))) rfl sc_write_signature.nd (pi_tup (pv 0)) (blkOk_by (own := [("name", 1), ("arity", 2)]) (N := ["signature", "name", "arity"]) (sc := defScope s_write_signature) (by decide +kernel)) (fun _ _ _ _ _ => (pg_tup rfl (pgs_cons (pg_name (i := 1) sc_write_signature.nd rfl (by first | exact Or.inl rfl | exact Or.inr rfl)) (pgs_cons (pg_name (i := 2) sc_write_signature.nd rfl (by first | exact Or.inl rfl | exact Or.inr rfl)) pgs_nil)))) (fun _ _ _ _ _ => pts_nil) (fun _ _ _ _ _ => (pe_op op_add_str (pe_op op_add_str (pv 1) pe_str) (pe_callTy call_str_int (by rfl) T.b_str PyProof.Rows.Boot.«str» (pa_cons (pv 2) pa_nil))))))))), ?_⟩
    obtain ⟨ds, hd, ⟨r, hR, q⟩ | ⟨C, hR, q⟩⟩ := h
    · match ds, vs, hd, hR with
      | [d0], [v0], .cons h0 .nil, hR =>
      obtain ⟨sg, hs, rfl, rfl⟩ := hR
      refine s_drop (K := K) (ed_callX (ea_cons (ed_var h0) ea_nil) ⟨⟨sg, hs, rfl⟩, rfl⟩) fun H' s => ?_
      have h0' := dp_same s _ _ h0
      have hf := hs.1.few
      refine s_ret (ed_join (ys := sg.map entT) ((ed_s (n := ", ")).to (congrArg _ strComma2)) ?_ (fun y hy => ?_) (by simp; omega) (by decide)) fun v H2 s2 hv => q v H2 (s.trans s2) hv
      · rw [List.map_map]
        refine en_lcM sg entD (fun e => .str (S (entT e))) (ei_tup (ed_var h0')) (by omega) (fun _ _ => rfl) fun e he v H1 s1 hv W hW => g_pair hv fun w1 w2 h1 h2 => hW _ wipe_set2 ?_
        have hl := (low_run (hs.1.low e he)).2.2
        rw [Array.length_toList] at hl
        have ha := hs.1.ar e he
        have hn := (numW_ok e.2 (by omega)).2.1
        exact ed_catS (ed_catS (a := e.1.cps.toList) (ed_var h1) ((ed_s (n := "/")).to (congrArg _ strSlash)) (by simp; omega)) (ed_strI (ed_var h2) (by omega)) (by simp; omega)
      · obtain ⟨e, he, rfl⟩ := List.mem_map.mp hy
        have := entT_len (hs.1.low e he) (hs.1.ar e he)
        omega
    · match ds, vs, hd, hR with
      | [d0], [v0], .cons h0 .nil, hR =>
      obtain ⟨rfl, rfl⟩ := hR
      exact er_callX (ea_cons (ed_var h0) ea_nil) ⟨rfl, rfl⟩ q
def tailW : Sg → List (List Nat)
  | [] => []
  | e :: r => [44] :: sigW (e :: r)
theorem sigW_cons (e : Str × Nat) (r : Sg) : sigW (e :: r) = e.1.cps.toList :: [47] :: numW e.2 :: tailW r := by
  cases r <;> rfl
theorem run_small : ∀ c ∈ smallL ++ digL, c < 128 := by decide +kernel
theorem low_strOk {x : Str} (h : lowL x.cps.toList = true) : PyData.strOk x = true := by
  have h2 := (low_run h).2.1
  unfold PyData.strOk
  rw [← Array.all_toList, List.all_eq_true]
  intro c hc
  have h3 := List.all_eq_true.mp h2 c hc
  have h4 : c ∈ smallL ++ digL := by
    unfold isRun isSm isDg at h3
    rw [Bool.or_eq_true, decide_eq_true_eq, decide_eq_true_eq] at h3
    exact List.mem_append.mpr h3
  have := run_small c h4
  exact decide_eq_true (by omega)
theorem str_lay (ds : List Str) (h : ∀ x ∈ ds, lowL x.cps.toList = true) : SeqAt.shaped (.list (ds.map .str)) = true := shaped_list (n := 1) (fun d hd => by
  obtain ⟨x, hx, rfl⟩ := List.mem_map.mp hd
  exact ⟨by simp [PyData.canLay0, low_strOk (h x hx)], by simp [PyData.depth]⟩) (by decide)
theorem str_sh {x : Str} (h : lowL x.cps.toList = true) : SeqAt.shaped (.str x) = true := shaped_of (by simp [PyData.canLay0, low_strOk h]) (by simp [PyData.depth])
theorem entD_tt (l : Sg) : tts (l.map entD) = true := tts_of fun d hd => by
  obtain ⟨p, _, rfl⟩ := List.mem_map.mp hd
  rfl
def Rread_signature : List PyData → PyData → Prop
  | [d], r => ∃ (l : List Nat) (sg : Sg), d = .str (S l) ∧ l.length ≤ 50000 ∧ (wordsOf l).map (·.1) = sigW sg ∧ SgOk sg ∧ r = sigD sg
  | _, _ => False
theorem sc_read_signature : FnScope ["text", "reader", "found", "name", "one", "arity"] ["text"] (defScope s_read_signature) := ⟨rfl, rfl, rfl, by decide +kernel, rfl, by decide +kernel, by decide +kernel⟩
theorem ok_read_signature (T : Tx K mg)  : Cl P w K mg base CX0 4 "read_signature" ["text"] (spD K Rread_signature) := by
  obtain ⟨fd, F⟩ := T.f_read_signature
  refine ⟨_, fd, T.g_read_signature, F.kp, F.bindsN fun _ _ _ _ _ _ us hl => match us, hl with | [_], _ => rfl, F.ok sc_read_signature (fun vs H Q E h => ?_) (fun cdv A outer s H vs Q E hr h => ?_)⟩
  · obtain ⟨ds, r, hd, hR, _⟩ := h
    match ds, hR with
    | [_], _ => exact hd.len
  · obtain ⟨ds, r, hd, hR, q⟩ := h
    match ds, vs, hd, hR with
    | [d0], [v0], .cons h0 .nil, hR =>
    have hC : RC K (He.ga K "Reader") [] := .inl ⟨rfl, rfl⟩
    refine ⟨_, PSs.nox (pss_cons (ps_par (i := 1) (j := 2) rfl sc_read_signature.nd rfl rfl (by decide) rfl rfl (pa_cons (G.pe_kl (G.kl_Reader T) hr (by decide) pass0 (pa_cons (pv 0) pa_nil)) (pa_cons (pe_lst pa_nil) pa_nil)) (by rfl))
  (C8.pss_cut (ps_while PassesOwn.never (pt_val pe_bl) (pss_cons (ps_set (i := 3) sc_read_signature.nd rfl (by first | exact Or.inl rfl | exact Or.inr rfl) (G.pe_ml0 (G.ml_word T hC) hr (by decide) pass0 (pv 1)))
  (pss_cons (ps_if (PW.pt (pw_or (pt_not (pt_val (G.pe_cl (ok_is_low_name T) hr (by decide) pass0 (pa_cons (pv 3) pa_nil)))) (pw_or1 (pt_cmpR (op_inD (G.hu65 hr)) (pv 3) (pe_lc (own := [("one", 4), ("arity", 5)]) (g := (gTup K 2 (gCons (gName 4) (gCons (gName 5) gNil)))) rfl sc_read_signature.nd (pi_list (pv 2)) (blkOk_by (own := [("one", 4), ("arity", 5)]) (N := ["text", "reader", "found", "name", "one", "arity"]) (sc := defScope s_read_signature) (by decide +kernel)) (fun _ _ _ _ _ => (pg_tup rfl (pgs_cons (pg_name (i := 4) sc_read_signature.nd rfl (by first | exact Or.inl rfl | exact Or.inr rfl)) (pgs_cons (pg_name (i := 5) sc_read_signature.nd rfl (by first | exact Or.inl rfl | exact Or.inr rfl)) pgs_nil)))) (fun _ _ _ _ _ => pts_nil) (fun _ _ _ _ _ => (pv 4))) rfl)))) (pss_one ps_never) pss_nil)
  (pss_cons (ps_fldaug (pv 1) pe_int in_add)
  (pss_cons (ps_expr (G.pe_ml (G.ml_mark T hC) hr (by decide) pass0 (pv 1) (pa_cons pe_str pa_nil)))
  (pss_cons (ps_expr (pe_bm PySem.F.plainAttrs_list PySem.F.slot_list_append PySem.F.type_list_append mt_append (pv 2) (pa_cons (pe_tup (pa_cons (pv 3) (pa_cons (G.pe_ml (G.ml_numeral T hC) hr (by decide) pass0 (pv 1) (pa_cons (G.pe_ki (by rfl) T.c_MOST_ARITY) pa_nil)) pa_nil))) pa_nil)))
  (pss_one (ps_if (PW.pt (pw_or (pt_cmpR op_eq (pe_callB call_len_seq (by rfl) T.b_len PyProof.Rows.Boot.«len» (pa_cons (pv 2) pa_nil)) (G.pe_ki (by rfl) T.c_MOST_SYMBOLS) (nomark _)) (pw_or1 (pt_not (pt_val (G.pe_ml (G.ml_goes_on T hC) hr (by decide) pass0 (pv 1) (pa_cons pe_str pa_nil))))))) (pss_one ps_break) pss_nil))))))))
  (pss_cons (ps_expr (G.pe_ml0 (G.ml_end T hC) hr (by decide) pass0 (pv 1)))
  (pss_cons (ps_expr (G.pe_ml (G.ml_due T hC) hr (by decide) pass0 (pv 1) (pa_cons (G.pe_cl (ok_is_signature T) hr (by decide) pass0 (pa_cons (pe_callTy call_tuple_of (by rfl) T.b_tuple PyProof.Rows.Boot.«tuple» (pa_cons (pv 2) pa_nil)) pa_nil)) pa_nil)))
  (pss_one (ps_ret (pe_callTy call_tuple_of (by rfl) T.b_tuple PyProof.Rows.Boot.«tuple» (pa_cons (pv 2) pa_nil)))))))), ?_⟩
    obtain ⟨l, sg, rfl, hl, hw, hs, rfl⟩ := hR
    refine s_newRF T (ed_var h0) hl fun a dx W F H1 rf => ?_
    have hsg := hs.1.few
    refine ⟨fun σ2 H2 => ∃ (k : Nat) (x3 : Option V), σ2 = [some v0, some (.ref a), some (.ref F), x3, none, none] ∧ RF K ⟨a, He.ga K "Reader", dx, W, [], l, wordsOf l⟩ F H H2 k (sg.map entD) ∧ Rem ⟨a, He.ga K "Reader", dx, W, [], l, wordsOf l⟩ k [], ?_, ?_⟩
    · generalize hr : (⟨a, He.ga K "Reader", dx, W, [], l, wordsOf l⟩ : RI) = r at *
      have ra : r.a = a := by rw [← hr]
      have rc : r.C = He.ga K "Reader" := by rw [← hr]
      have rw_ : r.ws = wordsOf l := by rw [← hr]
      rw [← ra, ← rc]
      refine s_while (W := fun m σ' H1 => ∃ (j : Nat) (x3 : Option V), σ' = [some v0, some (.ref r.a), some (.ref F), x3, none, none] ∧ RF K r F H H1 (4 * j) ((sg.take j).map entD) ∧ Rem r (4 * j) (sigW (sg.drop j)) ∧ j < sg.length ∧ m = sg.length - j) (m0 := sg.length)
        ⟨0, none, by rw [ra]; rfl, rf, by unfold Rem; rw [rw_, hw]; rfl, List.length_pos_iff.mpr hs.1.ne, rfl⟩ ?_
      rintro m σ' H2 ⟨j, x3, rfl, rf, rem, hj, rfl⟩
      refine ⟨true, et_B (K := K) ed_b, fun H3 s3 => ⟨fun _ => ?_, fun z => nomatch z⟩⟩
      have rf := rf.same s3
      have hdrop : sg.drop j = sg[j] :: sg.drop (j + 1) := List.drop_eq_getElem_cons hj
      have htake : sg.take (j + 1) = sg.take j ++ [sg[j]] := by rw [List.take_succ, List.getElem?_eq_getElem hj]; rfl
      rw [hdrop, sigW_cons] at rem
      have hmem : sg[j] ∈ sg := List.getElem_mem hj
      have hlow := hs.1.low _ hmem
      have har := hs.1.ar _ hmem
      have hnd : sg[j].1 ∉ (sg.take j).map (·.1) := by
        have h1 := hs.1.nd
        rw [show sg = sg.take j ++ (sg[j] :: sg.drop (j + 1)) by rw [← hdrop, List.take_append_drop]] at h1
        rw [List.map_append, List.nodup_append] at h1
        intro hm
        have := h1.2.2 _ hm (sg[j].1) (List.mem_map.mpr ⟨sg[j], List.mem_cons_self, rfl⟩)
        exact this rfl
      have hlows : ∀ x ∈ (sg.take j).map (·.1), lowL x.cps.toList = true := fun x hx => by
        obtain ⟨e, he, rfl⟩ := List.mem_map.mp hx
        exact hs.1.low e (List.mem_of_mem_take he)
      generalize sg[j] = e at *
      refine s_set (ed_word rf.rd rfl) fun v H4 s4 hv => ?_
      rw [rem.w] at hv
      have hv : Dp K H4 v (.str e.1) := hv
      have rf := rf.same s4
      have hany : (((sg.take j).map (fun e => PyData.str e.1)).any fun z => PyData.eqv z (.str e.1)) = false := by
        rw [List.any_eq_false]
        intro z hz
        obtain ⟨x, hx, rfl⟩ := List.mem_map.mp hz
        intro he
        have : x.1 = e.1 := by simpa [PyData.eqv] using he
        exact hnd (List.mem_map.mpr ⟨x, hx, this⟩)
      have hshort := hs.1.short _ hmem
      refine s_ifF (et_orF (et_not (et_B (ed_call (ea_cons (ed_var hv) ea_nil) ⟨fun x hx => by injection hx with hx; rw [← hx]; omega, rfl⟩))) (by show (!lowL e.1.cps.toList) = false; rw [hlow]; rfl) (et_test (ed_inD (ed_var hv) (ed_ofN (en_lcM (sg.take j) entD (fun e => .str e.1) (ei_list (rf.ed rfl)) (by simp; omega) (fun _ _ => rfl)
        fun x hx v H5 s5 hv5 Wd hWd => g_pair hv5 fun w1 w2 h1 h2 => hWd _ wipe_set2 (ed_var h1))) (str_sh hlow) (by rw [show (sg.take j).map (fun e => PyData.str e.1) = ((sg.take j).map (·.1)).map .str by rw [List.map_map]; rfl]; exact str_lay _ hlows)))) hany fun H5 s5 => ?_
      have rf := rf.same s5
      have hv5 : Dp K H5 v (.str e.1) := dp_same s5 _ _ hv
      obtain rfl := dpS hv5
      refine s_step T rf.rd rfl fun H6 m6 a6 => ?_
      have rf := rf.mv m6 a6
      have rem := rem.next
      refine x_mark rf.rd rem rfl ((ed_s (n := "/")).to (congrArg _ strSlash)) fun H7 m7 a7 rem => ?_
      have rf := rf.mv m7 a7
      obtain ⟨us0, hF0, hus0⟩ := rf.fl
      refine ⟨_, rfl, lst_ty hF0, ?_⟩
      refine ⟨_, rfl, ?_⟩
      refine x_numeral (m := 2) rf.rd rem (by omega) har rfl ed_i fun H8 m8 a8 rem => ?_
      have rf := rf.mv m8 a8
      refine ⟨by show 2 ≤ sizeLine; rw [sizeLine_eq]; omega, fun p hp => ?_⟩
      have rf := rf.same ((Same.refl H8).new (o := .tup [.str e.1, .int (e.2 : Int)]) hp)
      obtain ⟨us, hF, hus⟩ := rf.fl
      have hul : us.length = j := by rw [hus.len, List.length_map, List.length_take]; omega
      refine ⟨F, us, .ref p, rfl, rfl, hF, sz_lt (by omega), ?_⟩
      have rf := rf.push (d := entD e) hF (.tup (st_of upd_same) (.cons (.str _) (.cons (.int _) .nil))) rfl
      rw [show (sg.take j).map entD ++ [entD e] = (sg.take (j + 1)).map entD by rw [htake, List.map_append]; rfl] at rf
      generalize upd (upd H8 p (.tup [.str e.1, .int (e.2 : Int)])) F (.lst (us ++ [.ref p])) = H9 at rf
      have ed9 : EvD K _ _ H9 (.bool (decide ((((sg.take (j + 1)).map entD).length : Int) = 12))) := ed_eqI (ed_lenL (rf.ed (σ := [some v0, some (.ref r.a), some (.ref F), some (.str e.1), none, none]) (i := 2) rfl)) (ed_i (n := 12))
      have hlen : ((sg.take (j + 1)).map entD).length = j + 1 := by simp; omega
      rw [hlen] at ed9
      refine (et_test ed9) H9 (Same.refl H9) _ fun H10 s10 => ?_
      have rf := rf.same s10
      cases hrest : sg.drop (j + 1) with
      | nil =>
        rw [hrest] at rem
        have hend : sg.length = j + 1 := by
          have := congrArg List.length hrest
          simp at this; omega
        have hfin : (sg.take (j + 1)).map entD = sg.map entD := by rw [← hend, List.take_length]
        rw [hfin] at rf
        by_cases h12 : decide (((j + 1 : Nat) : Int) = 12) = true
        · refine iteT_of h12 (iteT ?_)
          exact ⟨_, _, by rw [ra]; rfl, rf, rem⟩
        · refine iteF_of h12 ?_
          refine x_stays rf.rd (w := [44]) (by rw [rem.nil]; simp) rfl ((ed_s (n := ",")).to (congrArg _ strComma)) fun H11 s11 => ?_
          refine ⟨false, rfl, iteT ?_⟩
          exact ⟨_, _, by rw [ra]; rfl, rf.same s11, rem⟩
      | cons e2 rest =>
        rw [hrest] at rem
        have hlt : j + 1 < sg.length := by
          have := congrArg List.length hrest
          simp at this; omega
        have h12 : ¬ decide (((j + 1 : Nat) : Int) = 12) = true := by simp; omega
        refine iteF_of h12 ?_
        refine x_goes rf.rd rem rfl ((ed_s (n := ",")).to (congrArg _ strComma)) fun H11 m11 a11 rem => ?_
        refine ⟨true, rfl, iteF ?_⟩
        refine ⟨sg.length - (j + 1), by omega, j + 1, _, rfl, ?_, ?_, hlt, rfl⟩
        · have := rf.mv m11 a11
          exact this
        · rw [hrest]; exact rem
    · rintro σ2 H2 ⟨k, x3, rfl, rf, rem⟩
      refine s_drop (ed_end rf.rd rem rfl) fun H3 s3 => ?_
      have rf := rf.same s3
      refine s_drop (ed_due rf.rd rfl ((ed_call (ea_cons (ed_tupL (rf.ed rfl)) ea_nil) (.inr ⟨sg, hs.1, rfl, rfl⟩)).to (congrArg PyData.bool (decide_eq_true hs.2)))) fun H4 s4 => ?_
      have rf := rf.same s4
      exact s_ret (ed_tupL (rf.ed rfl)) fun v H5 s5 hv => q v H5 (rf.s0.trans s5) hv
end
end G


set_option Elab.async false
set_option linter.all false
set_option maxRecDepth 100000
set_option maxHeartbeats 4000000
namespace G
open PySem PySem.Spec PyProof.Rows L2
/-! ### trees as texts and words -/
def nameOf (sg : Sg) (f : Nat) : List Nat := match sg[f]? with
  | some e => e.1.cps.toList
  | none => []
def trT (sg : Sg) : Tr → List Nat
  | .n0 f => nameOf sg f
  | .n1 f a => nameOf sg f ++ [40] ++ trT sg a ++ [41]
  | .n2 f a b => nameOf sg f ++ [40] ++ (trT sg a ++ [44, 32] ++ trT sg b) ++ [41]
def trW (sg : Sg) : Tr → List (List Nat)
  | .n0 f => [nameOf sg f]
  | .n1 f a => nameOf sg f :: [40] :: (trW sg a ++ [[41]])
  | .n2 f a b => nameOf sg f :: [40] :: (trW sg a ++ [44] :: (trW sg b ++ [[41]]))
/-- a symbol over its children -/
def mkT (f : Nat) : List Tr → Tr
  | [] => .n0 f
  | [a] => .n1 f a
  | a :: b :: _ => .n2 f a b
theorem mkT_toD (f : Nat) (l : List Tr) (h : l.length ≤ 2) : (mkT f l).toD = .tuple (.int (f : Int) :: l.map Tr.toD) := by
  match l, h with
  | [], _ => rfl
  | [a], _ => rfl
  | [a, b], _ => rfl
  | _ :: _ :: _ :: _, h => simp at h
/-- an open node: its symbol, the children that are done, those that are due behind the running one -/
abbrev Fr := Nat × List Tr × List Tr
def plug : List Fr → Tr → Tr
  | [], t => t
  | (f, cs, rs) :: up, t => plug up (mkT f (cs ++ t :: rs))
/-- what is written behind the running child -/
def contW (sg : Sg) : List Fr → List (List Nat) → List (List Nat)
  | [], L => L
  | (_, _, rs) :: up, L => (rs.flatMap fun c => [44] :: trW sg c) ++ [41] :: contW sg up L
def remS : List Fr → Nat
  | [] => 0
  | (_, _, rs) :: up => (rs.map Tr.size).sum + remS up
structure FrOk (sg : Sg) (p : Fr) : Prop where
  ar : ∃ x, sg[p.1]? = some (x, p.2.1.length + 1 + p.2.2.length)
  few : p.2.1.length + 1 + p.2.2.length ≤ 2
  rs : ∀ c ∈ p.2.2, c.ok sg
/-- closing: pops the frames that are full; stops at a frame that has a child due -/
def closeP : List Fr → Tr → Sum Tr (List Fr × Tr)
  | [], t => .inl t
  | (f, cs, []) :: up, t => closeP up (mkT f (cs ++ [t]))
  | (f, cs, c :: rs) :: up, t => .inr ((f, cs ++ [t], rs) :: up, c)
theorem closeP_plug : ∀ (fs : List Fr) (t : Tr), match closeP fs t with
    | .inl u => u = plug fs t
    | .inr (fs', c) => plug fs' c = plug fs t
  | [], t => rfl
  | (f, cs, []) :: up, t => by
    have := closeP_plug up (mkT f (cs ++ [t]))
    unfold closeP
    cases e : closeP up (mkT f (cs ++ [t])) with
    | inl u => rw [e] at this; exact this
    | inr q => rw [e] at this; exact this
  | (f, cs, c :: rs) :: up, t => by
    show plug ((f, cs ++ [t], rs) :: up) c = plug ((f, cs, c :: rs) :: up) t
    simp [plug]
theorem closeP_len : ∀ (fs : List Fr) (t : Tr) {fs' : List Fr} {c : Tr}, closeP fs t = .inr (fs', c) → fs'.length ≤ fs.length ∧ remS fs' + c.size = remS fs
  | [], t, fs', c, h => by simp [closeP] at h
  | (f, cs, []) :: up, t, fs', c, h => by
    have := closeP_len up (mkT f (cs ++ [t])) (show closeP up (mkT f (cs ++ [t])) = .inr (fs', c) from h)
    simp [remS] at *; omega
  | (f, cs, d :: rs) :: up, t, fs', c, h => by
    simp [closeP] at h
    obtain ⟨rfl, rfl⟩ := h
    simp [remS]; omega
theorem closeP_ok {sg : Sg} : ∀ (fs : List Fr) (t : Tr) {fs' : List Fr} {c : Tr}, (∀ p ∈ fs, FrOk sg p) → closeP fs t = .inr (fs', c) → (∀ p ∈ fs', FrOk sg p) ∧ c.ok sg
  | [], t, fs', c, _, h => by simp [closeP] at h
  | (f, cs, []) :: up, t, fs', c, hk, h => closeP_ok up (mkT f (cs ++ [t])) (fun p hp => hk p (List.mem_cons_of_mem _ hp)) h
  | (f, cs, d :: rs) :: up, t, fs', c, hk, h => by
    simp [closeP] at h
    obtain ⟨rfl, rfl⟩ := h
    have h0 := hk (f, cs, d :: rs) List.mem_cons_self
    refine ⟨fun p hp => ?_, h0.rs d (by simp)⟩
    rcases List.mem_cons.mp hp with rfl | hp
    · obtain ⟨x, hx⟩ := h0.ar
      have e : cs.length + 1 + (d :: rs).length = (cs ++ [t]).length + 1 + rs.length := by simp; omega
      have hx : sg[f]? = some (x, cs.length + 1 + (d :: rs).length) := hx
      refine ⟨⟨x, ?_⟩, ?_, fun c hc => h0.rs c (by simp [show c ∈ rs from hc])⟩
      · show sg[f]? = some (x, (cs ++ [t]).length + 1 + rs.length)
        rw [hx, e]
      · have := h0.few
        show (cs ++ [t]).length + 1 + rs.length ≤ 2
        rw [← e]; exact this
    · exact hk p (List.mem_cons_of_mem _ hp)
theorem mkT_size (f : Nat) (l : List Tr) (h : l.length ≤ 2) : (mkT f l).size = (l.map Tr.size).sum + 1 := by
  match l, h with
  | [], _ => rfl
  | [a], _ => simp [mkT, Tr.size]
  | [a, b], _ => simp [mkT, Tr.size]
  | _ :: _ :: _ :: _, h => simp at h
theorem mem_sum {l : List Tr} {c : Tr} (h : c ∈ l) : c.size ≤ (l.map Tr.size).sum := by
  induction l with
  | nil => cases h
  | cons a r ih =>
    simp only [List.map_cons, List.sum_cons]
    rcases List.mem_cons.mp h with rfl | h
    · omega
    · have := ih h; omega
theorem plug_size : ∀ (fs : List Fr) (t : Tr), (∀ p ∈ fs, p.2.1.length + 1 + p.2.2.length ≤ 2) → t.size + fs.length + remS fs ≤ (plug fs t).size ∧ ∀ p ∈ fs, ∀ c ∈ p.2.1, c.size ≤ (plug fs t).size
  | [], t, _ => ⟨by simp [plug, remS], fun p hp => by cases hp⟩
  | (f, cs, rs) :: up, t, h => by
    have h0 := h (f, cs, rs) List.mem_cons_self
    have hl : (cs ++ t :: rs).length ≤ 2 := by simp at h0 ⊢; omega
    obtain ⟨h1, h2⟩ := plug_size up (mkT f (cs ++ t :: rs)) fun p hp => h p (List.mem_cons_of_mem _ hp)
    rw [mkT_size f _ hl] at h1
    have e : ((cs ++ t :: rs).map Tr.size).sum = (cs.map Tr.size).sum + (t.size + (rs.map Tr.size).sum) := by simp
    rw [e] at h1
    refine ⟨by simp [plug, remS]; omega, fun p hp c hc => ?_⟩
    rcases List.mem_cons.mp hp with rfl | hp
    · have := mem_sum (show c ∈ cs from hc)
      show c.size ≤ (plug up (mkT f (cs ++ t :: rs))).size
      omega
    · exact h2 p hp c hc
theorem kid_nil {sg : Sg} {t : Tr} {x : Str} (h : t.kids = []) (hx : sg[t.hd]? = some (x, t.kids.length)) : t = .n0 t.hd ∧ trW sg t = [x.cps.toList] := by
  cases t with
  | n0 f => exact ⟨rfl, by show [nameOf sg f] = _; unfold nameOf; rw [show sg[f]? = _ from hx]⟩
  | n1 f a => simp [Tr.kids] at h
  | n2 f a b => simp [Tr.kids] at h
theorem kid_cons {sg : Sg} {t a : Tr} {rs : List Tr} {x : Str} (h : t.kids = a :: rs) (hx : sg[t.hd]? = some (x, t.kids.length)) :
    t = mkT t.hd (a :: rs) ∧ trW sg t = x.cps.toList :: [40] :: (trW sg a ++ ((rs.flatMap fun c => [44] :: trW sg c) ++ [[41]])) ∧ t.size = a.size + (rs.map Tr.size).sum + 1 ∧ rs.length ≤ 1 := by
  have hn : nameOf sg t.hd = x.cps.toList := by unfold nameOf; rw [hx]
  cases t with
  | n0 f => simp [Tr.kids] at h
  | n1 f b =>
    simp [Tr.kids] at h
    obtain ⟨rfl, rfl⟩ := h
    have hn : nameOf sg f = x.cps.toList := hn
    exact ⟨rfl, by simp [trW, hn], by simp [Tr.size], by simp⟩
  | n2 f b c =>
    simp [Tr.kids] at h
    obtain ⟨rfl, rfl⟩ := h
    have hn : nameOf sg f = x.cps.toList := hn
    exact ⟨rfl, by simp [trW, hn], by simp [Tr.size], by simp⟩
/-! ### the list of open nodes -/
inductive FrA (K : PySem.W.Frag) (H0 H : Hp) : List Addr → List V → List Fr → Prop
  | nil : FrA K H0 H [] [] []
  | cons {p Lc f : Nat} {us : List V} {cs rs : List Tr} {ls : List Addr} {xs : List V} {fs : List Fr} (h1 : H p = some (.tup [.int (f : Int), .ref Lc])) (h2 : H Lc = some (.lst us)) (h3 : DpAll K H us (cs.map Tr.toD)) (h4 : H0 Lc = none) (h5 : Lc ∉ ls)
      (r : FrA K H0 H ls xs fs) : FrA K H0 H (Lc :: ls) (.ref p :: xs) ((f, cs, rs) :: fs)
theorem toD_tts (cs : List Tr) : tts (cs.map Tr.toD) = true := tts_of fun d hd => by
  obtain ⟨t, _, rfl⟩ := List.mem_map.mp hd
  exact t.toD_tt
theorem FrA.keep {K : PySem.W.Frag} {H0 H H' : Hp} (kt : Kt H H') : ∀ {ls : List Addr} {xs : List V} {fs : List Fr}, FrA K H0 H ls xs fs → (∀ b ∈ ls, ∀ o, H b = some o → H' b = some o) → FrA K H0 H' ls xs fs
  | _, _, _, .nil, _ => .nil
  | _, _, _, .cons h1 h2 h3 h4 h5 r, h => .cons (kt _ _ trivial h1) (h _ (by simp) _ h2) (dps_kt kt _ _ (toD_tts _) h3) h4 h5 (FrA.keep kt r fun b hb => h b (by simp [hb]))
/-- as data -/
def frD (p : Fr) : PyData := .tuple [.int (p.1 : Int), .list (p.2.1.map Tr.toD)]
theorem FrA.dps {K : PySem.W.Frag} {H0 H : Hp} : ∀ {ls : List Addr} {xs : List V} {fs : List Fr}, FrA K H0 H ls xs fs → DpAll K H xs (fs.map frD)
  | _, _, _, .nil => .nil
  | _, _, _, .cons h1 h2 h3 _ _ r => .cons (.tup (st_of h1) (.cons (.int _) (.cons (.lst (sq_of h2) h3) .nil))) r.dps
theorem FrA.len {K : PySem.W.Frag} {H0 H : Hp} {ls : List Addr} {xs : List V} {fs : List Fr} (h : FrA K H0 H ls xs fs) : xs.length = fs.length := by
  rw [h.dps.len, List.length_map]
theorem dps_rev {K : PySem.W.Frag} {H : Hp} : ∀ {xs : List V} {ds : List PyData}, DpAll K H xs ds → DpAll K H xs.reverse ds.reverse
  | _, _, .nil => .nil
  | _, _, .cons a t => by
    rw [List.reverse_cons, List.reverse_cons]
    exact (dps_rev t).snoc a
/-- the list at A holds the frames, the top one last -/
structure AbA (K : PySem.W.Frag) (H0 H : Hp) (A : Addr) (ls : List Addr) (xs : List V) (fs : List Fr) : Prop where
  l : H A = some (.lst xs.reverse)
  a0 : H0 A = none
  nin : A ∉ ls
  f : FrA K H0 H ls xs fs
theorem AbA.keep {K : PySem.W.Frag} {H0 H H' : Hp} {A : Addr} {ls : List Addr} {xs : List V} {fs : List Fr} (h : AbA K H0 H A ls xs fs) (kt : Kt H H') (hA : ∀ b, b = A ∨ b ∈ ls → ∀ o, H b = some o → H' b = some o) : AbA K H0 H' A ls xs fs :=
  ⟨hA A (.inl rfl) _ h.l, h.a0, h.nin, h.f.keep kt fun b hb => hA b (.inr hb)⟩
theorem AbA.same {K : PySem.W.Frag} {H0 H H' : Hp} {A : Addr} {ls : List Addr} {xs : List V} {fs : List Fr} (h : AbA K H0 H A ls xs fs) (s : Same H H') : AbA K H0 H' A ls xs fs := h.keep (Same.kt s) fun b _ o e => s b o e
theorem FrA.there {K : PySem.W.Frag} {H0 H : Hp} : ∀ {ls : List Addr} {xs : List V} {fs : List Fr}, FrA K H0 H ls xs fs → ∀ b ∈ ls, H0 b = none ∧ ∃ us, H b = some (.lst us)
  | _, _, _, .nil, b, hb => by cases hb
  | _, _, _, .cons h1 h2 h3 h4 h5 r, b, hb => by
    rcases List.mem_cons.mp hb with rfl | hb
    · exact ⟨h4, _, h2⟩
    · exact r.there b hb
theorem AbA.mv {K : PySem.W.Frag} {H0 H H' : Hp} {A a : Addr} {ls : List Addr} {xs : List V} {fs : List Fr} {C dx : Addr} {gs : List (Str × V)} (h : AbA K H0 H A ls xs fs) (m : Mv a H H') (ha : H a = some (.ins C dx gs)) : AbA K H0 H' A ls xs fs := by
  refine h.keep (m.kt ha) fun b hb o e => m b o (fun z => ?_) e
  subst z
  rcases hb with rfl | hb
  · rw [h.l] at ha; cases ha
  · obtain ⟨_, us, e2⟩ := h.f.there _ hb
    rw [e2] at ha; cases ha
/-! ### a tree's reader -/
structure TSt (K : PySem.W.Frag) (r : RI) (sg : Sg) (H0 H : Hp) (k : Nat) : Prop where
  at_ : r.at K H k
  C : r.C = He.ga K "TreeReader"
  sgn : ∃ vsg D kvs, r.tl = [(("signature" : Str), vsg), (("symbols" : Str), .ref D)] ∧ Dp K H vsg (sigD sg) ∧ H D = some (.dK kvs) ∧ ∀ (i : Nat) (e : Str × Nat), sg[i]? = some e → valV kvs (Sum.inr e.1) = some (.int (i : Int))
  mv : Mv r.a H0 H
  wo : ∃ o, H0 r.W = some o
theorem sigD_tt (sg : Sg) : tt (sigD sg) = true := by
  show tts (sg.map entD) = true
  exact tts_of fun d hd => by
    obtain ⟨p, _, rfl⟩ := List.mem_map.mp hd
    rfl
section
variable {K : PySem.W.Frag} {mg : Str → Option Value} {r : RI} {sg : Sg} {H0 H H' : Hp} {k k' : Nat} {σ : L2.St} {i : Nat}
theorem TSt.same (h : TSt K r sg H0 H k) (s : Same H H') : TSt K r sg H0 H' k := by
  obtain ⟨vsg, D, kvs, h1, h2, h3, h4⟩ := h.sgn
  exact ⟨h.at_.same s, h.C, ⟨vsg, D, kvs, h1, dp_same s _ _ h2, s _ _ h3, h4⟩, h.mv.trans (Mv.of s), h.wo⟩
theorem TSt.mov (h : TSt K r sg H0 H k) (m : Mv r.a H H') (a : r.at K H' k') : TSt K r sg H0 H' k' := by
  obtain ⟨vsg, D, kvs, h1, h2, h3, h4⟩ := h.sgn
  exact ⟨a, h.C, ⟨vsg, D, kvs, h1, dp_kt (m.kt h.at_.ob) _ _ (sigD_tt sg) h2, m _ _ (fun z => by rw [z, h.at_.ob] at h3; cases h3) h3, h4⟩, h.mv.trans m, h.wo⟩
theorem TSt.set {b : Addr} {o : HO} {us : List V} (h : TSt K r sg H0 H k) (hb : H b = some (.lst us)) (n : H0 b = none) : TSt K r sg H0 (upd H b o) k := by
  obtain ⟨vsg, D, kvs, h1, h2, h3, h4⟩ := h.sgn
  have hW : b ≠ r.W := fun z => by
    obtain ⟨o, e⟩ := h.wo
    rw [← z, n] at e; cases e
  refine ⟨h.at_.other hb hW, h.C, ⟨vsg, D, kvs, h1, dp_kt (Kt.rfl'.lst hb) _ _ (sigD_tt sg) h2, ?_, h4⟩, fun c u hc e => ?_, h.wo⟩
  · rw [upd_ne (fun z => by rw [z, hb] at h3; cases h3)]; exact h3
  · rw [upd_ne (fun z => by rw [z, n] at e; cases e)]; exact h.mv c u hc e
theorem TSt.rebase (h : TSt K r sg H0 H k) : TSt K r sg H H k := by
  obtain ⟨us, e, _⟩ := h.at_.wl
  exact ⟨h.at_, h.C, h.sgn, Mv.refl _ _, _, e⟩
theorem ed_sgn (T : Tx K mg) (h : TSt K r sg H0 H k) (hv : σ[i]? = some (some (.ref r.a))) : EvD K (tFld K (tVar i) "signature") σ H (sigD sg) := by
  obtain ⟨vsg, D, kvs, h1, h2, h3, h4⟩ := h.sgn
  refine ed_fld hv h.at_.ob (rc_cls T h.at_.cl) ?_ ?_ h2
  · rw [h.C]; exact T.n_TreeReader_signature
  · unfold RI.fs
    rw [h1]
    rfl
theorem Mv.back {a b : Addr} {H H' : Hp} {C dx : Addr} {fs : List (Str × V)} (m : Mv a H H') (ha : H' a = some (.ins C dx fs)) (hb : H' b = none) : H b = none := by
  cases e : H b with
  | none => rfl
  | some o => rw [m b o (fun z => by rw [z, ha] at hb; cases hb) e] at hb; cases hb
theorem TSt.ob (h : TSt K r sg H0 H k) : H r.a = some (.ins (He.ga K "TreeReader") r.dx (r.fs k)) := by
  have := h.at_.ob
  unfold RI.o at this
  rw [h.C] at this
  exact this
/-! ### promises -/
def spSymbol (K : PySem.W.Frag) : Sp := fun vs H Q _ => ∃ (r : RI) (k : Nat) (sg : Sg) (H0 : Hp) (f : Nat) (e : Str × Nat), vs = [.ref r.a] ∧ TSt K r sg H0 H k ∧ sg[f]? = some e ∧ r.w k = e.1.cps.toList ∧ ∀ H', Mv r.a H H' → r.at K H' (k + 1) → Q (.int (f : Int)) H'
/-- what closing leaves -/
def spClosed (K : PySem.W.Frag) : Sp := fun vs H Q _ => ∃ (r : RI) (k : Nat) (sg : Sg) (H0 : Hp) (v : V) (t : Tr) (A : Addr) (ls : List Addr) (xs : List V) (fs : List Fr) (L : List (List Nat)), vs = [.ref r.a, v, .ref A] ∧ TSt K r sg H0 H k ∧ Dp K H v t.toD ∧
  AbA K H0 H A ls xs fs ∧ (∀ p ∈ fs, FrOk sg p) ∧ fs.length ≤ 1000 ∧ (∀ p ∈ fs, ∀ c ∈ p.2.1, c.dep ≤ 40) ∧ Rem r k (contW sg fs L) ∧ match closeP fs t with
    | .inl u => ∀ w H' k', TSt K r sg H0 H' k' → Rem r k' L → Dp K H' w u.toD → Q w H'
    | .inr (fs', c) => ∀ H' k' ls' xs', TSt K r sg H0 H' k' → AbA K H0 H' A ls' xs' fs' → Rem r k' (trW sg c ++ contW sg fs' L) → Q .non H'
def spTree (K : PySem.W.Frag) : Sp := fun vs H Q _ => ∃ (r : RI) (k : Nat) (sg : Sg) (T : Tr) (L : List (List Nat)), vs = [.ref r.a] ∧ TSt K r sg H H k ∧ sg.length ≤ 12 ∧ T.ok sg ∧ T.size ≤ 40 ∧ Rem r k (trW sg T ++ L) ∧
  ∀ v H' k', TSt K r sg H H' k' → Rem r k' L → Dp K H' v T.toD → Q v H'
def spRule (K : PySem.W.Frag) : Sp := fun vs H Q _ => ∃ (r : RI) (k : Nat) (sg : Sg) (p : Rl) (L : List (List Nat)), vs = [.ref r.a] ∧ TSt K r sg H H k ∧ sg.length ≤ 12 ∧ p.1.ok sg ∧ p.2.ok sg ∧ p.1.size ≤ 40 ∧ p.2.size ≤ 40 ∧ Rem r k (trW sg p.1 ++ [45, 62] :: (trW sg p.2 ++ L)) ∧
  ∀ v H' k', TSt K r sg H H' k' → Rem r k' L → Dp K H' v (rlD p) → Q v H'
theorem x_symbol {E : XK} {Q : VK} {f : Nat} {e : Str × Nat} {L : List (List Nat)} (ts : TSt K r sg H0 H k) (hf : sg[f]? = some e) (hr : Rem r k (e.1.cps.toList :: L)) (hv : σ[i]? = some (some (.ref r.a))) (q : ∀ H', Mv r.a H H' → TSt K r sg H0 H' (k + 1) → Rem r (k + 1) L → Q (.int (f : Int)) H') :
    tMeth (He.ga K "TreeReader") "symbol" (spSymbol K) [] E (tVar i) tNil σ H Q :=
  ⟨_, hv, r.a, r.dx, r.fs k, rfl, ts.ob, fs_look ts.at_.cl (by decide), r, k, sg, H0, f, e, rfl, ts, hf, hr.w, fun H' m a => q H' m (ts.mov m a) hr.next⟩
theorem x_tree {E : XK} {Q : VK} {T : Tr} {L : List (List Nat)} (ts : TSt K r sg H0 H k) (hsg : sg.length ≤ 12) (ok : T.ok sg) (sz : T.size ≤ 40) (hr : Rem r k (trW sg T ++ L)) (hv : σ[i]? = some (some (.ref r.a))) (q : ∀ v H' k', TSt K r sg H H' k' → Rem r k' L → Dp K H' v T.toD → Q v H') :
    tMeth (He.ga K "TreeReader") "tree" (spTree K) [] E (tVar i) tNil σ H Q :=
  ⟨_, hv, r.a, r.dx, r.fs k, rfl, ts.ob, fs_look ts.at_.cl (by decide), r, k, sg, T, L, rfl, ts.rebase, hsg, ok, sz, hr, q⟩
theorem x_rule {E : XK} {Q : VK} {p : Rl} {L : List (List Nat)} (ts : TSt K r sg H0 H k) (hsg : sg.length ≤ 12) (ok1 : p.1.ok sg) (ok2 : p.2.ok sg) (sz1 : p.1.size ≤ 40) (sz2 : p.2.size ≤ 40) (hr : Rem r k (trW sg p.1 ++ [45, 62] :: (trW sg p.2 ++ L))) (hv : σ[i]? = some (some (.ref r.a)))
    (q : ∀ v H' k', TSt K r sg H H' k' → Rem r k' L → Dp K H' v (rlD p) → Q v H') : tMeth (He.ga K "TreeReader") "rule" (spRule K) [] E (tVar i) tNil σ H Q :=
  ⟨_, hv, r.a, r.dx, r.fs k, rfl, ts.ob, fs_look ts.at_.cl (by decide), r, k, sg, p, L, rfl, ts.rebase, hsg, ok1, ok2, sz1, sz2, hr, q⟩
theorem nameOf_eq {sg : Sg} {f : Nat} {e : Str × Nat} (h : sg[f]? = some e) : nameOf sg f = e.1.cps.toList := by
  unfold nameOf
  rw [h]
theorem TSt.trans {H1 : Hp} (h : TSt K r sg H0 H k) (h1 : TSt K r sg H H1 k') : TSt K r sg H0 H1 k' := ⟨h1.at_, h1.C, h1.sgn, h.mv.trans h1.mv, h.wo⟩
end
end G

set_option Elab.async false
set_option linter.all false
set_option maxRecDepth 100000
set_option maxHeartbeats 4000000
namespace G
open PySem PySem.Spec PyProof.Rows L2
theorem hu1 {k : Nat} {A : Around} (r : Room k A) : A.units + 1 < cLine := by have := r.un; omega
section
variable {K : PySem.W.Frag} {mg : Str → Option Value} {r : RI} {sg : Sg} {H0 H H' : Hp} {k k' : Nat} {σ : L2.St} {i : Nat}
theorem ed_dget (T : Tx K mg) {te : TE} {f : Nat} {e : Str × Nat} (h : TSt K r sg H0 H k) (hv : σ[i]? = some (some (.ref r.a))) (hf : sg[f]? = some e) (he : EvD K te σ H (.str e.1)) : EvD K (tDGet1 (tFld K (tVar i) "symbols") te) σ H (.int (f : Int)) := fun H1 s Q q => by
  obtain ⟨vsg, D, kvs, h1, h2, h3, h4⟩ := (h.same s).sgn
  refine ⟨_, hv, r.a, r.C, r.dx, r.fs k, .ref D, rfl, (h.same s).at_.ob, rc_cls T h.at_.cl, ?_, ?_, D, rfl, .inl ⟨kvs, .inl h3⟩, he H1 s _ fun v H2 s2 hv => ⟨some (.int (f : Int)), ?_, q _ H2 s2 (.int _)⟩⟩
  · rw [h.C]; exact T.n_TreeReader_symbols
  · unfold RI.fs
    rw [h1]
    rfl
  · rw [dpS hv, ← h4 f e hf]
    exact DGet.k (k := Sum.inr e.1) (s2 _ _ h3)
theorem ed_catT {ta tb : TE} {xs ys : List PyData} (ha : EvD K ta σ H (.tuple xs)) (hb : EvD K tb σ H (.tuple ys)) (hl : xs.length + ys.length ≤ 1000) : EvD K (tOp (rCatA K) ta tb) σ H (.tuple (xs ++ ys)) :=
  ed_op ha hb fun x y H1 _ hx hy Q q => by
    obtain ⟨a, us, rfl, ha1, ha2⟩ := dp_tup hx
    obtain ⟨b, vs, rfl, hb1, hb2⟩ := dp_tup hy
    have l1 := ha2.len
    have l2 := hb2.len
    refine ⟨a, b, us, vs, rfl, rfl, ha1, hb1, sz_of (by omega), fun e => ?_, fun _ e => ?_, fun _ _ p hp => ?_⟩
    · subst e
      have : xs = [] := List.length_eq_zero_iff.mp l1.symm
      subst this
      exact q _ _ (Same.refl _) (.tup hb1 hb2)
    · subst e
      have : ys = [] := List.length_eq_zero_iff.mp l2.symm
      subst this
      rw [List.append_nil] at q
      exact q _ _ (Same.refl _) (.tup ha1 ha2)
    · exact q _ _ ((Same.refl _).new hp) (.tup (st_of upd_same) (dps_same ((Same.refl H1).new hp) _ _ (dps_app ha2 hb2)))
end
section
variable {P : Program} {w : World} {K : PySem.W.Frag} {mg : Str → Option Value} {base : Heap}
theorem sc_TreeReader_symbol : FnScope ["self", "symbol"] ["self"] (defScope s_TreeReader_symbol) := ⟨rfl, rfl, rfl, by decide +kernel, rfl, by decide +kernel, by decide +kernel⟩
theorem fo_TreeReader_symbol {f : Addr} {fd : FuncData} (T : Tx K mg)  (F : FunD K "symbol" "TreeReader.symbol" (defArgs s_TreeReader_symbol) (defBody s_TreeReader_symbol) (defScope s_TreeReader_symbol) [] [] f fd) : FnOk P w K mg base CX0 2 f fd ["self"] (spSymbol K) := by
  refine F.ok sc_TreeReader_symbol (fun vs H Q E h => ?_) (fun cdv A outer s H vs Q E hr h => ?_)
  · obtain ⟨r, k, sg, H0, f, e, rfl, _⟩ := h
    rfl
  · obtain ⟨r, k, sg, H0, f, e, rfl, ts, hf, hw, q⟩ := h
    have hC := ts.at_.cl
    refine ⟨_, PSs.nox (pss_cons (ps_set (i := 1) sc_TreeReader_symbol.nd rfl (by first | exact Or.inl rfl | exact Or.inr rfl) (pe_dget1 (G.hu1 hr) (pe_fld (pv 0) rfl) (G.pe_ml0 (G.ml_word T hC) hr (by decide) pass0 (pv 0)) ⟨rfl, rfl, rfl, rfl⟩))
  (pss_cons (ps_if (pt_cmpR op_isN (pv 1) pe_non (nomark _)) (pss_one ps_never) pss_nil)
  (pss_cons (ps_fldaug (pv 0) pe_int in_add)
  (pss_one (ps_ret (pv 1)))))), ?_⟩
    refine s_set (ed_dget T ts rfl hf ((ed_word ts.at_ rfl).to (by rw [hw]))) fun v H1 s1 hv => ?_
    obtain rfl := dpI hv
    have ts := ts.same s1
    refine s_ifF (et_test (ed_isN (ed_vi (K := K) (n := (f : Int)) rfl))) rfl fun H2 s2 => ?_
    have ts := ts.same s2
    refine s_step T ts.at_ rfl fun H3 m3 a3 => ?_
    dsimp only
    refine s_ret (K := K) (d := .int (f : Int)) (ed_vi rfl) ?_
    intro v H4 s4 hv4
    rw [dpI hv4]
    exact q H4 ((((Mv.of s1).trans (Mv.of s2)).trans m3).trans (Mv.of s4)) (a3.same s4)
theorem ml_symbol (T : Tx K mg)  : Ml P w K mg base CX0 2 (He.ga K "TreeReader") "symbol" ["self"] (spSymbol K) := by
  obtain ⟨fd, F⟩ := T.f_TreeReader_symbol
  exact ⟨_, fd, T.k_TreeReader, T.m_TreeReader_symbol, F.bindsN fun _ _ _ _ _ _ us hl => match us, hl with | [_], _ => rfl, fo_TreeReader_symbol T F⟩
theorem at_last {α : Type} (l : List α) (x : α) : atI (l ++ [x]) (-1) = some x := by
  unfold atI ixN
  rw [if_neg (by decide), if_pos (by simp; omega), List.length_append]
  have : (-1 + ((l.length + [x].length : Nat) : Int)).toNat = l.length := by simp; omega
  rw [this]
  simp
theorem frD_sh {fs : List Fr} (h : ∀ p ∈ fs, ∀ c ∈ p.2.1, c.dep ≤ 40) : SeqAt.shaped (.list (fs.map frD).reverse) = true := shaped_list (n := 50) (fun d hd => by
  rw [List.mem_reverse] at hd
  obtain ⟨p, hp, rfl⟩ := List.mem_map.mp hd
  have key : ∀ cs : List Tr, (∀ c ∈ cs, c.dep ≤ 40) → PyData.canLayAll0 (cs.map Tr.toD) = true ∧ PyData.depthAll (cs.map Tr.toD) ≤ 41 := by
    intro cs
    induction cs with
    | nil => intro _; exact ⟨rfl, by simp [PyData.depthAll]⟩
    | cons c cs ih =>
      intro h
      obtain ⟨i1, i2⟩ := ih fun x hx => h x (List.mem_cons_of_mem _ hx)
      have := h c List.mem_cons_self
      have := c.toD_depth
      exact ⟨by simp [PyData.canLayAll0, c.toD_lay, i1], by simp [PyData.depthAll]; omega⟩
  obtain ⟨k1, k2⟩ := key p.2.1 (h p hp)
  exact ⟨by simp [frD, PyData.canLay0, PyData.canLayAll0, k1], by simp [frD, PyData.depth, PyData.depthAll]; omega⟩) (by decide)
theorem strP : (")" : Str) = S [41] := by decide +kernel
theorem strQ : ("(" : Str) = S [40] := by decide +kernel
theorem sc_TreeReader_closed : FnScope ["self", "tree", "above", "symbol", "children"] ["self", "tree", "above"] (defScope s_TreeReader_closed) := ⟨rfl, rfl, rfl, by decide +kernel, rfl, by decide +kernel, by decide +kernel⟩
theorem fo_TreeReader_closed {f : Addr} {fd : FuncData} (T : Tx K mg)  (F : FunD K "closed" "TreeReader.closed" (defArgs s_TreeReader_closed) (defBody s_TreeReader_closed) (defScope s_TreeReader_closed) [] [] f fd) : FnOk P w K mg base CX0 3 f fd ["self", "tree", "above"] (spClosed K) := by
  refine F.ok sc_TreeReader_closed (fun vs H Q E h => ?_) (fun cdv A outer s H vs Q E hr h => ?_)
  · obtain ⟨r, k, sg, H0, v, t, A, ls, xs, fs, L, rfl, _⟩ := h
    rfl
  · obtain ⟨r, k, sg, H0, v, t, B, ls, xs, fs, L, rfl, ts, hv, ab, hok, hfl, hdp, rem, q⟩ := h
    have hC := ts.at_.cl
    refine ⟨_, PSs.nox (pss_cons (ps_while PassesOwn.never (pt_cmpR (op_neD hr.units) (pv 2) (pe_lst pa_nil) (nomark _)) (pss_cons (ps_asg (pe_ix ix_list (pv 2) (pe_un un_neg pe_int) (fun _ _ => rfl)) (pg_tup rfl (pgs_cons (pg_name (i := 3) sc_TreeReader_closed.nd rfl (by first | exact Or.inl rfl | exact Or.inr rfl)) (pgs_cons (pg_name (i := 4) sc_TreeReader_closed.nd rfl (by first | exact Or.inl rfl | exact Or.inr rfl)) pgs_nil))))
  (pss_cons (ps_expr (pe_bm PySem.F.plainAttrs_list PySem.F.slot_list_append PySem.F.type_list_append mt_append (pv 4) (pa_cons (pv 1) pa_nil)))
  (pss_cons (ps_if (pt_cmpR op_lt (pe_callB call_len_seq (by rfl) T.b_len PyProof.Rows.Boot.«len» (pa_cons (pv 4) pa_nil)) (pe_ix ix_tup (pe_ix ix_tup (pe_fld (pv 0) rfl) (pv 3) (fun _ _ => rfl)) pe_int (fun _ _ => rfl)) (nomark _)) (pss_cons (ps_expr (G.pe_ml (G.ml_mark T hC) hr (by decide) pass0 (pv 0) (pa_cons pe_str pa_nil)))
  (pss_one (ps_ret pe_non))) pss_nil)
  (pss_cons (ps_expr (G.pe_ml (G.ml_mark T hC) hr (by decide) pass0 (pv 0) (pa_cons pe_str pa_nil)))
  (pss_cons (ps_set (i := 1) sc_TreeReader_closed.nd rfl (by first | exact Or.inl rfl | exact Or.inr rfl) (pe_op op_catA (pe_tup (pa_cons (pv 3) pa_nil)) (pe_callTy call_tuple_of (by rfl) T.b_tuple PyProof.Rows.Boot.«tuple» (pa_cons (pv 4) pa_nil))))
  (pss_one (ps_expr (pe_bm0 PySem.F.plainAttrs_list PySem.F.slot_list_pop PySem.F.type_list_pop mt_pop (pv 2))))))))))
  (pss_one (ps_ret (pv 1)))), ?_⟩
    refine s_while (W := fun m σ' H' => ∃ (fs' : List Fr) (t' : Tr) (ls' : List Addr) (xs' : List V) (k' : Nat) (v' : V) (x3 x4 : Option V), σ' = [some (.ref r.a), some v', some (.ref B), x3, x4] ∧ TSt K r sg H0 H' k' ∧ Dp K H' v' t'.toD ∧ AbA K H0 H' B ls' xs' fs' ∧
      (∀ p ∈ fs', FrOk sg p) ∧ fs'.length ≤ 1000 ∧ (∀ p ∈ fs', ∀ c ∈ p.2.1, c.dep ≤ 40) ∧ Rem r k' (contW sg fs' L) ∧ closeP fs' t' = closeP fs t ∧ m = fs'.length) (m0 := fs.length)
      ⟨fs, t, ls, xs, k, v, none, none, rfl, ts, hv, ab, hok, hfl, hdp, rem, rfl, rfl⟩ ?_
    clear ts hv ab hok hfl hdp rem
    rintro m σ' H1 ⟨fs', t', ls', xs', k', v', x3, x4, rfl, ts, hv, ab, hok, hfl, hdp, rem, hcl, rfl⟩
    refine ⟨_, et_test (ed_neD (ed_lstV rfl ab.l (dps_rev ab.f.dps)) (ed_ofN (en_lst ea_nil (by decide))) (frD_sh hdp) shaped_nilL), fun H2 s2 => ?_⟩
    have ts := ts.same s2
    have hv := dp_same s2 _ _ hv
    have ab := ab.same s2
    obtain ⟨abl, ab0, abn, abf⟩ := ab
    cases abf with
    | nil =>
      refine ⟨fun z => ?_, fun _ => ?_⟩
      · rw [eqv_nilL] at z; exact nomatch z
      · rw [← hcl] at q
        have q : ∀ w H' k', TSt K r sg H0 H' k' → Rem r k' L → Dp K H' w t'.toD → Q w H' := q
        dsimp only
        exact s_ret (K := K) (ed_var hv) fun w H3 s3 hw => q w H3 k' (ts.same s3) rem hw
    | @cons p Lc f us cs rs ls' xs' up h1 h2 h3 h4 h5 abf =>
      refine ⟨fun _ => ?_, fun z => by rw [eqv_nilL] at z; simp at z⟩
      rw [List.reverse_cons] at abl
      have hBL : B ≠ Lc := fun z => abn (by rw [z]; simp)
      have hBl : B ∉ ls' := fun z => abn (by simp [z])
      refine ⟨.ref B, rfl, 1, rfl, B, _, -1, .ref p, rfl, rfl, sq_of abl, at_last _ _, ?_⟩
      refine ⟨p, [.int (f : Int), .ref Lc], rfl, st_of h1, rfl, _, _, rfl, _, _, rfl, rfl, ?_⟩
      have hf := hok _ List.mem_cons_self
      have hcl2 : cs.length + 1 + rs.length ≤ 2 := hf.few
      have hul : us.length = cs.length := by rw [h3.len, List.length_map]
      refine s_append (K := K) (us := us) rfl h2 (ed_var hv) (by omega) fun w H3 s3 hLc hw => ?_
      have h3' := dps_same s3 _ _ h3
      have kt3 : Kt H3 (upd H3 Lc (.lst (us ++ [w]))) := Kt.rfl'.lst hLc
      have ts3 := (ts.same s3).set (o := .lst (us ++ [w])) hLc h4
      have hch : DpAll K (upd H3 Lc (.lst (us ++ [w]))) (us ++ [w]) ((cs ++ [t']).map Tr.toD) := by
        rw [List.map_append]
        exact (dps_kt kt3 _ _ (toD_tts _) h3').snoc (dp_kt kt3 _ _ t'.toD_tt hw)
      have abf3 : FrA K H0 (upd H3 Lc (.lst (us ++ [w]))) ls' xs' up := (abf.keep (Same.kt s3) fun b _ o e => s3 b o e).keep kt3 fun b hb o e => by
        rw [upd_ne (fun z => by rw [z] at hb; exact h5 hb)]; exact e
      have abl3 : (upd H3 Lc (.lst (us ++ [w]))) B = some (.lst (xs'.reverse ++ [.ref p])) := by
        rw [upd_ne hBL]; exact s3 _ _ abl
      have hp3 : (upd H3 Lc (.lst (us ++ [w]))) p = some (.tup [.int (f : Int), .ref Lc]) := kt3 _ _ trivial (s3 _ _ h1)
      have hL3 : (upd H3 Lc (.lst (us ++ [w]))) Lc = some (.lst (us ++ [w])) := upd_same
      generalize upd H3 Lc (.lst (us ++ [w])) = H4 at ts3 hch abf3 abl3 hp3 hL3
      obtain ⟨x, hx⟩ := hf.ar
      have hx : sg[f]? = some (x, cs.length + 1 + rs.length) := hx
      have hlt : EvD K _ _ H4 (.bool _) := ed_lt (ed_lenL (ed_lstV (σ := [some (.ref r.a), some v', some (.ref B), some (.int (f : Int)), some (.ref Lc)]) (i := 4) rfl hL3 hch)) (ed_ixT (ed_ixT (ed_sgn (σ := [some (.ref r.a), some v', some (.ref B), some (.int (f : Int)), some (.ref Lc)]) (i := 0) T ts3 rfl) (ed_vi (i := 3) rfl) (sig_at hx)) (ed_i (n := 1)) at1)
      cases rs with
      | nil =>
        refine s_ifF (et_test hlt) (by simp) fun H5 s5 => ?_
        have ts5 := ts3.same s5
        refine x_mark ts5.at_ (w := [41]) (L := contW sg up L) rem rfl ((ed_s (n := ")")).to (congrArg _ strP)) fun H6 m6 a6 rem6 => ?_
        have m56 : Kt H5 H6 := m6.kt ts5.at_.ob
        have ts6 := ts5.mov m6 a6
        have nB : B ≠ r.a := fun z => by have := ts5.at_.ob; rw [← z, s5 _ _ abl3] at this; cases this
        have nL : Lc ≠ r.a := fun z => by have := ts5.at_.ob; rw [← z, s5 _ _ hL3] at this; cases this
        have hL6 := m6 _ _ nL (s5 _ _ hL3)
        have hch6 := dps_kt m56 _ _ (toD_tts _) (dps_same s5 _ _ hch)
        have ab6 : AbA K H0 H6 B ls' (.ref p :: xs').tail up ∨ True := .inr trivial
        have abf6 : FrA K H0 H6 ls' xs' up := (abf3.keep (Same.kt s5) fun b _ o e => s5 b o e).keep m56 fun b hb o e => m6 b o (fun z => by
          obtain ⟨_, us2, e2⟩ := abf3.there b hb
          have := ts5.at_.ob
          rw [← z, s5 _ _ e2] at this; cases this) e
        have abl6 := m6 _ _ nB (s5 _ _ abl3)
        refine s_set (K := K) (d := (mkT f (cs ++ [t'])).toD) ((ed_catT (ed_tup (ea_cons (ed_vi rfl) ea_nil) (by simp)) (ed_tupL (ed_lstV rfl hL6 hch6)) (by simp at hcl2 ⊢; omega)).to (by rw [mkT_toD _ _ (by simp at hcl2 ⊢; omega)]; rfl)) fun v7 H7 s7 hv7 => ?_
        have hB7 := s7 _ _ abl6
        refine x_pop rfl hB7 ?_
        have kt8 : Kt H7 (upd H7 B (.lst xs'.reverse)) := Kt.rfl'.lst hB7
        refine ⟨up.length, by simp, up, mkT f (cs ++ [t']), ls', xs', k' + 1, v7, _, _, rfl, (ts6.same s7).set hB7 ab0, dp_kt kt8 _ _ (Tr.toD_tt _) hv7, ⟨upd_same, ab0, hBl, (abf6.keep (Same.kt s7) fun b _ o e => s7 b o e).keep kt8 fun b hb o e => ?_⟩,
          fun p hp => hok p (List.mem_cons_of_mem _ hp), by simp at hfl; omega, fun p hp => hdp p (List.mem_cons_of_mem _ hp), rem6, hcl, rfl⟩
        rw [upd_ne (fun z => by rw [z] at hb; exact hBl hb)]; exact e
      | cons c rs =>
        refine s_ifT (et_test hlt) (by simp; omega) fun H5 s5 => ?_
        have ts5 := ts3.same s5
        refine x_mark ts5.at_ (w := [44]) (L := trW sg c ++ contW sg ((f, cs ++ [t'], rs) :: up) L) (by rw [show contW sg ((f, cs, c :: rs) :: up) L = [44] :: (trW sg c ++ contW sg ((f, cs ++ [t'], rs) :: up) L) by simp [contW]] at rem; exact rem) rfl ((ed_s (n := ",")).to (congrArg _ strComma)) fun H6 m6 a6 rem6 => ?_
        have ts6 := ts5.mov m6 a6
        rw [← hcl] at q
        have q : ∀ H' k' ls' xs', TSt K r sg H0 H' k' → AbA K H0 H' B ls' xs' ((f, cs ++ [t'], rs) :: up) → Rem r k' (trW sg c ++ contW sg ((f, cs ++ [t'], rs) :: up) L) → Q .non H' := q
        have ab4 : AbA K H0 H4 B (Lc :: ls') (.ref p :: xs') ((f, cs ++ [t'], rs) :: up) := ⟨by rw [List.reverse_cons]; exact abl3, ab0, abn, .cons hp3 hL3 hch h4 h5 abf3⟩
        dsimp only
        refine s_ret (K := K) ed_n ?_
        intro w7 H7 s7 hw7
        rw [dpN hw7]
        exact q H7 _ _ _ (ts6.same s7) (((ab4.same s5).mv m6 ts5.at_.ob).same s7) rem6
theorem ml_closed (T : Tx K mg)  : Ml P w K mg base CX0 3 (He.ga K "TreeReader") "closed" ["self", "tree", "above"] (spClosed K) := by
  obtain ⟨fd, F⟩ := T.f_TreeReader_closed
  exact ⟨_, fd, T.k_TreeReader, T.m_TreeReader_closed, F.bindsN fun _ _ _ _ _ _ us hl => match us, hl with | [_, _, _], _ => rfl, fo_TreeReader_closed T F⟩
end
end G


set_option Elab.async false
set_option linter.all false
set_option maxRecDepth 100000
set_option maxHeartbeats 4000000
namespace G
open PySem PySem.Spec PyProof.Rows L2
section
variable {K : PySem.W.Frag} {mg : Str → Option Value} {r : RI} {sg : Sg} {H0 H H' : Hp} {k k' : Nat} {σ : L2.St} {i : Nat}
theorem ed_notN {ta : TE} {d : PyData} (ha : EvD K ta σ H d) : EvD K (tOp (fun x y H Q => y = .non ∧ Q (.bl (!decide (x = .non))) H) ta (tC .non)) σ H (.bool (!isN d)) := fun H1 s Q q =>
  ha H1 s _ fun x H2 s2 hx => ⟨rfl, by rw [dp_non hx]; exact q _ H2 s2 (.bl _)⟩
end
section
variable {P : Program} {w : World} {K : PySem.W.Frag} {mg : Str → Option Value} {base : Heap}
theorem sc_TreeReader_tree : FnScope ["self", "above", "size", "symbol", "tree"] ["self"] (defScope s_TreeReader_tree) := ⟨rfl, rfl, rfl, by decide +kernel, rfl, by decide +kernel, by decide +kernel⟩
theorem fo_TreeReader_tree {f : Addr} {fd : FuncData} (T : Tx K mg)  (F : FunD K "tree" "TreeReader.tree" (defArgs s_TreeReader_tree) (defBody s_TreeReader_tree) (defScope s_TreeReader_tree) [] [] f fd) : FnOk P w K mg base CX0 4 f fd ["self"] (spTree K) := by
  refine F.ok sc_TreeReader_tree (fun vs H Q E h => ?_) (fun cdv A outer s H vs Q E hr h => ?_)
  · obtain ⟨r, k, sg, T, L, rfl, _⟩ := h
    rfl
  · obtain ⟨r, k0, sg, Tt, L, rfl, ts, hsg, hok, hsz, rem, q⟩ := h
    have hC := ts.at_.cl
    refine ⟨_, PSs.nox (pss_cons (ps_par (i := 1) (j := 2) rfl sc_TreeReader_tree.nd rfl rfl (by decide) rfl rfl (pa_cons (pe_lst pa_nil) (pa_cons pe_int pa_nil)) (by rfl))
  (pss_one (ps_while PassesOwn.never (pt_val pe_bl) (pss_cons (ps_aug (i := 2) sc_TreeReader_tree.nd rfl (Or.inl rfl) pe_int ip_add)
  (pss_cons (ps_if (PW.pt (pw_or (pt_cmpR op_gt (pv 2) (G.pe_ki (by rfl) T.c_MOST_SIZE) (nomark _)) (pw_or1 (pt_cmpR op_eq (pe_callB call_len_seq (by rfl) T.b_len PyProof.Rows.Boot.«len» (pa_cons (pv 1) pa_nil)) (G.pe_ki (by rfl) T.c_MOST_DEPTH) (nomark _))))) (pss_one ps_never) pss_nil)
  (pss_cons (ps_set (i := 3) sc_TreeReader_tree.nd rfl (by first | exact Or.inl rfl | exact Or.inr rfl) (G.pe_ml0 (G.ml_symbol T) hr (by decide) pass0 (pv 0)))
  (pss_cons (ps_if (pt_cmpR op_gt (pe_ix ix_tup (pe_ix ix_tup (pe_fld (pv 0) rfl) (pv 3) (fun _ _ => rfl)) pe_int (fun _ _ => rfl)) pe_int (nomark _)) (pss_cons (ps_expr (G.pe_ml (G.ml_mark T hC) hr (by decide) pass0 (pv 0) (pa_cons pe_str pa_nil)))
  (pss_cons (ps_expr (pe_bm PySem.F.plainAttrs_list PySem.F.slot_list_append PySem.F.type_list_append mt_append (pv 1) (pa_cons (pe_tup (pa_cons (pv 3) (pa_cons (pe_lst pa_nil) pa_nil))) pa_nil)))
  (pss_one ps_continue))) pss_nil)
  (pss_cons (ps_set (i := 4) sc_TreeReader_tree.nd rfl (by first | exact Or.inl rfl | exact Or.inr rfl) (G.pe_ml (G.ml_closed T) hr (by decide) pass0 (pv 0) (pa_cons (pe_tup (pa_cons (pv 3) pa_nil)) (pa_cons (pv 1) pa_nil))))
  (pss_one (ps_if (pt_cmpR op_notN (pv 4) pe_non (nomark _)) (pss_one (ps_ret (pv 4))) pss_nil)))))))))), ?_⟩
    refine s_parN (K := K) (en_lst ea_nil (by decide)) ed_i fun B vs w H1 s1 hB hp hvs hw => ?_
    obtain rfl := dpI hw
    cases hvs
    have ts := ts.same s1
    refine s_while (W := fun m σ' H' => ∃ (fs : List Fr) (t : Tr) (ls : List Addr) (xs : List V) (k n : Nat) (x3 x4 : Option V), σ' = [some (.ref r.a), some (.ref B), some (.int (n : Int)), x3, x4] ∧ TSt K r sg H H' k ∧ AbA K H H' B ls xs fs ∧ (∀ p ∈ fs, FrOk sg p) ∧ t.ok sg ∧
      Rem r k (trW sg t ++ contW sg fs L) ∧ plug fs t = Tt ∧ fs.length ≤ n ∧ n + (t.size + remS fs) = Tt.size ∧ m = t.size + remS fs) (m0 := Tt.size)
      ⟨[], Tt, [], [], k0, 0, none, none, rfl, ts, ⟨hp, hB, by simp, .nil⟩, fun p hp => (by cases hp), hok, rem, rfl, Nat.le_refl _, by simp [remS], by simp [remS]⟩ ?_
    clear ts hok rem
    rintro m σ' H2 ⟨fs, t, ls, xs, k, n, x3, x4, rfl, ts, ab, hfr, hok, rem, hpl, hfl, hn, rfl⟩
    refine ⟨true, et_B (K := K) ed_b, fun H3 s3 => ⟨fun _ => ?_, fun z => nomatch z⟩⟩
    have ts := ts.same s3
    have ab := ab.same s3
    refine s_aug (K := K) rfl ed_i fun H4 s4 => ?_
    have ts := ts.same s4
    have ab := ab.same s4
    have htp := t.size_pos
    refine s_ifF (et_orF (et_test (K := K) (ed_gt (ed_vi rfl) ed_i)) (by simp; omega) (et_test (ed_eqI (ed_lenL (ed_lstV rfl ab.l (dps_rev ab.f.dps))) ed_i))) (by simp; omega) fun H5 s5 => ?_
    have ts := ts.same s5
    have ab := ab.same s5
    obtain ⟨x, hx⟩ := Tr.hd_at hok
    cases hk : t.kids with
    | nil =>
      obtain ⟨ht, htw⟩ := kid_nil hk hx
      rw [htw] at rem
      refine x_symbol ts hx rem rfl fun H6 m6 ts6 rem6 => ?_
      have ab6 := ab.mv m6 ts.at_.ob
      have hsig : EvD K _ [some (.ref r.a), some (.ref B), some (.int ((n : Int) + 1)), some (.int (t.hd : Int)), x4] H6 (.bool _) := ed_gt (ed_ixT (ed_ixT (ed_sgn (i := 0) T ts6 rfl) (ed_vi (i := 3) rfl) (sig_at hx)) (ed_i (n := 1)) at1) (ed_i (n := 0))
      refine s_ifF (et_test hsig) (by rw [hk]; rfl) fun H7 s7 => ?_
      have ts7 := ts6.same s7
      have ab7 := ab6.same s7
      refine ⟨_, rfl, r.a, r.dx, r.fs (k + 1), rfl, ts7.ob, fs_look ts7.at_.cl (by decide), ?_⟩
      refine ⟨_, rfl, by show 1 ≤ sizeLine; rw [sizeLine_eq]; omega, fun p hp => ⟨_, rfl, ?_⟩⟩
      have s8 : Same H7 (upd H7 p (.tup [.int (t.hd : Int)])) := (Same.refl H7).new hp
      have ts8 := ts7.same s8
      have ab8 := ab7.same s8
      have hv8 : Dp K (upd H7 p (.tup [.int (t.hd : Int)])) (.ref p) (Tr.n0 t.hd).toD := .tup (st_of upd_same) (.cons (.int _) .nil)
      have hps := plug_size fs t fun p hp => (hfr p hp).few
      rw [hpl] at hps
      refine ⟨r, k + 1, sg, H, .ref p, .n0 t.hd, B, ls, xs, fs, L, rfl, ts8, hv8, ab8, hfr, by omega, fun p hp c hc => ?_, rem6, ?_⟩
      · have := hps.2 p hp c hc
        have := c.dep_le_size
        omega
      have hcp := closeP_plug fs (.n0 t.hd)
      rw [← ht, hpl] at hcp
      rw [← ht]
      cases hcl : closeP fs t with
      | inl u =>
        rw [hcl] at hcp
        have hcp : u = Tt := hcp
        intro w9 H9 k9 ts9 rem9 hw9
        rw [hcp] at hw9
        refine s_ifT (et_test (ed_notN (ed_var hw9))) (by rw [Tr.toD_eq]; rfl) fun H10 s10 => ?_
        dsimp only
        refine s_ret (K := K) (ed_var (dp_same s10 _ _ hw9)) ?_
        intro w11 H11 s11 hw11
        exact q w11 H11 k9 ((ts9.same s10).same s11) rem9 hw11
      | inr z =>
        obtain ⟨fs', c⟩ := z
        rw [hcl] at hcp
        have hcp : plug fs' c = Tt := hcp
        obtain ⟨l1, l2⟩ := closeP_len fs t hcl
        obtain ⟨o1, o2⟩ := closeP_ok fs t hfr hcl
        intro H9 k9 ls9 xs9 ts9 ab9 rem9
        refine s_ifF (et_test (ed_notN (ed_var (K := K) .non))) rfl fun H10 s10 => ?_
        have h1 : t.size = 1 := by rw [ht]; rfl
        refine ⟨c.size + remS fs', by omega, fs', c, ls9, xs9, k9, n + 1, _, _, rfl, ts9.same s10, ab9.same s10, o1, o2, rem9, hcp, by omega, by omega, rfl⟩
    | cons a rs =>
      obtain ⟨ht, htw, hts, hrl⟩ := kid_cons hk hx
      rw [htw] at rem
      refine x_symbol ts hx rem rfl fun H6 m6 ts6 rem6 => ?_
      have ab6 := ab.mv m6 ts.at_.ob
      have hsig : EvD K _ [some (.ref r.a), some (.ref B), some (.int ((n : Int) + 1)), some (.int (t.hd : Int)), x4] H6 (.bool _) := ed_gt (ed_ixT (ed_ixT (ed_sgn (i := 0) T ts6 rfl) (ed_vi (i := 3) rfl) (sig_at hx)) (ed_i (n := 1)) at1) (ed_i (n := 0))
      refine s_ifT (et_test hsig) (by rw [hk]; simp) fun H7 s7 => ?_
      have ts7 := ts6.same s7
      have ab7 := ab6.same s7
      refine x_mark ts7.at_ rem6 rfl ((ed_s (n := "(")).to (congrArg _ strQ)) fun H8 m8 a8 rem8 => ?_
      have ts8 := ts7.mov m8 a8
      have ab8 := ab7.mv m8 ts7.at_.ob
      refine ⟨_, rfl, lst_ty ab8.l, _, rfl, by show 0 ≤ sizeLine; omega, fun Lc hLc => ⟨by show 2 ≤ sizeLine; rw [sizeLine_eq]; omega, fun p hp => ?_⟩⟩
      have sL : Same H8 (upd H8 Lc (.lst [])) := (Same.refl H8).new hLc
      have sp_ : Same (upd H8 Lc (.lst [])) (upd (upd H8 Lc (.lst [])) p (.tup [.int (t.hd : Int), .ref Lc])) := (Same.refl _).new hp
      have ts9 := (ts8.same sL).same sp_
      have ab9 := (ab8.same sL).same sp_
      have hL9 : (upd (upd H8 Lc (.lst [])) p (.tup [.int (t.hd : Int), .ref Lc])) Lc = some (.lst []) := sp_ _ _ upd_same
      have hp9 : (upd (upd H8 Lc (.lst [])) p (.tup [.int (t.hd : Int), .ref Lc])) p = some (.tup [.int (t.hd : Int), .ref Lc]) := upd_same
      have hL0 : H Lc = none := ts8.mv.back ts8.ob hLc
      have hLls : Lc ∉ ls := fun z => by
        obtain ⟨_, us, e⟩ := ab8.f.there Lc z
        rw [hLc] at e; cases e
      have hBL : B ≠ Lc := fun z => by rw [← z, ab8.l] at hLc; cases hLc
      generalize upd (upd H8 Lc (.lst [])) p (.tup [.int (t.hd : Int), .ref Lc]) = H9 at ts9 ab9 hL9 hp9
      have hfsl : xs.length = fs.length := ab9.f.len
      refine ⟨B, xs.reverse, .ref p, rfl, rfl, ab9.l, sz_lt (by rw [List.length_reverse]; omega), ?_⟩
      have kt : Kt H9 (upd H9 B (.lst (xs.reverse ++ [.ref p]))) := Kt.rfl'.lst ab9.l
      refine ⟨a.size + remS ((t.hd, [], rs) :: fs), by simp [remS]; omega, (t.hd, [], rs) :: fs, a, Lc :: ls, .ref p :: xs, k + 1 + 1, n + 1, _, _, rfl, ts9.set ab9.l ab9.a0, ⟨by rw [List.reverse_cons]; exact upd_same, ab9.a0, ?_, ?_⟩, fun p hp => ?_, Tr.kid_ok hok (by rw [hk]; simp), ?_, ?_, by simp; omega, by simp [remS]; omega, rfl⟩
      · intro z
        rcases List.mem_cons.mp z with z | z
        · exact hBL z
        · exact ab9.nin z
      · refine .cons (kt _ _ trivial hp9) (by rw [upd_ne hBL.symm]; exact hL9) .nil hL0 hLls (ab9.f.keep kt fun b hb o e => ?_)
        rw [upd_ne (fun z => by rw [z] at hb; exact ab9.nin hb)]; exact e
      · rcases List.mem_cons.mp hp with rfl | hp
        · refine ⟨⟨x, ?_⟩, by show 0 + 1 + rs.length ≤ 2; omega, fun c hc => Tr.kid_ok hok (by rw [hk]; simp [show c ∈ rs from hc])⟩
          show sg[t.hd]? = some (x, 0 + 1 + rs.length)
          rw [hx, hk]
          simp; omega
        · exact hfr p hp
      · have e : trW sg a ++ contW sg ((t.hd, [], rs) :: fs) L = (trW sg a ++ ((rs.flatMap fun c => [44] :: trW sg c) ++ [[41]])).append (contW sg fs L) := by simp [contW]
        rw [e]; exact rem8
      · rw [← hpl]
        show plug fs (mkT t.hd ([] ++ a :: rs)) = plug fs t
        rw [List.nil_append, ← ht]
theorem ml_tree (T : Tx K mg)  : Ml P w K mg base CX0 4 (He.ga K "TreeReader") "tree" ["self"] (spTree K) := by
  obtain ⟨fd, F⟩ := T.f_TreeReader_tree
  exact ⟨_, fd, T.k_TreeReader, T.m_TreeReader_tree, F.bindsN fun _ _ _ _ _ _ us hl => match us, hl with | [_], _ => rfl, fo_TreeReader_tree T F⟩
theorem strArrow : ("->" : Str) = S [45, 62] := by decide +kernel
theorem sc_TreeReader_rule : FnScope ["self", "left"] ["self"] (defScope s_TreeReader_rule) := ⟨rfl, rfl, rfl, by decide +kernel, rfl, by decide +kernel, by decide +kernel⟩
theorem fo_TreeReader_rule {f : Addr} {fd : FuncData} (T : Tx K mg)  (F : FunD K "rule" "TreeReader.rule" (defArgs s_TreeReader_rule) (defBody s_TreeReader_rule) (defScope s_TreeReader_rule) [] [] f fd) : FnOk P w K mg base CX0 5 f fd ["self"] (spRule K) := by
  refine F.ok sc_TreeReader_rule (fun vs H Q E h => ?_) (fun cdv A outer s H vs Q E hr h => ?_)
  · obtain ⟨r, k, sg, p, L, rfl, _⟩ := h
    rfl
  · obtain ⟨r, k0, sg, p, L, rfl, ts, hsg, ok1, ok2, sz1, sz2, rem, q⟩ := h
    have hC := ts.at_.cl
    refine ⟨_, PSs.nox (pss_cons (ps_set (i := 1) sc_TreeReader_rule.nd rfl (by first | exact Or.inl rfl | exact Or.inr rfl) (G.pe_ml0 (G.ml_tree T) hr (by decide) pass0 (pv 0)))
  (pss_cons (ps_expr (G.pe_ml (G.ml_mark T hC) hr (by decide) pass0 (pv 0) (pa_cons pe_str pa_nil)))
  (pss_one (ps_ret (pe_tup (pa_cons (pv 1) (pa_cons (G.pe_ml0 (G.ml_tree T) hr (by decide) pass0 (pv 0)) pa_nil))))))), ?_⟩
    refine x_tree ts hsg ok1 sz1 rem rfl fun v1 H1 k1 ts1 rem1 hv1 => ?_
    refine x_mark ts1.at_ rem1 rfl ((ed_s (n := "->")).to (congrArg _ strArrow)) fun H2 m2 a2 rem2 => ?_
    have ts2 := ts1.mov m2 a2
    have hv2 := dp_kt (m2.kt ts1.at_.ob) _ _ (Tr.toD_tt _) hv1
    refine ⟨_, rfl, ?_⟩
    refine x_tree ts2 hsg ok2 sz2 rem2 rfl fun v3 H3 k3 ts3 rem3 hv3 => ?_
    have hv23 := dp_kt (ts3.mv.kt ts2.at_.ob) _ _ (Tr.toD_tt _) hv2
    refine ⟨by show 2 ≤ sizeLine; rw [sizeLine_eq]; omega, fun pp hpp => ?_⟩
    have s4 : Same H3 (upd H3 pp (.tup [v1, v3])) := (Same.refl H3).new hpp
    exact q (.ref pp) _ k3 (ts2.trans ts3 |>.same s4) rem3 (.tup (st_of upd_same) (.cons (dp_same s4 _ _ hv23) (.cons (dp_same s4 _ _ hv3) .nil)))
theorem ml_rule (T : Tx K mg)  : Ml P w K mg base CX0 5 (He.ga K "TreeReader") "rule" ["self"] (spRule K) := by
  obtain ⟨fd, F⟩ := T.f_TreeReader_rule
  exact ⟨_, fd, T.k_TreeReader, T.m_TreeReader_rule, F.bindsN fun _ _ _ _ _ _ us hl => match us, hl with | [_], _ => rfl, fo_TreeReader_rule T F⟩
end
end G


set_option Elab.async false
set_option linter.all false
set_option maxRecDepth 100000
set_option maxHeartbeats 4000000
namespace G
open PySem PySem.Spec PyProof.Rows L2
/-- what cells hold, in the base -/
structure BCells (cl : List (Str × Addr)) (fr : List Str) (ws : List (Option V)) (B : Heap) : Prop where
  len : ws.length = fr.length
  all : ∀ y c, cl.lookup y = some c → ∃ v, B.IsCell c v
  inj : ∀ x y c, cl.lookup x = some c → cl.lookup y = some c → x = y
  has : ∀ (i : Nat) (y : Str), fr[i]? = some y → ∃ c, cl.lookup y = some c ∧ ∀ v, ws[i]? = some (some v) → ∃ u, L2.RelV v u ∧ B.IsCell c (some u)
theorem BCells.at {cl : List (Str × Addr)} {fr : List Str} {ws : List (Option V)} {B h : Heap} {H : Hp} (c : BCells cl fr ws B) (bs : ∀ b o, B.get? b = some o → h.get? b = some o ∧ H b = none) : NdefX.CellsAt cl fr ws h H where
  len := c.len
  all := fun y a e => by
    obtain ⟨v, o, ho, hd⟩ := c.all y a e
    exact ⟨(bs a o ho).2, v, o, (bs a o ho).1, hd⟩
  inj := c.inj
  has := fun i y e => by
    obtain ⟨a, h1, h2⟩ := c.has i y e
    refine ⟨a, h1, fun v hv => ?_⟩
    obtain ⟨u, r, o, ho, hd⟩ := h2 v hv
    exact ⟨u, r, o, (bs a o ho).1, hd⟩
end G

set_option Elab.async false
set_option linter.all false
set_option maxRecDepth 100000
set_option maxHeartbeats 4000000
namespace G
open PySem PySem.Spec PyProof.Rows L2
/-- a def of the head that has a closure: its cells stand in the base -/
theorem fn_clo {CX : CXT} {P : Program} {w : World} {K : PySem.W.Frag} {mg : Str → Option Value} {base : Heap} {k : Nat} {f : Addr} {F : NdefX.NF} {oc : Value} {od an : Option Addr} {osl : Array (Option Value)} {doc pm ctv : Value} {N ps fr : List Str} {ws : List (Option V)} {sp : Sp}
    (lk : K.lookup f = some ⟨oc, od, .func (PySem.W.fnX F.name F.qual F.params F.body F.scope F.cl .none .none doc pm an (.ref F.c) ctv), osl⟩) (hcd : PySem.W.codeIn K (.ref F.c) F.qual = true) (S : NdefX.NScope N ps fr F.scope) (bc : BCells F.cl fr ws base) (len : ∀ vs H Q E, sp vs H Q E → vs.length = ps.length)
    (hbody : ∀ (A : Around) (outer : List Env) (s : Shared) (H : Hp) (vs : List V) (Q : VK) (E : XK), Room k (A.deeper (NdefX.envF F f s.heap.objs.size)) → sp vs H Q E →
      ∃ t, PSs (NdefX.ncx CX P w K mg base N F f A outer s H E) F.body t ∧ t { nx := fun _ H' => Q .non H', rt := Q } (NdefX.startF N vs ws) H) :
    FnOk P w K mg base CX (k + 1) f (PySem.W.fnX F.name F.qual F.params F.body F.scope F.cl .none .none doc pm an (.ref F.c) ctv) ps sp := by
  refine ⟨len, fun A outer s H args us vs Q E hr e0 hb r hsp => ?_⟩
  have hl := len _ _ _ _ hsp
  have KX : K.In s.heap := e0.mod.kin.keeps fun b o e => (e0.bs b o e).1
  have lim : s.heap.NoLimit := e0.mod.nolimit.keeps fun b o e => (e0.bs b o e).1
  have C := bc.at (h := s.heap) (H := H) e0.bs
  refine codeAny_call_function hr.depth (KX _ _ lk) rfl S.co S.gen rfl (PySem.W.codeRec_of KX hcd) (hb _ _ _ _ ?_)
  refine wpAny_newFunctionEnv S.nocell (fun ⟨n, _⟩ hy => S.par n (List.of_mem_zip hy).1) (fun h₁ hns hsb => ⟨lim.fresh _ hsb, ?_⟩) S.kind
  show codeAny _ _ (.func F.body (NdefX.envF F f s.heap.objs.size)) _ _
  refine codeAny_func ?_
  have kp : ∀ b o, s.heap.get? b = some o → h₁.get? b = some o := fun b o e => hsb.extBut b o (Nat.ne_of_lt (Heap.lt_size e)) (Heap.get?_push_of_some _ e)
  obtain ⟨t, ht, hq⟩ := hbody A outer s H vs Q E (hr.deeper _) hsp
  have I : Inv (NdefX.ncx CX P w K mg base N F f A outer s H E) [] (NdefX.startF N vs ws) H { s with heap := h₁, toks := s.toks + (ps.zip us).length } := NdefX.inv_startN S hr.hd e0 hl r C hns kp
  refine wpAny_mono (ht.run [] _ (NdefX.startF N vs ws) H _ I hq) (fun fl s' hs => ?_) fun e s' hs => hs
  have fin : ∀ {σ' : L2.St} {H' : Hp} {v : V} {u : Value}, Inv (NdefX.ncx CX P w K mg base N F f A outer s H E) [] σ' H' s' → L2.RelV v u → Q v H' → CE outer P w H s Q u s' :=
    fun {σ' H' v u} J rv q => ⟨v, H', J.os, J.bare, J.base, J.hok, rv, q⟩
  cases fl with
  | ret u =>
    obtain ⟨v, σ', H', J, rv, q⟩ := hs
    exact fin J rv q
  | next =>
    obtain ⟨σ', H', J, q⟩ := hs
    exact fin (v := V.non) (u := Value.none) J rfl q
  | brk =>
    obtain ⟨_, _, _, q⟩ := hs
    exact False.elim q
  | cont =>
    obtain ⟨_, _, _, q⟩ := hs
    exact False.elim q
theorem code_ref' {K : PySem.W.Frag} {cd : Value} {q : Str} (h : PySem.W.codeIn K cd q = true) : ∃ c, cd = .ref c := by
  cases cd with
  | ref c => exact ⟨c, rfl⟩
  | _ => cases h
/-- what the head says of TreeReader.__init__ -/
theorem clo_fd {K : PySem.W.Frag} {mg : Str → Option Value} (T : Tx K mg) : ∃ (c cc : Addr) (oc : Value) (od an : Option Addr) (osl : Array (Option Value)) (doc pm ctv : Value),
    K.lookup (He.fAd K ("TreeReader", some "__init__")) = some ⟨oc, od, .func (PySem.W.fnX "__init__" "TreeReader.__init__" (defArgs s_TreeReader___init__) (defBody s_TreeReader___init__) (defScope s_TreeReader___init__) [("__class__", cc)] .none .none doc pm an (.ref c) ctv), osl⟩ ∧
    PySem.W.codeIn K (.ref c) "TreeReader.__init__" = true ∧ (∃ o1 o2 sl, K.lookup cc = some ⟨o1, o2, .cell (some (.ref (He.ga K "TreeReader"))), sl⟩) ∧ fileB K (.ref c) "/claim/cut.py" = true := by
  have h1 := (Bool.and_eq_true_iff.mp T.more).1
  have h2 := T.clo
  unfold clB at h1
  simp only [csY, cvY, List.map_cons, List.map_nil, List.cons.injEq, and_true] at h2
  unfold fnC at h2
  cases e : K.lookup (He.fAd K ("TreeReader", some "__init__")) with
  | none => rw [e] at h1; cases h1
  | some o =>
    obtain ⟨oc, od, dat, osl⟩ := o
    rw [e] at h1 h2
    cases dat with
    | func fd =>
      obtain ⟨nm, qn, pr, bd, sc, gl, cl, dv, kv, doc, pm, an, cdv, ct, bn⟩ := fd
      have h2 : (some (nm, qn, pr, bd, sc, gl, bn) : FnC) = some (("__init__" : Str), ("TreeReader.__init__" : Str), defArgs s_TreeReader___init__, FuncBody.stmts (defBody s_TreeReader___init__), defScope s_TreeReader___init__, mainGlobals, builtinsNs) := h2
      have h2 := Option.some.inj h2
      simp only [Prod.mk.injEq] at h2
      obtain ⟨rfl, rfl, rfl, rfl, rfl, rfl, rfl⟩ := h2
      dsimp only at h1
      simp only [Bool.and_eq_true, decide_eq_true_eq] at h1
      obtain ⟨⟨⟨⟨a1, rfl⟩, rfl⟩, a4⟩, a5⟩ := h1
      match cl, a5 with
      | [(x, c)], a5 =>
        simp only [Bool.and_eq_true, decide_eq_true_eq] at a5
        obtain ⟨rfl, a6⟩ := a5
        obtain ⟨cc, rfl⟩ := code_ref' a1
        refine ⟨cc, c, oc, od, an, osl, doc, pm, ct, rfl, a1, ?_, a4⟩
        unfold cellB at a6
        cases e2 : K.lookup c with
        | none => rw [e2] at a6; cases a6
        | some o2 =>
          obtain ⟨o1, o2, dat, sl⟩ := o2
          rw [e2] at a6
          cases dat with
          | cell v =>
            cases v with
            | none => cases a6
            | some u => exact ⟨o1, o2, sl, by rw [of_decide_eq_true a6]⟩
          | _ => cases a6
    | _ => cases h1
end G

set_option Elab.async false
set_option linter.all false
set_option maxRecDepth 100000
set_option maxHeartbeats 4000000
namespace G
open PySem PySem.Spec PyProof.Rows L2
theorem inv_addPin {X : Cx} {pins : List (Addr × Obj)} {σ : L2.St} {H : Hp} {s : Shared} {b : Addr} {o : Obj} (I : Inv X pins σ H s) (h1 : s.heap.get? b = some o) (h2 : H b = none) (h3 : b ≠ X.env.locals) (h4 : b ∉ X.fs) (h5 : ∀ v, o.data ≠ .cell v) : Inv X ((b, o) :: pins) σ H s :=
  ⟨I.ok, I.os, I.bare, I.base, I.loc, I.cell, I.free, I.freeC, fun p hp => by
    rcases List.mem_append.mp hp with h | h
    · exact I.pin p (List.mem_append_left _ h)
    · rcases List.mem_cons.mp h with rfl | h
      · exact ⟨h1, h2, h3, h4, h5⟩
      · exact I.pin p (List.mem_append_right _ h), I.hok, I.len⟩
theorem inv_dropPin {X : Cx} {pins : List (Addr × Obj)} {σ : L2.St} {H : Hp} {s : Shared} {p : Addr × Obj} (I : Inv X (p :: pins) σ H s) : Inv X pins σ H s :=
  ⟨I.ok, I.os, I.bare, I.base, I.loc, I.cell, I.free, I.freeC, fun q hq => by
    rcases List.mem_append.mp hq with h | h
    · exact I.pin q (List.mem_append_left _ h)
    · exact I.pin q (List.mem_append_right _ (List.mem_cons_of_mem _ h)), I.hok, I.len⟩
/-- super().__init__(e) at the body's level -/
theorem super_first {CX CX2 : CXT} {P : Program} {w : World} {K : PySem.W.Frag} {mg : Str → Option Value} {base : Heap} {N : List Str} {F : NdefX.NF} {f : Addr} {A : Around} {outer : List Env} {s₀ : Shared} {H₀ : Hp} {E₀ : XK}
    {pins : List (Addr × Obj)} {σ : L2.St} {H : Hp} {s : Shared} {cc a dx f2 C D : Addr} {oc ccl cl : Value} {od cdd cld : Option Addr} {osl ccs csl : Array (Option Value)} {fd fd2 : FuncData} {ar : Arg} {vs : Array Value} {file : Str} {tf : Tok} {cd : ClassData}
    {fs : List (Str × V)} {k j : Nat} {ps : List Str} {sp : Sp} {e : Expr} {t : TA} {p0 p1 ap pos ep : Pos} {Q : Flow → Shared → Prop}
    (I : Inv (NdefX.ncx CX P w K mg base N F f A outer s₀ H₀ E₀) pins σ H s)
    (hk : F.scope.kind = .function) (hks : F.scope.names.lookup ("super" : Str) = some NameKind.globalImplicit) (hkc : F.scope.names.lookup ("__class__" : Str) = some NameKind.free) (hka : F.scope.names.lookup ("self" : Str) = some NameKind.local)
    (lk : K.lookup f = some ⟨oc, od, .func fd, osl⟩) (har : (fd.params.posonlyargs ++ fd.params.args).head? = some ar) (har2 : ar.arg = "self")
    (lc : K.lookup F.c = some ⟨ccl, cdd, .fields vs, ccs⟩) (hvs : vs[2]? = some (.str file tf)) (hfile : ((P.main.file : Str) == file) = true) (htop : (P.main.scope.names.lookup ("super" : Str)).isSome = false)
    (hcl : F.cl.lookup ("__class__" : Str) = some cc) (lcc : K.lookup cc = some ⟨cl, cld, .cell (some (.ref C)), csl⟩) (hcd : PySem.W.clsIn K C = some cd) (hmro : cd.mro = [.ref C, .ref D, .type "object"]) (hst : PySem.W.nsIn K cStatics "thirdparty.any" = some none)
    (hal : PySem.W.alongIn K "__init__" [.ref D, .type "object"] = some (some (.ref f2))) (hfn : PySem.W.isFn K (.ref f2) = true) (hfn2 : PySem.W.fnIn K f2 = true) (hms : mg "super" = none)
    (hN : N[0]? = some ("self" : Str)) (hσ : σ[0]? = some (some (.ref a))) (hH : H a = some (.ins C dx fs))
    (G2 : FnOk P w K mg base CX0 k f2 fd2 ps sp) (hr : Room j (A.deeper (NdefX.envF F f s₀.heap.objs.size))) (hkj : k ≤ j) (hb : Binds K fd2 ps []) (ha : PA (NdefX.ncx CX P w K mg base N F f A outer s₀ H₀ E₀) [e] t)
    (q : t σ H fun vs H1 => sp (.ref a :: vs) H1 (fun _ H2 => ∀ s2, Inv (NdefX.ncx CX P w K mg base N F f A outer s₀ H₀ E₀) pins σ H2 s2 → Q .next s2) fun _ _ _ => False)
    (he : starEach [e] (NdefX.envF F f s₀.heap.objs.size) = (false, eval e (NdefX.envF F f s₀.heap.objs.size)) :: starEach [] (NdefX.envF F f s₀.heap.objs.size) := by rfl)
    (hi : interactive (NdefX.envF F f s₀.heap.objs.size) = false := by rfl) (hsw : swapsWith (.Call (.Attribute (.Call (.Name "super" p0) [] [] p1) "__init__" ap) [e] [] pos) none ep.line (NdefX.envF F f s₀.heap.objs.size) = pure false := by rfl)
    (hm : eval (.Call (.Attribute (.Call (.Name "super" p0) [] [] p1) "__init__" ap) [e] [] pos) (NdefX.envF F f s₀.heap.objs.size) = (do
      let ov ← attributeBase (.Call (.Name "super" p0) [] [] p1) "__init__" (NdefX.envF F f s₀.heap.objs.size) (eval (.Call (.Name "super" p0) [] [] p1) (NdefX.envF F f s₀.heap.objs.size))
      standAt ap.atName
      let (g, first) ← holding [ov] (getMethod ov "__init__" (plainOf (.Call (.Name "super" p0) [] [] p1) (NdefX.envF F f s₀.heap.objs.size)))
      callWith pos g first (backTo pos (starEach [e] (NdefX.envF F f s₀.heap.objs.size))) []) := by rfl) :
    _root_.PySem.wpAt (model P w) (A.deeper (NdefX.envF F f s₀.heap.objs.size)) (.func F.body (NdefX.envF F f s₀.heap.objs.size)) (exec (.Expr (.Call (.Attribute (.Call (.Name "super" p0) [] [] p1) "__init__" ap) [e] [] pos) ep) (NdefX.envF F f s₀.heap.objs.size)) Q (NdefX.ncx CX P w K mg base N F f A outer s₀ H₀ E₀).xe s := by
  have X : K.In s.heap := I.kIn
  have hC : ∃ oC, s.heap.get? C = some oC ∧ oC.data = .cls cd := by
    unfold PySem.W.clsIn at hcd
    split at hcd
    · rename_i c d cd' sl ho
      cases hcd
      exact ⟨_, X _ _ ho, rfl⟩
    · cases hcd
  obtain ⟨oC, hC1, hC2⟩ := hC
  obtain ⟨hdx, _, _, hobj, mA, hns, hrel, hwi⟩ := I.hok a _ hH
  obtain ⟨m, hnsL, hlook⟩ := I.loc
  obtain ⟨u, ru, lu⟩ := hlook 0 "self" (.ref a) hN hσ (.inl hka)
  have hmself : m ("self" : Str) = some (.ref a) := by
    obtain rfl : u = Value.ref a := ru
    rcases lu with ⟨_, h⟩ | ⟨h, _⟩
    · exact h
    · rcases h with h | h
      · exact absurd (hka.symm.trans h) (by simp)
      · exact absurd (hka.symm.trans h) (by simp)
  refine ks_wpAt_Expr_any (ks_wpAt_MethodCall (pl := plainOf (.Call (.Name "super" p0) [] [] p1) (NdefX.envF F f s₀.heap.objs.size)) ?_ hm) hi hsw
  refine ks_wpAt_super_base (env := NdefX.envF F f s₀.heap.objs.size) hks hkc (by decide) rfl (X _ _ lk) rfl har rfl (X _ _ lc) rfl hvs hfile htop ?_
  obtain ⟨mb, b1, b2⟩ := I.mod.blt
  refine PySem.W.ks_loadName_global hk hks (Calls.loadGlobal_builtin (by exact I.mod.glob.keeps I.bk) hms (by exact b1.keeps I.bk) ((b2 _ (by decide)).trans PyProof.Rows.Boot.«super») ⟨rfl, ?_⟩)
  refine wpAny_loadName_free hk hkc hcl ⟨_, X _ _ lcc, rfl⟩ ?_
  rw [har2]
  refine wpAny_loadName_local hk hka hnsL hmself ?_
  refine ks_wpAny_isType_cls hC1 hC2 ⟨rfl, ?_⟩
  have hsub : PySem.W.mroIn K C (.ref C) = some true := by
    unfold PySem.W.mroIn
    rw [hcd]
    show (if cd.mro.isEmpty = true then none else some (cd.mro.contains (.ref C))) = some true
    rw [hmro]
    simp
  obtain ⟨hh, g, d, tk, os⟩ := s
  refine ks_wpAny_call_super hC1 hC2 hobj rfl (fun c e => by cases e) (PySem.W.looks_mroIn X hsub) fun h1 e1 k1 => ?_
  have X1 : K.In h1 := X.keeps k1
  have I1 : Inv (NdefX.ncx CX P w K mg base N F f A outer s₀ H₀ E₀) pins σ H ⟨h1, g, d, tk, os⟩ := I.kept (h' := h1) (t' := tk) k1
  obtain ⟨of, hof, hofc⟩ : ∃ of, h1.get? f2 = some of ∧ of.cls = .type "function" := by
    have ht : (K.lookup f2).map (·.cls) = some (.type "function") := beq_iff_eq.mp hfn
    cases z : K.lookup f2 with
    | none => rw [z] at ht; cases ht
    | some o => rw [z] at ht; exact ⟨o, X1 _ _ z, Option.some.inj ht⟩
  have hne : a ≠ C := fun z => by
    rw [z] at hobj
    rw [hobj] at hC1
    cases hC1
    cases hC2
  refine ks_wpAny_getMethod_super e1 (PySem.W.looks_opaque X1 hst) (l₀ := cd.mro) (fun A Q E s k q => wpAny_bind ((PySem.W.looks_clsIn X1 hcd) A _ E s k (wpAny_pure q))) (l := [.ref D, .type "object"]) (by rw [hmro]; simp) X1 hal hof hofc hne (by decide) ?_
  have s2k : ∀ b u, h1.get? b = some u → (h1.push { cls := .type "method", data := .fields #[.ref f2, .ref a] }).get? b = some u := fun b u e => Heap.get?_push_of_some _ e
  have hq1 : (h1.push { cls := .type "method", data := .fields #[.ref f2, .ref a] }).get? h1.objs.size = some { cls := .type "method", data := .fields #[.ref f2, .ref a] } := Heap.get?_push_at rfl rfl
  have I2 : Inv (NdefX.ncx CX P w K mg base N F f A outer s₀ H₀ E₀) ((h1.objs.size, { cls := .type "method", data := .fields #[.ref f2, .ref a] }) :: pins) σ H ⟨h1.push { cls := .type "method", data := .fields #[.ref f2, .ref a] }, g, d, tk + 1, os⟩ :=
    inv_addPin (I1.kept (h' := h1.push { cls := .type "method", data := .fields #[.ref f2, .ref a] }) (t' := tk + 1) s2k) hq1 (I1.hok.fresh (Nat.le_refl _)) (fun z => absurd I1.lt (by rw [← z]; exact Nat.lt_irrefl _)) (I1.nofs (Nat.le_refl _)) (fun v z => by cases z)
  have hs : wpAny (model P w) (A.deeper (NdefX.envF F f s₀.heap.objs.size)) (spliced (backTo pos (starEach [e] (NdefX.envF F f s₀.heap.objs.size)))) (fun vs s' => PySem.W.MethP K h1.objs.size f2 (.ref a) s'.heap ∧ wpAny (model P w) (A.deeper (NdefX.envF F f s₀.heap.objs.size)) (call (.ref h1.objs.size) ([] ++ vs)) (fun _ => Q Flow.next) (NdefX.ncx CX P w K mg base N F f A outer s₀ H₀ E₀).xe s') (NdefX.ncx CX P w K mg base N F f A outer s₀ H₀ E₀).xe
      ⟨h1.push { cls := .type "method", data := .fields #[.ref f2, .ref a] }, g, d, tk + 1, os⟩ := by
    refine thn (ha.run pos _ _ σ H _ I2 q) fun us s3 ⟨zs, H3, I3, r3, q3⟩ => ?_
    have hpin := (I3.pin _ (List.mem_append_right _ List.mem_cons_self)).1
    refine ⟨⟨hpin, I3.kIn⟩, ?_⟩
    have I4 := inv_dropPin I3
    have rv : Vals (V.ref a :: zs) (Value.ref a :: us) := .cons rfl r3
    have hl : (Value.ref a :: us).length = ps.length := by rw [← rv.length]; exact G2.len _ _ _ _ q3
    have b := hb s3 (Value.ref a :: us) I3.kIn (by rw [List.append_nil]; exact hl)
    rw [List.append_nil] at b
    refine wpAny_call (ks_codeAny_call_bound hpin (codeAny_mono (G2.run _ _ s3 H3 ⟨Value.ref a :: us, []⟩ _ _ _ _ (hr.mono hkj) I4.env0 b rv q3) fun r s' hq => ?_))
    cases r with
    | error e => exact hq.elim
    | ok fl =>
      cases fl with
      | ret u =>
        obtain ⟨v, H', I5, rv5, q5⟩ := I4.after hq
        exact q5 _ I5
      | next => exact False.elim hq
      | brk => exact False.elim hq
      | cont => exact False.elim hq
  rw [he] at hs ⊢
  exact PySem.W.callWith_of (P := PySem.W.MethP K h1.objs.size f2 (.ref a)) rfl (PySem.W.keeps_M hfn2) (PySem.Calls.evalArgs_plain hs)
end G

set_option Elab.async false
set_option linter.all false
set_option maxRecDepth 100000
set_option maxHeartbeats 4000000
namespace G
open PySem PySem.Spec PyProof.Rows L2
/-! ### enumerate(a tuple) -/
theorem meets_enum1 {v : Value} {o : Obj} {H : Heap → Prop} (B : Begins v o H) :
    Meets (Builtin.«enumerate.__new__» ⟨[.type "enumerate", v], []⟩) (fun _ R s => H s.heap ∧
      R (.ok (.ret (.ref (s.heap.push o).objs.size))) { s with heap := (s.heap.push o).push { cls := .type "enumerate", data := .fields #[.none, .bool false, .ref s.heap.objs.size, rawInt 0, .none, .none] } }) :=
  .of_wp fun prog w A R s h => by
    obtain ⟨hp, g, d, tk, os⟩ := s; obtain ⟨h1, h⟩ := h
    have hsub := sub_enumerate
    have q1 : ∀ {A' : Around} {E : Value → Shared → Prop} {Q : Value → Shared → Prop}, Q (.ref hp.objs.size) ⟨hp.push o, g, d, tk, os⟩ → wpAny (model prog w) A' (pyIter v) Q E ⟨hp, g, d, tk, os⟩ :=
      fun q => B.iter prog w _ _ ⟨hp, g, d, tk, os⟩ _ h1 q
    wp_walk using q1
    refine wpAny_stack_any fun st => wpAny_pure ?_
    split
    · rename_i c _ _ _ _ _
      cases (c == Value.type "enumerate")
      · wp_walk using q1
        exact ⟨_, rfl, h⟩
      · wp_walk using q1
        exact ⟨_, rfl, h⟩
    · wp_walk using q1
      exact ⟨_, rfl, h⟩
section
variable {prog : Program} {w : World} {A : Around} {E : Value → Shared → Prop} {s : Shared}
theorem enum_begins1 {v : Value} {o : Obj} {H : Heap → Prop} {Q : Value → Shared → Prop} (B : Begins v o H) (h1 : H s.heap)
    (h : ∀ h', IsEnum h' (s.heap.objs.size + 1) s.heap.objs.size 0 .none → h'.get? s.heap.objs.size = some o → h'.objs.size = s.heap.objs.size + 2 →
      (∀ b o, s.heap.get? b = some o → h'.get? b = some o) → Q (.ref (s.heap.objs.size + 1)) { s with heap := h' }) :
    wpAny (model prog w) A (call (.type "enumerate") [v]) Q E s := by
  refine callType_new F.called_enumerate (by decide) (F.typeCall_enumerate_1 _) (F.newCall_enumerate_1 _) (fun obj => F.args_object_init_2 obj _) F.entry_enumerate_new
    (meets_enum1 B) ⟨h1, ?_⟩
  have hz : (s.heap.push o).objs.size = s.heap.objs.size + 1 := Heap.size_push ..
  show _ ∧ _
  rw [hz]
  have he : IsEnum ((s.heap.push o).push { cls := .type "enumerate", data := .fields #[.none, .bool false, .ref s.heap.objs.size, rawInt 0, .none, .none] }) (s.heap.objs.size + 1) s.heap.objs.size 0 .none := by
    have := Heap.get?_push_size (s.heap.push o) (o := { cls := .type "enumerate", data := .fields #[.none, .bool false, .ref s.heap.objs.size, rawInt 0, .none, .none] }) rfl
    rw [hz] at this; exact this
  refine ⟨⟨_, he, rfl⟩, h _ he (Heap.get?_push_of_some _ (Heap.get?_push_size _ B.free)) (by rw [Heap.size_push, hz]) fun b o x => Heap.get?_push_of_some _ (Heap.get?_push_of_some _ x)⟩
end
/-- the tuple at a at each turn, each item in a new pair -/
def IteT (K : PySem.W.Frag) (a : Addr) : It :=
  ⟨fun i H => ∃ (xs : List V) (x : V), SqT K H a xs ∧ xs[i]? = some x, fun i H v H' => ∃ T x, v = .ref T ∧ H T = none ∧ H' = upd H T (.tup [.int (i : Nat), x]) ∧ ∀ xs, SqT K H a xs → xs[i]? = some x, fun i H => ∃ xs : List V, SqT K H a xs ∧ xs.length ≤ i⟩
theorem turn_enumT {P : Program} {w : World} {K : PySem.W.Frag} {elts : List Expr} {kk : Nat} {tpos : Pos} (a e it : Addr) :
    Turn P w K (.Tuple elts kk tpos) (IteT K a) [e, it] e (fun i h => (∃ old, IsEnum h e it ((i : Nat) : Int) old) ∧ h.IsTupleIter it a i ∧ e ≠ it) where
  mem := by simp
  obj := fun i h st b hb => by
    obtain ⟨⟨old, he⟩, ⟨o, ho, hc, hd⟩, _⟩ := st
    have e' : b = e ∨ b = it := by simpa using hb
    rcases e' with z | z
    · rw [z]; exact ⟨_, he, fun v q => nomatch q⟩
    · rw [z]; exact ⟨o, ho, fun v q => by rw [hd] at q; cases q⟩
  keep := fun i h h' st k => let ⟨⟨old, he⟩, hi, hne⟩ := st; ⟨⟨old, k e (by simp) _ he⟩, hi.at fun o q => k it (by simp) o q, hne⟩
  item := by
    intro X hP hw hK hc i pins s σ H E I hf st hg
    subst hP hw hK
    obtain ⟨⟨old, he⟩, hit, hne⟩ := st
    obtain ⟨xs, x, hq, hx⟩ := hg
    obtain ⟨its, rv, p, hz⟩ := I.tuple hq
    obtain ⟨u, hu, ru⟩ := rv.get hx
    have hel : e < s.heap.objs.size := Heap.lt_size he
    have hil : it < s.heap.objs.size := by obtain ⟨_, q, _⟩ := hit; exact Heap.lt_size q
    have hai : a ≠ it := fun z => by
      obtain ⟨o1, e1, c1, _⟩ := p
      obtain ⟨o2, e2, c2, _⟩ := hit
      rw [z, e2] at e1
      cases e1
      rw [c2] at c1
      exact absurd (Value.type.inj c1) (by decide)
    have hae : e ≠ a := fun z => by
      obtain ⟨o1, e1, c1, _⟩ := p
      rw [← z, he] at e1
      cases e1
      exact absurd (Value.type.inj c1) (by decide)
    have hu' : its.toArray[i]? = some u := by simpa using hu
    refine wpAny_pyNext_enum_itemC (c := (i : Int)) (Draws.tuple (prog := X.prog) (w := X.w) (A := X.A.in1) (show X.A.handled = none from I.ok.hd hc) it a hai its.toArray) he ⟨hit, p⟩ (by
      have := (Array.getElem?_eq_some_iff.mp hu').1
      exact this) hne (by simp [hne, hae]) fun x' h' tk hP ho st' hT hsz hk => ?_
    have hxu : u = x' := Option.some.inj (hu'.symm.trans hP)
    subst hxu
    refine ⟨_, rfl, wpAny_letOwnedTupleGo_enum (s := { s with heap := h', toks := tk + 1 }) ho fun h'' he' sb => ?_⟩
    have hT2 : h''.get? s.heap.objs.size = some { cls := .type "tuple", data := .seq #[.int i tk, u] } := (sb.2 _ (Nat.ne_of_gt hel)).trans hT
    have new : ObjOk X.prog X.w (upd H s.heap.objs.size (.tup [.int (i : Nat), x])) h'' s.heap.objs.size (.tup [.int (i : Nat), x]) :=
      ⟨by show 2 ≤ sizeLine; decide, [.int i tk, u], .cons ⟨_, rfl⟩ (.cons ru .nil), ⟨_, hT2, rfl, _, rfl⟩⟩
    have I1 : Inv X pins σ (upd H s.heap.objs.size (.tup [.int (i : Nat), x])) { s with heap := h'', toks := tk + 1 } :=
      I.turnedNew (ch := [e, it]) (fun b ob hb q => (sb.2 b (fun z => hb (by simp [z]))).trans (hk b ob (fun z => hb (by simp [z])) (fun z => hb (by simp [z])) q)) hf (Nat.le_refl _) new
    refine ⟨.ref s.heap.objs.size, _, I1, rfl, ⟨_, x, rfl, I.hok.fresh (Nat.le_refl _), rfl, fun ys hy => by rw [I.tuple_inj hy hq]; exact hx⟩, ⟨⟨u, ?_⟩, st'.1.at fun o q => (sb.2 it (Ne.symm hne)).trans q, hne⟩, fun b hb => ?_⟩
    · have e1 : ((i + 1 : Nat) : Int) = (i : Int) + 1 := by omega
      rw [e1]; exact he'
    · have hb' : b < s.heap.objs.size := by
        have e' : b = e ∨ b = it := by simpa using hb
        rcases e' with z | z
        · rw [z]; exact hel
        · rw [z]; exact hil
      rw [upd_ne (Nat.ne_of_lt hb')]
      exact (hf b hb).1
  done := by
    intro X hP hw hK hc i pins s σ H E I hf st hg
    subst hP hw hK
    obtain ⟨⟨old, he⟩, hit, hne⟩ := st
    obtain ⟨xs, hq, hx⟩ := hg
    obtain ⟨its, rv, p, hz⟩ := I.tuple hq
    obtain ⟨f0, f1, f2, f3, f4, f5⟩ := hf it (by simp)
    have hl := rv.length
    have D : Draws X.prog X.w X.A.in1 it [it, a] i (fun _ _ => False) (fun j h => j = i ∧ h.IsTupleIter it a i ∧ h.IsTuple a its.toArray) :=
      { live := fun _ _ st => let ⟨o, ho, _⟩ := st.2.1; ⟨o, ho⟩
        frame := fun _ _ _ st hk => ⟨st.1, st.2.1.at fun o q => hk it (by simp) o q, st.2.2.at fun o q => hk a (by simp) o q⟩
        item := fun j s Q E hj st hQ => absurd st.1 (Nat.ne_of_lt hj)
        done := fun s Q E st hE => wpAny_nextOf_tuple_end (show X.A.handled = none from I.ok.hd hc) st.2.1 st.2.2 (by simp; omega) hE }
    exact wpAny_pyNext_enum_endD D he ⟨rfl, hit, p⟩ fun h' eb => ⟨rfl, I.turned (t' := s.toks) (fun b o hb q => eb b o hb q) f0 f1 f3 f4 f5⟩
  self := fun A i s Q E st h => let ⟨⟨_, he⟩, _⟩ := st; wpAny_pyIter_enum he h
def iEnumT (K : PySem.W.Frag) (ta : TA) : TI := fun σ H R => ta σ H fun vs H1 => ∃ a xs, vs = [.ref a] ∧ SqT K H1 a xs ∧ R (IteT K a) H1
theorem pi_enumT {X : Cx} {e : Expr} {ta : TA} {p pos tpos : Pos} {elts : List Expr} {kk : Nat} (hg : Gl X "enumerate") (hm : X.mg "enumerate" = none) (ha : PA X [e] ta) (hs : starEach [e] X.env = [(false, eval e X.env)] := by rfl) :
    PI X (.Tuple elts kk tpos) (.Call (.Name "enumerate" p) [e] [] pos) (iEnumT X.K ta) := by
  refine ⟨fun pins s σ H R I h => ?_⟩
  refine Call_ (ld_blt I hg hm boot_enumerate (PyProof.Rows.callWith_type1 (thn (ha.run pos pins s σ H _ I h) fun us s1 ⟨vs, H1, I1, r1, q1⟩ => ?_) hs rfl))
  obtain ⟨a, xs, rfl, hq, q⟩ := q1
  rw [Vals.ref1 r1]
  obtain ⟨its, rv, pt, hz⟩ := I1.tuple hq
  refine enum_begins1 (begins_tuple a its.toArray) pt fun h' he hit hsz hk => wpAny_pyIter_enum he ?_
  have I2 : Inv X pins σ H1 { s1 with heap := h' } := I1.kept (t' := s1.toks) hk
  refine ⟨s1.heap.objs.size + 1, [s1.heap.objs.size + 1, s1.heap.objs.size], _, _, H1, rfl, I2, turn_enumT a (s1.heap.objs.size + 1) s1.heap.objs.size, ⟨⟨.none, he⟩, ⟨_, hit, rfl, rfl⟩, Nat.succ_ne_self _⟩, fun b hb => ?_, q⟩
  have hle : s1.heap.objs.size ≤ b := by
    rcases List.mem_cons.mp hb with z | z
    · rw [z]; exact Nat.le_succ _
    · rw [List.mem_singleton.mp z]; exact Nat.le_refl _
  exact I1.fpOk hle (I1.hok.fresh hle)
/-! ### .. as data -/
def enumD (xs : List PyData) (i : Nat) : PyData := .tuple [.int (i : Int), xs.getD i .none]
section
variable {K : PySem.W.Frag} {σ : L2.St} {H H' : Hp} {tl te : TE}
theorem wk_enumT {a : Addr} {vs : List V} {xs : List PyData} (hs : SqT K H a vs) (hv : DpAll K H vs xs) : WkD K (IteT K a) H ((List.range xs.length).map (enumD xs)) where
  goes := fun i H1 hi s => by
    have : i < vs.length := by rw [hv.len]; simpa using hi
    exact ⟨vs, vs[i], same_sqt s hs, by simp [this]⟩
  stops := fun H1 s => ⟨vs, same_sqt s hs, by rw [hv.len]; simp⟩
  yields := fun i H1 x H2 d hd s y => by
    obtain ⟨T, x', rfl, hT, rfl, y⟩ := y
    have h1 := y vs (same_sqt s hs)
    have hi : i < xs.length := by
      have := (List.getElem?_eq_some_iff.mp hd).1
      simpa using this
    have e : d = enumD xs i := by
      rw [List.getElem?_map, List.getElem?_range hi] at hd
      exact (Option.some.inj hd).symm
    subst e
    have hx : xs[i]? = some (xs.getD i .none) := by rw [List.getD_eq_getElem?_getD, List.getElem?_eq_getElem hi]; rfl
    obtain ⟨v, h2, h3⟩ := hv.get hx
    rw [h1] at h2
    cases h2
    have s2 : Same H1 (upd H1 T (.tup [.int (i : Nat), x'])) := (Same.refl H1).new hT
    exact ⟨s2, .tup (st_of upd_same) (.cons (.int _) (.cons (dp_same (s.trans s2) _ _ h3) .nil))⟩
theorem ei_enumT {xs : List PyData} (h : EvD K tl σ H (.tuple xs)) : EvI K (iEnumT K (tCons tl tNil)) σ H ((List.range xs.length).map (enumD xs)) := fun H1 s R q => h H1 s _ fun v H2 s2 hv => by
  obtain ⟨a, vs, rfl, hs, hvs⟩ := dp_tup hv
  exact ⟨a, vs, rfl, hs, q _ H2 s2 (wk_enumT hs hvs)⟩
end
end G

set_option Elab.async false
set_option linter.all false
set_option maxRecDepth 100000
set_option maxHeartbeats 4000000
namespace G
open PySem PySem.Spec PyProof.Rows L2
/-- a def of the head that has a closure, and whose first statement is run at the body's level -/
theorem fn_cloS {CX : CXT} {P : Program} {w : World} {K : PySem.W.Frag} {mg : Str → Option Value} {base : Heap} {k : Nat} {f : Addr} {F : NdefX.NF} {oc : Value} {od an : Option Addr} {osl : Array (Option Value)} {doc pm ctv : Value} {N ps fr : List Str} {ws : List (Option V)} {sp : Sp} {st : Stmt} {rest : List Stmt}
    (lk : K.lookup f = some ⟨oc, od, .func (PySem.W.fnX F.name F.qual F.params F.body F.scope F.cl .none .none doc pm an (.ref F.c) ctv), osl⟩) (hcd : PySem.W.codeIn K (.ref F.c) F.qual = true) (S : NdefX.NScope N ps fr F.scope) (bc : Mod K mg base → BCells F.cl fr ws base) (len : ∀ vs H Q E, sp vs H Q E → vs.length = ps.length)
    (hF : F.body = st :: rest)
    (hbody : ∀ (A : Around) (outer : List Env) (s : Shared) (H : Hp) (vs : List V) (Q : VK) (E : XK), Room k (A.deeper (NdefX.envF F f s.heap.objs.size)) → sp vs H Q E → ∀ s1, Inv (NdefX.ncx CX P w K mg base N F f A outer s H E) [] (NdefX.startF N vs ws) H s1 →
      _root_.PySem.wpAt (model P w) (A.deeper (NdefX.envF F f s.heap.objs.size)) (.func F.body (NdefX.envF F f s.heap.objs.size)) (exec st (NdefX.envF F f s.heap.objs.size))
        (fun fl s2 => fl = .next ∧ ∃ σ2 H2 t, Inv (NdefX.ncx CX P w K mg base N F f A outer s H E) [] σ2 H2 s2 ∧ PSs (NdefX.ncx CX P w K mg base N F f A outer s H E) rest t ∧ t { nx := fun _ H' => Q .non H', rt := Q } σ2 H2) (NdefX.ncx CX P w K mg base N F f A outer s H E).xe s1) :
    FnOk P w K mg base CX (k + 1) f (PySem.W.fnX F.name F.qual F.params F.body F.scope F.cl .none .none doc pm an (.ref F.c) ctv) ps sp := by
  refine ⟨len, fun A outer s H args us vs Q E hr e0 hb r hsp => ?_⟩
  have hl := len _ _ _ _ hsp
  have KX : K.In s.heap := e0.mod.kin.keeps fun b o e => (e0.bs b o e).1
  have lim : s.heap.NoLimit := e0.mod.nolimit.keeps fun b o e => (e0.bs b o e).1
  have C := (bc e0.mod).at (h := s.heap) (H := H) e0.bs
  refine codeAny_call_function hr.depth (KX _ _ lk) rfl S.co S.gen rfl (PySem.W.codeRec_of KX hcd) (hb _ _ _ _ ?_)
  refine wpAny_newFunctionEnv S.nocell (fun ⟨n, _⟩ hy => S.par n (List.of_mem_zip hy).1) (fun h₁ hns hsb => ⟨lim.fresh _ hsb, ?_⟩) S.kind
  show codeAny _ _ (.func F.body (NdefX.envF F f s.heap.objs.size)) _ _
  have kp : ∀ b o, s.heap.get? b = some o → h₁.get? b = some o := fun b o e => hsb.extBut b o (Nat.ne_of_lt (Heap.lt_size e)) (Heap.get?_push_of_some _ e)
  have I : Inv (NdefX.ncx CX P w K mg base N F f A outer s H E) [] (NdefX.startF N vs ws) H { s with heap := h₁, toks := s.toks + (ps.zip us).length } := NdefX.inv_startN S hr.hd e0 hl r C hns kp
  have fin : ∀ {σ' : L2.St} {H' : Hp} {v : V} {u : Value} {s' : Shared}, Inv (NdefX.ncx CX P w K mg base N F f A outer s H E) [] σ' H' s' → L2.RelV v u → Q v H' → CE outer P w H s Q u s' :=
    fun {σ' H' v u s'} J rv q => ⟨v, H', J.os, J.bare, J.base, J.hok, rv, q⟩
  have step := hbody A outer s H vs Q E (hr.deeper _) hsp _ I
  refine ks_codeAny_funcAt ?_
  rw [show execs F.body (NdefX.envF F f s.heap.objs.size) = execs (st :: rest) (NdefX.envF F f s.heap.objs.size) by rw [hF]]
  refine ks_wpAt_execs_cons (ks_wpAt_mono step (fun fl s2 h2 => ?_) fun e s' hs => hs)
  obtain ⟨rfl, σ2, H2, t, I2, ht, hq⟩ := h2
  refine wpAt_of_wpAny (wpAny_mono (ht.run [] _ _ _ _ I2 hq) (fun fl s' hs => ?_) fun e s' hs => hs)
  cases fl with
  | ret u =>
    obtain ⟨v, σ', H', J, rv, q⟩ := hs
    exact fin J rv q
  | next =>
    obtain ⟨σ', H', J, q⟩ := hs
    exact fin (v := V.non) (u := Value.none) J rfl q
  | brk =>
    obtain ⟨_, _, _, q⟩ := hs
    exact False.elim q
  | cont =>
    obtain ⟨_, _, _, q⟩ := hs
    exact False.elim q
/-! ### the symbols' dict -/
theorem symD {K : PySem.W.Frag} {x0 x2 x3 x4 x5 x6 : Option V} {H : Hp} {sg : Sg} {v : V} (hd : Dp K H v (sigD sg)) (nd : (sg.map (·.1)).Nodup) (few : sg.length ≤ 12) {Q : VK}
    (q : ∀ D kvs H', Same H H' → H D = none → H' D = some (.dK kvs) → (∀ (m : Nat) (e : Str × Nat), sg[m]? = some e → valV kvs (Sum.inr e.1) = some (.int (m : Int))) → Q (.ref D) H') :
    tDc (iEnumT K (tCons (tVar 1) tNil)) (gTup K 2 (gCons (gName 4) (gCons (gTup K 2 (gCons (gName 5) (gCons (gName 6) gNil))) gNil))) tYes (tVar 5) (tVar 4) [4, 5, 6] [x0, some v, x2, x3, x4, x5, x6] H Q := by
  have key := ei_enumT (K := K) (σ := [x0, some v, x2, x3, x4, x5, x6]) (H := H) (tl := tVar 1) (xs := sg.map entD) (ed_var (show Dp K H v (.tuple (sg.map entD)) from hd) rfl)
  refine key H (Same.refl H) _ fun J H2 s2 w D hD => ?_
  have hlen : (List.map (enumD (sg.map entD)) (List.range (sg.map entD).length)).length = sg.length := by simp
  refine ⟨fun a m H' => m = sg.length - a ∧ a ≤ sg.length ∧ Same H2 H' ∧ ∃ kvs, H' D = some (.dK kvs) ∧ kvs.length ≤ a ∧ ∀ (m : Nat) (e : Str × Nat), m < a → sg[m]? = some e → valV kvs (Sum.inr e.1) = some (.int (m : Int)),
    ⟨sg.length, by simp, Nat.zero_le _, (Same.refl H2).new hD, [], upd_same, Nat.le_refl _, fun m e hm => absurd hm (Nat.not_lt_zero _)⟩, ?_⟩
  rintro a m H3 ⟨rfl, hal, s3, kvs, hk, hkl, hkv⟩
  by_cases hlt : a < sg.length
  · refine .inr ⟨w.goes a H3 (by rw [hlen]; exact hlt) s3, fun H' => a + 1 ≤ sg.length ∧ Same H2 H' ∧ ∃ kvs, H' D = some (.dK kvs) ∧ kvs.length ≤ a + 1 ∧ ∀ (m : Nat) (e : Str × Nat), m < a + 1 → sg[m]? = some e → valV kvs (Sum.inr e.1) = some (.int (m : Int)),
      fun H' ⟨x, y⟩ => ⟨sg.length - (a + 1), by omega, rfl, x, y⟩, fun x H4 y => ?_⟩
    obtain ⟨e, he⟩ : ∃ e, sg[a]? = some e := ⟨_, List.getElem?_eq_getElem hlt⟩
    have hx : (List.map (enumD (sg.map entD)) (List.range (sg.map entD).length))[a]? = some (.tuple [.int (a : Int), entD e]) := by
      rw [List.getElem?_map, List.getElem?_range (by simpa using hlt)]
      show some (enumD (sg.map entD) a) = _
      unfold enumD
      rw [List.getD_eq_getElem?_getD, List.getElem?_map, he]
      rfl
    obtain ⟨s4, hxd⟩ := w.yields a H3 x H4 _ hx s3 y
    obtain ⟨b, xs, rfl, hs, hvs⟩ := dp_tup hxd
    cases hvs with
    | cons h1 t1 =>
      cases t1 with
      | cons h2 t2 =>
        cases t2
        obtain rfl := dpI h1
        obtain ⟨b2, ys, rfl, hs2, hvs2⟩ := dp_tup (show Dp K H4 _ (.tuple [.str e.1, .int (e.2 : Int)]) from h2)
        cases hvs2 with
        | cons g1 t1 =>
          cases t1 with
          | cons g2 t2 =>
            cases t2
            obtain rfl := dpS g1
            obtain rfl := dpI g2
            refine ⟨b, _, rfl, hs, rfl, _, _, rfl, _, _, rfl, ⟨b2, _, rfl, hs2, rfl, _, _, rfl, _, _, rfl, rfl, rfl, rfl, ?_⟩⟩
            refine et_yes H4 (Same.refl _) _ fun H5 s5 => iteT ⟨_, rfl, _, rfl, kvs, Sum.inr e.1, rfl, (s4.trans s5) _ _ hk, sz_lt (by omega), hlt, fun c o hc => ?_, _, upd_same, ?_, fun m e' hm he' => ?_⟩
            · rw [upd_ne (ne_of_none hc hD)]
              exact ((s3.trans s4).trans s5) _ _ hc
            · have : ∀ (l : List (Key × V)) (k : Key) (v : V), (putK l k v).length ≤ l.length + 1 := fun l k v => by
                unfold putK
                split <;> simp
              have := this kvs (Sum.inr e.1) (.int (a : Int))
              omega
            · rw [valV_put]
              by_cases hma : m = a
              · subst hma
                rw [he] at he'
                cases he'
                rw [if_pos rfl]
              · have hne : ¬ (Sum.inr e'.1 : Key) = Sum.inr e.1 := fun z => by
                  injection z with z
                  have a1 : (sg.map (·.1))[m]? = some e'.1 := by rw [List.getElem?_map, he']; rfl
                  have a2 : (sg.map (·.1))[a]? = some e.1 := by rw [List.getElem?_map, he]; rfl
                  rw [z] at a1
                  exact hma ((List.getElem?_inj (List.getElem?_eq_some_iff.mp a1).1 nd).mp (a1.trans a2.symm))
                rw [if_neg hne]
                exact hkv m e' (by omega) he'
  · obtain rfl : a = sg.length := by omega
    refine .inl ⟨?_, q D kvs H3 (s2.trans s3) (back s2 hD) hk fun m e he => hkv m e (List.getElem?_eq_some_iff.mp he).1 he⟩
    have := w.stops H3 s3
    rwa [hlen] at this
end G

set_option Elab.async false
set_option linter.all false
set_option maxRecDepth 100000
set_option maxHeartbeats 4000000
namespace G
open PySem PySem.Spec PyProof.Rows L2
/-! ### a new tree's reader -/
def trI (K : PySem.W.Frag) (a dx W D : Addr) (vsg : V) (l : List Nat) : RI := ⟨a, He.ga K "TreeReader", dx, W, [(("signature" : Str), vsg), (("symbols" : Str), .ref D)], l, wordsOf l⟩
def spTInit (K : PySem.W.Frag) : Sp := fun vs H Q _ => ∃ (a dx : Addr) (vsg : V) (l : List Nat) (sg : Sg), vs = [.ref a, vsg, .str (S l)] ∧ H a = some (.ins (He.ga K "TreeReader") dx []) ∧ SgLike sg ∧ Dp K H vsg (sigD sg) ∧ l.length ≤ 50000 ∧
  ∀ H' W D, Mv a H H' → H W = none → TSt K (trI K a dx W D vsg l) sg H' H' 0 → Q .non H'
section
variable {K : PySem.W.Frag} {mg : Str → Option Value} {sg : Sg} {H0 H H' : Hp} {σ : L2.St} {i j : Nat} {l : List Nat}
theorem x_treeReader {te1 te2 : TE} {E : XK} {Q : VK} (h1 : EvD K te1 σ H (sigD sg)) (h2 : EvD K te2 σ H (.str (S l))) (hs : SgLike sg) (hl : l.length ≤ 50000)
    (q : ∀ a dx W D vsg H', Same H H' → H a = none → H W = none → TSt K (trI K a dx W D vsg l) sg H' H' 0 → Q (.ref a) H') : tMake (He.ga K "TreeReader") (spTInit K) [] E (tCons te1 (tCons te2 tNil)) σ H Q := by
  refine h1 H (Same.refl H) _ fun vsg H1 s1 hv1 => h2 H1 s1 _ fun v2 H2 s2 hv2 => ?_
  obtain rfl := dpS hv2
  intro a dx ha hdx hne
  have s3 : Same H2 (upd (upd H2 dx (.own a)) a (.ins (He.ga K "TreeReader") dx [])) := ((Same.refl H2).own hdx).own ha
  refine ⟨a, dx, vsg, l, sg, rfl, upd_same, hs, dp_same (s2.trans s3) _ _ hv1, hl, fun H' W D m hW ts => ⟨rfl, ?_⟩⟩
  have s12 := s1.trans s2
  have sH : Same H2 H' := fun b o e => m b o (fun z => by rw [z, ha] at e; cases e) (s3 b o e)
  exact q a dx W D vsg H' (s12.trans sH) (back s12 ha) (back (s12.trans s3) hW) ts
theorem s_treeReader {te1 te2 : TE} {E : XK} {D0 : Ends} (h1 : EvD K te1 σ H (sigD sg)) (h2 : EvD K te2 σ H (.str (S l))) (hs : SgLike sg) (hl : l.length ≤ 50000)
    (q : ∀ a dx W D vsg H', Same H H' → H a = none → H W = none → TSt K (trI K a dx W D vsg l) sg H' H' 0 → D0.nx (σ.set i (some (.ref a))) H') : tAsg (tMake (He.ga K "TreeReader") (spTInit K) [] E (tCons te1 (tCons te2 tNil))) (gName i) D0 σ H :=
  x_treeReader h1 h2 hs hl q
theorem s_newTR {te1 te2 : TE} {E : XK} {D0 : Ends} (h1 : EvD K te1 σ H (sigD sg)) (h2 : EvD K te2 σ H (.str (S l))) (hs : SgLike sg) (hl : l.length ≤ 50000)
    (q : ∀ a dx W D vsg F Hb H', Hb F = none → TSt K (trI K a dx W D vsg l) sg Hb H' 0 → RF K (trI K a dx W D vsg l) F H H' 0 [] → D0.nx ((σ.set i (some (.ref a))).set j (some (.ref F))) H') :
    tPar i j (tCons (tMake (He.ga K "TreeReader") (spTInit K) [] E (tCons te1 (tCons te2 tNil))) (tCons (tLst tNil) tNil)) D0 σ H := by
  have key := x_treeReader (E := E) (Q := fun v H1 => (tCons (tLst tNil) tNil) σ H1 fun vs H2 => ∃ v' w, v :: vs = [v', w] ∧ D0.nx ((σ.set i (some v')).set j (some w)) H2) h1 h2 hs hl fun a dx W D vsg H2 s2 ha hW ts => ?_
  exact key
  refine ⟨by simp, fun F hF => ⟨_, _, rfl, q a dx W D vsg F H2 _ hF (ts.same ((Same.refl H2).new hF)) ?_⟩⟩
  have hFa : F ≠ a := fun z => by rw [z] at hF; rw [show H2 a = _ from ts.ob] at hF; cases hF
  obtain ⟨us, hWl, hus⟩ := ts.at_.wl
  have hFW : F ≠ W := fun z => by rw [z] at hF; rw [show H2 W = _ from hWl] at hF; cases hF
  have sF : Same H2 (upd H2 F (.lst [])) := (Same.refl H2).new hF
  exact ⟨ts.at_.same sF, hFa, hFW, s2.trans sF, ha, back s2 hF, ⟨[], upd_same, .nil⟩, rfl⟩
end
section
variable {P : Program} {w : World} {K : PySem.W.Frag} {mg : Str → Option Value} {base : Heap}
/-- the program's file, as super() asks for it -/
structure PF (P : Program) : Prop where
  file : ((P.main.file : Str) == "/claim/cut.py") = true
  top : (P.main.scope.names.lookup ("super" : Str)).isSome = false
theorem supB_eq {c d : Str} (h : supB K c d = true) : ∃ cd, PySem.W.clsIn K (He.ga K c) = some cd ∧ cd.mro = [.ref (He.ga K c), .ref (He.ga K d), .type "object"] ∧ PySem.W.nsIn K cStatics "thirdparty.any" = some none ∧
    PySem.W.alongIn K "__init__" [.ref (He.ga K d), .type "object"] = some (some (.ref (He.ma K (He.ga K d) "__init__"))) ∧ PySem.W.isFn K (.ref (He.ma K (He.ga K d) "__init__")) = true := by
  unfold supB at h
  simp only [Bool.and_eq_true, decide_eq_true_eq] at h
  obtain ⟨⟨⟨h1, h2⟩, h3⟩, h4⟩ := h
  cases e : PySem.W.clsIn K (He.ga K c) with
  | none => rw [e] at h1; cases h1
  | some cd =>
    rw [e] at h1
    exact ⟨cd, rfl, of_decide_eq_true h1, h2, h3, h4⟩
theorem fileB_eq {c : Addr} {file : Str} (h : fileB K (.ref c) file = true) : ∃ ccl cdd vs ccs tf, K.lookup c = some ⟨ccl, cdd, .fields vs, ccs⟩ ∧ vs[2]? = some (.str file tf) := by
  unfold fileB at h
  dsimp only at h
  cases e : K.lookup c with
  | none => rw [e] at h; cases h
  | some o =>
    obtain ⟨a1, a2, dat, a4⟩ := o
    rw [e] at h
    cases dat with
    | fields vs =>
      dsimp only at h
      cases el : vs.toList with
      | nil => rw [el] at h; cases h
      | cons x l =>
        cases l with
        | nil => rw [el] at h; cases h
        | cons y l =>
          cases l with
          | nil => rw [el] at h; cases h
          | cons z l =>
            rw [el] at h
            cases z with
            | str f tf =>
              obtain rfl := of_decide_eq_true h
              exact ⟨a1, a2, vs, a4, tf, rfl, by rw [← Array.getElem?_toList, el]; rfl⟩
            | _ => cases h
    | _ => cases h
theorem scN_TreeReader___init__ : NdefX.NScope ["self", "signature", "text", "__class__", "symbol", "name", "arity"] ["self", "signature", "text"] ["__class__"] (defScope s_TreeReader___init__) := NdefX.nscope_by (by decide +kernel)
theorem fo_TreeReader___init__ (T : Tx K mg) (hP : PF P) : ∃ fd, K.lookup (He.fAd K ("TreeReader", some "__init__")) = K.lookup (He.fAd K ("TreeReader", some "__init__")) ∧ Binds K fd ["self", "signature", "text"] [] ∧ FnOk P w K mg base CX0 4 (He.fAd K ("TreeReader", some "__init__")) fd ["self", "signature", "text"] (spTInit K) := by
  obtain ⟨c, cc, oc, od, an, osl, doc, pm, ctv, lk, hcd, ⟨o1, o2, sl, lcc⟩, hfile⟩ := clo_fd T
  obtain ⟨ccl, cdd, cvs, ccs, tf, lc, hvs⟩ := fileB_eq hfile
  obtain ⟨cd, hcl, hmro, hst, hal, hfn⟩ := supB_eq (Bool.and_eq_true_iff.mp T.more).2
  obtain ⟨fd2, F2⟩ := T.f_Reader___init__
  have n1 : (defScope s_TreeReader___init__).names.lookup ("super" : Str) = some NameKind.globalImplicit := by decide +kernel
  have n2 : (defScope s_TreeReader___init__).names.lookup ("__class__" : Str) = some NameKind.free := by decide +kernel
  have n3 : (defScope s_TreeReader___init__).names.lookup ("self" : Str) = some NameKind.local := by decide +kernel
  have hfn2 : PySem.W.fnIn K (He.ma K (He.ga K "Reader") "__init__") = true := by
    obtain ⟨_, _, _, _, _, _, _, _, _, _, _, lk2, _⟩ := F2.ex
    have lk2 : K.lookup (He.ma K (He.ga K "Reader") "__init__") = _ := lk2
    unfold PySem.W.fnIn
    rw [lk2]
  refine ⟨_, rfl, .all fun us hl => ?_, fn_cloS (F := ⟨"__init__", "TreeReader.__init__", defArgs s_TreeReader___init__, defBody s_TreeReader___init__, defScope s_TreeReader___init__, [("__class__", cc)], c⟩) (k := 3) (ws := [none]) lk hcd scN_TreeReader___init__ (fun M => ?_) (fun vs H Q E h => ?_) rfl fun A outer s H vs Q E hr hsp s1 I => ?_⟩
  · match us, hl with
    | [_, _, _], _ => rfl
  · refine ⟨rfl, fun y e he => ?_, fun x y e hx hy => ?_, fun i y hy => ?_⟩
    · have : e = cc := by
        rw [List.lookup_cons] at he
        split at he
        · exact (Option.some.inj he).symm
        · cases he
      subst this
      exact ⟨_, _, M.kin _ _ lcc, rfl⟩
    · have key : ∀ z, List.lookup z [(("__class__" : Str), cc)] = some e → z = ("__class__" : Str) := fun z hz => by
        rw [List.lookup_cons] at hz
        split at hz
        · rename_i q
          exact eq_of_beq q
        · cases hz
      rw [key x hx, key y hy]
    · match i, hy with
      | 0, hy =>
        obtain rfl : ("__class__" : Str) = y := Option.some.inj hy
        exact ⟨cc, rfl, fun v hv => by cases hv⟩
      | i + 1, hy => simp at hy
  · obtain ⟨a, dx, vsg, l, sg, rfl, _⟩ := h
    rfl
  · obtain ⟨a, dx, vsg, l, sg, rfl, ho, hs, hvsg, hl, q⟩ := hsp
    refine super_first (CX2 := CX0) I rfl n1 n2 n3 lk rfl rfl lc hvs hP.file hP.top rfl lcc hcl hmro hst hal hfn hfn2 T.b_super rfl rfl ho (fo_Reader___init__ T F2) hr (by decide)
      (F2.bindsN fun _ _ _ _ _ _ us hl => match us, hl with | [_, _], _ => rfl) (pa_cons (pv 2) pa_nil) ?_
    refine ⟨_, rfl, a, He.ga K "TreeReader", dx, l, rfl, ho, T.k_TreeReader, T.n_TreeReader_text, T.n_TreeReader_words, T.n_TreeReader_at, hl, fun H1 W us m1 hW hWa hWl hus hfs s2 I2 => ?_⟩
    refine ⟨rfl, _, H1, _, I2, pss_cons (ps_fld (pv 0) (pv 1) rfl) (pss_one (ps_fld (pv 0) (pe_dc (own := [("symbol", 4), ("name", 5), ("arity", 6)]) (g := gTup K 2 (gCons (gName 4) (gCons (gTup K 2 (gCons (gName 5) (gCons (gName 6) gNil))) gNil))) rfl scN_TreeReader___init__.nd (pi_enumT (by rfl) T.b_enumerate (pa_cons (pv 1) pa_nil))
      (blkOk_by (own := [("symbol", 4), ("name", 5), ("arity", 6)]) (N := ["self", "signature", "text", "__class__", "symbol", "name", "arity"]) (sc := defScope s_TreeReader___init__) (by decide +kernel))
      (fun _ _ _ _ _ => pg_tup rfl (pgs_cons (pg_name (i := 4) scN_TreeReader___init__.nd rfl (by first | exact Or.inl rfl | exact Or.inr rfl)) (pgs_cons (pg_tup rfl (pgs_cons (pg_name (i := 5) scN_TreeReader___init__.nd rfl (by first | exact Or.inl rfl | exact Or.inr rfl)) (pgs_cons (pg_name (i := 6) scN_TreeReader___init__.nd rfl (by first | exact Or.inl rfl | exact Or.inr rfl)) pgs_nil))) pgs_nil)))
      (fun _ _ _ _ _ => pts_nil) (fun _ _ _ _ _ => pv 5) (fun _ _ _ _ _ => pv 4)) rfl)), ?_⟩
    have hv1 : Dp K H1 vsg (sigD sg) := dp_kt (m1.kt ho) _ _ (sigD_tt sg) hvsg
    refine ⟨vsg, rfl, _, rfl, a, He.ga K "TreeReader", dx, _, rfl, hfs, T.k_TreeReader, T.n_TreeReader_signature, by show (3 : Nat) < 1000; decide, ?_⟩
    have hWl2 : (upd H1 a (.ins (He.ga K "TreeReader") dx (putF "signature" vsg [(("text" : Str), .str (S l)), (("words" : Str), .ref W), (("at" : Str), .int 0)]))) W = some (.lst us) := by
      rw [upd_ne hWa]; exact hWl
    have m2 : Mv a H1 (upd H1 a (.ins (He.ga K "TreeReader") dx (putF "signature" vsg [(("text" : Str), .str (S l)), (("words" : Str), .ref W), (("at" : Str), .int 0)]))) := (Mv.refl a H1).upd
    have hv2 := dp_kt (m2.kt hfs) _ _ (sigD_tt sg) hv1
    have hus2 := dps_kt (m2.kt hfs) _ _ (wordD_tt _) hus
    have ho2 : (upd H1 a (.ins (He.ga K "TreeReader") dx (putF "signature" vsg [(("text" : Str), .str (S l)), (("words" : Str), .ref W), (("at" : Str), .int 0)]))) a = _ := upd_same
    generalize upd H1 a (.ins (He.ga K "TreeReader") dx (putF "signature" vsg [(("text" : Str), .str (S l)), (("words" : Str), .ref W), (("at" : Str), .int 0)])) = H2 at *
    dsimp only [List.map]
    unfold sFld
    refine symD (K := K) (x0 := some (.ref a)) (x2 := some (.str (S l))) (x3 := none) (x4 := none) (x5 := none) (x6 := none) hv2 hs.nd hs.few fun D kvs H3 s3 hD hDl hkv => ?_
    refine ⟨_, rfl, a, He.ga K "TreeReader", dx, _, rfl, s3 _ _ ho2, T.k_TreeReader, T.n_TreeReader_symbols, by show (4 : Nat) < 1000; decide, ?_⟩
    have ho3 := s3 _ _ ho2
    have hDa : D ≠ a := fun z => by rw [z, ho2] at hD; cases hD
    have m3 : Mv a H3 (upd H3 a (.ins (He.ga K "TreeReader") dx (putF "symbols" (.ref D) (putF "signature" vsg [(("text" : Str), .str (S l)), (("words" : Str), .ref W), (("at" : Str), .int 0)])))) := (Mv.refl a H3).upd
    have hv4 := dp_kt (m3.kt ho3) _ _ (sigD_tt sg) (dp_same s3 _ _ hv2)
    have hus4 := dps_kt (m3.kt ho3) _ _ (wordD_tt _) (dps_same s3 _ _ hus2)
    refine q _ W D (((m1.trans m2).trans (Mv.of s3)).trans m3) hW ⟨⟨?_, ⟨us, ?_, hus4⟩, .inr ⟨rfl, _, _, rfl⟩, Nat.le_trans (wordsF_len _ _ _) hl, hl⟩, rfl, ⟨vsg, D, kvs, rfl, hv4, ?_, hkv⟩, Mv.refl _ _, .lst us, ?_⟩
    · exact upd_same
    · show (upd H3 a _) W = _
      rw [upd_ne hWa]; exact s3 _ _ hWl2
    · rw [upd_ne hDa]; exact hDl
    · show (upd H3 a _) W = _
      rw [upd_ne hWa]; exact s3 _ _ hWl2
theorem kl_TreeReader (T : Tx K mg) (hP : PF P) : Kl P w K mg base CX0 4 (He.ga K "TreeReader") "TreeReader" ["self", "signature", "text"] (spTInit K) := by
  obtain ⟨fd, _, hb, F⟩ := fo_TreeReader___init__ (w := w) (base := base) T hP
  exact ⟨_, fd, T.g_TreeReader, T.mk_TreeReader, hb, F⟩
end
/-! ### rules as texts and words -/
def rlT (sg : Sg) (p : Rl) : List Nat := trT sg p.1 ++ [32, 45, 62, 32] ++ trT sg p.2
def rlsT (sg : Sg) (rs : List Rl) : List Nat := TL.joinL [59, 32] (rs.map (rlT sg))
def rlW (sg : Sg) (p : Rl) : List (List Nat) := trW sg p.1 ++ [45, 62] :: trW sg p.2
def tailR (sg : Sg) : List Rl → List (List Nat)
  | [] => []
  | p :: r => [59] :: (rlW sg p ++ tailR sg r)
def rlsW (sg : Sg) : List Rl → List (List Nat)
  | [] => []
  | p :: r => rlW sg p ++ tailR sg r
end G

set_option Elab.async false
set_option linter.all false
set_option maxRecDepth 100000
set_option maxHeartbeats 4000000
namespace G
open PySem PySem.Spec PyProof.Rows L2
section
variable {P : Program} {w : World} {K : PySem.W.Frag} {mg : Str → Option Value} {base : Heap}
def Rread_tree : List PyData → PyData → Prop
  | [s, d], r => ∃ (l : List Nat) (sg : Sg) (t : Tr), s = sigD sg ∧ SgOk sg ∧ d = .str (S l) ∧ l.length ≤ 50000 ∧ (wordsOf l).map (·.1) = trW sg t ∧ TrOk sg t ∧ r = t.toD
  | _, _ => False
theorem sc_read_tree : FnScope ["signature", "text", "reader", "found"] ["signature", "text"] (defScope s_read_tree) := ⟨rfl, rfl, rfl, by decide +kernel, rfl, by decide +kernel, by decide +kernel⟩
theorem ok_read_tree (T : Tx K mg) (hP : PF P)  : Cl P w K mg base (L2.CX P w) 6 "read_tree" ["signature", "text"] (spX K Rread_tree (YSig2 K)) := by
  obtain ⟨fd, F⟩ := T.f_read_tree
  refine ⟨_, fd, T.g_read_tree, F.kp, F.bindsN fun _ _ _ _ _ _ us hl => match us, hl with | [_, _], _ => rfl, F.ok sc_read_tree (fun vs H Q E h => ?_) (fun cdv A outer s H vs Q E hr h => ?_)⟩
  · obtain ⟨ds, hd, ⟨r, hR, _⟩ | ⟨C, hR, _⟩⟩ := h
    · match ds, hR with
      | [_, _], _ => exact hd.len
    · match ds, hR with
      | [_, _], _ => exact hd.len
  · have hC : ∀ v D, RC K (He.ga K "TreeReader") [(("signature" : Str), v), (("symbols" : Str), .ref D)] := fun v D => .inr ⟨rfl, v, .ref D, rfl⟩
    refine ⟨_, (pss_cons (ps_expr (G.pe_cl (ok_need_signature T) hr (by decide) (passes_call (takes_of rfl rfl rfl rfl) (fun _ _ _ _ h => h)) (pa_cons (pv 0) pa_nil)))
  (pss_cons (ps_set (i := 2) sc_read_tree.nd rfl (by first | exact Or.inl rfl | exact Or.inr rfl) (G.pe_kl (G.kl_TreeReader T hP) hr (by decide) pass0 (pa_cons (pv 0) (pa_cons (pv 1) pa_nil))))
  (pss_cons (ps_set (i := 3) sc_read_tree.nd rfl (by first | exact Or.inl rfl | exact Or.inr rfl) (G.pe_ml0 (G.ml_tree T) hr (by decide) pass0 (pv 2)))
  (pss_cons (ps_expr (G.pe_ml0 (G.ml_end T (.inr ⟨rfl, .non, .non, rfl⟩)) hr (by decide) pass0 (pv 2)))
  (pss_one (ps_ret (pv 3))))))), ?_⟩
    obtain ⟨ds, hd, ⟨r, hR, q⟩ | ⟨C, hR, q⟩⟩ := h
    · match ds, vs, hd, hR with
      | [d0, d1], [v0, v1], .cons h0 (.cons h1 .nil), hR =>
      obtain ⟨l, sg, t, rfl, hs, rfl, hl, hw, ht, rfl⟩ := hR
      refine s_drop (K := K) (ed_callX (ea_cons (ed_var h0) ea_nil) ⟨⟨sg, hs, rfl⟩, rfl⟩) fun H1 s1 => ?_
      refine s_treeReader (ed_var (dp_same s1 _ _ h0)) (ed_var (dp_same s1 _ _ h1)) hs.1 hl fun a dx W D vsg H2 s2 ha hW ts => ?_
      have rem : Rem (trI K a dx W D vsg l) 0 (trW sg t ++ []) := by
        unfold Rem
        show ((wordsOf l).map (·.1)).drop 0 = _
        rw [hw]; simp
      refine x_tree ts hs.1.few ht.ok ht.size rem rfl fun v H3 k3 ts3 rem3 hv3 => ?_
      have s3 : Same H1 H3 := Mv.same0 s2 ha ts3.mv
      refine s_drop (K := K) (ed_end ts3.at_ rem3 rfl) fun H4 s4 => ?_
      exact s_ret (ed_var (dp_same s4 _ _ hv3)) fun v5 H5 s5 hv5 => q v5 H5 (((s1.trans s3).trans s4).trans s5) hv5
    · match ds, vs, hd, hR with
      | [d0, d1], [v0, v1], .cons h0 (.cons h1 .nil), hR =>
      obtain ⟨rfl, rfl⟩ := hR
      exact er_callX (ea_cons (ed_var h0) ea_nil) ⟨rfl, rfl⟩ q
end
end G


set_option Elab.async false
set_option linter.all false
set_option maxRecDepth 100000
set_option maxHeartbeats 4000000
namespace G
open PySem PySem.Spec PyProof.Rows L2
section
variable {P : Program} {w : World} {K : PySem.W.Frag} {mg : Str → Option Value} {base : Heap}
def Rread_rules : List PyData → PyData → Prop
  | [s, d], r => ∃ (l : List Nat) (sg : Sg) (rs : List Rl), s = sigD sg ∧ SgOk sg ∧ d = .str (S l) ∧ l.length ≤ 50000 ∧ (wordsOf l).map (·.1) = rlsW sg rs ∧ RlsOk sg rs ∧ r = rlsD rs
  | _, _ => False
theorem rlD_tt (p : Rl) : tt (rlD p) = true := by simp [rlD, tt, tts, Tr.toD_tt]
theorem trW_head {sg : Sg} (hs : SgLike sg) {t : Tr} (ok : t.ok sg) : ∃ w ws, trW sg t = w :: ws ∧ w ≠ [] := by
  obtain ⟨x, hx⟩ := Tr.hd_at ok
  have hn : nameOf sg t.hd ≠ [] := by
    rw [nameOf_eq hx]
    exact (low_run (hs.low _ (List.mem_of_getElem? hx))).1
  cases t with
  | n0 f => exact ⟨_, _, rfl, hn⟩
  | n1 f a => exact ⟨_, _, rfl, hn⟩
  | n2 f a b => exact ⟨_, _, rfl, hn⟩
theorem strSemi : (";" : Str) = S [59] := by decide +kernel
/-- found.append(reader.rule()) -/
theorem s_rule {D : Ends} {E : XK} {r : RI} {sg : Sg} {σ : L2.St} {i j k : Nat} {F : Addr} {H Hb H1 : Hp} {ds : List PyData} {p : Rl} {L : List (List Nat)} (hb : Hb F = none) (ts : TSt K r sg Hb H1 k) (rf : RF K r F H H1 k ds) (hsg : sg.length ≤ 12) (h1 : TrOk sg p.1) (h2 : TrOk sg p.2) (hd : ds.length ≤ 1000)
    (rem : Rem r k (rlW sg p ++ L)) (hr : σ[i]? = some (some (.ref r.a))) (hF : σ[j]? = some (some (.ref F))) (q : ∀ H2 k', TSt K r sg Hb H2 k' → RF K r F H H2 k' (ds ++ [rlD p]) → Rem r k' L → D.nx σ H2) :
    tDrop (tBM K "list" rAppend (tVar j) (tCons (tMeth (He.ga K "TreeReader") "rule" (spRule K) [] E (tVar i) tNil) tNil)) D σ H1 := by
  obtain ⟨us0, hF0, _⟩ := rf.fl
  refine ⟨_, hF, lst_ty hF0, ?_⟩
  have rem : Rem r k (trW sg p.1 ++ [45, 62] :: (trW sg p.2 ++ L)) := by
    unfold rlW at rem
    rw [List.append_assoc, List.cons_append] at rem
    exact rem
  refine x_rule ts hsg h1.ok h2.ok h1.size h2.size rem hr fun v H2 k2 ts2 rem2 hv => ?_
  have rf2 := rf.mv ts2.mv ts2.at_
  obtain ⟨us, hFl, hus⟩ := rf2.fl
  refine ⟨F, us, v, rfl, rfl, hFl, sz_lt (by rw [hus.len]; omega), ?_⟩
  exact q _ k2 ((ts.trans ts2).set hFl hb) (rf2.push hFl hv (rlD_tt p)) rem2
theorem sc_read_rules : FnScope ["signature", "text", "reader", "found"] ["signature", "text"] (defScope s_read_rules) := ⟨rfl, rfl, rfl, by decide +kernel, rfl, by decide +kernel, by decide +kernel⟩
theorem ok_read_rules (T : Tx K mg) (hP : PF P)  : Cl P w K mg base (L2.CX P w) 7 "read_rules" ["signature", "text"] (spX K Rread_rules (YSig2 K)) := by
  obtain ⟨fd, F⟩ := T.f_read_rules
  refine ⟨_, fd, T.g_read_rules, F.kp, F.bindsN fun _ _ _ _ _ _ us hl => match us, hl with | [_, _], _ => rfl, F.ok sc_read_rules (fun vs H Q E h => ?_) (fun cdv A outer s H vs Q E hr h => ?_)⟩
  · obtain ⟨ds, hd, ⟨r, hR, _⟩ | ⟨C, hR, _⟩⟩ := h
    · match ds, hR with
      | [_, _], _ => exact hd.len
    · match ds, hR with
      | [_, _], _ => exact hd.len
  · have hC : RC K (He.ga K "TreeReader") [(("signature" : Str), .non), (("symbols" : Str), .non)] := .inr ⟨rfl, .non, .non, rfl⟩
    refine ⟨_, (pss_cons (ps_expr (G.pe_cl (ok_need_signature T) hr (by decide) (passes_call (takes_of rfl rfl rfl rfl) (fun _ _ _ _ h => h)) (pa_cons (pv 0) pa_nil)))
  (pss_cons (ps_par (i := 2) (j := 3) rfl sc_read_rules.nd rfl rfl (by decide) rfl rfl (pa_cons (G.pe_kl (G.kl_TreeReader T hP) hr (by decide) pass0 (pa_cons (pv 0) (pa_cons (pv 1) pa_nil))) (pa_cons (pe_lst pa_nil) pa_nil)) (by rfl))
  (C8.pss_cut (ps_if (pt_cmpR op_ne (G.pe_ml0 (G.ml_word T hC) hr (by decide) pass0 (pv 2)) pe_str (nomark _)) (pss_cons (ps_expr (pe_bm PySem.F.plainAttrs_list PySem.F.slot_list_append PySem.F.type_list_append mt_append (pv 3) (pa_cons (G.pe_ml0 (G.ml_rule T) hr (by decide) pass0 (pv 2)) pa_nil)))
  (pss_one (ps_while (passes_of rfl) (PW.pt (pw_and (pt_cmpR op_lt (pe_callB call_len_seq (by rfl) T.b_len PyProof.Rows.Boot.«len» (pa_cons (pv 3) pa_nil)) (G.pe_ki (by rfl) T.c_MOST_RULES) (nomark _)) (pw_and1 (pt_val (G.pe_ml (G.ml_goes_on T hC) hr (by decide) pass0 (pv 2) (pa_cons pe_str pa_nil)))))) (pss_one (ps_expr (pe_bm PySem.F.plainAttrs_list PySem.F.slot_list_append PySem.F.type_list_append mt_append (pv 3) (pa_cons (G.pe_ml0 (G.ml_rule T) hr (by decide) pass0 (pv 2)) pa_nil))))))) pss_nil)
  (pss_cons (ps_expr (G.pe_ml0 (G.ml_end T hC) hr (by decide) pass0 (pv 2)))
  (pss_cons (ps_expr (G.pe_ml (G.ml_due T hC) hr (by decide) pass0 (pv 2) (pa_cons (G.pe_cl (ok_are_right_rules T) hr (by decide) pass0 (pa_cons (pv 0) (pa_cons (pe_callTy call_tuple_of (by rfl) T.b_tuple PyProof.Rows.Boot.«tuple» (pa_cons (pv 3) pa_nil)) pa_nil))) pa_nil)))
  (pss_one (ps_ret (pe_callTy call_tuple_of (by rfl) T.b_tuple PyProof.Rows.Boot.«tuple» (pa_cons (pv 3) pa_nil))))))))), ?_⟩
    obtain ⟨ds, hd, ⟨r, hR, q⟩ | ⟨C, hR, q⟩⟩ := h
    · match ds, vs, hd, hR with
      | [d0, d1], [v0, v1], .cons h0 (.cons h1 .nil), hR =>
      obtain ⟨l, sg, rs, rfl, hs, rfl, hl, hw, hrs, rfl⟩ := hR
      refine s_drop (K := K) (ed_callX (ea_cons (ed_var h0) ea_nil) ⟨⟨sg, hs, rfl⟩, rfl⟩) fun H1 s1 => ?_
      refine s_newTR (ed_var (dp_same s1 _ _ h0)) (ed_var (dp_same s1 _ _ h1)) hs.1 hl fun a dx W D vsg F Hb H2 hb ts rf => ?_
      have hsg := hs.1.few
      have rem : Rem (trI K a dx W D vsg l) 0 (rlsW sg rs) := by
        unfold Rem
        show ((wordsOf l).map (·.1)).drop 0 = _
        rw [hw]; rfl
      have rC : (trI K a dx W D vsg l).C = He.ga K "TreeReader" := rfl
      have ra : (trI K a dx W D vsg l).a = a := rfl
      have hrw : (trI K a dx W D vsg l).a = a := rfl
      refine ⟨fun σ2 H2 => ∃ k : Nat, σ2 = [some v0, some v1, some (.ref a), some (.ref F)] ∧ RF K (trI K a dx W D vsg l) F H1 H2 k (rs.map rlD) ∧ Rem (trI K a dx W D vsg l) k [], ?_, ?_⟩
      · generalize trI K a dx W D vsg l = r at ts rf rem rC ra
        rw [← rC, ← ra]
        cases rs with
        | nil =>
          refine s_ifF (et_test (ed_neS (ed_word rf.rd rfl) ed_s)) (by rw [Rem.nil rem, strN]; simp) fun H3 s3 => ?_
          exact ⟨0, by rw [ra]; rfl, rf.same s3, rem⟩
        | cons p rs =>
          obtain ⟨w1, ws1, hw1, hne⟩ := trW_head hs.1 (hrs.tr p (by simp)).1.ok
          have hwr : r.w 0 ≠ [] := by
            have : rlsW sg (p :: rs) = w1 :: (ws1 ++ [45, 62] :: trW sg p.2 ++ tailR sg rs) := by simp [rlsW, rlW, hw1]
            rw [this] at rem
            rw [rem.w]; exact hne
          refine s_ifT (et_test (ed_neS (ed_word rf.rd rfl) ed_s)) (by rw [strN, eqS_dec]; simp [hwr]) fun H3 s3 => ?_
          rw [rC]
          refine s_rule hb (ts.same s3) (rf.same s3) hsg (hrs.tr p (by simp)).1 (hrs.tr p (by simp)).2.1 (by simp) rem rfl rfl fun H4 k4 ts4 rf4 rem4 => ?_
          rw [← rC]
          refine ⟨fun m σ' H' => ∃ (n k : Nat), σ' = [some v0, some v1, some (.ref r.a), some (.ref F)] ∧ TSt K r sg Hb H' k ∧ RF K r F H1 H' k (((p :: rs).take n).map rlD) ∧ Rem r k (tailR sg ((p :: rs).drop n)) ∧ n ≤ (p :: rs).length ∧ 1 ≤ n ∧ m = (p :: rs).length - n,
            ⟨_, 1, k4, rfl, ts4, rf4, rem4, by simp, Nat.le_refl _, rfl⟩, ?_⟩
          clear rem4 rf4 ts4 rem rf ts
          rintro m σ' H5 ⟨n, k, rfl, ts, rf, rem, hn, hn1, rfl⟩
          have hfew := hrs.few
          have hlen : (((p :: rs).take n).map rlD).length = n := by simp at hn ⊢; omega
          have edl : EvD K _ [some v0, some v1, some (.ref r.a), some (.ref F)] H5 (.bool (decide (((((p :: rs).take n).map rlD).length : Int) < 30))) := ed_lt (ed_lenL (rf.ed (i := 3) rfl)) (ed_i (n := 30))
          rw [hlen] at edl
          refine (et_test edl) H5 (Same.refl H5) _ fun H6 s6 => ?_
          have ts := ts.same s6
          have rf := rf.same s6
          cases hd : (p :: rs).drop n with
          | nil =>
            rw [hd] at rem
            have hnl : n = (p :: rs).length := by
              have := congrArg List.length hd
              simp at this hn ⊢; omega
            have hfin : ((p :: rs).take n).map rlD = (p :: rs).map rlD := by rw [hnl, List.take_length]
            rw [hfin] at rf
            by_cases h30 : decide ((n : Int) < 30) = true
            · refine iteT_of h30 ?_
              refine x_stays rf.rd (w := [59]) (by rw [Rem.nil rem]; simp) rfl ((ed_s (n := ";")).to (congrArg _ strSemi)) fun H7 s7 => ?_
              refine ⟨false, rfl, iteF ⟨k, by rw [ra], rf.same s7, rem⟩⟩
            · refine iteF_of h30 (iteF ⟨k, by rw [ra], rf, rem⟩)
          | cons p2 rest =>
            rw [hd] at rem
            have hlt : n < (p :: rs).length := by
              have := congrArg List.length hd
              simp at this ⊢; omega
            have hmem : p2 ∈ p :: rs := List.mem_of_mem_drop (by rw [hd]; simp)
            have htk : (p :: rs).take (n + 1) = (p :: rs).take n ++ [p2] := by
              have e : (p :: rs)[n]? = some p2 := by
                have := congrArg (fun l => l[0]?) hd
                simpa using this
              rw [List.take_succ, e]; rfl
            have hdr : (p :: rs).drop (n + 1) = rest := by rw [← List.drop_drop, hd]; rfl
            refine iteT_of (decide_eq_true (by omega)) ?_
            refine x_goes rf.rd rem rfl ((ed_s (n := ";")).to (congrArg _ strSemi)) fun H7 m7 a7 rem7 => ?_
            refine ⟨true, rfl, iteT ⟨_, fun _ _ x => x, ?_⟩⟩
            refine s_rule hb (ts.mov m7 a7) (rf.mv m7 a7) hsg (hrs.tr p2 hmem).1 (hrs.tr p2 hmem).2.1 (by rw [hlen]; omega) rem7 rfl rfl fun H8 k8 ts8 rf8 rem8 => ?_
            refine ⟨(p :: rs).length - (n + 1), by omega, n + 1, k8, rfl, ts8, ?_, by rw [hdr]; exact rem8, hlt, by omega, rfl⟩
            rw [htk, List.map_append]
            exact rf8
      · rintro σ2 H3 ⟨k, rfl, rf, rem⟩
        refine s_drop (ed_end rf.rd rem rfl) fun H4 s4 => ?_
        have rf := rf.same s4
        refine s_drop (ed_due rf.rd rfl (ed_call (ea_cons (ed_var (dp_same (s1.trans rf.s0) _ _ h0)) (ea_cons (ed_tupL (rf.ed rfl)) ea_nil)) ⟨sg, rfl, hsg, .inr ⟨rs, hrs, rfl, rfl⟩⟩)) fun H5 s5 => ?_
        have rf := rf.same s5
        exact s_ret (ed_tupL (rf.ed rfl)) fun v H6 s6 hv => q v H6 ((s1.trans rf.s0).trans s6) hv
    · match ds, vs, hd, hR with
      | [d0, d1], [v0, v1], .cons h0 (.cons h1 .nil), hR =>
      obtain ⟨rfl, rfl⟩ := hR
      exact er_callX (ea_cons (ed_var h0) ea_nil) ⟨rfl, rfl⟩ q
end
end G


set_option Elab.async false
set_option linter.all false
set_option maxRecDepth 100000
set_option maxHeartbeats 4000000
namespace G
open PySem PySem.Spec PyProof.Rows L2
/-! ### a base that holds what stands untracked at a call -/
theorem big_base {X : Cx} {pins : List (Addr × Obj)} {σ : L2.St} {H : Hp} {s : Shared} (I : Inv X pins σ H s) :
    ∃ B : Heap, Env0 X.prog X.w X.K X.mg B X.A X.stack s H ∧ ∀ c o, s.heap.get? c = some o → H c = none → c ∉ frs X.stack → B.get? c = some o := by
  classical
  let l : List Addr := (List.range s.heap.objs.size).filter fun b => decide (¬(H b = none ∧ b ∉ frs X.stack))
  have e0 := I.env0
  have up : ∀ b o, (PySem.W.hideAll s.heap l).get? b = some o → s.heap.get? b = some o ∧ H b = none ∧ b ∉ frs X.stack := fun b o e => by
    have h1 := PySem.W.of_hideAll l e
    refine ⟨h1, ?_⟩
    by_cases hb : H b = none ∧ b ∉ frs X.stack
    · exact hb
    · have : b ∈ l := List.mem_filter.mpr ⟨List.mem_range.mpr (Heap.lt_size h1), decide_eq_true hb⟩
      rw [PySem.W.hideAll_none l this] at e
      cases e
  have down : ∀ c o, s.heap.get? c = some o → H c = none → c ∉ frs X.stack → (PySem.W.hideAll s.heap l).get? c = some o := fun c o e h1 h2 =>
    PySem.W.hideAll_get l e fun hm => by
      have := of_decide_eq_true (List.mem_filter.mp hm).2
      exact this ⟨h1, h2⟩
  have bs : ∀ b o, X.base.get? b = some o → (PySem.W.hideAll s.heap l).get? b = some o := fun b o e => by
    obtain ⟨h1, h2⟩ := e0.bs b o e
    refine down b o h1 h2 fun hm => ?_
    have := (e0.funs.mem hm).1
    rw [e] at this; cases this
  refine ⟨_, ⟨e0.frames, ⟨PySem.W.Frag.In.keeps e0.mod.kin bs, e0.mod.glob.keeps bs, ?_, e0.mod.nolimit.keeps bs⟩, fun b o e => ⟨(up b o e).1, (up b o e).2.1⟩, by rw [PySem.W.hideAll_size]; exact Nat.le_refl _, funFrames_none e0.funs fun L hL => ?_, e0.frf, e0.hok, e0.bare⟩, down⟩
  · obtain ⟨mb, h1, h2⟩ := e0.mod.blt
    exact ⟨mb, h1.keeps bs, h2⟩
  · cases q : (PySem.W.hideAll s.heap l).get? L with
    | none => rfl
    | some o => exact absurd hL (up L o q).2.2
theorem cell_nofr {X : Cx} {pins : List (Addr × Obj)} {σ : L2.St} {H : Hp} {s : Shared} (I : Inv X pins σ H s) {x : Str} {c : Addr} (hf : X.fn x = true) (hc : X.env.cells.lookup x = some c) : c ∉ frs X.stack := by
  have a1 := I.ok.cab x c hf hc
  have out : c ∉ frs X.outer := fun hm => by
    obtain ⟨_, o, ho, _⟩ := I.ok.funs.mem hm
    exact Nat.lt_irrefl _ (Nat.lt_of_lt_of_le (Heap.lt_size ho) a1)
  rcases I.ok.stk with e | ⟨e, ef⟩
  · rw [e]; exact out
  · rw [e]
    intro hm
    unfold frs at hm
    rw [List.filterMap_cons, ef] at hm
    rcases List.mem_cons.mp hm with z | z
    · obtain ⟨m, hn, _⟩ := I.loc
      obtain ⟨v, o, ho, hd⟩ := I.cell x c hc
      obtain ⟨o2, es, ep, ho2, hd2, _⟩ := hn
      rw [z, ho2] at ho
      cases ho
      rw [hd] at hd2
      cases hd2
    · exact out z
theorem bcells_of {X : Cx} {pins : List (Addr × Obj)} {σ : L2.St} {H : Hp} {s : Shared} {cl : List (Str × Addr)} {fr : List Str} {js : List Nat} {B : Heap} (I : Inv X pins σ H s) (cp : NdefX.Caps X cl fr js) (hf : ∀ y, X.fn y = true)
    (dn : ∀ c o, s.heap.get? c = some o → H c = none → c ∉ frs X.stack → B.get? c = some o) : BCells cl fr (js.map (NdefX.slotAt σ)) B := by
  have C := NdefX.cells_of I cp
  have lift : ∀ y c, cl.lookup y = some c → ∀ v, s.heap.IsCell c v → B.IsCell c v := fun y c e v ⟨o, ho, hd⟩ => ⟨o, dn c o ho (C.all y c e).1 (cell_nofr I (hf y) (cp.sub y c e)), hd⟩
  exact ⟨C.len, fun y c e => by
    obtain ⟨_, v, hv⟩ := C.all y c e
    exact ⟨v, lift y c e v hv⟩, C.inj, fun i y e => by
    obtain ⟨c, h1, h2⟩ := C.has i y e
    refine ⟨c, h1, fun v hv => ?_⟩
    obtain ⟨u, r, hu⟩ := h2 v hv
    exact ⟨u, r, lift y c h1 _ hu⟩⟩
/-! ### a function that gets a closure, called by the closure's maker -/
def tThr (mk : Addr → NdefX.NF) (js : List Nat) (sp : Addr → Addr → List (Option V) → Sp) (t : TA) : TE := fun σ H Q => t σ H fun vs H1 => ∃ f c', H1 f = some (NdefX.FnO f (mk c')) ∧ H1 (mk c').c = some (LamX.CodeO (mk c').c (mk c').qual) ∧ sp f c' (js.map (NdefX.slotAt σ)) vs H1 Q E0
section
variable {X : Cx} {mk : Addr → NdefX.NF} {cl : List (Str × Addr)} {ps fr : List Str} {js : List Nat} {j k i : Nat} {x : Str} {sp : Addr → Addr → List (Option V) → Sp} {t : TA} {e : Expr} {es : List Expr} {p pos : Pos} {fa : Addr} {fd : FuncData}
theorem pe_big (F : ∀ B f c' ws, Mod X.K X.mg B → BCells cl fr ws B → FnOk X.prog X.w X.K X.mg B CX0 k fa fd ps (sp f c' ws)) (cp : X.Ok → NdefX.Caps X cl fr js) (hf : ∀ y, X.fn y = true) (hr : Room j X.A) (hk : k ≤ j) (hm : X.mg x = some (.ref fa)) (kp : PySem.W.keepIn X.K (.ref fa) = true) (hb : Binds X.K fd ps [])
    (ha : PA X (e :: es) t) (hg : Gl X x := by rfl) (hdb : (x == ("__debug__" : Str)) = false := by decide) (he : starEach (e :: es) X.env = (false, eval e X.env) :: starEach es X.env := by rfl) (hpl : (backTo pos (starEach es X.env)).any (·.1) = false := by rfl) :
    PE X (.Call (.Name x p) (e :: es) [] pos) (tThr mk js sp t) := by
  refine ⟨fun pins s σ H Q I h => ?_⟩
  refine wpAny_Call_Name_kw (ld_glob I hg hm ?_ hdb)
  refine PySem.W.callWith_K (h₀ := X.base) I.ok.mod.kin kp (thn (ha.run pos pins s σ H _ I h) fun us s1 ⟨vs, H1, I1, r, q⟩ => ⟨I1.kIn, ?_⟩) he hpl
  obtain ⟨f, c', h1, h2, q⟩ := q
  obtain ⟨B, e0, dn⟩ := big_base I1
  have bc := bcells_of I1 (cp I1.ok) hf dn
  have FF := F B f c' _ e0.mod bc
  have hl : us.length = ps.length := by rw [← r.length]; exact FF.len _ _ _ _ q
  have b := hb s1 us I1.kIn (by rw [List.append_nil]; exact hl)
  rw [List.append_nil] at b
  show wpAny _ _ (call (.ref fa) us) _ _ _
  refine wpAny_call (codeAny_mono (FF.run X.A X.stack s1 H1 ⟨us, []⟩ us vs Q E0 (hr.mono hk) e0 b r q) fun r s' hq => ?_)
  cases r with
  | error e => exact hq.elim
  | ok fl =>
    cases fl with
    | ret u => exact I1.after hq
    | next => exact False.elim hq
    | brk => exact False.elim hq
    | cont => exact False.elim hq
/-- the closure, called through a parameter -/
def tCome (f : Addr) (F : NdefX.NF) (i : Nat) (ws : List (Option V)) (spc : List (Option V) → Sp) (t : TA) : TE := fun σ H Q => σ[i]? = some (some (.ref f)) ∧ H f = some (NdefX.FnO f F) ∧
  t σ H fun vs H1 => H1 f = some (NdefX.FnO f F) ∧ H1 F.c = some (LamX.CodeO F.c F.qual) ∧ spc ws vs H1 Q E0
theorem pe_come {f : Addr} {F : NdefX.NF} {ws : List (Option V)} {spc : List (Option V) → Sp} (Fn : NdefX.NOk X.prog X.w X.K X.mg X.base CX0 k f F ps fr spc) (bc : BCells F.cl fr ws X.base) (hr : Room j X.A) (hk : k ≤ j) (hN : X.N[i]? = some x) (hv : Vis X.env.scope x) (ha : PA X (e :: es) t)
    (hd : (x == ("__debug__" : Str)) = false := by decide) (hcd : (x == ("__classdict__" : Str)) = false := by decide)
    (he : starEach (e :: es) X.env = (false, eval e X.env) :: starEach es X.env := by rfl) (hpl : (backTo pos (starEach es X.env)).any (·.1) = false := by rfl) :
    PE X (.Call (.Name x p) (e :: es) [] pos) (tCome f F i ws spc t) := by
  refine ⟨fun pins s σ H Q I h => ?_⟩
  obtain ⟨hs, hf, ht⟩ := h
  refine wpAny_Call_Name_kw (thn ((pe_var (pos := p) hN hv hd hcd).run pins s σ H (fun v H1 => v = .ref f ∧ H1 = H) I ⟨.ref f, hs, rfl, rfl⟩) fun u s1 ⟨v, H1, I1, r1, q1⟩ => ?_)
  obtain ⟨ev, eH⟩ := q1
  subst ev
  rw [eH] at I1
  obtain rfl : u = Value.ref f := r1
  refine PySem.W.callWith_F (first := []) (NdefX.fnAt_of I1 hf) (thn (ha.run pos pins s1 σ H _ I1 ht) fun us s2 ⟨vs, H2, I2, r, h1, h2, q⟩ => ⟨NdefX.fnAt_of I2 h1, ?_⟩) he hpl
  show wpAny _ _ (call (.ref f) us) _ _ _
  refine wpAny_call (codeAny_mono (Fn.run X.A X.stack s2 H2 us vs ws Q E0 (hr.mono hk) I2.env0 h1 h2 (bc.at I2.bs) r q) fun r s' hq => ?_)
  cases r with
  | error e => exact hq.elim
  | ok fl =>
    cases fl with
    | ret u => exact I2.after hq
    | next => exact False.elim hq
    | brk => exact False.elim hq
    | cont => exact False.elim hq
end
end G

set_option Elab.async false
set_option linter.all false
set_option maxRecDepth 100000
set_option maxHeartbeats 4000000
namespace G
open PySem PySem.Spec PyProof.Rows L2
/-! ### slices that go backwards -/
section
variable {prog : Program} {w : World} {A : Around} {E : Value → Shared → Prop} {s : Shared}
theorem back_pick (items : Array Value) : ((List.range (items.size - 1)).filterMap fun (k : Nat) => items[(((items.size - 1 : Nat) : Int) + (k : Int) * (-1)).toNat]?) = (items.toList.drop 1).reverse := by
  obtain ⟨l⟩ := items
  simp only [List.size_toArray, List.getElem?_toArray]
  have key : ∀ n, n ≤ l.length - 1 → ((List.range n).filterMap fun (k : Nat) => l[(((l.length - 1 : Nat) : Int) + (k : Int) * (-1)).toNat]?) = (l.drop (l.length - n)).reverse := by
    intro n
    induction n with
    | zero => intro _; simp
    | succ n ih =>
      intro hn
      rw [List.range_succ, List.filterMap_append, ih (by omega)]
      have e : (((l.length - 1 : Nat) : Int) + (n : Int) * (-1)).toNat = l.length - (n + 1) := by omega
      have hlt : l.length - (n + 1) < l.length := by omega
      have e2 : l.drop (l.length - (n + 1)) = l[l.length - (n + 1)] :: l.drop (l.length - n) := by
        rw [List.drop_eq_getElem_cons hlt]
        congr 2
        omega
      rw [e2, List.reverse_cons]
      congr 1
      simp only [List.filterMap_cons, List.filterMap_nil, e, List.getElem?_eq_getElem hlt]
  by_cases h : 1 ≤ l.length
  · rw [key (l.length - 1) (Nat.le_refl _)]
    congr 2
    omega
  · have : l = [] := List.length_eq_zero_iff.mp (by omega)
    subst this
    rfl
theorem getItem_tuple_back {t sl : Addr} {items : Array Value} {a b : Tok} {Q : Value → Shared → Prop} (ht : IsTup s.heap t items) (hs : s.heap.IsSliceOf sl .none (.int 0 a) (.int (-1) b)) (hn : 1 ≤ items.size)
    (h : Q (.ref s.heap.objs.size) { s with heap := s.heap.push { cls := .type "tuple", data := .seq ((items.toList.drop 1).reverse).toArray } }) (hsz : items.size ≤ sizeLine) : wpAny (model prog w) A (getItem (.ref t) (.ref sl)) Q E s := by
  have hsize : sizeOk (.seq ((items.toList.drop 1).reverse).toArray) := by
    show ((items.toList.drop 1).reverse).toArray.size ≤ sizeLine
    rw [List.size_toArray, List.length_reverse, List.length_drop, Array.length_toList]
    omega
  obtain ⟨os, hos, hcs, hds⟩ := id hs
  have hTs : s.TypeIs (.ref sl) "slice" := ⟨os, hos, hcs⟩
  unfold getItem
  try with_reducible refine wpAny_holding ?_
  first | refine wpAny_bind (wpAny_pure ?_) | skip
  refine wpAny_bind (wpAny_sequenceKey ht.typeIs (by decide) ?_)
  refine wpAny_bind (wpAny_callSpecial?_slot (name := Str.ofString "__getitem__") ht.typeIs PyProof.Rows.slot_tuple_getitem
    (wpAny_call_entry PyProof.Rows.slot_tuple_getitem ht.typeIs entry_tuple_getitem ?_ (args_tuple_getitem _ _)))
  show wpAny _ _ (Builtin.Tuple.tupleItemsOf (.ref t) >>= _) _ _ s
  refine wpAny_bind (tupleItemsOf_ ht ?_)
  refine wpAny_bind (wpAny_typeOf hTs ?_)
  rw [if_pos (by decide)]
  refine wpAny_bind ?_
  unfold Builtin.Slice.sliceApplied Builtin.Slice.sliceFields
  refine wpAny_bind (wpAny_bind (wpAny_field hos hds (x := .none) rfl (wpAny_bind (wpAny_field hos hds (x := .int 0 a) rfl (wpAny_bind (wpAny_field hos hds (x := .int (-1) b) rfl (wpAny_pure ?_)))))))
  refine wpAny_bind (HT.slicePart_ (.int (-1) b) ?_)
  show wpAny _ _ (if ((-1 : Int) == 0) = true then _ else _) _ _ s
  rw [if_neg (by decide)]
  refine wpAny_bind (HT.slicePart_ .none (wpAny_bind (HT.slicePart_ (.int 0 a) (wpAny_bind (wpAny_pure ?_)))))
  have e1 : Builtin.Slice.sliceAdjust none (some 0) (-1) (items.size : Int) = (((items.size - 1 : Nat) : Int), 0) := by
    unfold Builtin.Slice.sliceAdjust
    simp only [show ((-1 : Int) < 0) = True by simp, if_true, show ((0 : Int) < 0) = False by simp, if_false]
    refine Prod.ext ?_ ?_
    · show (items.size : Int) - 1 = _
      omega
    · show min (0 : Int) ((items.size : Int) - 1) = 0
      omega
  have e2 : Builtin.Slice.slicePlaces ((items.size - 1 : Nat) : Int) 0 (-1) = items.size - 1 := by
    unfold Builtin.Slice.slicePlaces
    rw [if_neg (by decide)]
    have e3 : (-(-1 : Int)) = 1 := by decide
    rw [e3, Int.ediv_one]
    split <;> omega
  show wpAny _ _ (match Builtin.Slice.sliceAdjust none (some 0) (-1) (items.size : Int) with | (lo, hi) => pure (lo, (-1 : Int), Builtin.Slice.slicePlaces lo hi (-1))) _ _ s
  rw [e1]
  show wpAny _ _ (pure (((items.size - 1 : Nat) : Int), (-1 : Int), Builtin.Slice.slicePlaces ((items.size - 1 : Nat) : Int) 0 (-1))) _ _ s
  rw [e2]
  refine wpAny_pure ?_
  show wpAny _ _ (if ((((items.size - 1 : Nat) : Int) == 0 && (-1 : Int) == 1 && (items.size - 1) == items.size) = true) then _ else _) _ _ s
  rw [if_neg (by simp), back_pick]
  first
    | exact wpAny_bind (m := Builtin.Tuple.tupleExact _) (wpAny_newObj_type (wpAny_pure ⟨_, rfl, wpAny_pure h⟩) hsize)
    | exact wpAny_bind (m := Builtin.Tuple.tupleExact _) (wpAny_newObj_type (wpAny_bind (wpAny_pure (wpAny_pure ⟨_, rfl, wpAny_pure h⟩))) hsize)
    | exact wpAny_bind (wpAny_bind (m := Builtin.Tuple.tupleExact _) (wpAny_newObj_type (wpAny_pure (wpAny_pure ⟨_, rfl, wpAny_pure h⟩)) hsize))
    | exact wpAny_bind (wpAny_bind (m := Builtin.Tuple.tupleExact _) (wpAny_newObj_type (wpAny_pure ⟨_, rfl, wpAny_pure h⟩) hsize))
theorem pick_rev (l : List Value) : slicePick l.toArray none none (some (-1)) = l.reverse.toArray := by
  unfold slicePick
  congr 1
  have e1 : (sliceBounds none none (some (-1)) l.toArray.size).1 = ((l.length : Int) - 1) := by simp [sliceBounds]
  have e2 : (sliceBounds none none (some (-1)) l.toArray.size).2.1 = -1 := by simp [sliceBounds]
  have e3 : (sliceBounds none none (some (-1)) l.toArray.size).2.2 = -1 := rfl
  rw [e1, e2, e3]
  have e4 : sliceRange ((l.length : Int) - 1) (-1) (-1) = (List.range l.length).map fun k => l.length - 1 - k := by
    unfold sliceRange
    have e5 : (((l.length : Int) - 1) - (-1) - (-1) - 1) / (-(-1 : Int)) = (l.length : Int) := by
      rw [show (-(-1 : Int)) = 1 by decide, Int.ediv_one]; omega
    have e6 : (if (-1 : Int) > 0 then (if ((l.length : Int) - 1) < -1 then ((-1) - ((l.length : Int) - 1) + (-1) - 1) / (-1) else 0) else (if ((l.length : Int) - 1) > -1 then (((l.length : Int) - 1) - (-1) - (-1) - 1) / (-(-1 : Int)) else 0)) = (l.length : Int) := by
      rw [if_neg (by decide), e5]
      split
      · rfl
      · omega
    simp only [e6, Int.toNat_natCast]
    refine List.map_congr_left fun k hk => ?_
    have := List.mem_range.mp hk
    omega
  rw [e4, List.filterMap_map]
  have key : ∀ n, n ≤ l.length → ((List.range n).filterMap ((fun x => l.toArray[x]?) ∘ fun k => l.length - 1 - k)) = (l.drop (l.length - n)).reverse := by
    intro n
    induction n with
    | zero => intro _; simp
    | succ n ih =>
      intro hn
      rw [List.range_succ, List.filterMap_append, ih (by omega)]
      have hlt : l.length - (n + 1) < l.length := by omega
      have e2 : l.drop (l.length - (n + 1)) = l[l.length - (n + 1)] :: l.drop (l.length - n) := by
        rw [List.drop_eq_getElem_cons hlt]
        congr 2
        omega
      rw [e2, List.reverse_cons]
      congr 1
      simp only [List.filterMap_cons, List.filterMap_nil, Function.comp, List.getElem?_toArray]
      rw [show l.length - 1 - n = l.length - (n + 1) by omega, List.getElem?_eq_getElem hlt]
  rw [key l.length (Nat.le_refl _)]
  simp
end
def SlR3 (X : Cx) (r : V → Option Int → Option Int → Option Int → Hp → VK → Prop) : Prop :=
  ∀ (pins : List (Addr × Obj)) (s : Shared) (σ : L2.St) (H : Hp) (x : V) (v vl vu vs : Value) (lo hi st : Option Int) (sl : Addr) (Q : VK), Inv X pins σ H s → RelV x v → s.heap.IsSliceOf sl vl vu vs → IsPart vl lo → IsPart vu hi → IsPart vs st → r x lo hi st H Q →
    ∃ T id, typeLookup (.type T) "__getitem__" = pure (some (.builtin id)) ∧ s.TypeIs v T ∧ wpAny (model X.prog X.w) X.A (getItem v (.ref sl)) (EP X pins σ Q) X.xe s
def tSl3 (r : V → Option Int → Option Int → Option Int → Hp → VK → Prop) (te : TE) (tl th ts : TO) : TE := fun σ H Q => te σ H fun x H1 => tl σ H1 fun l H2 => th σ H2 fun u H3 => ts σ H3 fun c H4 => r x l u c H4 Q
section
variable {X : Cx} {e es : Expr} {te : TE} {lo hi : Option Expr} {tl th ts : TO} {pos p2 : Pos}
theorem pe_slice3 {r : V → Option Int → Option Int → Option Int → Hp → VK → Prop} (hr : SlR3 X r) (he : PE X e te) (hl : PO X lo tl) (hu : PO X hi th) (hs : PO X (some es) ts) : PE X (.Subscript e (.Slice lo hi (some es) p2) pos) (tSl3 r te tl th ts) := by
  refine ⟨fun pins s σ H Q I h => ?_⟩
  refine Subscript_ (thn (he.run pins s σ H _ I h) fun v s1 ⟨x, H1, I1, r1, q1⟩ => ?_)
  refine wpAny_Slice (thn (hl.run pins s1 σ H1 _ I1 q1) fun vl s2 ⟨l, H2, I2, pl, q2⟩ => thn (hu.run pins s2 σ H2 _ I2 q2) fun vu s3 ⟨u, H3, I3, pu, q3⟩ => thn (hs.run pins s3 σ H3 _ I3 q3) fun vc s4 ⟨c, H4, I4, pc, q4⟩ => ?_)
  have I5 : Inv X pins σ H4 { s4 with heap := s4.heap.push { cls := .type "slice", data := .fields #[vl, vu, vc] } } := I4.kept (t' := s4.toks) fun b ob q => Heap.get?_push_of_some _ q
  obtain ⟨T, id, hT, ht, hg⟩ := hr pins { s4 with heap := s4.heap.push { cls := .type "slice", data := .fields #[vl, vu, vc] } } σ H4 x v vl vu vc l u c s4.heap.objs.size Q I5 r1 (Heap.IsSliceOf.new ..) pl pu pc q4
  show wpAny (model X.prog X.w) X.A (subscriptTail e (.Slice lo hi (some es) p2) v (.ref s4.heap.objs.size)) (EP X pins σ Q) X.xe { s4 with heap := s4.heap.push { cls := .type "slice", data := .fields #[vl, vu, vc] } }
  exact tail_any (ops := [v, .ref s4.heap.objs.size]) ht hT hg (by with_unfolding_all rfl)
/-- xs[::-1] of a list -/
def rRevL (K : PySem.W.Frag) : V → Option Int → Option Int → Option Int → Hp → VK → Prop := fun x lo hi st H Q => lo = none ∧ hi = none ∧ st = some (-1) ∧ ∃ a xs, x = .ref a ∧ SqL K H a xs ∧ ∀ p, H p = none → Q (.ref p) (upd H p (.lst xs.reverse))
theorem sl3_rev : SlR3 X (rRevL X.K) := by
  intro pins s σ H x v vl vu vs lo hi st sl Q I rx hs pl pu pc h
  obtain ⟨rfl, rfl, rfl, a, xs, rfl, hx, q⟩ := h
  cases rx
  obtain ⟨its, r, ht, hz⟩ := I.list hx
  have hlen := r.length
  refine ⟨"list", _, slot_list_getitem.lookup, ht.isList.typeIs, ?_⟩
  refine wpAny_getItem_list_slice ht.isList hs pl pu pc (by decide) ?_ (by rw [List.size_toArray] <;> omega)
  rw [pick_rev]
  refine ⟨.ref s.heap.objs.size, _, I.laid (t' := s.toks) (o := .lst xs.reverse) (fun b ob q => Heap.get?_push_of_some _ q) (Nat.le_refl _) ?_, rfl, q _ (I.hok.fresh (Nat.le_refl _))⟩
  exact ⟨by rw [List.length_reverse]; exact hz, _, 0, r.reverse, Heap.get?_push_size _ rfl⟩
/-- t[:0:-1] of a tuple that is not empty -/
def rBackT (K : PySem.W.Frag) : V → Option Int → Option Int → Option Int → Hp → VK → Prop := fun x lo hi st H Q => lo = none ∧ hi = some 0 ∧ st = some (-1) ∧ ∃ a xs, x = .ref a ∧ SqT K H a xs ∧ 1 ≤ xs.length ∧ ∀ p, H p = none → Q (.ref p) (upd H p (.tup (xs.drop 1).reverse))
theorem sl3_back : SlR3 X (rBackT X.K) := by
  intro pins s σ H x v vl vu vs lo hi st sl Q I rx hs pl pu pc h
  obtain ⟨rfl, rfl, rfl, a, xs, rfl, hx, hne, q⟩ := h
  cases rx
  cases pl
  cases pu
  cases pc
  obtain ⟨its, r, ht, hz⟩ := I.tuple hx
  have hlen : its.toArray.size = xs.length := by rw [List.size_toArray]; exact r.length.symm
  refine ⟨"tuple", _, PyProof.Rows.slot_tuple_getitem.lookup, ht.typeIs, ?_⟩
  refine getItem_tuple_back ht hs (by rw [hlen]; exact hne) ?_ (by rw [hlen]; exact hz)
  refine ⟨.ref s.heap.objs.size, _, I.laid (t' := s.toks) (o := .tup (xs.drop 1).reverse) (fun b ob q => Heap.get?_push_of_some _ q) (Nat.le_refl _) ?_, rfl, q _ (I.hok.fresh (Nat.le_refl _))⟩
  exact ⟨by rw [List.length_reverse, List.length_drop]; omega, _, (r.drop 1).reverse, IsTup.new _ _⟩
end
end G

set_option Elab.async false
set_option linter.all false
set_option maxRecDepth 100000
set_option maxHeartbeats 4000000
namespace G
open PySem PySem.Spec PyProof.Rows L2
/-! ### the closure in written_tree -/
def s_come : Stmt := (defBody s_written_tree).getD 0 (.Pass ⟨0, 0, 0, 0⟩)
def comeF (q : Str) (cl : List (Str × Addr)) (c : Addr) : NdefX.NF := NdefX.NF.of s_come "come" q cl c
def comeT (n : List Nat) (ys : List (List Nat)) : List Nat := match ys with
  | [] => n
  | y :: r => n ++ [40] ++ TL.joinL [44, 32] (y :: r) ++ [41]
theorem comeT_tr (sg : Sg) (t : Tr) : comeT (nameOf sg t.hd) (t.kids.map (trT sg)) = trT sg t := by
  cases t <;> simp [comeT, Tr.kids, trT, Tr.hd, TL.joinL]
def small (l : List Nat) : Prop := ∀ c ∈ l, c < 128
theorem small_strOk {l : List Nat} (h : small l) : PyData.strOk (S l) = true := by
  unfold PyData.strOk
  rw [← Array.all_toList, List.all_eq_true]
  intro c hc
  have := h c hc
  exact decide_eq_true (by omega)
theorem smalls_sh {ys : List (List Nat)} (h : ∀ y ∈ ys, small y) : SeqAt.shaped (.list (ys.map fun y => .str (S y))) = true := shaped_list (n := 1) (fun d hd => by
  obtain ⟨y, hy, rfl⟩ := List.mem_map.mp hd
  exact ⟨by simp [PyData.canLay0, small_strOk (h y hy)], by simp [PyData.depth]⟩) (by decide)
def spCome (K : PySem.W.Frag) (ws : List (Option V)) : Sp := fun vs H Q _ => ∃ (sg : Sg) (vsg : V) (f : Nat) (e : Str × Nat) (p : Addr) (ys : List (List Nat)), ws = [some vsg] ∧ vs = [.int (f : Int), .ref p] ∧ Dp K H vsg (sigD sg) ∧ sg[f]? = some e ∧ e.1.length ≤ 10 ∧ H p = some (.lst (ys.map fun y => V.str (S y))) ∧
  (∀ y ∈ ys, small y ∧ y.length ≤ 10000) ∧ ys.length ≤ 2 ∧ ∀ H', Same H H' → Q (.str (S (comeT (nameOf sg f) ys))) H'
theorem ed_joinD {K : PySem.W.Frag} {σ : L2.St} {H : Hp} {to te : TE} {a : List Nat} {ys : List (List Nat)} (ho : EvD K to σ H (.str (S a))) (he : EvD K te σ H (.list (ys.map fun y => .str (S y)))) (hb : ∀ y ∈ ys, y.length ≤ 10000) (hn : ys.length ≤ 2) (ha : a.length ≤ 10) :
    EvD K (tM1 (fun x xs H Q => ∃ a p, ∃ ys : List Str, x = .str a ∧ xs = [.ref p] ∧ (SqL K H p (ys.map V.str) ∨ SqT K H p (ys.map V.str)) ∧ (ys.map (·.length)).sum + ys.length * a.length ≤ 16777216 ∧ Q (.str (Txt.join a ys)) H) to te) σ H (.str (S (TL.joinL a ys))) := fun H1 s Q q => by
  refine ho H1 s _ fun x H2 s2 hx => ⟨⟨_, dpS hx⟩, he H2 (s.trans s2) _ fun v H3 s3 hv => ?_⟩
  cases hv with
  | lst hp hv =>
    rename_i pa pvs
    refine ⟨S a, _, ys.map S, dpS hx, rfl, .inl ?_, ?_, ?_⟩
    · have hv : DpAll K H3 pvs ((ys.map S).map .str) := by rw [List.map_map]; exact hv
      rw [← dps_strs hv]
      exact hp
    · rw [List.map_map, List.length_map, S_len]
      have : (ys.map ((·.length) ∘ S)) = ys.map List.length := List.map_congr_left fun y _ => S_len y
      rw [this]
      match ys, hn, hb with
      | [], _, _ => simp
      | [y], _, hb => have := hb y (by simp); simp; omega
      | [y, z], _, hb => have := hb y (by simp); have := hb z (by simp); simp; omega
      | _ :: _ :: _ :: _, hn, _ => simp at hn
    · rw [SX.join_S]
      exact q _ H3 (s2.trans s3) (.str _)
section
variable {P : Program} {w : World} {K : PySem.W.Frag} {mg : Str → Option Value} {base : Heap}
theorem sc_come : NdefX.NScope ["symbol", "parts", "signature", "name"] ["symbol", "parts"] ["signature"] (C8.fnScope s_come) := NdefX.nscope_by (by decide +kernel)
theorem ok_come (T : Tx K mg) {f : Addr} {q : Str} {cl : List (Str × Addr)} {c : Addr} : NdefX.NOk P w K mg base CX0 1 f (comeF q cl c) ["symbol", "parts"] ["signature"] (spCome K) := by
  refine NdefX.nok_of sc_come (fun doc pm ctv us hl => match us, hl with | [_, _], _ => rfl) (fun ws vs H Q E h => ?_) (fun A outer s H vs ws Q E hr hf hc hl h => ?_)
  · obtain ⟨sg, vsg, f, e, p, ys, _, rfl, _⟩ := h
    rfl
  refine ⟨_, (pss_cons (ps_set (i := 3) sc_come.nd rfl (by first | exact Or.inl rfl | exact Or.inr rfl) (pe_ix ix_tup (pe_ix ix_tup (pv 2) (pv 0) (fun _ _ => rfl)) pe_int (fun _ _ => rfl)))
  (pss_one (ps_ret (pe_ifExp (pt_cmpR (op_neD hr.units) (pv 1) (pe_lst pa_nil) (nomark _)) (pe_op op_add_str (pe_op op_add_str (pe_op op_add_str (pv 3) pe_str) (pe_join pe_str (pv 1))) pe_str) (pv 3))))), ?_⟩
  obtain ⟨sg, vsg, f, e, p, ys, rfl, rfl, hsg, he, hle, hp, hys, hyl, q⟩ := h
  have hn : nameOf sg f = e.1.cps.toList := nameOf_eq he
  have hnl : e.1.cps.toList.length ≤ 10 := by
    have : e.1.length = e.1.cps.toList.length := by simp [Str.length]
    omega
  refine s_set (K := K) (ed_ixT (ed_ixT (ed_var (i := 2) hsg) (ed_vi (i := 0) rfl) (sig_at (x := e.1) (n := e.2) he)) ed_i at0) fun v H1 s1 hv => ?_
  have hv : Dp K H1 v (.str (S (nameOf sg f))) := by rw [hn]; exact hv
  have hpl : Dp K H1 (.ref p) (.list (ys.map fun y => .str (S y))) := by
    refine .lst (sq_of (s1 _ _ hp)) ?_
    have := strs_dps (K := K) (H := H1) (ys.map S)
    rw [List.map_map, List.map_map] at this
    exact this
  have hne : EvT _ _ H1 _ := et_test (ed_neD (K := K) (σ := [some (.int (f : Int)), some (.ref p), some vsg, some v]) (ed_var (i := 1) hpl) (ed_ofN (en_lst ea_nil (by decide))) (smalls_sh fun y hy => (hys y hy).1) shaped_nilL)
  dsimp only
  refine s_ret (K := K) (D := { nx := fun _ H' => Q .non H', rt := Q }) (d := .str (S (comeT (nameOf sg f) ys))) ?_ fun w H2 s2 hw => by rw [dpS hw]; exact q H2 (s1.trans s2)
  cases ys with
  | nil => exact ed_ifF hne (by rw [eqv_nilL]; rfl) (ed_var hv)
  | cons y r =>
    have hj : (TL.joinL [44, 32] (y :: r)).length ≤ 30000 := by
      have := joinL_len [44, 32] 10000 (y :: r) fun z hz => (hys z hz).2
      have h2 : (y :: r).length * (10000 + 2) ≤ 2 * (10000 + 2) := Nat.mul_le_mul_right _ hyl
      simp at this h2 ⊢; omega
    refine ed_ifT hne (by rw [eqv_nilL]; rfl) (ed_catS (ed_catS (ed_catS (b := [40]) (ed_var hv) ((ed_s (n := "(")).to (congrArg _ strQ)) (by rw [hn]; simp at hnl ⊢; omega)) (ed_joinD (ys := y :: r) ((ed_s (n := ", ")).to (congrArg _ strComma2)) (ed_var hpl) (fun z hz => (hys z hz).2) hyl (by decide)) (by rw [hn]; simp at hnl ⊢; omega)) ((ed_s (n := ")")).to (congrArg _ strP)) (by rw [hn]; simp at hnl ⊢; omega))
end
/-! ### through -/
theorem nameOf_small {sg : Sg} (hs : SgLike sg) (f : Nat) : small (nameOf sg f) ∧ (nameOf sg f).length ≤ 10 := by
  unfold nameOf
  cases h : sg[f]? with
  | none => exact ⟨fun c hc => (by cases hc), by simp⟩
  | some e =>
    have hl := hs.low e (List.mem_of_getElem? h)
    obtain ⟨_, h2, h3⟩ := low_run hl
    refine ⟨fun c hc => ?_, h3⟩
    have h3 := List.all_eq_true.mp h2 c hc
    have h4 : c ∈ smallL ++ digL := by
      unfold isRun isSm isDg at h3
      rw [Bool.or_eq_true, decide_eq_true_eq, decide_eq_true_eq] at h3
      exact List.mem_append.mpr h3
    exact run_small c h4
theorem trT_small {sg : Sg} (hs : SgLike sg) : ∀ t : Tr, small (trT sg t) ∧ (trT sg t).length ≤ 14 * t.size
  | .n0 f => by
    obtain ⟨h1, h2⟩ := nameOf_small hs f
    exact ⟨h1, by simp [trT, Tr.size]; omega⟩
  | .n1 f a => by
    obtain ⟨h1, h2⟩ := nameOf_small hs f
    obtain ⟨a1, a2⟩ := trT_small hs a
    refine ⟨fun c hc => ?_, by simp [trT, Tr.size]; omega⟩
    simp [trT] at hc
    rcases hc with hc | rfl | hc | rfl
    · exact h1 c hc
    · decide
    · exact a1 c hc
    · decide
  | .n2 f a b => by
    obtain ⟨h1, h2⟩ := nameOf_small hs f
    obtain ⟨a1, a2⟩ := trT_small hs a
    obtain ⟨b1, b2⟩ := trT_small hs b
    refine ⟨fun c hc => ?_, by simp [trT, Tr.size]; omega⟩
    simp [trT] at hc
    rcases hc with hc | rfl | hc | rfl | rfl | hc | rfl
    · exact h1 c hc
    · decide
    · exact a1 c hc
    · decide
    · decide
    · exact b1 c hc
    · decide
/-- what the waiting list comes to -/
def Fin_ (sg : Sg) : List (Tr × Bool) → List (List Nat) → List (List Nat) → Prop
  | [], d, o => d = o
  | (t, false) :: r, d, o => Fin_ sg r (d ++ [trT sg t]) o
  | (t, true) :: r, d, o => ∃ d', d = d' ++ t.kids.map (trT sg) ∧ Fin_ sg r (d' ++ [trT sg t]) o
theorem fin_kids (sg : Sg) (st : List (Tr × Bool)) (o : List (List Nat)) : ∀ (ks : List Tr) (d : List (List Nat)), Fin_ sg st (d ++ ks.map (trT sg)) o → Fin_ sg (ks.map (fun c => (c, false)) ++ st) d o
  | [], d, h => by simpa using h
  | c :: ks, d, h => by
    show Fin_ sg (ks.map (fun c => (c, false)) ++ st) (d ++ [trT sg c]) o
    exact fin_kids sg st o ks _ (by simpa using h)
theorem fin_open (sg : Sg) {t : Tr} {r : List (Tr × Bool)} {d o : List (List Nat)} (h : Fin_ sg ((t, false) :: r) d o) : Fin_ sg (t.kids.map (fun c => (c, false)) ++ (t, true) :: r) d o :=
  fin_kids sg _ o _ d ⟨d, rfl, h⟩
def wOf : List (Tr × Bool) → Nat
  | [] => 0
  | (t, false) :: r => 2 * t.size + wOf r
  | (_, true) :: r => 1 + wOf r
theorem wOf_kids (ks : List Tr) (r : List (Tr × Bool)) : wOf (ks.map (fun c => (c, false)) ++ r) = 2 * (ks.map Tr.size).sum + wOf r := by
  induction ks with
  | nil => simp
  | cons c ks ih => simp [wOf, ih]; omega
def stkD (p : Tr × Bool) : PyData := .tuple [p.1.toD, .bool p.2]
theorem stkD_tt (l : List (Tr × Bool)) : tts (l.map stkD) = true := tts_of fun d hd => by
  obtain ⟨p, _, rfl⟩ := List.mem_map.mp hd
  simp [stkD, tt, tts, Tr.toD_tt]
theorem stkD_sh {l : List (Tr × Bool)} (h : ∀ p ∈ l, p.1.dep ≤ 40) : SeqAt.shaped (.list (l.map stkD)) = true := shaped_list (n := 50) (fun d hd => by
  obtain ⟨p, hp, rfl⟩ := List.mem_map.mp hd
  have := Tr.toD_depth p.1
  have := h p hp
  refine ⟨by simp [stkD, PyData.canLay0, PyData.canLayAll0, Tr.toD_lay], ?_⟩
  simp [stkD, PyData.depth, PyData.depthAll]; omega) (by decide)
theorem ed_back {K : PySem.W.Frag} {σ : L2.St} {H : Hp} {ta : TE} {x : PyData} {ds : List PyData} (h : EvD K ta σ H (.tuple (x :: ds))) : EvD K (tSl3 (rBackT K) ta tNoPart (tPart (tC (.int 0))) (tPart (tUn (rU fun i => .int (-i)) (tC (.int 1))))) σ H (.tuple ds.reverse) := fun H1 s Q q =>
  h H1 s _ fun v H2 s2 hv => by
    obtain ⟨a, xs, rfl, hs, hvs⟩ := dp_tup hv
    cases hvs with
    | cons h1 h2 =>
      rename_i w ws
      refine ⟨0, rfl, 1, rfl, -1, rfl, rfl, rfl, rfl, a, w :: ws, rfl, hs, by simp, fun p hp => ?_⟩
      exact q _ _ (s2.new hp) (.tup (st_of upd_same) (dps_same ((Same.refl H2).new hp) _ _ (dps_rev h2)))
theorem s_seqNN {K : PySem.W.Frag} {σ : L2.St} {H : Hp} {D : Ends} {i j : Nat} {t1 t2 : TE} {ds es : List PyData} (h1 : EvN K t1 σ H ds) (h2 : EvN K t2 σ H es) (q : ∀ p vs r ws H', Same H H' → H p = none → H' p = some (.lst vs) → DpAll K H' vs ds → H r = none → r ≠ p → H' r = some (.lst ws) → DpAll K H' ws es → D.nx ((σ.set i (some (.ref p))).set j (some (.ref r))) H') :
    tAsg (tTup (tCons t1 (tCons t2 tNil))) (gTup K 2 (gCons (gName i) (gCons (gName j) gNil))) D σ H :=
  h1 H (Same.refl H) _ fun p vs H1 s1 hn hp hv => h2 H1 s1 _ fun r ws H2 s2 hr hp2 hw => ⟨by show 2 ≤ sizeLine; rw [sizeLine_eq]; omega, fun l hl => ⟨l, _, rfl, st_of upd_same, rfl, _, _, rfl, _, _, rfl, rfl, by
    have sl : Same H2 (upd H2 l (.tup [.ref p, .ref r])) := (Same.refl H2).new hl
    exact q p vs r ws _ ((s1.trans s2).trans sl) hn (sl _ _ (s2 _ _ hp)) (dps_same (s2.trans sl) _ _ hv) (back s1 hr) (fun z => by rw [z, hp] at hr; cases hr) (sl _ _ hp2) (dps_same sl _ _ hw)⟩⟩
/-- [d.pop() for x in t[1:]] -/
theorem x_pops {K : PySem.W.Frag} {σ : L2.St} {H : Hp} {tl : TE} {ks : List PyData} {i j : Nat} {Dn : Addr} {pre ys : List V} {Q : VK} (ht : EvD K tl σ H (.tuple ks)) (hk : ks.length ≤ 1000) (hy : ys.length = ks.length) (hσ : ∀ v, ((wipe σ [j]).set j (some v))[i]? = some (some (.ref Dn))) (hD : H Dn = some (.lst (pre ++ ys)))
    (q : ∀ p H', (∀ b o, b ≠ Dn → H b = some o → H' b = some o) → H p = none → p ≠ Dn → H' p = some (.lst ys.reverse) → H' Dn = some (.lst pre) → Q (.ref p) H') : tLc (iTup K tl) (gName j) tYes (tBM0 K "list" rPop (tVar i)) [j] σ H Q := by
  refine ht H (Same.refl H) _ fun v H1 s1 hv => ?_
  obtain ⟨a, vs, rfl, hs, hvs⟩ := dp_tup hv
  have hvl : vs.length = ks.length := hvs.len
  refine ⟨a, rfl, ⟨vs, hs⟩, fun p hp => ?_⟩
  have hD1 := s1 _ _ hD
  have hpD : p ≠ Dn := fun z => by rw [z, hD1] at hp; cases hp
  refine ⟨fun n m H' => m = ks.length - n ∧ n ≤ ks.length ∧ (∀ b o, b ≠ Dn → H1 b = some o → H' b = some o) ∧ H' p = some (.lst (ys.drop (ys.length - n)).reverse) ∧ H' Dn = some (.lst (pre ++ ys.take (ys.length - n))),
    ⟨ks.length, rfl, Nat.zero_le _, fun b o hb e => by rw [upd_ne (ne_of_none e hp)]; exact e, by simp [upd_same], by rw [upd_ne hpD.symm]; simpa using hD1⟩, ?_⟩
  rintro n m H2 ⟨rfl, hn, hf, hpl, hDl⟩
  have hs2 : SqT K H2 a vs := kt_sqt (fun b o t e => hf b o (fun z => by rw [z, hD1] at e; cases e; exact t) e) hs
  by_cases hlt : n < ks.length
  · refine .inr ⟨⟨vs, vs[n], hs2, by simp [hvl, hlt]⟩, fun H' => n + 1 ≤ ks.length ∧ (∀ b o, b ≠ Dn → H1 b = some o → H' b = some o) ∧ H' p = some (.lst (ys.drop (ys.length - (n + 1))).reverse) ∧ H' Dn = some (.lst (pre ++ ys.take (ys.length - (n + 1)))),
      fun H' ⟨a, b⟩ => ⟨ks.length - (n + 1), by omega, rfl, a, b⟩, fun x H3 y => ?_⟩
    obtain ⟨rfl, _⟩ := y
    have hlt2 : ys.length - (n + 1) < ys.length := by omega
    have e1 : ys.take (ys.length - n) = ys.take (ys.length - (n + 1)) ++ [ys[ys.length - (n + 1)]] := by
      rw [show ys.length - n = ys.length - (n + 1) + 1 by omega, List.take_succ, List.getElem?_eq_getElem hlt2]
      rfl
    have e2 : ys.drop (ys.length - (n + 1)) = ys[ys.length - (n + 1)] :: ys.drop (ys.length - n) := by
      rw [List.drop_eq_getElem_cons hlt2]
      congr 2
      omega
    rw [e1, ← List.append_assoc] at hDl
    refine ⟨wipe_set1, ?_⟩
    unfold tYes
    dsimp only
    simp only [if_true]
    refine x_pop (hσ x) hDl ?_
    have hl : (ys.drop (ys.length - n)).reverse.length = n := by simp; omega
    refine ⟨(ys.drop (ys.length - n)).reverse, by rw [upd_ne hpD]; exact hpl, sz_lt (by rw [hl]; omega), hlt, fun b o hb e => ?_, ?_, ?_⟩
    · by_cases hbp : b = p
      · rw [hbp, hp] at e; cases e
      · rw [upd_ne hbp, upd_ne hb]
        exact hf b o hb e
    · rw [e2, List.reverse_cons]
      exact upd_same
    · rw [upd_ne hpD.symm]
      exact upd_same
  · have e : n = ks.length := by omega
    subst e
    refine .inl ⟨⟨vs, hs2, by rw [hvl]; exact Nat.le_refl _⟩, ?_⟩
    rw [← hy, Nat.sub_self] at hpl hDl
    exact q p H2 (fun b o hb e => hf b o hb (s1 _ _ e)) (back s1 hp) hpD (by simpa using hpl) (by simpa using hDl)
theorem s_popsRev {K : PySem.W.Frag} {σ : L2.St} {H : Hp} {D : Ends} {tl : TE} {ks : List PyData} {i j l : Nat} {Dn : Addr} {pre ys : List V} (ht : EvD K tl σ H (.tuple ks)) (hσ : ∀ v, ((wipe σ [j]).set j (some v))[i]? = some (some (.ref Dn)) := by intro _; rfl) (hk : ks.length ≤ 1000) (hy : ys.length = ks.length) (hD : H Dn = some (.lst (pre ++ ys)))
    (q : ∀ p H', (∀ b o, b ≠ Dn → H b = some o → H' b = some o) → p ≠ Dn → H' p = some (.lst ys) → H' Dn = some (.lst pre) → D.nx (σ.set l (some (.ref p))) H') :
    tAsg (tSl3 (rRevL K) (tLc (iTup K tl) (gName j) tYes (tBM0 K "list" rPop (tVar i)) [j]) tNoPart tNoPart (tPart (tUn (rU fun i => .int (-i)) (tC (.int 1))))) (gName l) D σ H := by
  unfold tAsg tSl3
  refine x_pops ht hk hy hσ hD fun p H' f hp hpD hpl hDl => ?_
  refine ⟨1, rfl, -1, rfl, rfl, rfl, rfl, p, ys.reverse, rfl, sq_of hpl, fun r hr => ?_⟩
  rw [List.reverse_reverse]
  have hrD : r ≠ Dn := fun z => by rw [z, hDl] at hr; cases hr
  refine q r _ (fun b o hb e => ?_) hrD upd_same (by rw [upd_ne hrD.symm]; exact hDl)
  rw [upd_ne (ne_of_none (f b o hb e) hr)]
  exact f b o hb e
theorem wOf_len : ∀ l : List (Tr × Bool), l.length ≤ wOf l
  | [] => Nat.le_refl _
  | (t, false) :: r => by have := t.size_pos; have := wOf_len r; simp [wOf]; omega
  | (t, true) :: r => by have := wOf_len r; simp [wOf]; omega
def spThrough (K : PySem.W.Frag) (q : Str) (cl : List (Str × Addr)) (f c' : Addr) (ws : List (Option V)) : Sp := fun vs H Q _ => ∃ (sg : Sg) (t : Tr) (vt vsg : V), vs = [vt, .ref f] ∧ ws = [some vsg] ∧ Dp K H vt t.toD ∧ Dp K H vsg (sigD sg) ∧ SgLike sg ∧ t.ok sg ∧ t.size ≤ 40 ∧
  H f = some (NdefX.FnO f (comeF q cl c')) ∧ H c' = some (LamX.CodeO c' q) ∧ ∀ H', Same H H' → Q (.str (S (trT sg t))) H'
section
variable {P : Program} {w : World} {K : PySem.W.Frag} {mg : Str → Option Value} {base : Heap}
theorem sc_through : FnScope ["tree", "come", "waiting", "done", "part", "is_open", "children", "child"] ["tree", "come"] (defScope s_through) := ⟨rfl, rfl, rfl, by decide +kernel, rfl, by decide +kernel, by decide +kernel⟩
theorem ok_through (T : Tx K mg) {B : Heap} {q_ : Str} {cl : List (Str × Addr)} {f c' : Addr} {ws : List (Option V)} (bc : BCells cl ["signature"] ws B) {fd : FuncData} (F : FunD K "through" "through" (defArgs s_through) (defBody s_through) (defScope s_through) [] [] (He.fAd K ("through", none)) fd) :
    FnOk P w K mg B CX0 3 (He.fAd K ("through", none)) fd ["tree", "come"] (spThrough K q_ cl f c' ws) := by
  refine F.ok sc_through (fun vs H Q E h => ?_) (fun cdv A outer s H vs Q E hr h => ?_)
  · obtain ⟨sg, t, vt, vsg, rfl, _⟩ := h
    rfl
  refine ⟨_, PSs.nox (pss_cons (ps_asg (pe_tup (pa_cons (pe_lst (pa_cons (pe_tup (pa_cons (pv 0) (pa_cons pe_bl pa_nil))) pa_nil)) (pa_cons (pe_lst pa_nil) pa_nil))) (pg_tup rfl (pgs_cons (pg_name (i := 2) sc_through.nd rfl (by first | exact Or.inl rfl | exact Or.inr rfl)) (pgs_cons (pg_name (i := 3) sc_through.nd rfl (by first | exact Or.inl rfl | exact Or.inr rfl)) pgs_nil))))
  (pss_cons (ps_while PassesOwn.never (pt_cmpR (op_neD hr.units) (pv 2) (pe_lst pa_nil) (nomark _)) (pss_cons (ps_asg (pe_bm0 PySem.F.plainAttrs_list PySem.F.slot_list_pop PySem.F.type_list_pop mt_pop (pv 2)) (pg_tup rfl (pgs_cons (pg_name (i := 4) sc_through.nd rfl (by first | exact Or.inl rfl | exact Or.inr rfl)) (pgs_cons (pg_name (i := 5) sc_through.nd rfl (by first | exact Or.inl rfl | exact Or.inr rfl)) pgs_nil))))
  (pss_one (ps_if (pt_val (pv 5)) (pss_cons (ps_set (i := 6) sc_through.nd rfl (by first | exact Or.inl rfl | exact Or.inr rfl) (by exact G.pe_slice3 G.sl3_rev (pe_lc (own := [("child", 7)]) (g := (gName 7)) rfl sc_through.nd (pi_tup (pe_slice sl_tupA (pv 4) (po_some pe_int) po_none)) (blkOk_by (own := [("child", 7)]) (N := ["tree", "come", "waiting", "done", "part", "is_open", "children", "child"]) (sc := defScope s_through) (by decide +kernel)) (fun _ _ _ _ _ => (pg_name (i := 7) sc_through.nd rfl (by first | exact Or.inl rfl | exact Or.inr rfl))) (fun _ _ _ _ _ => pts_nil) (fun _ _ _ _ _ => (show PE _ _ (tBM0 K "list" rPop (tVar 3)) from (pe_bm0 PySem.F.plainAttrs_list PySem.F.slot_list_pop PySem.F.type_list_pop mt_pop (pv 3))))) po_none po_none (po_some (pe_un un_neg pe_int))))
  (pss_one (ps_expr (pe_bm PySem.F.plainAttrs_list PySem.F.slot_list_append PySem.F.type_list_append mt_append (pv 3) (pa_cons (G.pe_come (i := 1) (F := comeF q_ cl c') (ws := ws) (ok_come T (f := f) (cl := cl) (c := c')) bc hr (by decide) rfl (by exact Or.inl rfl) (pa_cons (pe_ix ix_tup (pv 4) pe_int (fun _ _ => rfl)) (pa_cons (pv 6) pa_nil))) pa_nil))))) (pss_cons (ps_expr (pe_bm PySem.F.plainAttrs_list PySem.F.slot_list_append PySem.F.type_list_append mt_append (pv 2) (pa_cons (pe_tup (pa_cons (pv 4) (pa_cons pe_bl pa_nil))) pa_nil)))
  (pss_one (ps_expr (pe_bm PySem.F.plainAttrs_list PySem.F.slot_list_extend PySem.F.type_list_extend mt_extend (pv 2) (pa_cons (pe_lc (own := [("child", 7)]) (g := (gName 7)) rfl sc_through.nd (pi_tup (G.pe_slice3 G.sl3_back (pv 4) po_none (po_some pe_int) (po_some (pe_un un_neg pe_int)))) (blkOk_by (own := [("child", 7)]) (N := ["tree", "come", "waiting", "done", "part", "is_open", "children", "child"]) (sc := defScope s_through) (by decide +kernel)) (fun _ _ _ _ _ => (pg_name (i := 7) sc_through.nd rfl (by first | exact Or.inl rfl | exact Or.inr rfl))) (fun _ _ _ _ _ => pts_nil) (fun _ _ _ _ _ => (pe_tup (pa_cons (pv 7) (pa_cons pe_bl pa_nil))))) pa_nil)))))))))
  (pss_one (ps_ret (pe_ix ix_list (pv 3) pe_int (fun _ _ => rfl)))))), ?_⟩
  obtain ⟨sg, t, vt, vsg, rfl, rfl, ht, hsg, hs, hok, hsz, hf, hc, q⟩ := h
  refine s_seqNN (K := K) (en_lst (ea_cons (ed_tup (ea_cons (ed_var ht) (ea_cons ed_b ea_nil)) (by simp)) ea_nil) (by simp)) (en_lst ea_nil (by decide)) fun Wt us Dn ds H3 s3 hW hWl hus hD0 hDW hDl hds => ?_
  cases hds
  have hWD : Wt ≠ Dn := hDW.symm
  refine s_while (W := fun m σ' H' => ∃ (st : List (Tr × Bool)) (d : List (List Nat)) (us : List V) (x4 x5 x6 : Option V), σ' = [some vt, some (.ref f), some (.ref Wt), some (.ref Dn), x4, x5, x6, none] ∧ Same H H' ∧ H' Wt = some (.lst us) ∧ DpAll K H' us (st.map stkD).reverse ∧ H' Dn = some (.lst (d.map fun y => V.str (S y))) ∧
    (∀ p ∈ st, p.1.ok sg ∧ p.1.size ≤ 40) ∧ Fin_ sg st d [trT sg t] ∧ (∀ y ∈ d, small y ∧ y.length ≤ 10000) ∧ d.length + wOf st ≤ 100 ∧ m = wOf st) (m0 := 2 * t.size)
    ⟨[(t, false)], [], us, none, none, none, rfl, s3, hWl, by simpa [stkD] using hus, hDl, fun p hp => by simp at hp; subst hp; exact ⟨hok, hsz⟩, by simp [Fin_], fun y hy => (by cases hy), by simp [wOf]; omega, by simp [wOf]⟩ ?_
  clear hus hWl hDl
  rintro m σ' H4 ⟨st, d, us, x4, x5, x6, rfl, s4, hWl, hus, hDl, hst, hfin, hd, hlen, rfl⟩
  have hrev : (st.map stkD).reverse = st.reverse.map stkD := by rw [List.map_reverse]
  refine ⟨_, et_test (ed_neD (ed_lstV rfl hWl hus) (ed_ofN (en_lst ea_nil (by decide))) (by rw [hrev]; exact stkD_sh fun p hp => by have := (hst p (List.mem_reverse.mp hp)).2; have := p.1.dep_le_size; omega) shaped_nilL), fun H5 s5 => ?_⟩
  have s45 := s4.trans s5
  have hWl := s5 _ _ hWl
  have hus := dps_same s5 _ _ hus
  have hDl := s5 _ _ hDl
  rw [eqv_nilL]
  cases st with
  | nil =>
    refine ⟨fun z => by simp at z, fun _ => ?_⟩
    have hfin : d = [trT sg t] := hfin
    subst hfin
    dsimp only
    have hdl : Dp K H5 (.ref Dn) (.list [.str (S (trT sg t))]) := .lst (sq_of hDl) (.cons (.str _) .nil)
    refine s_ret (K := K) (d := .str (S (trT sg t))) (ed_ixL (i := 0) (ed_var hdl) (ed_i (n := 0)) rfl) ?_
    intro v H6 s6 hv
    rw [dpS hv]
    exact q H6 (s45.trans s6)
  | cons z r =>
    obtain ⟨u, b⟩ := z
    refine ⟨fun _ => ?_, fun z => by simp at z⟩
    obtain ⟨huok, husz⟩ := hst (u, b) List.mem_cons_self
    have huok : u.ok sg := huok
    have husz : u.size ≤ 40 := husz
    rw [List.map_cons, List.reverse_cons] at hus
    obtain ⟨us, v, rfl, hus, hv⟩ := dps_last hus
    have hk : Kt H5 (upd H5 Wt (.lst us)) := Kt.rfl'.lst hWl
    have kv : Dp K (upd H5 Wt (.lst us)) v (.tuple [u.toD, .bool b]) := dp_kt hk _ _ (by simp [tt, tts, Tr.toD_tt]) hv
    refine x_pop rfl hWl (g_pair kv fun v1 v2 h1 h2 => ?_)
    obtain rfl := dpB h2
    have s6 : Same H (upd H5 Wt (.lst us)) := s45.own hW
    have hus6 : DpAll K (upd H5 Wt (.lst us)) us (r.map stkD).reverse := dps_kt hk _ _ (by rw [← List.map_reverse]; exact stkD_tt _) hus
    have hW6 : (upd H5 Wt (.lst us)) Wt = some (.lst us) := upd_same
    have hD6 : (upd H5 Wt (.lst us)) Dn = some (.lst (d.map fun y => V.str (S y))) := by rw [upd_ne hWD.symm]; exact hDl
    generalize upd H5 Wt (.lst us) = H6 at h1 s6 hus6 hW6 hD6
    have hr : ∀ p ∈ r, p.1.ok sg ∧ p.1.size ≤ 40 := fun p hp => hst p (List.mem_cons_of_mem _ hp)
    have hkl := u.kids_len
    have hss := u.size_eq
    cases b with
    | true =>
      refine s_ifT (et_B (K := K) (ed_var (.bl true))) rfl fun H7 s7 => ?_
      have h1 := dp_same s7 _ _ h1
      rw [Tr.toD_eq] at h1
      have hus7 := dps_same s7 _ _ hus6
      have hW7 := s7 _ _ hW6
      have hD7 := s7 _ _ hD6
      obtain ⟨d', rfl, hfin⟩ := hfin
      have hD7 : H7 Dn = some (.lst ((d'.map fun y => V.str (S y)) ++ ((u.kids.map (trT sg)).map fun y => V.str (S y)))) := by rw [hD7, List.map_append]
      refine s_popsRev (K := K) (ks := u.kids.map Tr.toD) (ed_tail (ed_var h1)) (by intro _; rfl) (by simp; omega) (by simp) hD7 fun pc H8 f8 hpcD hpl8 hD8 => ?_
      have s78 : Same H H8 := fun b o e => f8 b o (fun z => by rw [z, hD0] at e; cases e) ((s6.trans s7) b o e)
      have k78 : Kt H7 H8 := fun b o tt_ e => f8 b o (fun z => by rw [z, hD7] at e; cases e; exact tt_) e
      have h1 := dp_kt k78 _ _ (by rw [← Tr.toD_eq]; exact Tr.toD_tt u) h1
      have hus8 := dps_kt k78 _ _ (by rw [← List.map_reverse]; exact stkD_tt _) hus7
      have hW8 := f8 _ _ hWD hW7
      refine ⟨_, rfl, lst_ty hD8, ?_⟩
      have hys : H8 pc = some (.lst ((u.kids.map (trT sg)).map fun y => V.str (S y))) := hpl8
      have hf8 : H8 f = some (NdefX.FnO f (comeF q_ cl c')) := s78 _ _ hf
      have hc8 : H8 c' = some (LamX.CodeO c' q_) := s78 _ _ hc
      refine ⟨rfl, hf8, ?_⟩
      have ixe : EvD K (tOp (rIxT K) (tVar 4) (tC (.int 0))) [some vt, some (.ref f), some (.ref Wt), some (.ref Dn), some v1, some (.bl true), some (.ref pc), none] H8 (.int (u.hd : Int)) := ed_ixT (ed_var h1) ed_i at0
      refine ixe H8 (Same.refl H8) _ fun vi H9 s9 hvi => ?_
      obtain rfl := dpI hvi
      refine ⟨_, rfl, ?_⟩
      have s89 := s78.trans s9
      obtain ⟨x, hx⟩ := Tr.hd_at huok
      refine ⟨s9 _ _ hf8, s9 _ _ hc8, sg, vsg, u.hd, _, pc, u.kids.map (trT sg), rfl, rfl, dp_same s89 _ _ hsg, hx, hs.short _ (List.mem_of_getElem? hx), s9 _ _ hys, fun y hy => hd y (by simp [hy]), by simp; omega, fun H10 s10 => ?_⟩
      have hD10 := s10 _ _ (s9 _ _ hD8)
      have hlen2 : d'.length ≤ 100 := by simp at hlen; omega
      refine ⟨Dn, _, _, rfl, rfl, hD10, sz_lt (by simp; omega), ?_⟩
      rw [comeT_tr]
      have k10 : Kt H10 (upd H10 Dn (.lst ((d'.map fun y => V.str (S y)) ++ [.str (S (trT sg u))]))) := Kt.rfl'.lst hD10
      obtain ⟨tu1, tu2⟩ := trT_small hs u
      refine ⟨wOf r, by simp [wOf], r, d' ++ [trT sg u], us, _, _, _, rfl, ((s89.trans s10).own hD0), ?_, ?_, ?_, hr, hfin, fun y hy => ?_, ?_, rfl⟩
      · rw [upd_ne hWD]; exact s10 _ _ (s9 _ _ hW8)
      · exact dps_kt k10 _ _ (by rw [← List.map_reverse]; exact stkD_tt _) (dps_same (s9.trans s10) _ _ hus8)
      · rw [List.map_append]; exact upd_same
      · rcases List.mem_append.mp hy with hy | hy
        · exact hd y (by simp [hy])
        · simp at hy
          subst hy
          exact ⟨tu1, by omega⟩
      · simp [wOf] at hlen ⊢; omega
    | false =>
      refine s_ifF (et_B (K := K) (ed_var (.bl false))) rfl fun H7 s7 => ?_
      have h1 := dp_same s7 _ _ h1
      have hul : us.length = r.length := by rw [hus6.len]; simp
      have hrl := wOf_len r
      simp [wOf] at hlen
      refine s_append (K := K) (us := us) rfl (s7 _ _ hW6) (d := stkD (u, true)) (ed_tup (ea_cons (ed_var h1) (ea_cons ed_b ea_nil)) (by simp)) (by omega) fun w H8 s8 hW8 hw => ?_
      have k8 : Kt H8 (upd H8 Wt (.lst (us ++ [w]))) := Kt.rfl'.lst hW8
      have h1 := dp_kt k8 _ _ (Tr.toD_tt u) (dp_same s8 _ _ h1)
      have hus8 := dps_kt k8 _ _ (by rw [← List.map_reverse]; exact stkD_tt _) (dps_same (s7.trans s8) _ _ hus6)
      have hw8 := dp_kt k8 _ _ (by simp [stkD, tt, tts, Tr.toD_tt]) hw
      have s68 : Same H (upd H8 Wt (.lst (us ++ [w]))) := ((s6.trans s7).trans s8).own hW
      have hD8 : (upd H8 Wt (.lst (us ++ [w]))) Dn = some (.lst (d.map fun y => V.str (S y))) := by rw [upd_ne hWD.symm]; exact s8 _ _ (s7 _ _ hD6)
      have hW9 : (upd H8 Wt (.lst (us ++ [w]))) Wt = some (.lst (us ++ [w])) := upd_same
      generalize upd H8 Wt (.lst (us ++ [w])) = H9 at h1 hus8 hw8 s68 hD8 hW9
      rw [Tr.toD_eq] at h1
      refine s_extend (K := K) (us := us ++ [w]) rfl hW9 (en_lcM u.kids.reverse Tr.toD (fun c => stkD (c, false)) (ei_tup ((ed_back (ed_var h1)).to (by rw [List.map_reverse]))) (by simp; omega) (fun c _ => by simp [stkD, tt, tts, Tr.toD_tt]) fun c hc v H10 s10 hv Wd hWd => hWd _ wipe_set1
        (ed_tup (ea_cons (ed_var hv) (ea_cons ed_b ea_nil)) (by simp))) (by simp; omega) fun ws H10 s10 hW10 hws => ?_
      have k10 : Kt H10 (upd H10 Wt (.lst (us ++ [w] ++ ws))) := Kt.rfl'.lst hW10
      have hst2 : ((u.kids.map (fun c => (c, false)) ++ (u, true) :: r).map stkD).reverse = ((r.map stkD).reverse ++ [stkD (u, true)]) ++ u.kids.reverse.map (fun c => stkD (c, false)) := by
        simp [Function.comp_def]
      have hwo := wOf_kids u.kids ((u, true) :: r)
      refine ⟨wOf (u.kids.map (fun c => (c, false)) ++ (u, true) :: r), ?_, u.kids.map (fun c => (c, false)) ++ (u, true) :: r, d, us ++ [w] ++ ws, _, _, _, rfl, (s68.trans s10).own hW, upd_same, ?_, ?_, fun p hp => ?_, fin_open sg hfin, hd, ?_, rfl⟩
      · rw [hwo]; simp [wOf]; omega
      · rw [hst2]
        have e1 : DpAll K H9 (us ++ [w]) ((r.map stkD).reverse ++ [stkD (u, true)]) := hus8.snoc hw8
        have e2 := dps_app (dps_same s10 _ _ e1) hws
        refine dps_kt k10 _ _ ?_ e2
        rw [← hst2, ← List.map_reverse]
        exact stkD_tt _
      · rw [upd_ne hWD.symm]; exact s10 _ _ hD8
      · rcases List.mem_append.mp hp with hp | hp
        · obtain ⟨c, hc, rfl⟩ := List.mem_map.mp hp
          have := mem_sum hc
          exact ⟨Tr.kid_ok huok hc, by show c.size ≤ 40; omega⟩
        · rcases List.mem_cons.mp hp with rfl | hp
          · exact ⟨huok, husz⟩
          · exact hr p hp
      · rw [hwo]; simp [wOf]; omega
end
end G


set_option Elab.async false
set_option linter.all false
set_option maxRecDepth 100000
set_option maxHeartbeats 4000000
namespace G
open PySem PySem.Spec PyProof.Rows L2
/-! ### the table of written_tree's code objects -/
def wtC (K : PySem.W.Frag) : Addr := (He.cT K ("written_tree", none)).1
def wtP (K : PySem.W.Frag) : Addr := (He.cT K ("written_tree", none)).2
def qCome : Str := "written_tree.<locals>.come"
def TTab (K : PySem.W.Frag) : List NdefX.NTab := [(wtP K, fun _ _ => qCome)]
/-- the rest of the heap is kept, the table is a table -/
structure Xt (K : PySem.W.Frag) (H H' : Hp) : Prop where
  ext : LamX.ExtN H H'
  tab : NdefX.TabsN (TTab K) H'
  gone : ∀ b, H' b = none → H b = none
theorem Xt.kt {K : PySem.W.Frag} {H H' : Hp} (x : Xt K H H') : Kt H H' := fun b o t e => x.ext b o e fun ps z => by subst z; exact t
theorem Xt.trans {K : PySem.W.Frag} {H H1 H2 : Hp} (x : Xt K H H1) (y : Xt K H1 H2) : Xt K H H2 := ⟨x.ext.trans y.ext, y.tab, fun b h => x.gone b (y.gone b h)⟩
theorem Xt.of {K : PySem.W.Frag} {H H' : Hp} (s : Same H H') (t : NdefX.TabsN (TTab K) H) : Xt K H H' := ⟨LamX.ExtN.of s, t.ext s, fun b h => Same.free s h⟩
theorem Xt.same {K : PySem.W.Frag} {H H1 H2 : Hp} (x : Xt K H H1) (s : Same H1 H2) : Xt K H H2 := x.trans (Xt.of s x.tab)
theorem Xt.ins {K : PySem.W.Frag} {H H' : Hp} (x : Xt K H H') {b : Addr} {xs : List V} (e : H b = some (.lst xs)) : H' b = some (.lst xs) := x.ext b _ e fun ps z => by cases z
mutual
theorem dp_xt {K : PySem.W.Frag} {H H' : Hp} (x : Xt K H H') : ∀ (d : PyData) (v : V), Dp K H v d → Dp K H' v d
  | .none, _, h => by cases h; exact .non
  | .bool b, _, h => by cases h; exact .bl b
  | .int i, _, h => by cases h; exact .int i
  | .str x, _, h => by cases h; exact .str x
  | .dict xs, _, h => by cases h
  | .list xs, _, h => by
    cases h with
    | lst hs ha =>
      refine .lst ?_ (dps_xt x xs _ ha)
      rcases hs with (h | ⟨o, h⟩) | h
      · exact .inl (.inl (x.ext _ _ h fun ps z => by cases z))
      · exact .inl (.inr ⟨o, x.ext _ _ h fun ps z => by cases z⟩)
      · exact .inr h
  | .tuple xs, _, h => by
    cases h with
    | tup hs ha => exact .tup (kt_sqt x.kt hs) (dps_xt x xs _ ha)
theorem dps_xt {K : PySem.W.Frag} {H H' : Hp} (x : Xt K H H') : ∀ (ds : List PyData) (vs : List V), DpAll K H vs ds → DpAll K H' vs ds
  | [], _, h => by cases h; exact .nil
  | d :: ds, _, h => by
    cases h with
    | cons h1 h2 => exact .cons (dp_xt x d _ h1) (dps_xt x ds _ h2)
end
/-- a def that may write into the table, and hands back data -/
def spW (K : PySem.W.Frag) (R : List PyData → PyData → Prop) (Y : List PyData → Addr → Prop) : Sp := fun vs H Q E => NdefX.TabsN (TTab K) H ∧ ∃ ds, DpAll K H vs ds ∧ ((∃ r, R ds r ∧ ∀ v H', Xt K H H' → Dp K H' v r → Q v H') ∨ ∃ C, Y ds C ∧ ∀ H', Xt K H H' → E (.ref C) none H')
/-- an expression that may write into the table -/
def EvX (K : PySem.W.Frag) (te : TE) (σ : L2.St) (H : Hp) (d : PyData) : Prop := ∀ H1, Xt K H H1 → ∀ Q : VK, (∀ v H2, Xt K H1 H2 → Dp K H2 v d → Q v H2) → te σ H1 Q
section
variable {K : PySem.W.Frag} {σ : L2.St} {H H' : Hp} {ta tb te : TE} {d e : PyData}
theorem ex_var {i : Nat} {v : V} (hd : Dp K H v d) (h : σ[i]? = some (some v) := by rfl) : EvX K (tVar i) σ H d := fun H1 s Q q => ⟨v, h, q v H1 (Xt.of (Same.refl H1) s.tab) (dp_xt s d v hd)⟩
theorem ex_s {n : Str} : EvX K (tC (.str n)) σ H (.str n) := fun H1 s _ q => q _ H1 (Xt.of (Same.refl H1) s.tab) (.str n)
theorem ex_op {r : R2} {z : PyData} (ha : EvX K ta σ H d) (hb : EvX K tb σ H e) (hr : ∀ x y H1, Dp K H1 x d → Dp K H1 y e → ∀ Q : VK, (∀ v, Dp K H1 v z → Q v H1) → r x y H1 Q) : EvX K (tOp r ta tb) σ H z := fun H1 s Q q =>
  ha H1 s _ fun x H2 s2 hx => hb H2 (s.trans s2) _ fun y H3 s3 hy => hr x y H3 (dp_xt s3 d x hx) hy Q fun v hv => q v H3 (s2.trans s3) hv
theorem ex_catS {a b : List Nat} (ha : EvX K ta σ H (.str (S a))) (hb : EvX K tb σ H (.str (S b))) (hl : a.length + b.length ≤ 100000) : EvX K (tOp (fun x y H Q => ∃ i j, x = .str i ∧ y = .str j ∧ i.length + j.length ≤ sizeLine ∧ Q (.str (i ++ j)) H) ta tb) σ H (.str (S (a ++ b))) :=
  ex_op ha hb fun x y H1 hx hy Q q => ⟨S a, S b, dpS hx, dpS hy, sz_of (by rw [S_len, S_len]; exact hl), by rw [S_cat]; exact q _ (.str _)⟩
theorem ex_call2 {R : List PyData → PyData → Prop} {Y : List PyData → Addr → Prop} {E : XK} {i j : Nat} {v w : V} {r : PyData} (h1 : Dp K H v d) (h2 : Dp K H w e) (hi : σ[i]? = some (some v)) (hj : σ[j]? = some (some w)) (hR : R [d, e] r) : EvX K (tCall (spW K R Y) [] E (tCons (tVar i) (tCons (tVar j) tNil))) σ H r := fun H1 s Q q =>
  ⟨v, hi, w, hj, s.tab, [d, e], .cons (dp_xt s d v h1) (.cons (dp_xt s e w h2) .nil), .inl ⟨r, hR, fun v H2 s2 hv => q v H2 s2 hv⟩⟩
theorem er_callW {R : List PyData → PyData → Prop} {Y : List PyData → Addr → Prop} {E : XK} {ts : TA} {ds : List PyData} {C : Addr} {Q : VK} (t : NdefX.TabsN (TTab K) H) (h : EvA K ts σ H ds) (hr : Y ds C) (q : ∀ H', Xt K H H' → E (.ref C) none H') : tCall (spW K R Y) [] E ts σ H Q :=
  h H (Same.refl H) _ fun vs H2 s2 hv => ⟨t.ext s2, ds, by rw [List.append_nil]; exact hv, .inr ⟨C, hr, fun H' s' => q H' ((Xt.of s2 t).trans s')⟩⟩
theorem sx_ret {D : Ends} (t : NdefX.TabsN (TTab K) H) (h : EvX K te σ H d) (q : ∀ v H', Xt K H H' → Dp K H' v d → D.rt v H') : tRet te D σ H := h H (Xt.of (Same.refl H) t) D.rt q
end
section
variable {P : Program} {w : World} {K : PySem.W.Frag} {mg : Str → Option Value} {base : Heap}
theorem sc_written_tree : FnScope ["signature", "tree", "come"] ["signature", "tree"] (defScope s_written_tree) := ⟨rfl, rfl, rfl, by decide +kernel, rfl, by decide +kernel, by decide +kernel⟩
def Rwritten_tree : List PyData → PyData → Prop
  | [s, d], r => ∃ sg t, s = sigD sg ∧ SgLike sg ∧ Tr.ok sg t ∧ t.size ≤ 40 ∧ d = t.toD ∧ r = .str (S (trT sg t))
  | _, _ => False
def Y0 : List PyData → Addr → Prop := fun _ _ => False
theorem code_ref {K : PySem.W.Frag} {cd : Value} {q : Str} (h : PySem.W.codeIn K cd q = true) : ∃ c, cd = .ref c := by
  cases cd with
  | ref c => exact ⟨c, rfl⟩
  | _ => cases h
/-- the cells that the closure gets, of a frame made at s -/
def clW (s : Shared) : List (Str × Addr) := cloFrom (cellsFrom (s.heap.objs.size + 1) (defScope s_written_tree).names []) (C8.fnScope s_come).names []
theorem nd_wt : NdefX.ndefB (defScope s_written_tree) (C8.fnScope s_come) ["signature"] = true := by decide +kernel
theorem ok_written_tree (T : Tx K mg) (tb : LamX.TabB base mg (wtC K) (wtP K)) : Cl P w K mg base CX0 5 "written_tree" ["signature", "tree"] (spW K Rwritten_tree Y0) := by
  obtain ⟨fd, F⟩ := T.f_written_tree
  obtain ⟨fdt, Ft⟩ := T.f_through
  have Bt : Binds K fdt ["tree", "come"] [] := Ft.bindsN fun _ _ _ _ _ _ us hl => match us, hl with | [_, _], _ => rfl
  have Bw : Binds K fd ["signature", "tree"] [] := F.bindsN fun _ _ _ _ _ _ us hl => match us, hl with | [_, _], _ => rfl
  have kp := F.kp
  obtain ⟨oc, od, dV, kV, doc, pm, an, cdv, ct, osl, rfl, lk, hcd, _, _⟩ := F.ex
  obtain ⟨c, rfl⟩ := code_ref hcd
  have hwc : wtC K = c := He.codeOf_eq lk rfl
  refine ⟨_, _, T.g_written_tree, kp, Bw, fn_of lk hcd sc_written_tree (fun vs H Q E h => ?_) (fun A outer s H vs Q E hr h => ?_)⟩
  · obtain ⟨_, ds, hd, ⟨r, hR, _⟩ | ⟨C, hR, _⟩⟩ := h
    · match ds, hR with
      | [_, _], _ => exact hd.len
    · exact hR.elim
  refine ⟨_, PSs.nox (pss_cons (NdefX.ps_ndefMS (st := s_come) (T := TTab K) (nm := fun _ _ => qCome) (i := 2) rfl tb (by rw [hwc]; rfl) List.mem_cons_self rfl (fun p hp _ => by rw [List.mem_singleton.mp hp]) (NdefX.ndef_free nd_wt) rfl rfl rfl sc_written_tree.nd rfl (by exact Or.inl rfl) (by exact Or.inl rfl))
  (pss_one (ps_ret (G.pe_big (js := [0]) (mk := comeF qCome (clW s)) (sp := spThrough K qCome (clW s)) (fun B f c' ws M bc => ok_through T bc Ft) (fun ok => NdefX.Caps.made (scope := C8.fnScope s_come) ok (NdefX.ndef_free nd_wt) (NdefX.ndef_fr nd_wt) rfl) (fun _ => rfl) hr (by decide) T.g_through Ft.kp Bt (pa_cons (pv 1) (pa_cons (pv 2) pa_nil)))))), ?_⟩
  obtain ⟨htab, ds, hd, ⟨r, hR, q⟩ | ⟨C, hR, q⟩⟩ := h
  · match ds, vs, hd, hR with
    | [d0, d1], [v0, v1], .cons h0 (.cons h1 .nil), hR =>
    obtain ⟨sg, t, rfl, hs, hok, hsz, rfl, rfl⟩ := hR
    refine ⟨htab, fun f c' H1 ext gone tab hf0 hf hc => ?_⟩
    have x1 : Xt K H H1 := ⟨ext, tab, gone⟩
    refine ⟨v1, rfl, .ref f, rfl, f, c', hf, hc, sg, t, v1, v0, rfl, rfl, dp_xt x1 _ _ h1, dp_xt x1 _ _ h0, hs, hok, hsz, hf, hc, fun H2 s2 => ?_⟩
    exact q _ H2 (x1.same s2) (.str _)
  · exact hR.elim
end
end G


set_option Elab.async false
set_option linter.all false
set_option maxRecDepth 100000
set_option maxHeartbeats 4000000
namespace G
open PySem PySem.Spec PyProof.Rows L2
section
variable {K : PySem.W.Frag} {σ : L2.St} {H H' : Hp} {ta tb te : TE} {d e : PyData}
theorem tabs_upd {T : List NdefX.NTab} {b : Addr} {o : HO} {us : List V} (h : H b = some (.lst us)) (t : NdefX.TabsN T H) : NdefX.TabsN T (upd H b o) := fun p hp => by
  obtain ⟨ps, h1, h2, h3⟩ := t p hp
  refine ⟨ps, ?_, h2, fun pos cv hc => ?_⟩
  · rw [upd_ne (fun z => by rw [z, h] at h1; cases h1)]; exact h1
  · obtain ⟨c, e1, e2⟩ := h3 pos cv hc
    refine ⟨c, e1, ?_⟩
    rw [upd_ne (fun z => by rw [z, h] at e2; unfold LamX.CodeO at e2; cases e2)]; exact e2
theorem tabs_new {T : List NdefX.NTab} {b : Addr} {o : HO} (h : H b = none) (t : NdefX.TabsN T H) : NdefX.TabsN T (upd H b o) := t.ext fun c u e => by
  rw [upd_ne (ne_of_none e h)]; exact e
theorem Xt.upd {H0 : Hp} {b : Addr} {o : HO} {us : List V} (x : Xt K H0 H) (n : H0 b = none) (h : H b = some (.lst us)) : Xt K H0 (L2.upd H b o) := ⟨fun c u e hn => by
  rw [upd_ne (ne_of_none e n)]; exact x.ext c u e hn, tabs_upd h x.tab, fun c hc => x.gone c (by
  by_cases z : c = b
  · subst z; exfalso; rw [upd_same] at hc; cases hc
  · rw [upd_ne z] at hc; exact hc)⟩
theorem EvX.to (h : EvX K te σ H d) (z : d = e) : EvX K te σ H e := z ▸ h
theorem ed_joinD' {to te : TE} {a : List Nat} {ys : List (List Nat)} (ho : EvD K to σ H (.str (S a))) (he : EvD K te σ H (.list (ys.map fun y => .str (S y)))) (hb : ∀ y ∈ ys, y.length ≤ 10000) (hn : ys.length ≤ 1000) (ha : a.length ≤ 10) :
    EvD K (tM1 (fun x xs H Q => ∃ a p, ∃ ys : List Str, x = .str a ∧ xs = [.ref p] ∧ (SqL K H p (ys.map V.str) ∨ SqT K H p (ys.map V.str)) ∧ (ys.map (·.length)).sum + ys.length * a.length ≤ 16777216 ∧ Q (.str (Txt.join a ys)) H) to te) σ H (.str (S (TL.joinL a ys))) := fun H1 s Q q => by
  have key : ∀ l : List (List Nat), (∀ y ∈ l, y.length ≤ 10000) → (l.map List.length).sum ≤ l.length * 10000 := by
    intro l
    induction l with
    | nil => intro _; simp
    | cons y l ih =>
      intro h
      have := ih fun z hz => h z (List.mem_cons_of_mem _ hz)
      have := h y List.mem_cons_self
      simp [Nat.succ_mul]; omega
  have hk := key ys hb
  have hm : ys.length * 10000 ≤ 1000 * 10000 := Nat.mul_le_mul_right _ hn
  have hm2 : ys.length * a.length ≤ 1000 * 10 := Nat.mul_le_mul hn ha
  refine ho H1 s _ fun x H2 s2 hx => ⟨⟨_, dpS hx⟩, he H2 (s.trans s2) _ fun v H3 s3 hv => ?_⟩
  cases hv with
  | lst hp hv =>
    rename_i pa pvs
    refine ⟨S a, _, ys.map S, dpS hx, rfl, .inl ?_, ?_, ?_⟩
    · have hv : DpAll K H3 pvs ((ys.map S).map .str) := by rw [List.map_map]; exact hv
      rw [← dps_strs hv]
      exact hp
    · rw [List.map_map, List.length_map, S_len]
      have : (ys.map ((·.length) ∘ S)) = ys.map List.length := List.map_congr_left fun y _ => S_len y
      rw [this]; omega
    · rw [SX.join_S]
      exact q _ H3 (s2.trans s3) (.str _)
/-- a comprehension over a tuple, its elements may write into the table -/
theorem sx_lc {α : Type} {g : TG} {vs : List Nat} {i : Nat} {v0 : V} {Q : VK} (l : List α) (c f : α → PyData) (ht : NdefX.TabsN (TTab K) H) (hi : σ[i]? = some (some v0)) (hv : Dp K H v0 (.tuple (l.map c))) (hl : l.length ≤ 1000) (htt : ∀ a ∈ l, tt (f a) = true)
    (hel : ∀ a ∈ l, ∀ v H1, Xt K H H1 → Dp K H1 v (c a) → ∀ W : L2.St → Hp → Prop, (∀ σ2, wipe σ2 vs = wipe σ vs → EvX K te σ2 H1 (f a) → W σ2 H1) → g v (wipe σ vs) H1 W)
    (q : ∀ p us H', Xt K H H' → H p = none → H' p = some (.lst us) → DpAll K H' us (l.map f) → Q (.ref p) H') : tLc (iTup K (tVar i)) g tYes te vs σ H Q := by
  obtain ⟨a, xs, rfl, hs, hxs⟩ := dp_tup hv
  have hxl : xs.length = l.length := by rw [hxs.len, List.length_map]
  refine ⟨_, hi, a, rfl, ⟨xs, hs⟩, fun D hD => ?_⟩
  have x0 : Xt K H (L2.upd H D (.lst [])) := Xt.of ((Same.refl H).new hD) ht
  refine ⟨fun n m H' => m = l.length - n ∧ n ≤ l.length ∧ Xt K H H' ∧ ∃ acc, H' D = some (.lst acc) ∧ DpAll K H' acc ((l.take n).map f) ∧ acc.length ≤ n, ⟨l.length, rfl, Nat.zero_le _, x0, [], upd_same, .nil, Nat.le_refl _⟩, ?_⟩
  rintro n m H2 ⟨rfl, hn, x2, acc, hacc, hdp, hal⟩
  have hs2 : SqT K H2 a xs := kt_sqt x2.kt hs
  by_cases hlt : n < l.length
  · have hnx : n < xs.length := by omega
    refine .inr ⟨⟨xs, xs[n], hs2, by simp [hnx]⟩, fun H' => n + 1 ≤ l.length ∧ Xt K H H' ∧ ∃ acc, H' D = some (.lst acc) ∧ DpAll K H' acc ((l.take (n + 1)).map f) ∧ acc.length ≤ n + 1, fun H' ⟨a, b⟩ => ⟨l.length - (n + 1), by omega, rfl, a, b⟩, fun x H3 y => ?_⟩
    obtain ⟨rfl, hy⟩ := y
    have hx := hy xs hs2
    obtain ⟨d, hd1, hd2⟩ := hxs.get' hx
    have hmem : l[n] ∈ l := List.getElem_mem hlt
    rw [List.getElem?_map, List.getElem?_eq_getElem hlt] at hd1
    have hd1 : c l[n] = d := Option.some.inj hd1
    subst hd1
    have etake : l.take (n + 1) = l.take n ++ [l[n]] := by rw [List.take_succ, List.getElem?_eq_getElem hlt]; rfl
    refine hel _ hmem x H3 x2 (dp_xt x2 _ _ hd2) _ fun σ2 hw he => ⟨hw, ?_⟩
    unfold tYes
    dsimp only
    simp only [if_true]
    refine he H3 (Xt.of (Same.refl H3) x2.tab) _ fun z H4 x4 hz => ?_
    have hacc4 := x4.ins hacc
    refine ⟨acc, hacc4, sz_lt (by omega), hlt, (x2.trans x4).upd hD hacc4, _, upd_same, ?_, by simp; omega⟩
    have hk : Kt H4 (L2.upd H4 D (.lst (acc ++ [z]))) := Kt.rfl'.lst hacc4
    rw [etake, List.map_append]
    exact (dps_kt hk _ _ (tts_of fun d hd => by
      obtain ⟨b, hb, rfl⟩ := List.mem_map.mp hd
      exact htt b (List.mem_of_mem_take hb)) (dps_xt x4 _ _ hdp)).snoc (dp_kt hk _ _ (htt _ hmem) hz)
  · have e : n = l.length := by omega
    subst e
    rw [List.take_length] at hdp
    exact .inl ⟨⟨xs, hs2, by rw [hxl]; exact Nat.le_refl _⟩, q D acc H2 x2 hD hacc hdp⟩
theorem sx_setLc {α : Type} {g : TG} {vs : List Nat} {i j : Nat} {v0 : V} {D : Ends} (l : List α) (c f : α → PyData) (ht : NdefX.TabsN (TTab K) H) (hv : Dp K H v0 (.tuple (l.map c))) (hi : σ[i]? = some (some v0) := by rfl) (hl : l.length ≤ 1000) (htt : ∀ a ∈ l, tt (f a) = true)
    (hel : ∀ a ∈ l, ∀ v H1, Xt K H H1 → Dp K H1 v (c a) → ∀ W : L2.St → Hp → Prop, (∀ σ2, wipe σ2 vs = wipe σ vs → EvX K te σ2 H1 (f a) → W σ2 H1) → g v (wipe σ vs) H1 W)
    (q : ∀ p us H', Xt K H H' → H p = none → H' p = some (.lst us) → DpAll K H' us (l.map f) → D.nx (σ.set j (some (.ref p))) H') : tAsg (tLc (iTup K (tVar i)) g tYes te vs) (gName j) D σ H := by
  unfold tAsg
  exact sx_lc l c f ht hi hv hl htt hel q
end
theorem vals_snoc : ∀ {vs : List V} {us : List Value} {v : V} {u : Value}, Vals vs us → RelV v u → Vals (vs ++ [v]) (us ++ [u])
  | _, _, _, _, .nil, h => .cons h .nil
  | _, _, _, _, .cons a t, h => .cons a (vals_snoc t h)
theorem vals_rev : ∀ {vs : List V} {us : List Value}, Vals vs us → Vals vs.reverse us.reverse
  | _, _, .nil => .nil
  | _, _, .cons a t => by
    rw [List.reverse_cons, List.reverse_cons]
    exact vals_snoc (vals_rev t) a
theorem kbn_rev {K : PySem.W.Frag} {x qual : Str} {params : Arguments} {body : List Stmt} {scope : Scope} {kws : List (Str × V)} {f : Addr} {fd : FuncData} {ps ks : List Str} (F : FunD K x qual params body scope [] kws f fd)
    (h : ∀ (kV doc pm : Value) (an : Option Addr) (cdv ct : Value) (ws : List Value), ws.length = ks.length → bindArgs (PySem.W.fnOf x qual params body scope .none kV doc pm an cdv ct) ⟨[], ks.zip ws⟩ = pure (ps.zip ws.reverse)) : KBn K fd ps 0 ks (fun _ ws => ws.reverse) (fun _ zs => zs.reverse) := by
  obtain ⟨oc, od, dV, kV, doc, pm, an, cdv, ct, osl, rfl, lk, hcd, hD, hK⟩ := F.ex
  rcases hD with ⟨_, rfl⟩ | ⟨e, _⟩
  · refine ⟨fun s us ws X l1 l2 => ?_, fun _ r => vals_rev r⟩
    obtain rfl := List.length_eq_zero_iff.mp l1
    exact .of_eq (h kV doc pm an cdv ct ws l2)
  · exact absurd rfl e
/-- a def that is called by two keywords, too, in the other order -/
structure ClK (P : Program) (w : World) (K : PySem.W.Frag) (mg : Str → Option Value) (base : Heap) (CX : CXT) (k : Nat) (x : Str) (ps ks : List Str) (sp : Sp) : Prop where
  ex : ∃ (f : Addr) (fd : FuncData), mg x = some (.ref f) ∧ PySem.W.keepIn K (.ref f) = true ∧ Binds K fd ps [] ∧ FnOk P w K mg base CX k f fd ps sp ∧ KBn K fd ps 0 ks (fun _ ws => ws.reverse) (fun _ zs => zs.reverse)
theorem ClK.cl {P : Program} {w : World} {K : PySem.W.Frag} {mg : Str → Option Value} {base : Heap} {CX : CXT} {k : Nat} {x : Str} {ps ks : List Str} {sp : Sp} (c : ClK P w K mg base CX k x ps ks sp) : Cl P w K mg base CX k x ps sp := by
  obtain ⟨f, fd, h1, h2, h3, h4, _⟩ := c.ex
  exact ⟨f, fd, h1, h2, h3, h4⟩
section
variable {P : Program} {w : World} {K : PySem.W.Frag} {mg : Str → Option Value} {base : Heap}
def Rwrite_tree : List PyData → PyData → Prop
  | [s, d], r => ∃ sg t, s = sigD sg ∧ SgOk sg ∧ TrOk sg t ∧ d = t.toD ∧ r = .str (S (trT sg t))
  | _, _ => False
theorem sc_write_tree : FnScope ["signature", "tree"] ["signature", "tree"] (defScope s_write_tree) := ⟨rfl, rfl, rfl, by decide +kernel, rfl, by decide +kernel, by decide +kernel⟩
theorem ok_write_tree (T : Tx K mg) (tb : LamX.TabB base mg (wtC K) (wtP K))  : Cl P w K mg base (L2.CX P w) 7 "write_tree" ["signature", "tree"] (spW K Rwrite_tree (Yneed_tree K)) := by
  obtain ⟨fd, F⟩ := T.f_write_tree
  refine ⟨_, fd, T.g_write_tree, F.kp, F.bindsN fun _ _ _ _ _ _ us hl => match us, hl with | [_, _], _ => rfl, F.ok sc_write_tree (fun vs H Q E h => ?_) (fun cdv A outer s H vs Q E hr h => ?_)⟩
  · obtain ⟨_, ds, hd, ⟨r, hR, _⟩ | ⟨C, hR, _⟩⟩ := h
    · match ds, hR with
      | [_, _], _ => exact hd.len
    · match ds, hR with
      | [_, _], _ => exact hd.len
  · refine ⟨_, (pss_cons (ps_expr (G.pe_cl (ok_need_tree T) hr (by decide) (passes_call (takes_of rfl rfl rfl rfl) (fun _ _ _ _ h => h)) (pa_cons (pv 0) (pa_cons (pv 1) pa_nil))))
  (pss_one (ps_ret (G.pe_cl (ok_written_tree T tb) hr (by decide) pass0 (pa_cons (pv 0) (pa_cons (pv 1) pa_nil)))))), ?_⟩
    obtain ⟨htab, ds, hd, ⟨r, hR, q⟩ | ⟨C, hR, q⟩⟩ := h
    · match ds, vs, hd, hR with
      | [d0, d1], [v0, v1], .cons h0 (.cons h1 .nil), hR =>
      obtain ⟨sg, t, rfl, hs, ht, rfl, rfl⟩ := hR
      refine s_drop (K := K) (ed_callX (ea_cons (ed_var h0) (ea_cons (ed_var h1) ea_nil)) ⟨sg, rfl, hs, rfl, t, ht, rfl⟩) fun H1 s1 => ?_
      have x1 := Xt.of s1 htab
      exact sx_ret x1.tab (ex_call2 (dp_same s1 _ _ h0) (dp_same s1 _ _ h1) rfl rfl ⟨sg, t, rfl, hs.1, ht.ok, ht.size, rfl, rfl⟩) fun v H2 x2 hv => q v H2 (x1.trans x2) hv
    · match ds, vs, hd, hR with
      | [d0, d1], [v0, v1], .cons h0 (.cons h1 .nil), hR =>
      exact er_callX (ea_cons (ed_var h0) (ea_cons (ed_var h1) ea_nil)) hR fun H' s => q H' (Xt.of s htab)
def Rwritten_rules : List PyData → PyData → Prop
  | [s, d], r => ∃ sg rs, s = sigD sg ∧ SgLike sg ∧ (∀ p ∈ rs, TrOk sg p.1 ∧ TrOk sg p.2) ∧ rs.length ≤ 30 ∧ d = rlsD rs ∧ r = .str (S (rlsT sg rs))
  | _, _ => False
theorem strArr4 : (" -> " : Str) = S [32, 45, 62, 32] := by decide +kernel
theorem strSemi2 : ("; " : Str) = S [59, 32] := by decide +kernel
theorem rlT_len {sg : Sg} (hs : SgLike sg) {p : Rl} (h1 : TrOk sg p.1) (h2 : TrOk sg p.2) : (rlT sg p).length ≤ 2000 := by
  have := (trT_small hs p.1).2
  have := (trT_small hs p.2).2
  have := h1.size
  have := h2.size
  simp [rlT]; omega
theorem sc_written_rules : FnScope ["signature", "rules", "rows", "left", "right"] ["signature", "rules"] (defScope s_written_rules) := ⟨rfl, rfl, rfl, by decide +kernel, rfl, by decide +kernel, by decide +kernel⟩
theorem ok_written_rules (T : Tx K mg) (tb : LamX.TabB base mg (wtC K) (wtP K))  : Cl P w K mg base CX0 6 "written_rules" ["signature", "rules"] (spW K Rwritten_rules Y0) := by
  obtain ⟨fd, F⟩ := T.f_written_rules
  refine ⟨_, fd, T.g_written_rules, F.kp, F.bindsN fun _ _ _ _ _ _ us hl => match us, hl with | [_, _], _ => rfl, F.ok sc_written_rules (fun vs H Q E h => ?_) (fun cdv A outer s H vs Q E hr h => ?_)⟩
  · obtain ⟨_, ds, hd, ⟨r, hR, _⟩ | ⟨C, hR, _⟩⟩ := h
    · match ds, hR with
      | [_, _], _ => exact hd.len
    · exact hR.elim
  · refine ⟨_, PSs.nox (pss_cons (ps_setLc (i := 2) (own := [("left", 3), ("right", 4)]) (g := (gTup K 2 (gCons (gName 3) (gCons (gName 4) gNil)))) rfl sc_written_rules.nd rfl rfl (sw_true rfl rfl rfl (by decide +kernel)) (pi_tup (pv 1)) (blkOk_by (own := [("left", 3), ("right", 4)]) (N := ["signature", "rules", "rows", "left", "right"]) (sc := defScope s_written_rules) (by decide +kernel)) (fun _ _ _ _ _ => (pg_tup rfl (pgs_cons (pg_name (i := 3) sc_written_rules.nd rfl (by first | exact Or.inl rfl | exact Or.inr rfl)) (pgs_cons (pg_name (i := 4) sc_written_rules.nd rfl (by first | exact Or.inl rfl | exact Or.inr rfl)) pgs_nil)))) (fun _ _ _ _ _ => pts_nil) (fun _ _ _ _ _ => (pe_op op_add_str (pe_op op_add_str (G.pe_cl (ok_written_tree T tb) hr (by decide) pass0 (pa_cons (pv 0) (pa_cons (pv 3) pa_nil))) pe_str) (G.pe_cl (ok_written_tree T tb) hr (by decide) pass0 (pa_cons (pv 0) (pa_cons (pv 4) pa_nil))))))
  (pss_one (ps_ret (pe_join pe_str (pv 2))))), ?_⟩
    obtain ⟨htab, ds, hd, ⟨r, hR, q⟩ | ⟨C, hR, q⟩⟩ := h
    · match ds, vs, hd, hR with
      | [d0, d1], [v0, v1], .cons h0 (.cons h1 .nil), hR =>
      obtain ⟨sg, rs, rfl, hs, htr, hl, rfl, rfl⟩ := hR
      refine sx_setLc (K := K) rs rlD (fun p => .str (S (rlT sg p))) htab h1 (by rfl) (by omega) (fun _ _ => rfl) (fun p hp v H1 x1 hv W hW => g_pair hv fun w1 w2 e1 e2 => hW _ wipe_set2 ?_) fun pr us H1 x1 hpn hpl hus => ?_
      · have t1 := (trT_small hs p.1).2
        have t2 := (trT_small hs p.2).2
        have z1 := (htr p hp).1
        have z2 := (htr p hp).2
        have := z1.size
        have := z2.size
        exact ex_catS (ex_catS (ex_call2 (dp_xt x1 _ _ h0) e1 rfl rfl ⟨sg, p.1, rfl, hs, z1.ok, z1.size, rfl, rfl⟩) ((ex_s (n := " -> ")).to (congrArg _ strArr4)) (by simp; omega)) (ex_call2 (dp_xt x1 _ _ h0) e2 rfl rfl ⟨sg, p.2, rfl, hs, z2.ok, z2.size, rfl, rfl⟩) (by simp; omega)
      · have hpd : Dp K H1 (.ref pr) (.list ((rs.map (rlT sg)).map fun y => .str (S y))) := .lst (sq_of hpl) (by rw [List.map_map]; exact hus)
        refine s_ret (K := K) (d := .str (S (rlsT sg rs))) (ed_joinD' ((ed_s (n := "; ")).to (congrArg _ strSemi2)) (ed_var hpd) (fun y hy => ?_) (by simp; omega) (by decide)) fun v H2 s2 hv => q v H2 (x1.same s2) hv
        obtain ⟨p, hp, rfl⟩ := List.mem_map.mp hy
        have := rlT_len hs (htr p hp).1 (htr p hp).2
        omega
    · exact hR.elim
def Rwrite_rules : List PyData → PyData → Prop
  | [s, d], r => ∃ sg rs, s = sigD sg ∧ SgOk sg ∧ RlsOk sg rs ∧ d = rlsD rs ∧ r = .str (S (rlsT sg rs))
  | _, _ => False
theorem sc_write_rules : FnScope ["signature", "rules"] ["signature", "rules"] (defScope s_write_rules) := ⟨rfl, rfl, rfl, by decide +kernel, rfl, by decide +kernel, by decide +kernel⟩
theorem okK_write_rules (T : Tx K mg) (tb : LamX.TabB base mg (wtC K) (wtP K))  : ClK P w K mg base (L2.CX P w) 8 "write_rules" ["signature", "rules"] ["rules", "signature"] (spW K Rwrite_rules (Yneed_rules K)) := by
  obtain ⟨fd, F⟩ := T.f_write_rules
  refine ⟨_, fd, T.g_write_rules, F.kp, F.bindsN fun _ _ _ _ _ _ us hl => match us, hl with | [_, _], _ => rfl, F.ok sc_write_rules (fun vs H Q E h => ?_) (fun cdv A outer s H vs Q E hr h => ?_), kbn_rev F (fun _ _ _ _ _ _ ws hl => match ws, hl with | [_, _], _ => rfl)⟩
  · obtain ⟨_, ds, hd, ⟨r, hR, _⟩ | ⟨C, hR, _⟩⟩ := h
    · match ds, hR with
      | [_, _], _ => exact hd.len
    · match ds, hR with
      | [_, _], _ => exact hd.len
  · refine ⟨_, (pss_cons (ps_expr (G.pe_cl (ok_need_rules T) hr (by decide) (passes_call (takes_of rfl rfl rfl rfl) (fun _ _ _ _ h => h)) (pa_cons (pv 0) (pa_cons (pv 1) pa_nil))))
  (pss_one (ps_ret (G.pe_cl (ok_written_rules T tb) hr (by decide) pass0 (pa_cons (pv 0) (pa_cons (pv 1) pa_nil)))))), ?_⟩
    obtain ⟨htab, ds, hd, ⟨r, hR, q⟩ | ⟨C, hR, q⟩⟩ := h
    · match ds, vs, hd, hR with
      | [d0, d1], [v0, v1], .cons h0 (.cons h1 .nil), hR =>
      obtain ⟨sg, rs, rfl, hs, hrs, rfl, rfl⟩ := hR
      refine s_drop (K := K) (ed_callX (ea_cons (ed_var h0) (ea_cons (ed_var h1) ea_nil)) ⟨sg, rfl, hs, rfl, rs, hrs, rfl⟩) fun H1 s1 => ?_
      have x1 := Xt.of s1 htab
      exact sx_ret x1.tab (ex_call2 (dp_same s1 _ _ h0) (dp_same s1 _ _ h1) rfl rfl ⟨sg, rs, rfl, hs.1, fun p hp => ⟨(hrs.tr p hp).1, (hrs.tr p hp).2.1⟩, hrs.few, rfl, rfl⟩) fun v H2 x2 hv => q v H2 (x1.trans x2) hv
    · match ds, vs, hd, hR with
      | [d0, d1], [v0, v1], .cons h0 (.cons h1 .nil), hR =>
      exact er_callX (ea_cons (ed_var h0) (ea_cons (ed_var h1) ea_nil)) hR fun H' s => q H' (Xt.of s htab)
theorem ok_write_rules (T : Tx K mg) (tb : LamX.TabB base mg (wtC K) (wtP K))  : Cl P w K mg base (L2.CX P w) 8 "write_rules" ["signature", "rules"] (spW K Rwrite_rules (Yneed_rules K)) := (okK_write_rules T tb).cl
end
end G


set_option Elab.async false
set_option linter.all false
set_option maxRecDepth 100000
set_option maxHeartbeats 4000000
namespace G
open PySem PySem.Spec PyProof.Rows L2
/-! ### the jug -/
def Jg (K : PySem.W.Frag) (H : Hp) (j L : Addr) (n : Nat) : Prop := ∃ (ns : List Int) (at_ : Nat) (cell : Int), H j = some (.lst [.ref L, .int (at_ : Int), .int cell]) ∧ L ≠ j ∧ H L = some (.lst (ns.map V.int)) ∧ 0 ≤ cell ∧ at_ + n ≤ 10000000
theorem Jg.mono {K : PySem.W.Frag} {H : Hp} {j L : Addr} {n m : Nat} (h : Jg K H j L n) (hm : m ≤ n) : Jg K H j L m := by
  obtain ⟨ns, a, c, h1, h2, h3, h4, h5⟩ := h
  exact ⟨ns, a, c, h1, h2, h3, h4, by omega⟩
theorem Mv.ktL {a : Addr} {H H' : Hp} {us : List V} (x : Mv a H H') (h : H a = some (.lst us)) : Kt H H' := fun b o t e => x b o (fun z => by subst z; rw [h] at e; cases e; exact t) e
theorem Jg.kt {K : PySem.W.Frag} {H H' : Hp} {j L : Addr} {n : Nat} (h : Jg K H j L n) (x : Mv j H H') : Kt H H' := by
  obtain ⟨ns, a, c, h1, _⟩ := h
  exact x.ktL h1
theorem Jg.same {K : PySem.W.Frag} {H H' : Hp} {j L : Addr} {n : Nat} (s : Same H H') (h : Jg K H j L n) : Jg K H' j L n := by
  obtain ⟨ns, a, c, h1, h2, h3, h4, h5⟩ := h
  exact ⟨ns, a, c, s _ _ h1, h2, s _ _ h3, h4, h5⟩
theorem Jg.other {K : PySem.W.Frag} {H : Hp} {j L : Addr} {n : Nat} {b : Addr} {o : HO} (h : Jg K H j L n) (h1 : b ≠ j) (h2 : b ≠ L) : Jg K (upd H b o) j L n := by
  obtain ⟨ns, a, c, e1, e2, e3, e4, e5⟩ := h
  exact ⟨ns, a, c, by rw [upd_ne h1.symm]; exact e1, e2, by rw [upd_ne h2.symm]; exact e3, e4, e5⟩
theorem Jg.there {K : PySem.W.Frag} {H : Hp} {j L : Addr} {n : Nat} (h : Jg K H j L n) {b : Addr} (hb : H b = none) : b ≠ j ∧ b ≠ L := by
  obtain ⟨ns, a, c, e1, e2, e3, e4, e5⟩ := h
  exact ⟨fun z => (by rw [z, e1] at hb; cases hb), fun z => (by rw [z, e3] at hb; cases hb)⟩
theorem Mv.own {a b : Addr} {H H' : Hp} {o : HO} (x : Mv a H H') (h : H b = none) : Mv a H (L2.upd H' b o) := fun c u hc e => by
  rw [upd_ne (ne_of_none e h)]
  exact x c u hc e
/-- a list of ints is not the jug -/
theorem Jg.ints {K : PySem.W.Frag} {H H' : Hp} {j L : Addr} {n : Nat} (h : Jg K H j L n) (m : Mv j H H') {p : Addr} {is : List Int} (hs : SqL K H p (is.map V.int)) : SqL K H' p (is.map V.int) := by
  obtain ⟨ns, a, c, e1, _⟩ := h
  have ne : ∀ o, H p = some o → (∀ xs, o = .lst xs → xs = is.map V.int) → p ≠ j := fun o ho hx z => by
    rw [z, e1] at ho
    cases ho
    have := hx _ rfl
    cases is with
    | nil => simp at this
    | cons i r => simp at this
  rcases hs with (h | ⟨o, h⟩) | h
  · exact .inl (.inl (m _ _ (ne _ h fun xs e => by cases e; rfl) h))
  · exact .inl (.inr ⟨o, m _ _ (ne _ h fun xs e => by cases e) h⟩)
  · exact .inr h
def CPowW (i j : Int) : Prop := 0 ≤ j ∧ (Builtin.Int.intBits i : Int) * j ≤ 2 ^ 27
theorem op_powW {X : Cx} : OpR X (binaryOp .Pow) (rI CPowW fun i j => .int (i ^ j.toNat)) := opI fun _ _ _ _ _ _ _ hc q => PyProof.Rows.pow_int hc.1 hc.2 q
theorem bits_small {x : Int} (h0 : 0 ≤ x) (h : x < 2 ^ 100) : (Builtin.Int.intBits x : Int) * 3 ≤ 2 ^ 27 := by
  have h1 : x.natAbs < 2 ^ 100 := by omega
  have h2 : Builtin.Int.intBits x ≤ 101 := by
    unfold Builtin.Int.intBits
    split
    · omega
    · rename_i hz
      have hz : x.natAbs ≠ 0 := fun z => hz (by rw [Int.natAbs_eq_zero.mp z]; rfl)
      have := (Nat.log2_lt (k := 100) hz).mpr h1
      omega
  omega
section
variable {K : PySem.W.Frag} {σ : L2.St} {H H' : Hp} {ta tb te : TE} {d e : PyData} {D : Ends}
theorem ed_mul {i j : Int} (ha : EvD K ta σ H (.int i)) (hb : EvD K tb σ H (.int j)) (hc : CMul i j) : EvD K (tOp (rI CMul fun i j => .int (i * j)) ta tb) σ H (.int (i * j)) := ed_I ha hb hc fun _ => .int _
theorem ed_powW {i j : Int} (ha : EvD K ta σ H (.int i)) (hb : EvD K tb σ H (.int j)) (hc : CPowW i j) : EvD K (tOp (rI CPowW fun i j => .int (i ^ j.toNat)) ta tb) σ H (.int (i ^ j.toNat)) := ed_I ha hb hc fun _ => .int _
theorem ed_modN {i j : Int} (ha : EvD K ta σ H (.int i)) (hb : EvD K tb σ H (.int j)) (hc : j ≠ 0) : EvD K (tOp (rI (fun _ j => j ≠ 0) fun i j => .int (i.fmod j)) ta tb) σ H (.int (i.fmod j)) := ed_I ha hb hc fun _ => .int _
theorem ed_fdivN {i j : Int} (ha : EvD K ta σ H (.int i)) (hb : EvD K tb σ H (.int j)) (hc : CDivN i j) : EvD K (tOp (rI CDivN fun i j => .int (i.fdiv j)) ta tb) σ H (.int (i.fdiv j)) := ed_I ha hb hc fun _ => .int _
theorem ed_intI {i : Int} (ha : EvD K ta σ H (.int i)) : EvD K (tCB (fun xs H Q => (∃ i, xs = [.int i] ∧ Q (.int i) H) ∨ ∃ k, xs = [.bl k] ∧ Q (.int (if k = true then 1 else 0)) H) (tCons ta tNil)) σ H (.int i) := fun H1 s Q q => ha H1 s _ fun v H2 s2 hv => .inl ⟨i, by rw [dpI hv], q _ H2 s2 (.int _)⟩
theorem ed_intB {b : Bool} (ha : EvD K ta σ H (.bool b)) : EvD K (tCB (fun xs H Q => (∃ i, xs = [.int i] ∧ Q (.int i) H) ∨ ∃ k, xs = [.bl k] ∧ Q (.int (if k = true then 1 else 0)) H) (tCons ta tNil)) σ H (.int (if b = true then 1 else 0)) := fun H1 s Q q => ha H1 s _ fun v H2 s2 hv => .inr ⟨b, by rw [dpB hv], q _ H2 s2 (.int _)⟩
theorem ed_abs {i : Int} (ha : EvD K ta σ H (.int i)) : EvD K (tCB (fun xs H Q => ∃ i, xs = [.int i] ∧ Q (.int (if i < 0 then -i else i)) H) (tCons ta tNil)) σ H (.int (if i < 0 then -i else i)) := fun H1 s Q q => ha H1 s _ fun v H2 s2 hv => ⟨i, by rw [dpI hv], q _ H2 s2 (.int _)⟩
/-- x[k] = .. of a list at a name -/
theorem s_item {i k : Nat} {p : Addr} {xs : List V} (hv : σ[i]? = some (some (.ref p))) (hp : H p = some (.lst xs)) (hk : k < xs.length) (he : EvD K te σ H d) (q : ∀ v H', Same H H' → Dp K H' v d → D.nx σ (upd H' p (.lst (xs.set k v)))) : tAsg te (gSub (tVar i) (tC (.int (k : Int))) rSetL) D σ H :=
  he H (Same.refl H) _ fun v H' s hd => ⟨_, hv, p, xs, (k : Int), k, rfl, rfl, s _ _ hp, by unfold ixN; rw [if_pos (by omega), if_pos (by omega)]; simp, q v H' s hd⟩
end
section
variable {P : Program} {w : World} {K : PySem.W.Frag} {mg : Str → Option Value} {base : Heap}
/-- a draw -/
def spTake (K : PySem.W.Frag) : Sp := fun vs H Q _ => ∃ (j L : Addr) (n m : Nat), vs = [.ref j, .int (m : Int)] ∧ Jg K H j L (n + 1) ∧ 1 ≤ m ∧ m ≤ 1000 ∧ ∀ H' (g : Nat), Mv j H H' → Jg K H' j L n → g < m → Q (.int (g : Int)) H'
theorem sc__law_take : FnScope ["jug", "many", "at", "cell", "got"] ["jug", "many"] (defScope s__law_take) := ⟨rfl, rfl, rfl, by decide +kernel, rfl, by decide +kernel, by decide +kernel⟩
theorem ok__law_take (T : Tx K mg)  : Cl P w K mg base CX0 1 "_law_take" ["jug", "many"] (spTake K) := by
  obtain ⟨fd, F⟩ := T.f__law_take
  refine ⟨_, fd, T.g__law_take, F.kp, F.bindsN fun _ _ _ _ _ _ us hl => match us, hl with | [_, _], _ => rfl, F.ok sc__law_take (fun vs H Q E h => ?_) (fun cdv A outer s H vs Q E hr h => ?_)⟩
  · obtain ⟨j, L, n, m, rfl, _⟩ := h
    rfl
  · refine ⟨_, PSs.nox (C8.pss_cut (ps_if (pt_cmpR op_eq (pe_ix ix_list (pv 0) pe_int (fun _ _ => rfl)) pe_int (nomark _)) (pss_cons (ps_set (i := 2) sc__law_take.nd rfl (by first | exact Or.inl rfl | exact Or.inr rfl) (pe_ix ix_list (pv 0) pe_int (fun _ _ => rfl)))
  (pss_cons (ps_set (i := 3) sc__law_take.nd rfl (by first | exact Or.inl rfl | exact Or.inr rfl) (pe_op op_add (pe_op op_mul pe_int (pv 2)) pe_int))
  (C8.pss_cut (ps_if (pt_cmpR op_lt (pv 2) (pe_callB call_len_seq (by rfl) T.b_len PyProof.Rows.Boot.«len» (pa_cons (pe_ix ix_list (pv 0) pe_int (fun _ _ => rfl)) pa_nil)) (nomark _)) (pss_one (ps_set (i := 3) sc__law_take.nd rfl (by first | exact Or.inl rfl | exact Or.inr rfl) (pe_op op_add (pe_op op_mul pe_int (pe_callB call_abs (by rfl) T.b_abs PyProof.Rows.Boot.«abs» (pa_cons (pe_ix ix_list (pe_ix ix_list (pv 0) pe_int (fun _ _ => rfl)) (pv 2) (fun _ _ => rfl)) pa_nil))) (pe_callTy call_int1 (by rfl) T.b_int PyProof.Rows.Boot.«int» (pa_cons (pe_cmpR op_lt (pe_ix ix_list (pe_ix ix_list (pv 0) pe_int (fun _ _ => rfl)) (pv 2) (fun _ _ => rfl)) pe_int (nomark _)) pa_nil))))) pss_nil)
  (C8.pss_cut (ps_if (pt_cmpR op_lt (pv 3) (pe_op G.op_powW pe_int pe_int) (nomark _)) (pss_one (ps_set (i := 3) sc__law_take.nd rfl (by first | exact Or.inl rfl | exact Or.inr rfl) (pe_op op_modN (pe_callTy call_int1 (by rfl) T.b_int PyProof.Rows.Boot.«int» (pa_cons (pe_op G.op_powW (pe_op op_add (pe_op op_add (pe_op op_mul (pv 3) pe_int) (pe_op op_mul (pv 2) pe_int)) pe_int) pe_int) pa_nil)) pe_int))) pss_nil)
  (pss_cons (ps_asg (pe_op op_add (pv 2) pe_int) (pg_sub (pv 0) pe_int set_list))
  (pss_one (ps_asg (pv 3) (pg_sub (pv 0) pe_int set_list)))))))) pss_nil)
  (pss_cons (ps_set (i := 4) sc__law_take.nd rfl (by first | exact Or.inl rfl | exact Or.inr rfl) (pe_op op_modN (pe_callTy call_int1 (by rfl) T.b_int PyProof.Rows.Boot.«int» (pa_cons (pe_ix ix_list (pv 0) pe_int (fun _ _ => rfl)) pa_nil)) (pv 1)))
  (pss_cons (ps_asg (pe_op op_fdivN (pe_ix ix_list (pv 0) pe_int (fun _ _ => rfl)) (pv 1)) (pg_sub (pv 0) pe_int set_list))
  (pss_one (ps_ret (pv 4)))))), ?_⟩
    obtain ⟨j, L, n, m, rfl, hj, hm, hm2, q⟩ := h
    obtain ⟨ns, at_, cell, hjl, hLj, hL, hcell, hat⟩ := hj
    have jd : ∀ {H' : Hp} {c : Int}, H' j = some (.lst [.ref L, .int (at_ : Int), .int c]) → H' L = some (.lst (ns.map V.int)) → Dp K H' (.ref j) (.list [.list (ns.map .int), .int (at_ : Int), .int c]) := fun h1 h2 => .lst (sq_of h1) (.cons (.lst (sq_of h2) (ints_dps ns)) (.cons (.int _) (.cons (.int _) .nil)))
    refine ⟨fun σ2 H2 => ∃ (x2 x3 : Option V) (a2 : Nat) (c2 : Int), σ2 = [some (.ref j), some (.int (m : Int)), x2, x3, none] ∧ Mv j H H2 ∧ H2 j = some (.lst [.ref L, .int (a2 : Int), .int c2]) ∧ H2 L = some (.lst (ns.map V.int)) ∧ 0 ≤ c2 ∧ a2 + n ≤ 10000000, ?_, ?_⟩
    · refine s_if (et_test (ed_eqI (ed_ixL (i := 2) (ed_var (jd hjl hL)) (ed_i (n := 2)) rfl) ed_i)) (fun _ H1 s1 => ?_) (fun _ H1 s1 => ?_)
      · have h1 := s1 _ _ hjl
        have hL1 := s1 _ _ hL
        refine s_set (K := K) (ed_ixL (i := 1) (ed_var (jd h1 hL1)) (ed_i (n := 1)) rfl) fun v H2 s2 hv => ?_
        obtain rfl := dpI hv
        have h2 := s2 _ _ h1
        have hL2 := s2 _ _ hL1
        refine s_set (K := K) (d := .int (3 * (at_ : Int) + 5)) (ed_add (ed_mul ed_i (ed_vi rfl) (.inl (by decide))) ed_i) fun v H3 s3 hv => ?_
        obtain rfl := dpI hv
        have h3 := s3 _ _ h2
        have hL3 := s3 _ _ hL2
        refine ⟨fun σ2 H4 => ∃ c : Int, 0 ≤ c ∧ σ2 = [some (.ref j), some (.int (m : Int)), some (.int (at_ : Int)), some (.int c), none] ∧ Same H3 H4, ?_, ?_⟩
        · refine s_if (et_test (ed_lt (ed_vi rfl) (ed_lenL (ed_ixL (i := 0) (ed_var (jd h3 hL3)) (ed_i (n := 0)) rfl)))) (fun hb H4 s4 => ?_) (fun _ H4 s4 => ⟨_, by omega, rfl, s4⟩)
          have hb := of_decide_eq_true hb
          rw [List.length_map] at hb
          have hlt : at_ < ns.length := by omega
          have d4 := jd (s4 _ _ h3) (s4 _ _ hL3)
          have ex : EvD K _ [some (.ref j), some (.int (m : Int)), some (.int (at_ : Int)), some (.int (3 * (at_ : Int) + 5)), none] H4 (.int ns[at_]) := ed_ixL (i := at_) (ed_ixL (i := 0) (ed_var (i := 0) d4) (ed_i (n := 0)) rfl) (ed_vi (i := 2) rfl) (by rw [List.getElem?_map, List.getElem?_eq_getElem hlt]; rfl)
          refine s_set (K := K) (ed_add (ed_mul ed_i (ed_abs ex) (.inl (by decide))) (ed_intB (ed_lt ex ed_i))) fun v H5 s5 hv => ?_
          obtain rfl := dpI hv
          refine ⟨_, ?_, rfl, s4.trans s5⟩
          split <;> split <;> omega
        · rintro σ2 H4 ⟨c, hc, rfl, s4⟩
          refine ⟨fun σ2 H5 => ∃ c : Int, 0 ≤ c ∧ σ2 = [some (.ref j), some (.int (m : Int)), some (.int (at_ : Int)), some (.int c), none] ∧ Same H3 H5, ?_, ?_⟩
          · refine s_if (et_test (K := K) (ed_lt (ed_vi rfl) (ed_powW ed_i ed_i ⟨by decide, by decide⟩))) (fun hb H5 s5 => ?_) (fun _ H5 s5 => ⟨c, hc, rfl, s4.trans s5⟩)
            have hb := of_decide_eq_true hb
            have hb : c < 10 ^ 18 := hb
            refine s_set (K := K) (ed_modN (ed_intI (ed_powW (ed_add (ed_add (ed_mul (ed_vi rfl) ed_i (.inr (by decide))) (ed_mul (ed_vi rfl) ed_i (.inr (by decide)))) ed_i) ed_i ⟨by decide, bits_small (by omega) (by omega)⟩)) ed_i (by decide)) fun v H6 s6 hv => ?_
            obtain rfl := dpI hv
            refine ⟨_, ?_, rfl, (s4.trans s5).trans s6⟩
            exact Int.fmod_nonneg_of_pos _ (by decide)
          · rintro σ2 H5 ⟨c, hc, rfl, s5⟩
            have h5 := s5 _ _ h3
            have hL5 := s5 _ _ hL3
            refine s_item (k := 1) rfl h5 (by simp) (ed_add (ed_vi (K := K) rfl) ed_i) fun v H6 s6 hv => ?_
            obtain rfl := dpI hv
            have e6 : (upd H6 j (.lst [.ref L, .int ((at_ : Int) + 1), .int cell])) j = some (.lst [.ref L, .int ((at_ : Int) + 1), .int cell]) := upd_same
            refine s_item (k := 2) rfl e6 (by simp) (ed_vi (K := K) rfl) fun v H7 s7 hv => ?_
            obtain rfl := dpI hv
            have m6 : Mv j H H6 := Mv.of (((((s1.trans s2).trans s3).trans s5)).trans s6)
            refine ⟨_, _, at_ + 1, c, rfl, (m6.upd.trans (Mv.of s7)).upd, ?_, ?_, hc, by omega⟩
            · rw [show ((at_ + 1 : Nat) : Int) = (at_ : Int) + 1 by omega]
              exact upd_same
            · rw [upd_ne hLj]
              refine s7 _ _ ?_
              rw [upd_ne hLj]
              exact s6 _ _ hL5
      · exact ⟨none, none, at_, cell, rfl, Mv.of s1, s1 _ _ hjl, s1 _ _ hL, hcell, by omega⟩
    · rintro σ2 H2 ⟨x2, x3, a2, c2, rfl, m2, h2, hL2, hc2, ha2⟩
      have d2 : Dp K H2 (.ref j) (.list [.list (ns.map .int), .int (a2 : Int), .int c2]) := .lst (sq_of h2) (.cons (.lst (sq_of hL2) (ints_dps ns)) (.cons (.int _) (.cons (.int _) .nil)))
      refine s_set (K := K) (ed_modN (ed_intI (ed_ixL (i := 2) (ed_var d2) (ed_i (n := 2)) rfl)) (ed_vi rfl) (by omega)) fun v H3 s3 hv => ?_
      obtain rfl := dpI hv
      have d3 := dp_same s3 _ _ d2
      refine s_item (k := 2) rfl (s3 _ _ h2) (by simp) (ed_fdivN (ed_ixL (i := 2) (ed_var d3) (ed_i (n := 2)) rfl) (ed_vi rfl) ⟨by omega, by omega⟩) fun v H4 s4 hv => ?_
      obtain rfl := dpI hv
      have hm0 : (0 : Int) < (m : Int) := by omega
      have hg1 := Int.fmod_nonneg_of_pos c2 hm0
      have hg2 := Int.fmod_lt_of_pos c2 hm0
      refine ⟨_, rfl, ?_⟩
      have hge : ((c2.fmod (m : Int)).toNat : Int) = c2.fmod (m : Int) := Int.toNat_of_nonneg hg1
      have q2 := q (upd H4 j (.lst ([V.ref L, .int (a2 : Int), .int c2].set 2 (.int (c2.fdiv (m : Int)))))) (c2.fmod (m : Int)).toNat ((m2.trans (Mv.of (s3.trans s4))).upd) ⟨ns, a2, c2.fdiv (m : Int), upd_same, hLj, by rw [upd_ne hLj]; exact s4 _ _ (s3 _ _ hL2), Int.fdiv_nonneg hc2 (by omega), ha2⟩ (by omega)
      rw [hge] at q2
      exact q2
end
end G


set_option Elab.async false
set_option linter.all false
set_option maxRecDepth 100000
set_option maxHeartbeats 4000000
namespace G
open PySem PySem.Spec PyProof.Rows L2
section
variable {K : PySem.W.Frag} {σ : L2.St} {H H' : Hp} {ta tb te : TE} {d e : PyData} {D : Ends}
/-- for i in range(n) -/
theorem s_forR {n l : Nat} {ts : TS} (W : Nat → L2.St → Hp → Prop) (he : EvD K te σ H (.int (n : Int))) (hn : n ≤ 1000000) (h0 : ∀ H', Same H H' → W 0 σ H')
    (step : ∀ i σ' H', i < n → W i σ' H' → ts { D with nx := fun σ2 H2 => W (i + 1) σ2 H2, ct := fun σ2 H2 => W (i + 1) σ2 H2, bk := D.nx } (σ'.set l (some (.int (i : Int)))) H') (fin : ∀ σ' H', W n σ' H' → D.nx σ' H') :
    tFor (iRng1 (tCons te tNil)) (gName l) ts D σ H := by
  refine he H (Same.refl H) _ fun v H1 s1 hv => ⟨n, by rw [dpI hv], by omega, by omega, ?_⟩
  refine ⟨fun i m σ' H' => m = n - i ∧ i ≤ n ∧ W i σ' H', ⟨n, rfl, Nat.zero_le _, h0 H1 s1⟩, ?_⟩
  rintro i m σ' H2 ⟨rfl, hi, hw⟩
  by_cases hlt : i < n
  · refine .inr ⟨show i < ((n : Int)).toNat by simpa using hlt, fun σ2 H2 => i + 1 ≤ n ∧ W (i + 1) σ2 H2, fun σ2 H2 ⟨a, b⟩ => ⟨n - (i + 1), by omega, rfl, a, b⟩, fun x H3 y => ?_⟩
    obtain ⟨rfl, rfl⟩ := y
    have := step i σ' H3 hlt hw
    rw [show (0 + (i : Int)) = (i : Int) by omega]
    have e : (fun σ2 H2 => i + 1 ≤ n ∧ W (i + 1) σ2 H2) = fun σ2 H2 => W (i + 1) σ2 H2 := by
      funext σ2 H2
      exact propext ⟨fun h => h.2, fun h => ⟨hlt, h⟩⟩
    rw [e]
    exact this
  · have : i = n := by omega
    subst this
    exact .inl ⟨show ((i : Int)).toNat ≤ i by simp, fin _ _ hw⟩
/-- a draw, in an expression -/
theorem x_take {E : XK} {Q : VK} {i j L n m : Nat} (hj : Jg K H j L (n + 1)) (hv : σ[i]? = some (some (.ref j))) (hm : 1 ≤ m) (hm2 : m ≤ 1000) (he : EvD K te σ H (.int (m : Int))) (q : ∀ H' (g : Nat), Mv j H H' → Jg K H' j L n → g < m → Q (.int (g : Int)) H') :
    tCall (spTake K) [] E (tCons (tVar i) (tCons te tNil)) σ H Q :=
  ⟨_, hv, he H (Same.refl H) _ fun v H1 s1 hd => ⟨j, L, n, m, by rw [dpI hd]; rfl, hj.same s1, hm, hm2, fun H' g mv => q H' g ((Mv.of s1).trans mv)⟩⟩
end
section
variable {P : Program} {w : World} {K : PySem.W.Frag} {mg : Str → Option Value} {base : Heap}
def spJug (K : PySem.W.Frag) : Sp := fun vs H Q _ => ∃ (a : Addr) (ns : List Int), vs = [.ref a] ∧ SqL K H a (ns.map V.int) ∧ ∀ j L H', Same H H' → H j = none → Jg K H' j L 10000000 → Q (.ref j) H'
theorem sc__law_jug : FnScope ["script"] ["script"] (defScope s__law_jug) := ⟨rfl, rfl, rfl, by decide +kernel, rfl, by decide +kernel, by decide +kernel⟩
theorem ok__law_jug (T : Tx K mg)  : Cl P w K mg base CX0 1 "_law_jug" ["script"] (spJug K) := by
  obtain ⟨fd, F⟩ := T.f__law_jug
  refine ⟨_, fd, T.g__law_jug, F.kp, F.bindsN fun _ _ _ _ _ _ us hl => match us, hl with | [_], _ => rfl, F.ok sc__law_jug (fun vs H Q E h => ?_) (fun cdv A outer s H vs Q E hr h => ?_)⟩
  · obtain ⟨a, ns, rfl, _⟩ := h
    rfl
  · refine ⟨_, PSs.nox (pss_one (ps_ret (pe_lst (pa_cons (pe_callTy call_list_of (by rfl) T.b_list PyProof.Rows.Boot.«list» (pa_cons (pv 0) pa_nil)) (pa_cons pe_int (pa_cons pe_int pa_nil)))))), ?_⟩
    obtain ⟨a, ns, rfl, ha, q⟩ := h
    refine ⟨_, rfl, a, ns.map V.int, rfl, .inl ha, fun L hL => ⟨by show 3 ≤ sizeLine; rw [sizeLine_eq]; omega, fun j hj => ?_⟩⟩
    have s1 : Same H (upd H L (.lst (ns.map V.int))) := (Same.refl H).new hL
    have s2 : Same (upd H L (.lst (ns.map V.int))) (upd (upd H L (.lst (ns.map V.int))) j (.lst [.ref L, .int 0, .int 0])) := (Same.refl _).new hj
    have hLj : L ≠ j := fun z => by rw [← z, upd_same] at hj; cases hj
    exact q j L _ (s1.trans s2) (back s1 hj) ⟨ns, 0, 0, upd_same, hLj, s2 _ _ upd_same, by decide, by decide⟩
/-- the shapes that are drawn -/
def shp : Nat → List Nat
  | 0 => [0, 1]
  | 1 => [0, 0, 1]
  | 2 => [0, 0, 2]
  | 3 => [0, 1, 2]
  | _ => [0, 0, 1, 2]
def spLSig (K : PySem.W.Frag) : Sp := fun vs H Q _ => ∃ (j L : Addr) (n : Nat), vs = [.ref j, .int 5] ∧ Jg K H j L (n + 9) ∧ ∀ v H' sg, Mv j H H' → Jg K H' j L n → SgOk sg → sg.length ≤ 4 → Dp K H' v (sigD sg) → Q v H'
theorem shp_ok : ∀ g, g < 5 → (shp g).length ≤ 4 ∧ 2 ≤ (shp g).length ∧ (shp g)[0]? = some 0 ∧ ∀ x ∈ shp g, x ≤ 2 := by decide
def letL : List Nat := [97, 98, 99, 100, 101, 102, 103, 104]
def xyzL : List Nat := [120, 121, 122, 48, 49]
theorem letS : ("abcdefgh" : Str) = S letL := by decide +kernel
theorem xyzS : ("xyz01" : Str) = S xyzL := by decide +kernel
def nmL (a b k : Nat) : List Nat := letL.getD a 97 :: (xyzL.take b ++ numW k)
theorem nmL_low : ∀ a, a < 8 → ∀ b, b < 5 → ∀ k, k < 4 → lowL (nmL a b k) = true ∧ (nmL a b k).length ≤ 6 ∧ (nmL a b k).getLast? = some (48 + k) := by decide +kernel
/-- the entries so far -/
structure SgPre (sg : Sg) (sh : List Nat) (k : Nat) : Prop where
  len : sg.length = k
  ent : ∀ i e, sg[i]? = some e → (∃ a b, a < 8 ∧ b < 5 ∧ e.1 = S (nmL a b i)) ∧ sh[i]? = some e.2
theorem SgPre.ok {sg : Sg} {sh : List Nat} {k : Nat} (h : SgPre sg sh k) (hk : k = sh.length) (h4 : sh.length ≤ 4) (h2 : 2 ≤ sh.length) (h0 : sh[0]? = some 0) (har : ∀ x ∈ sh, x ≤ 2) : SgOk sg ∧ sg.length ≤ 4 := by
  have hl := h.len
  have nm : ∀ e ∈ sg, lowL e.1.cps.toList = true ∧ e.1.length ≤ 10 := fun e he => by
    obtain ⟨i, hi, rfl⟩ := List.getElem_of_mem he
    obtain ⟨⟨a, b, ha, hb, e1⟩, _⟩ := h.ent i _ (List.getElem?_eq_getElem hi)
    obtain ⟨z1, z2, _⟩ := nmL_low a ha b hb i (by omega)
    rw [e1]
    exact ⟨z1, by rw [S_len]; omega⟩
  refine ⟨⟨⟨fun z => by rw [z] at hl; simp at hl; omega, by omega, fun e he => (nm e he).1, fun e he => (nm e he).2, fun e he => ?_, ?_⟩, ?_⟩, by omega⟩
  · obtain ⟨i, hi, rfl⟩ := List.getElem_of_mem he
    obtain ⟨_, e2⟩ := h.ent i _ (List.getElem?_eq_getElem hi)
    exact har _ (List.mem_of_getElem? e2)
  · rw [List.nodup_iff_pairwise_ne, List.pairwise_iff_getElem]
    intro i j hi hj hij
    rw [List.length_map] at hi hj
    rw [List.getElem_map, List.getElem_map]
    intro z
    obtain ⟨⟨a, b, ha, hb, e1⟩, _⟩ := h.ent i _ (List.getElem?_eq_getElem hi)
    obtain ⟨⟨a2, b2, ha2, hb2, e2⟩, _⟩ := h.ent j _ (List.getElem?_eq_getElem hj)
    rw [e1, e2] at z
    have z := S_inj z
    have l1 := (nmL_low a ha b hb i (by omega)).2.2
    have l2 := (nmL_low a2 ha2 b2 hb2 j (by omega)).2.2
    rw [z, l2] at l1
    have := Option.some.inj l1
    omega
  · have hlt : 0 < sg.length := by omega
    refine ⟨sg[0], List.getElem_mem hlt, ?_⟩
    obtain ⟨_, e2⟩ := h.ent 0 _ (List.getElem?_eq_getElem hlt)
    rw [h0] at e2
    exact (Option.some.inj e2).symm
def natsD (l : List Nat) : List PyData := l.map fun (i : Nat) => PyData.int (i : Int)
def natsV (l : List Nat) : List V := (l.map fun (i : Nat) => (i : Int)).map V.int
theorem natsD_eq (l : List Nat) : natsD l = (l.map fun (i : Nat) => (i : Int)).map .int := by simp [natsD]
def shpsD : List PyData := [.list (natsD (shp 0)), .list (natsD (shp 1)), .list (natsD (shp 2)), .list (natsD (shp 3)), .list (natsD (shp 4))]
theorem shps_at : ∀ g, g < 5 → shpsD[g]? = some (.list (natsD (shp g)))
  | 0, _ => rfl
  | 1, _ => rfl
  | 2, _ => rfl
  | 3, _ => rfl
  | 4, _ => rfl
  | n + 5, h => by omega
theorem sc__law_signature : FnScope ["jug", "shapes", "shape", "found", "k"] ["jug", "shapes"] (defScope s__law_signature) := ⟨rfl, rfl, rfl, by decide +kernel, rfl, by decide +kernel, by decide +kernel⟩
theorem ok__law_signature (T : Tx K mg)  : Cl P w K mg base CX0 2 "_law_signature" ["jug", "shapes"] (spLSig K) := by
  obtain ⟨fd, F⟩ := T.f__law_signature
  refine ⟨_, fd, T.g__law_signature, F.kp, F.bindsN fun _ _ _ _ _ _ us hl => match us, hl with | [_, _], _ => rfl, F.ok sc__law_signature (fun vs H Q E h => ?_) (fun cdv A outer s H vs Q E hr h => ?_)⟩
  · obtain ⟨j, L, n, rfl, _⟩ := h
    rfl
  · refine ⟨_, PSs.nox (pss_cons (ps_set (i := 2) sc__law_signature.nd rfl (by first | exact Or.inl rfl | exact Or.inr rfl) (pe_ix ix_list (pe_lst (pa_cons (pe_lst (pa_cons pe_int (pa_cons pe_int pa_nil))) (pa_cons (pe_lst (pa_cons pe_int (pa_cons pe_int (pa_cons pe_int pa_nil)))) (pa_cons (pe_lst (pa_cons pe_int (pa_cons pe_int (pa_cons pe_int pa_nil)))) (pa_cons (pe_lst (pa_cons pe_int (pa_cons pe_int (pa_cons pe_int pa_nil)))) (pa_cons (pe_lst (pa_cons pe_int (pa_cons pe_int (pa_cons pe_int (pa_cons pe_int pa_nil))))) pa_nil)))))) (G.pe_cl (ok__law_take T) hr (by decide) pass0 (pa_cons (pv 0) (pa_cons (pv 1) pa_nil))) (fun _ _ => rfl)))
  (pss_cons (ps_set (i := 3) sc__law_signature.nd rfl (by first | exact Or.inl rfl | exact Or.inr rfl) (pe_lst pa_nil))
  (pss_cons (ps_for PassesOwn.never rfl (pi_range1 (by rfl) T.b_range (pa_cons (pe_callB call_len_seq (by rfl) T.b_len PyProof.Rows.Boot.«len» (pa_cons (pv 2) pa_nil)) pa_nil)) (pg_name (i := 4) sc__law_signature.nd rfl (by first | exact Or.inl rfl | exact Or.inr rfl)) (pss_one (ps_expr (pe_bm PySem.F.plainAttrs_list PySem.F.slot_list_append PySem.F.type_list_append mt_append (pv 3) (pa_cons (pe_tup (pa_cons (pe_op op_add_str (pe_op op_add_str (pe_ix ix_str pe_str (G.pe_cl (ok__law_take T) hr (by decide) pass0 (pa_cons (pv 0) (pa_cons pe_int pa_nil))) (fun _ _ => rfl)) (pe_slice sl_str pe_str po_none (po_some (G.pe_cl (ok__law_take T) hr (by decide) pass0 (pa_cons (pv 0) (pa_cons pe_int pa_nil)))))) (pe_callTy call_str_int (by rfl) T.b_str PyProof.Rows.Boot.«str» (pa_cons (pv 4) pa_nil))) (pa_cons (pe_ix ix_list (pv 2) (pv 4) (fun _ _ => rfl)) pa_nil))) pa_nil)))))
  (pss_one (ps_ret (pe_callTy call_tuple_of (by rfl) T.b_tuple PyProof.Rows.Boot.«tuple» (pa_cons (pv 3) pa_nil))))))), ?_⟩
    obtain ⟨j, L, n, rfl, hj, q⟩ := h
    have key : EvN K (tLst (tCons (tLst (tCons (tC (.int 0)) (tCons (tC (.int 1)) tNil))) (tCons (tLst (tCons (tC (.int 0)) (tCons (tC (.int 0)) (tCons (tC (.int 1)) tNil)))) (tCons (tLst (tCons (tC (.int 0)) (tCons (tC (.int 0)) (tCons (tC (.int 2)) tNil)))) (tCons (tLst (tCons (tC (.int 0)) (tCons (tC (.int 1)) (tCons (tC (.int 2)) tNil)))) (tCons (tLst (tCons (tC (.int 0)) (tCons (tC (.int 0)) (tCons (tC (.int 1)) (tCons (tC (.int 2)) tNil))))) tNil)))))) [some (.ref j), some (.int 5), none, none, none] H shpsD := by
      refine en_lst (ea_cons (ed_ofN (en_lst (ds := natsD (shp 0)) (ea_cons ed_i (ea_cons ed_i ea_nil)) (by decide))) (ea_cons (ed_ofN (en_lst (ds := natsD (shp 1)) (ea_cons ed_i (ea_cons ed_i (ea_cons ed_i ea_nil))) (by decide))) (ea_cons (ed_ofN (en_lst (ds := natsD (shp 2)) (ea_cons ed_i (ea_cons ed_i (ea_cons ed_i ea_nil))) (by decide))) (ea_cons (ed_ofN (en_lst (ds := natsD (shp 3)) (ea_cons ed_i (ea_cons ed_i (ea_cons ed_i ea_nil))) (by decide))) (ea_cons (ed_ofN (en_lst (ds := natsD (shp 4)) (ea_cons ed_i (ea_cons ed_i (ea_cons ed_i (ea_cons ed_i ea_nil)))) (by decide))) ea_nil))))) (by decide)
    unfold tSeq tAsg
    refine key H (Same.refl H) _ fun Lp us H1 s1 hLp hl hus => ?_
    have hj1 := hj.same s1
    refine x_take (n := n + 8) (m := 5) hj1 rfl (by decide) (by decide) (ed_vi rfl) fun H2 g m2 hj2 hg => ?_
    have hLj := (hj.there hLp).1
    obtain ⟨v, hv1, hv2⟩ := hus.get (shps_at g hg)
    refine ⟨Lp, us, (g : Int), v, rfl, rfl, sq_of (m2 _ _ hLj hl), atI_nat hv1, ?_⟩
    cases hv2 with
    | lst hs hvs =>
      rename_i p vs
      rw [natsD_eq] at hvs
      have hvs := dps_ints hvs
      subst hvs
      have hs2 := hj1.ints m2 hs
      obtain ⟨g1, g2, g3, g4⟩ := shp_ok g hg
      generalize shp g = sh at hs2 g1 g2 g3 g4
      have mH2 : Mv j H H2 := (Mv.of s1).trans m2
      clear hus hv1 hl key hs
      refine s_setN (K := K) (en_lst ea_nil (by decide)) fun F us H3 s3 hF hFl hus => ?_
      cases hus
      have mH3 : Mv j H H3 := mH2.trans (Mv.of s3)
      have hF0 : H F = none := by
        cases e : H F with
        | none => rfl
        | some o =>
          by_cases z : F = j
          · exact absurd z (hj2.there hF).1
          · rw [mH2 F o z e] at hF; cases hF
      obtain ⟨hFj, hFL⟩ := hj2.there hF
      have hpF : p ≠ F ∨ ∀ H', SqL K H' p ((sh.map fun (i : Nat) => (i : Int)).map V.int) := by
        rcases hs2 with (h | ⟨o, h⟩) | h
        · exact .inl fun z => by rw [z, hF] at h; cases h
        · exact .inl fun z => by rw [z, hF] at h; cases h
        · exact .inr fun _ => .inr h
      have shL : ∀ {H' : Hp}, SqL K H' p ((sh.map fun (i : Nat) => (i : Int)).map V.int) → Dp K H' (.ref p) (.list (natsD sh)) := fun h => .lst h (by rw [natsD_eq]; exact ints_dps _)
      have shlen : (natsD sh).length = sh.length := by simp [natsD]
      refine s_forR (n := sh.length) (fun i σ' H' => ∃ (sg : Sg) (us : List V) (x4 : Option V), σ' = [some (.ref j), some (.int 5), some (.ref p), some (.ref F), x4] ∧ Mv j H H' ∧ Jg K H' j L (n + 2 * (sh.length - i)) ∧ H' F = some (.lst us) ∧ DpAll K H' us (sg.map entD) ∧ SgPre sg sh i ∧ SqL K H' p ((sh.map fun (i : Nat) => (i : Int)).map V.int))
        ((ed_lenL (ed_var (shL (s3.seq hs2)))).to (by rw [shlen])) (by omega) (fun H4 s4 => ⟨[], [], none, rfl, mH3.trans (Mv.of s4), ((hj2.same s3).same s4).mono (by omega), s4 _ _ hFl, .nil, ⟨rfl, fun i e h => by simp at h⟩, s4.seq (s3.seq hs2)⟩) ?_ ?_
      · rintro i σ' H4 hi ⟨sg, us, x4, rfl, m4, hj4, hF4, hus4, pre, hs4⟩
        have hul : us.length = i := by rw [hus4.len, List.length_map, pre.len]
        have e2 : n + 2 * (sh.length - i) = (n + 2 * (sh.length - (i + 1))) + 1 + 1 := by omega
        rw [e2] at hj4
        refine ⟨_, rfl, lst_ty hF4, ?_⟩
        refine x_take (m := 8) hj4 rfl (by decide) (by decide) ed_i fun H5 a m5 hj5 ha => ?_
        have hla : letL[a]? = some (letL.getD a 97) := by
          have : a < letL.length := by simpa [letL] using ha
          rw [List.getD_eq_getElem?_getD, List.getElem?_eq_getElem this]; rfl
        refine ⟨S letL, (a : Int), letL.getD a 97, by rw [letS], rfl, by rw [S_len]; decide, atI_nat hla, ?_⟩
        refine x_take (m := 5) hj5 rfl (by decide) (by decide) ed_i fun H6 b m6 hj6 hb => ?_
        refine ⟨(b : Int), rfl, S xyzL, by rw [xyzS], by rw [S_len]; decide, ?_⟩
        have ecut : cutS (S xyzL) none (some (b : Int)) = S (xyzL.take b) := by
          unfold cutS
          rw [S_len, HT.sIx_none, HT.sIx_nat]
          have : b ≤ xyzL.length := by show b ≤ 5; omega
          rw [Nat.min_eq_left this]
          simp
        rw [ecut]
        refine ⟨_, _, rfl, rfl, ?_, ?_⟩
        · rw [show (⟨#[letL.getD a 97]⟩ : Str) = S [letL.getD a 97] from rfl, S_len, S_len]
          have : (xyzL.take b).length ≤ 5 := by simp [xyzL]; omega
          exact sz_of (by simp; omega)
        rw [show (⟨#[letL.getD a 97]⟩ : Str) = S [letL.getD a 97] from rfl, S_cat]
        have hil : i < 4 := by omega
        refine (ed_strI (K := K) (σ := [some (.ref j), some (.int 5), some (.ref p), some (.ref F), some (.int (i : Int))]) (ed_vi (i := 4) rfl) (by omega)) H6 (Same.refl H6) _ fun vk H7 s7 hvk => ?_
        refine ⟨_, _, rfl, dpS hvk, ?_, ?_⟩
        · rw [S_len, S_len]
          have : (xyzL.take b).length ≤ 5 := by simp [xyzL]; omega
          have := (numW_ok i (by omega)).2.1
          exact sz_of (by simp; omega)
        rw [S_cat]
        have m47 : Mv j H4 H7 := (m5.trans m6).trans (Mv.of s7)
        have hs7 := hj4.ints m47 hs4
        obtain ⟨y, hy⟩ : ∃ y, sh[i]? = some y := ⟨_, List.getElem?_eq_getElem hi⟩
        have eix : EvD K (tOp (rIxL K) (tVar 2) (tVar 4)) [some (.ref j), some (.int 5), some (.ref p), some (.ref F), some (.int (i : Int))] H7 (.int (y : Int)) := ed_ixL (i := i) (ed_var (i := 2) (shL hs7)) (ed_vi (i := 4) rfl) (by simp [natsD, hy])
        refine eix H7 (Same.refl H7) _ fun vy H8 s8 hvy => ?_
        obtain rfl := dpI hvy
        refine ⟨by show 2 ≤ sizeLine; rw [sizeLine_eq]; omega, fun pp hpp => ?_⟩
        have m48 : Mv j H4 H8 := m47.trans (Mv.of s8)
        have hF8 := m48 _ _ hFj hF4
        have hFpp : F ≠ pp := fun z => by rw [← z, hF8] at hpp; cases hpp
        have s9 : Same H8 (upd H8 pp (.tup [.str (S ([letL.getD a 97] ++ xyzL.take b ++ numW i)), .int (y : Int)])) := (Same.refl H8).new hpp
        have hj9 := ((hj6.same s7).same s8).same s9
        refine ⟨F, us, .ref pp, rfl, rfl, s9 _ _ hF8, sz_lt (by omega), ?_⟩
        have hus9 := dps_same s9 _ _ (dps_kt (hj4.kt m48) _ _ (entD_tt sg) hus4)
        have hd9 : Dp K (upd H8 pp (.tup [.str (S ([letL.getD a 97] ++ xyzL.take b ++ numW i)), .int (y : Int)])) (.ref pp) (entD (S (nmL a b i), y)) := .tup (st_of upd_same) (.cons (.str _) (.cons (.int _) .nil))
        have hF9 := s9 _ _ hF8
        have hs9 := s9.seq (s8.seq hs7)
        have m49 := m48.trans (Mv.of s9)
        generalize upd H8 pp (.tup [.str (S ([letL.getD a 97] ++ xyzL.take b ++ numW i)), .int (y : Int)]) = H9 at hus9 hd9 hF9 hs9 hj9 m49
        have k9 : Kt H9 (upd H9 F (.lst (us ++ [.ref pp]))) := Kt.rfl'.lst hF9
        refine ⟨sg ++ [(S (nmL a b i), y)], us ++ [.ref pp], _, rfl, (m4.trans m49).own hF0, hj9.other hFj hFL, upd_same, ?_, ⟨by simp [pre.len], fun i2 e he => ?_⟩, ?_⟩
        · rw [List.map_append]
          exact (dps_kt k9 _ _ (entD_tt sg) hus9).snoc (dp_kt k9 _ _ rfl hd9)
        · rcases Nat.lt_or_ge i2 sg.length with h | h
          · rw [List.getElem?_append_left h] at he
            exact pre.ent i2 e he
          · rw [List.getElem?_append_right h] at he
            have : i2 - sg.length = 0 := by
              rcases Nat.eq_zero_or_pos (i2 - sg.length) with z | z
              · exact z
              · rw [List.getElem?_eq_none (by simp; omega)] at he; cases he
            rw [this] at he
            obtain rfl := Option.some.inj he
            have ei : i2 = i := by have := pre.len; omega
            subst ei
            exact ⟨⟨a, b, ha, hb, rfl⟩, hy⟩
        · rcases hpF with e | e
          · rcases hs9 with (h | ⟨o, h⟩) | h
            · refine .inl (.inl ?_)
              show upd H9 F _ p = _
              rw [upd_ne e]; exact h
            · refine .inl (.inr ⟨o, ?_⟩)
              show upd H9 F _ p = _
              rw [upd_ne e]; exact h
            · exact .inr h
          · exact e _
      · rintro σ' H4 ⟨sg, us, x4, rfl, m4, hj4, hF4, hus4, pre, hs4⟩
        obtain ⟨ok, len⟩ := pre.ok rfl g1 g2 g3 g4
        refine s_ret (K := K) (ed_tupL (ed_lstV rfl hF4 hus4)) fun v H5 s5 hv => ?_
        exact q v H5 sg (m4.trans (Mv.of s5)) ((hj4.same s5).mono (by omega)) ok len hv
end
end G


set_option Elab.async false
set_option linter.all false
set_option maxRecDepth 100000
set_option maxHeartbeats 4000000
namespace G
open PySem PySem.Spec PyProof.Rows L2
/-! ### a comprehension whose elements draw -/
theorem Kt.of {H H' : Hp} (s : Same H H') : Kt H H' := fun b o _ e => s b o e
theorem tts_mem : ∀ {l : List PyData} {d : PyData}, tts l = true → d ∈ l → tt d = true
  | [], _, _, h => by cases h
  | a :: l, d, t, h => by
    simp only [tts, Bool.and_eq_true] at t
    rcases List.mem_cons.mp h with rfl | h
    · exact t.1
    · exact tts_mem t.2 h
structure WkJ (K : PySem.W.Frag) (j : Addr) (J : It) (H0 : Hp) (xs : List PyData) : Prop where
  goes : ∀ i H, i < xs.length → Mv j H0 H → J.go i H
  stops : ∀ H, Mv j H0 H → J.stop xs.length H
  yields : ∀ i H x H' d, xs[i]? = some d → Mv j H0 H → Kt H0 H → J.yld i H x H' → H' = H ∧ Dp K H' x d
def EvJ (K : PySem.W.Frag) (j : Addr) (wi : TI) (σ : L2.St) (H : Hp) (xs : List PyData) : Prop := ∀ R : It → Hp → Prop, (∀ J H2, Same H H2 → WkJ K j J H2 xs → R J H2) → wi σ H R
section
variable {K : PySem.W.Frag} {σ : L2.St} {H H' : Hp} {ta tb te tl : TE} {d e : PyData} {D : Ends} {j L : Addr}
theorem j_lc {wi : TI} {g : TG} {vs : List Nat} {xs : List PyData} {m c : Nat} {φ : Nat → PyData → Prop} {Q : VK}
    (hj : Jg K H j L (m + xs.length * c)) (hl : xs.length ≤ 1000) (htt : ∀ i d, φ i d → tt d = true) (hi : EvJ K j wi σ H xs)
    (hel : ∀ i x v H1 m', xs[i]? = some x → Mv j H H1 → Dp K H1 v x → Jg K H1 j L (m' + c) → ∀ W : L2.St → Hp → Prop, (∀ σ2, wipe σ2 vs = wipe σ vs → (∀ Q : VK, (∀ y H2 d, Mv j H1 H2 → Jg K H2 j L m' → Dp K H2 y d → φ i d → Q y H2) → te σ2 H1 Q) → W σ2 H1) → g v (wipe σ vs) H1 W)
    (q : ∀ p us ds H', Mv j H H' → Jg K H' j L m → H p = none → H' p = some (.lst us) → DpAll K H' us ds → ds.length = xs.length → (∀ i d, ds[i]? = some d → φ i d) → Q (.ref p) H') : tLc wi g tYes te vs σ H Q := by
  refine hi _ fun J H2 s2 w D hD => ?_
  obtain ⟨hDj, hDL⟩ := (hj.same s2).there hD
  refine ⟨fun n k H' => k = xs.length - n ∧ n ≤ xs.length ∧ Mv j H2 H' ∧ Kt H2 H' ∧ Jg K H' j L (m + (xs.length - n) * c) ∧ ∃ acc ds, H' D = some (.lst acc) ∧ DpAll K H' acc ds ∧ ds.length = n ∧ ∀ i d, ds[i]? = some d → φ i d,
    ⟨xs.length, rfl, Nat.zero_le _, Mv.of ((Same.refl H2).new hD), Kt.of ((Same.refl H2).new hD), (hj.same s2).same ((Same.refl H2).new hD), [], [], upd_same, .nil, rfl, fun i d h => by simp at h⟩, ?_⟩
  rintro n k H3 ⟨rfl, hn, m3, k3, hj3, acc, ds, hacc, hdp, hdl, hφ⟩
  by_cases hlt : n < xs.length
  · refine .inr ⟨w.goes n H3 hlt m3, fun H' => n + 1 ≤ xs.length ∧ Mv j H2 H' ∧ Kt H2 H' ∧ Jg K H' j L (m + (xs.length - (n + 1)) * c) ∧ ∃ acc ds, H' D = some (.lst acc) ∧ DpAll K H' acc ds ∧ ds.length = n + 1 ∧ ∀ i d, ds[i]? = some d → φ i d, fun H' ⟨a, b⟩ => ⟨xs.length - (n + 1), by omega, rfl, a, b⟩, fun x H4 y => ?_⟩
    have hx : xs[n]? = some xs[n] := by simp [hlt]
    obtain ⟨e4, hxd⟩ := w.yields n H3 x H4 _ hx m3 k3 y
    have s4 : Same H3 H4 := by rw [e4]; exact Same.refl _
    have hj4 := hj3.same s4
    have e : m + (xs.length - n) * c = (m + (xs.length - (n + 1)) * c) + c := by
      have : xs.length - n = (xs.length - (n + 1)) + 1 := by omega
      rw [this, Nat.add_mul]; omega
    rw [e] at hj4
    refine hel n _ x H4 _ hx ((Mv.of s2).trans (m3.trans (Mv.of s4))) hxd hj4 _ fun σ2 hw he => ⟨hw, ?_⟩
    unfold tYes
    dsimp only
    simp only [if_true]
    refine he _ fun z H5 d m5 hj5 hz hd => ?_
    have hacc5 := m5 _ _ hDj (s4 _ _ hacc)
    have k45 := hj4.kt m5
    have hal := hdp.len
    have htts : tts ds = true := tts_of fun d hd => by
      obtain ⟨i, hi, rfl⟩ := List.getElem_of_mem hd
      exact htt i _ (hφ i _ (List.getElem?_eq_getElem hi))
    have hk : Kt H5 (L2.upd H5 D (.lst (acc ++ [z]))) := Kt.rfl'.lst hacc5
    refine ⟨acc, hacc5, sz_lt (by omega), hlt, ((m3.trans (Mv.of s4)).trans m5).own hD, ?_, hj5.other hDj hDL, acc ++ [z], ds ++ [d], upd_same, ?_, by simp [hdl], fun i d' hd' => ?_⟩
    · exact ((k3.trans (Kt.of s4)).trans k45).trans hk
    · exact (dps_kt hk _ _ htts (dps_kt k45 _ _ htts (dps_same s4 _ _ hdp))).snoc (dp_kt hk _ _ (htt _ _ hd) hz)
    · rcases Nat.lt_or_ge i ds.length with h | h
      · rw [List.getElem?_append_left h] at hd'
        exact hφ i d' hd'
      · rw [List.getElem?_append_right h] at hd'
        have : i - ds.length = 0 := by
          rcases Nat.eq_zero_or_pos (i - ds.length) with z | z
          · exact z
          · rw [List.getElem?_eq_none (by simp; omega)] at hd'; cases hd'
        rw [this] at hd'
        obtain rfl := Option.some.inj hd'
        have : i = n := by omega
        subst this
        exact hd
  · have e : n = xs.length := by omega
    subst e
    rw [Nat.sub_self, Nat.zero_mul] at hj3
    exact .inl ⟨w.stops H3 m3, q D acc ds H3 ((Mv.of s2).trans m3) hj3 (back s2 hD) hacc hdp hdl hφ⟩
theorem ej_range {n : Int} (h : EvD K ta σ H (.int n)) (hn : n ≤ 1000000) (h0 : 0 ≤ n) : EvJ K j (iRng1 (tCons ta tNil)) σ H (intsD n.toNat) := fun R q => h H (Same.refl H) _ fun v H2 s2 hv =>
  ⟨n, by rw [dpI hv], by omega, by omega, q _ H2 s2
    { goes := fun i H3 hi _ => by show i < n.toNat; simpa [intsD] using hi
      stops := fun H3 _ => by show n.toNat ≤ _; simp [intsD]
      yields := fun i H3 y H4 d hd _ _ hy => by
        obtain ⟨e, e2⟩ := hy
        subst e e2
        have hi : i < n.toNat := by
          have := (List.getElem?_eq_some_iff.mp hd).1
          simpa [intsD] using this
        have : d = .int (0 + (i : Int)) := by
          have e3 : (intsD n.toNat)[i]? = some (.int (i : Int)) := by simp [intsD, hi]
          rw [e3] at hd
          rw [← Option.some.inj hd]; simp
        rw [this]
        exact ⟨rfl, .int _⟩ }⟩
/-- over a list at a name that is not the jug -/
theorem ej_list {i : Nat} {p : Addr} {us : List V} {xs : List PyData} (hi : σ[i]? = some (some (.ref p))) (hp : H p = some (.lst us)) (hpj : p ≠ j) (hv : DpAll K H us xs) (htt : tts xs = true) : EvJ K j (iList K (tVar i)) σ H xs := fun R q =>
  ⟨_, hi, p, rfl, ⟨us, sq_of hp⟩, q _ H (Same.refl H)
    { goes := fun i H1 hi s => by
        have : i < us.length := by rw [hv.len]; exact hi
        exact ⟨us, us[i], sq_of (s _ _ hpj hp), by simp [this]⟩
      stops := fun H1 s => ⟨us, sq_of (s _ _ hpj hp), by rw [hv.len]; exact Nat.le_refl _⟩
      yields := fun i H1 x H2 d hd s k y => by
        obtain ⟨e, y⟩ := y
        subst e
        have h1 := y us (sq_of (s _ _ hpj hp))
        obtain ⟨v, h2, h3⟩ := hv.get hd
        rw [h1] at h2
        cases h2
        refine ⟨rfl, dp_kt k d x ?_ h3⟩
        exact tts_mem htt (List.mem_of_getElem? hd) }⟩
end

/-- the arity of a symbol -/
def arOf (sg : Sg) (i : Nat) : Int := match sg[i]? with
  | some e => (e.2 : Int)
  | none => 0
theorem arOf_at {sg : Sg} {i : Nat} {e : Str × Nat} (h : sg[i]? = some e) : arOf sg i = (e.2 : Int) := by simp [arOf, h]
section
variable {K : PySem.W.Frag} {σ : L2.St} {H H' : Hp} {ta tb te tl : TE}
theorem ed_ar {sg : Sg} {i a b : Nat} {v : V} {e : Str × Nat} (hv : Dp K H v (sigD sg)) (ha : σ[a]? = some (some v)) (hb : σ[b]? = some (some (.int (i : Int)))) (he : sg[i]? = some e) : EvD K (tOp (rIxT K) (tOp (rIxT K) (tVar a) (tVar b)) (tC (.int 1))) σ H (.int (arOf sg i)) :=
  (ed_ixT (d := .int (e.2 : Int)) (ed_ixT (d := entD e) (ed_var (i := a) hv ha) (ed_vi (i := b) hb) (atI_nat (by rw [List.getElem?_map, he]; rfl))) ed_i rfl).to (by rw [arOf_at he])
theorem op_in {r : R2} {Q : VK} (h : ta σ H fun x H1 => tb σ H1 fun y H2 => r x y H2 Q) : tOp r ta tb σ H Q := h
theorem ret_in {D : Ends} (h : te σ H D.rt) : tRet te D σ H := h
theorem name_in {W : L2.St → Hp → Prop} {i : Nat} {v : V} (h : W (σ.set i (some v)) H) : gName i v σ H W := h
theorem cb_in {r : List V → Hp → VK → Prop} {ts : TA} {Q : VK} (h : ts σ H fun xs H1 => r xs H1 Q) : tCB r ts σ H Q := h
theorem one_in {Q : List V → Hp → Prop} (h : te σ H fun v H1 => Q [v] H1) : tCons te tNil σ H Q := h
theorem catA_of {x y : V} {xs ys : List PyData} {Q : VK} (hx : Dp K H x (.tuple xs)) (hy : Dp K H y (.tuple ys)) (hl : xs.length + ys.length ≤ 1000) (q : ∀ v H', Same H H' → Dp K H' v (.tuple (xs ++ ys)) → Q v H') : rCatA K x y H Q := by
  have h := ed_catT (K := K) (σ := [some x, some y]) (ta := tVar 0) (tb := tVar 1) (ed_var hx) (ed_var hy) hl H (Same.refl H) Q q
  obtain ⟨v, hv, w, hw, h⟩ := h
  cases hv
  cases hw
  exact h
end
theorem mk_ok {sg : Sg} {f : Nat} {e : Str × Nat} {ts : List Tr} (h : sg[f]? = some e) (hl : ts.length = e.2) (h2 : e.2 ≤ 2) (ht : ∀ t ∈ ts, Tr.ok sg t) : Tr.ok sg (mkT f ts) := by
  obtain ⟨x, a⟩ := e
  dsimp only at hl h2
  match ts, hl, h2 with
  | [], hl, _ => exact ⟨x, by rw [h, ← hl]; rfl⟩
  | [t], hl, _ => exact ⟨⟨x, by rw [h, ← hl]; rfl⟩, ht t (by simp)⟩
  | [t, u], hl, _ => exact ⟨⟨x, by rw [h, ← hl]; rfl⟩, ht t (by simp), ht u (by simp)⟩
  | _ :: _ :: _ :: _, hl, h2 => simp at hl; omega
theorem mk_dep {f : Nat} {ts : List Tr} {n : Nat} (h2 : ts.length ≤ 2) (ht : ∀ t ∈ ts, t.dep ≤ n) : (mkT f ts).dep ≤ n + 1 := by
  match ts, h2 with
  | [], _ => simp [mkT, Tr.dep]
  | [t], _ => have := ht t (by simp); simp [mkT, Tr.dep]; omega
  | [t, u], _ => have := ht t (by simp); have := ht u (by simp); simp [mkT, Tr.dep]; omega
  | _ :: _ :: _ :: _, h2 => simp at h2
theorem mk_size {f : Nat} {ts : List Tr} {n : Nat} (h2 : ts.length ≤ 2) (ht : ∀ t ∈ ts, t.size ≤ n) : (mkT f ts).size ≤ 2 * n + 1 := by
  match ts, h2 with
  | [], _ => simp [mkT, Tr.size]
  | [t], _ => have := ht t (by simp); simp [mkT, Tr.size]; omega
  | [t, u], _ => have := ht t (by simp); have := ht u (by simp); simp [mkT, Tr.size]; omega
  | _ :: _ :: _ :: _, h2 => simp at h2
theorem trs_of {φ : Tr → Prop} : ∀ {ds : List PyData}, (∀ d ∈ ds, ∃ t, d = t.toD ∧ φ t) → ∃ ts : List Tr, ds = ts.map Tr.toD ∧ ∀ t ∈ ts, φ t
  | [], _ => ⟨[], rfl, fun t h => by cases h⟩
  | d :: ds, h => by
    obtain ⟨t, rfl, ht⟩ := h d List.mem_cons_self
    obtain ⟨ts, rfl, hts⟩ := trs_of (ds := ds) fun d hd => h d (List.mem_cons_of_mem _ hd)
    exact ⟨t :: ts, rfl, fun u hu => by
      rcases List.mem_cons.mp hu with rfl | hu
      · exact ht
      · exact hts u hu⟩
def cT : Nat → Nat
  | 0 => 1
  | n + 1 => 2 * cT n + 1
theorem cT_pos (n : Nat) : 0 < cT n := by cases n <;> simp [cT]
def spLTree (K : PySem.W.Frag) (N : Nat) : Sp := fun vs H Q _ => ∃ (j L : Addr) (m deep : Nat) (sg : Sg) (vsg : V), vs = [.ref j, vsg, .int (deep : Int)] ∧ deep < N ∧ deep ≤ 10 ∧ SgOk sg ∧ Jg K H j L (m + cT deep) ∧ Dp K H vsg (sigD sg) ∧
  ∀ v H' t, Mv j H H' → Jg K H' j L m → Tr.ok sg t → t.size ≤ cT deep → t.dep ≤ deep + 1 → Dp K H' v t.toD → Q v H'
section
variable {P : Program} {w : World} {K : PySem.W.Frag} {mg : Str → Option Value} {base : Heap}
theorem sc__law_tree : FnScope ["jug", "signature", "deep", "some", "f", "k"] ["jug", "signature", "deep"] (defScope s__law_tree) := ⟨rfl, rfl, rfl, by decide +kernel, rfl, by decide +kernel, by decide +kernel⟩
theorem ok__law_tree (T : Tx K mg) (n : Nat) (ih : Cl P w K mg base CX0 (20 + n) "_law_tree" ["jug", "signature", "deep"] (spLTree K n))  : Cl P w K mg base CX0 (20 + n + 1) "_law_tree" ["jug", "signature", "deep"] (spLTree K (n + 1)) := by
  obtain ⟨fd, F⟩ := T.f__law_tree
  refine ⟨_, fd, T.g__law_tree, F.kp, F.bindsN fun _ _ _ _ _ _ us hl => match us, hl with | [_, _, _], _ => rfl, F.ok sc__law_tree (fun vs H Q E h => ?_) (fun cdv A outer s H vs Q E hr h => ?_)⟩
  · obtain ⟨j, L, m, deep, sg, vsg, rfl, _⟩ := h
    rfl
  · refine ⟨_, PSs.nox (pss_cons (ps_setLc (i := 3) (own := [("f", 4)]) (g := (gName 4)) rfl sc__law_tree.nd rfl rfl (sw_true rfl rfl rfl (by decide +kernel)) (pi_range1 (by rfl) T.b_range (pa_cons (pe_callB call_len_seq (by rfl) T.b_len PyProof.Rows.Boot.«len» (pa_cons (pv 1) pa_nil)) pa_nil)) (blkOk_by (own := [("f", 4)]) (N := ["jug", "signature", "deep", "some", "f", "k"]) (sc := defScope s__law_tree) (by decide +kernel)) (fun _ _ _ _ _ => (pg_name (i := 4) sc__law_tree.nd rfl (by first | exact Or.inl rfl | exact Or.inr rfl))) (fun _ _ _ _ _ => pts_one (show PT _ _ (tOr (tTest (tOp (rI0 fun i j => V.bl (decide (j < i))) (tVar 2) (tC (.int 0)))) (tTest (tOp rEq (tOp (rIxT K) (tOp (rIxT K) (tVar 1) (tVar 4)) (tC (.int 1))) (tC (.int 0))))) from (PW.pt (pw_or (pt_cmpR op_gt (pv 2) pe_int (nomark _)) (pw_or1 (pt_cmpR op_eq (pe_ix ix_tup (pe_ix ix_tup (pv 1) (pv 4) (fun _ _ => rfl)) pe_int (fun _ _ => rfl)) pe_int (nomark _))))))) (fun _ _ _ _ _ => (pv 4)))
  (pss_cons (ps_set (i := 4) sc__law_tree.nd rfl (by first | exact Or.inl rfl | exact Or.inr rfl) (pe_ix ix_list (pv 3) (G.pe_cl (ok__law_take T) hr (by omega) pass0 (pa_cons (pv 0) (pa_cons (pe_callB call_len_seq (by rfl) T.b_len PyProof.Rows.Boot.«len» (pa_cons (pv 3) pa_nil)) pa_nil))) (fun _ _ => rfl)))
  (pss_one (ps_ret (pe_op op_catA (pe_tup (pa_cons (pv 4) pa_nil)) (pe_callTy call_tuple_of (by rfl) T.b_tuple PyProof.Rows.Boot.«tuple» (pa_cons (pe_lc (own := [("k", 5)]) (g := (gName 5)) rfl sc__law_tree.nd (pi_range1 (by rfl) T.b_range (pa_cons (pe_ix ix_tup (pe_ix ix_tup (pv 1) (pv 4) (fun _ _ => rfl)) pe_int (fun _ _ => rfl)) pa_nil)) (blkOk_by (own := [("k", 5)]) (N := ["jug", "signature", "deep", "some", "f", "k"]) (sc := defScope s__law_tree) (by decide +kernel)) (fun _ _ _ _ _ => (pg_name (i := 5) sc__law_tree.nd rfl (by first | exact Or.inl rfl | exact Or.inr rfl))) (fun _ _ _ _ _ => pts_nil) (fun _ _ _ _ _ => (G.pe_cl ih hr (by omega) pass0 (pa_cons (pv 0) (pa_cons (pv 1) (pa_cons (pe_op op_sub (pv 2) pe_int) pa_nil)))))) pa_nil))))))), ?_⟩
    obtain ⟨j, L, m, deep, sg, vsg, rfl, hdN, hd10, hs, hj, hsg, q⟩ := h
    have hfew := hs.1.few
    have hln : (List.range sg.length).length ≤ 100000 := by rw [List.length_range]; omega
    have hat : ∀ i ∈ List.range sg.length, ∃ e, sg[i]? = some e := fun i hi => ⟨sg[i]'(List.mem_range.mp hi), List.getElem?_eq_getElem (List.mem_range.mp hi)⟩
    refine s_setN (K := K) (en_lcP (List.range sg.length) (fun (i : Nat) => .int (i : Int)) (fun i => decide ((0 : Int) < (deep : Int)) || decide (arOf sg i = 0)) (fun (i : Nat) => .int (i : Int)) ?_ hln (fun _ _ _ => rfl) fun i hi v H1 s1 hv W hW => ?_) fun F us H1 s1 hF hFl hus => ?_
    · have := ei_range (K := K) (σ := [some (.ref j), some vsg, some (.int (deep : Int)), none, none, none]) (ed_lenT (ed_var (i := 1) hsg)) (by rw [List.length_map]; omega) (by omega)
      rw [List.length_map] at this
      exact this
    · obtain ⟨e, he⟩ := hat i hi
      obtain rfl := dpI hv
      exact hW _ wipe_set1 (et_or (et_test (K := K) (ed_gt (ed_vi rfl) ed_i)) fun _ => et_test (ed_eqI (ed_ar (dp_same s1 _ _ hsg) rfl rfl he) ed_i)) fun _ => ed_vi rfl
    have hflm : ∀ x ∈ (List.range sg.length).filter (fun i => decide ((0 : Int) < (deep : Int)) || decide (arOf sg i = 0)), x < sg.length ∧ (0 < deep ∨ arOf sg x = 0) := fun x hx => by
      obtain ⟨h1, h2⟩ := List.mem_filter.mp hx
      refine ⟨List.mem_range.mp h1, ?_⟩
      rcases Bool.or_eq_true_iff.mp h2 with h | h
      · exact .inl (by have := of_decide_eq_true h; omega)
      · exact .inr (of_decide_eq_true h)
    have hfl1 : 1 ≤ ((List.range sg.length).filter (fun i => decide ((0 : Int) < (deep : Int)) || decide (arOf sg i = 0))).length := by
      obtain ⟨e, he, h0⟩ := hs.2
      obtain ⟨i, hi, rfl⟩ := List.getElem_of_mem he
      refine List.length_pos_of_mem (a := i) (List.mem_filter.mpr ⟨List.mem_range.mpr hi, ?_⟩)
      rw [arOf_at (List.getElem?_eq_getElem hi), h0]
      simp
    have hfl2 : ((List.range sg.length).filter (fun i => decide ((0 : Int) < (deep : Int)) || decide (arOf sg i = 0))).length ≤ 1000 := by
      have := List.length_filter_le (fun i => decide ((0 : Int) < (deep : Int)) || decide (arOf sg i = 0)) (List.range sg.length)
      rw [List.length_range] at this
      omega
    generalize (List.range sg.length).filter (fun i => decide ((0 : Int) < (deep : Int)) || decide (arOf sg i = 0)) = fl at hus hflm hfl1 hfl2
    have hj1 := hj.same s1
    have hcp := cT_pos deep
    rw [show m + cT deep = (m + cT deep - 1) + 1 by omega] at hj1
    unfold tAsg
    refine ⟨_, rfl, ?_⟩
    refine x_take (m := fl.length) hj1 rfl hfl1 hfl2 ((ed_lenL (ed_lstV rfl hFl hus)).to (by rw [List.length_map])) fun H2 g m2 hj2 hg => ?_
    have hFj := (hj.there hF).1
    obtain ⟨v, hv1, hv2⟩ := hus.get (i := g) (d := .int (fl[g] : Int)) (by rw [List.getElem?_map, List.getElem?_eq_getElem hg]; rfl)
    obtain rfl := dpI hv2
    have m2t : Mv j H H2 := (Mv.of s1).trans m2
    refine ⟨F, us, (g : Int), _, rfl, rfl, sq_of (m2 _ _ hFj hFl), atI_nat hv1, ?_⟩
    obtain ⟨hf1, hf2⟩ := hflm fl[g] (List.getElem_mem hg)
    generalize fl[g] = f at *
    have hse : sg[f]? = some sg[f] := List.getElem?_eq_getElem hf1
    have hear : sg[f].2 ≤ 2 := hs.1.ar _ (List.getElem_mem hf1)
    generalize sg[f] = e at *
    rw [arOf_at hse] at hf2
    have hsg2 : Dp K H2 vsg (sigD sg) := dp_kt (hj1.kt m2) _ _ (by simp [sigD, tt, entD_tt]) (dp_same s1 _ _ hsg)
    refine name_in ?_
    dsimp only
    refine ret_in (op_in ?_)
    refine (ed_tup (K := K) (σ := [some (.ref j), some vsg, some (.int (deep : Int)), some (.ref F), some (.int (f : Int)), none]) (ds := [.int (f : Int)]) (ea_cons (ed_vi (i := 4) rfl) ea_nil) (by exact (by decide : 1 ≤ 1000))) H2 (Same.refl H2) _ fun v1 H3 s3 hv1 => ?_
    have hj3 := hj2.same s3
    have hxl : (intsD e.2).length = e.2 := by simp [intsD]
    have hcost : m + (intsD e.2).length * cT (deep - 1) ≤ m + cT deep - 1 := by
      rw [hxl]
      cases deep with
      | zero =>
        have : e.2 = 0 := by omega
        rw [this]; simp [cT]
      | succ d =>
        have : e.2 * cT d ≤ 2 * cT d := Nat.mul_le_mul_right _ hear
        simp [cT]; omega
    refine cb_in (one_in ?_)
    refine j_lc (K := K) (m := m) (c := cT (deep - 1)) (xs := intsD e.2) (φ := fun _ d => ∃ t : Tr, d = t.toD ∧ Tr.ok sg t ∧ t.size ≤ cT (deep - 1) ∧ t.dep ≤ deep) (hj3.mono hcost) (by omega) (fun i d h => ?_) ?_ (fun i x v H4 m' hx m4 hv hj4 W hW => ?_) fun p us ds H4 m4 hj4 hp hpl hds hdl hφ => ?_
    · obtain ⟨t, rfl, _⟩ := h
      exact t.toD_tt
    · have := ej_range (K := K) (j := j) (σ := [some (.ref j), some vsg, some (.int (deep : Int)), some (.ref F), some (.int (f : Int)), none]) (H := H3) ((ed_ar (i := f) (a := 1) (b := 4) (dp_same s3 _ _ hsg2) rfl rfl hse).to (by rw [arOf_at hse])) (by omega) (by omega)
      exact this
    · have hi : i < e.2 := by have := (List.getElem?_eq_some_iff.mp hx).1; omega
      refine hW _ wipe_set1 fun Q q => ?_
      have hsg4 : Dp K H4 vsg (sigD sg) := dp_kt (hj3.kt m4) _ _ (by simp [sigD, tt, entD_tt]) (dp_same s3 _ _ hsg2)
      refine ⟨_, rfl, _, rfl, ?_⟩
      refine (ed_sub (K := K) (ed_vi rfl) ed_i) H4 (Same.refl H4) _ fun w H5 s5 hw => ?_
      obtain rfl := dpI hw
      have ed : ((deep : Int) - 1) = ((deep - 1 : Nat) : Int) := by omega
      rw [ed]
      exact ⟨j, L, m', deep - 1, sg, vsg, rfl, by omega, by omega, hs, hj4.same s5, dp_same s5 _ _ hsg4, fun v H6 t m6 hj6 ok sz dp hd => q v H6 _ ((Mv.of s5).trans m6) hj6 hd ⟨t, rfl, ok, sz, by omega⟩⟩
    · refine ⟨p, us, rfl, .inl ⟨sq_of hpl, fun l hl => ?_⟩⟩
      have s5 : Same H4 (upd H4 l (.tup us)) := (Same.refl H4).new hl
      obtain ⟨ts, rfl, hts⟩ := trs_of fun d hd => by
        obtain ⟨i, hi, rfl⟩ := List.getElem_of_mem hd
        exact hφ i _ (List.getElem?_eq_getElem hi)
      rw [List.length_map, hxl] at hdl
      have hv14 : Dp K H4 v1 (.tuple [.int (f : Int)]) := dp_kt (hj3.kt m4) _ _ rfl hv1
      refine catA_of (dp_same s5 _ _ hv14) (.tup (st_of upd_same) (dps_same s5 _ _ hds)) (by simp; omega) fun v H6 s6 hv => ?_
      have hsz := mk_size (f := f) (ts := ts) (n := cT (deep - 1)) (by omega) fun t ht => (hts t ht).2.1
      have hdp := mk_dep (f := f) (ts := ts) (n := deep) (by omega) fun t ht => (hts t ht).2.2
      refine q v H6 (mkT f ts) (((m2t.trans (Mv.of s3)).trans m4).trans (Mv.of (s5.trans s6))) ((hj4.same s5).same s6) (mk_ok hse hdl hear fun t ht => (hts t ht).1) ?_ hdp (by rw [mkT_toD _ _ (by omega)]; exact hv)
      cases deep with
      | zero =>
        have : ts.length = 0 := by omega
        obtain rfl := List.length_eq_zero_iff.mp this
        simp [mkT, Tr.size, cT]
      | succ d => simpa [cT] using hsz
end
end G


set_option Elab.async false
set_option linter.all false
set_option maxRecDepth 100000
set_option maxHeartbeats 4000000
namespace G
open PySem PySem.Spec PyProof.Rows L2
section
variable {P : Program} {w : World} {K : PySem.W.Frag} {mg : Str → Option Value} {base : Heap}
theorem rec_law_tree (T : Tx K mg) : ∀ n, Cl P w K mg base CX0 (20 + n) "_law_tree" ["jug", "signature", "deep"] (spLTree K n)
  | 0 => by
    obtain ⟨fd, F⟩ := T.f__law_tree
    refine ⟨_, fd, T.g__law_tree, F.kp, F.bindsN fun _ _ _ _ _ _ us hl => match us, hl with | [_, _, _], _ => rfl, F.ok sc__law_tree (fun vs H Q E h => ?_) (fun cdv A outer s H vs Q E hr h => ?_)⟩
    · obtain ⟨_, _, _, _, _, _, _, h, _⟩ := h
      exact absurd h (Nat.not_lt_zero _)
    · obtain ⟨_, _, _, _, _, _, _, h, _⟩ := h
      exact absurd h (Nat.not_lt_zero _)
  | n + 1 => ok__law_tree T n (rec_law_tree T n)
theorem rt_law_tree (T : Tx K mg) : Cl P w K mg base CX0 24 "_law_tree" ["jug", "signature", "deep"] (spLTree K 4) := rec_law_tree T 4
end
theorem Tr.eqv_self : ∀ t : Tr, PyData.eqv t.toD t.toD = true
  | .n0 f => by simp [Tr.toD, PyData.eqv, PyData.eqvAll]
  | .n1 f a => by simp [Tr.toD, PyData.eqv, PyData.eqvAll, Tr.eqv_self a]
  | .n2 f a b => by simp [Tr.toD, PyData.eqv, PyData.eqvAll, Tr.eqv_self a, Tr.eqv_self b]
theorem rl_eqv_self (p : Rl) : PyData.eqv (rlD p) (rlD p) = true := by simp [rlD, PyData.eqv, PyData.eqvAll, Tr.eqv_self]
theorem rl_lay (p : Rl) : (rlD p).canLay0 = true := by simp [rlD, PyData.canLay0, PyData.canLayAll0, Tr.toD_lay]
theorem rl_depth {sg : Sg} {p : Rl} (h1 : TrOk sg p.1) (h2 : TrOk sg p.2) : (rlD p).depth ≤ 12 := by
  have := p.1.toD_depth
  have := p.2.toD_depth
  have := h1.dep
  have := h2.dep
  simp [rlD, PyData.depth, PyData.depthAll]; omega
section
variable {K : PySem.W.Frag} {σ : L2.St} {H H' : Hp} {ta tb te tl : TE} {d e : PyData} {D : Ends} {j L : Addr}
theorem ed_notInD {ds : List PyData} (ha : EvD K ta σ H d) (hb : EvD K tb σ H (.list ds)) (h1 : SeqAt.shaped d = true) (h2 : SeqAt.shaped (.list ds) = true) : EvD K (tOp (rNotInD K) ta tb) σ H (.bool (!ds.any fun z => PyData.eqv z d)) :=
  ed_op ha hb fun x y H1 _ hx hy Q q => ⟨d, ds, hx, hy, h1, h2, q _ H1 (Same.refl H1) (.bl _)⟩
theorem seq_in {a b : TS} (h : a { D with nx := b D } σ H) : tSeq a b D σ H := h
/-- for i in range(a draw) -/
theorem s_forX {l : Nat} {ts : TS} (W : Nat → Nat → L2.St → Hp → Prop) (he : ∀ Q : VK, (∀ (n : Nat) H1, n ≤ 1000000 → W n 0 σ H1 → Q (.int (n : Int)) H1) → te σ H Q)
    (step : ∀ n i σ' H', i < n → W n i σ' H' → ts { D with nx := fun σ2 H2 => W n (i + 1) σ2 H2, ct := fun σ2 H2 => W n (i + 1) σ2 H2, bk := D.nx } (σ'.set l (some (.int (i : Int)))) H') (fin : ∀ n σ' H', W n n σ' H' → D.nx σ' H') :
    tFor (iRng1 (tCons te tNil)) (gName l) ts D σ H := by
  refine he _ fun n H1 hn h0 => ⟨n, rfl, by omega, by omega, ?_⟩
  refine ⟨fun i m σ' H' => m = n - i ∧ i ≤ n ∧ W n i σ' H', ⟨n, rfl, Nat.zero_le _, h0⟩, ?_⟩
  rintro i m σ' H2 ⟨rfl, hi, hw⟩
  by_cases hlt : i < n
  · refine .inr ⟨show i < ((n : Int)).toNat by simpa using hlt, fun σ2 H2 => i + 1 ≤ n ∧ W n (i + 1) σ2 H2, fun σ2 H2 ⟨a, b⟩ => ⟨n - (i + 1), by omega, rfl, a, b⟩, fun x H3 y => ?_⟩
    obtain ⟨rfl, rfl⟩ := y
    have := step n i σ' H3 hlt hw
    rw [show (0 + (i : Int)) = (i : Int) by omega]
    have e : (fun σ2 H2 => i + 1 ≤ n ∧ W n (i + 1) σ2 H2) = fun σ2 H2 => W n (i + 1) σ2 H2 := by
      funext σ2 H2
      exact propext ⟨fun h => h.2, fun h => ⟨hlt, h⟩⟩
    rw [e]
    exact this
  · have : i = n := by omega
    subst this
    exact .inl ⟨show ((i : Int)).toNat ≤ i by simp, fin _ _ _ hw⟩
theorem x_tree12 {m i a : Nat} {sg : Sg} {vsg : V} {E E2 : XK} {Q : VK} (hj : Jg K H j L (m + 8)) (hv : σ[i]? = some (some (.ref j))) (ha : σ[a]? = some (some vsg)) (hs : SgOk sg) (hsg : Dp K H vsg (sigD sg))
    (q : ∀ v H' t, Mv j H H' → Jg K H' j L m → TrOk sg t → Dp K H' v t.toD → Q v H') :
    tCall (spLTree K 4) [] E (tCons (tVar i) (tCons (tVar a) (tCons (tOp (rI0 fun i j => .int (i + j)) (tC (.int 1)) (tCall (spTake K) [] E2 (tCons (tVar i) (tCons (tC (.int 2)) tNil)))) tNil))) σ H Q := by
  refine ⟨_, hv, _, ha, ?_⟩
  refine one_in (op_in ?_)
  refine x_take (m := 2) (n := m + 7) hj hv (by decide) (by decide) ed_i fun H2 g m2 hj2 hg => ?_
  refine ⟨1, (g : Int), rfl, rfl, ?_⟩
  have hsg2 : Dp K H2 vsg (sigD sg) := dp_kt (hj.kt m2) _ _ (by simp [sigD, tt, entD_tt]) hsg
  dsimp only
  rw [show (1 : Int) + (g : Int) = ((1 + g : Nat) : Int) by omega]
  have c1 : cT (1 + g) ≤ 7 := by
    match g, hg with
    | 0, _ => decide
    | 1, _ => decide
  exact ⟨j, L, m, 1 + g, sg, vsg, rfl, by omega, by omega, hs, hj2.mono (by omega), hsg2, fun v H6 t m6 hj6 ok sz dp hd => q v H6 t (m2.trans m6) hj6 ⟨ok, by omega, by omega⟩ hd⟩
end
def spLRules (K : PySem.W.Frag) : Sp := fun vs H Q _ => ∃ (j L : Addr) (m : Nat) (sg : Sg) (vsg : V), vs = [.ref j, vsg, .int 5] ∧ SgOk sg ∧ Jg K H j L (m + 100) ∧ Dp K H vsg (sigD sg) ∧
  ∀ v H' rs, Mv j H H' → Jg K H' j L m → RlsOk sg rs → rs.length ≤ 5 → Dp K H' v (rlsD rs) → Q v H'
section
variable {P : Program} {w : World} {K : PySem.W.Frag} {mg : Str → Option Value} {base : Heap}
theorem sc__law_rules : FnScope ["jug", "signature", "most", "found", "k", "rule"] ["jug", "signature", "most"] (defScope s__law_rules) := ⟨rfl, rfl, rfl, by decide +kernel, rfl, by decide +kernel, by decide +kernel⟩
theorem ok__law_rules (T : Tx K mg)  : Cl P w K mg base CX0 26 "_law_rules" ["jug", "signature", "most"] (spLRules K) := by
  obtain ⟨fd, F⟩ := T.f__law_rules
  refine ⟨_, fd, T.g__law_rules, F.kp, F.bindsN fun _ _ _ _ _ _ us hl => match us, hl with | [_, _, _], _ => rfl, F.ok sc__law_rules (fun vs H Q E h => ?_) (fun cdv A outer s H vs Q E hr h => ?_)⟩
  · obtain ⟨j, L, m, sg, vsg, rfl, _⟩ := h
    rfl
  · refine ⟨_, PSs.nox (pss_cons (ps_set (i := 3) sc__law_rules.nd rfl (by first | exact Or.inl rfl | exact Or.inr rfl) (pe_lst pa_nil))
  (pss_cons (ps_for PassesOwn.never rfl (pi_range1 (by rfl) T.b_range (pa_cons (G.pe_cl (ok__law_take T) hr (by decide) pass0 (pa_cons (pv 0) (pa_cons (pe_op op_add (pv 2) pe_int) pa_nil))) pa_nil)) (pg_name (i := 4) sc__law_rules.nd rfl (by first | exact Or.inl rfl | exact Or.inr rfl)) (pss_cons (ps_set (i := 5) sc__law_rules.nd rfl (by first | exact Or.inl rfl | exact Or.inr rfl) (pe_tup (pa_cons (G.pe_cl (rt_law_tree T) hr (by decide) pass0 (pa_cons (pv 0) (pa_cons (pv 1) (pa_cons (pe_op op_add pe_int (G.pe_cl (ok__law_take T) hr (by decide) pass0 (pa_cons (pv 0) (pa_cons pe_int pa_nil)))) pa_nil)))) (pa_cons (G.pe_cl (rt_law_tree T) hr (by decide) pass0 (pa_cons (pv 0) (pa_cons (pv 1) (pa_cons (pe_op op_add pe_int (G.pe_cl (ok__law_take T) hr (by decide) pass0 (pa_cons (pv 0) (pa_cons pe_int pa_nil)))) pa_nil)))) pa_nil))))
  (pss_one (ps_if (PW.pt (pw_and (pt_cmpR (op_neD hr.units) (pe_ix ix_tup (pv 5) pe_int (fun _ _ => rfl)) (pe_ix ix_tup (pv 5) pe_int (fun _ _ => rfl)) (nomark _)) (pw_and1 (pt_cmpR (op_notInD (G.hu65 hr)) (pv 5) (pv 3) rfl)))) (pss_one (ps_expr (pe_bm PySem.F.plainAttrs_list PySem.F.slot_list_append PySem.F.type_list_append mt_append (pv 3) (pa_cons (pv 5) pa_nil)))) pss_nil))))
  (pss_one (ps_ret (pe_callTy call_tuple_of (by rfl) T.b_tuple PyProof.Rows.Boot.«tuple» (pa_cons (pv 3) pa_nil)))))), ?_⟩
    obtain ⟨j, L, m, sg, vsg, rfl, hs, hj, hsg, q⟩ := h
    refine s_setN (K := K) (en_lst ea_nil (by decide)) fun F us H1 s1 hF hFl hus => ?_
    cases hus
    obtain ⟨hFj, hFL⟩ := hj.there hF
    have hj1 := hj.same s1
    dsimp only
    refine seq_in ?_
    refine s_forX (fun n i σ' H' => ∃ (rs : List Rl) (us : List V) (x4 x5 : Option V), σ' = [some (.ref j), some vsg, some (.int 5), some (.ref F), x4, x5] ∧ n ≤ 5 ∧ Mv j H H' ∧ Jg K H' j L (m + (5 - i) * 16) ∧ H' F = some (.lst us) ∧ DpAll K H' us (rs.map rlD) ∧ (∀ p ∈ rs, TrOk sg p.1 ∧ TrOk sg p.2 ∧ p.1 ≠ p.2) ∧ rs.Nodup ∧ rs.length ≤ i) (fun Q q => ?_) ?_ ?_
    · refine ⟨_, rfl, ?_⟩
      refine one_in ?_
      refine (ed_add (K := K) (ed_vi (i := 2) rfl) ed_i) H1 (Same.refl H1) _ fun w H2 s2 hw => ?_
      obtain rfl := dpI hw
      refine ⟨j, L, m + 99, 6, rfl, hj1.same s2, by decide, by decide, fun H3 g m3 hj3 hg => q g H3 (by omega) ?_⟩
      exact ⟨[], [], none, none, rfl, by omega, (Mv.of (s1.trans s2)).trans m3, hj3.mono (by omega), m3 _ _ hFj (s2 _ _ hFl), .nil, (fun p (hp : p ∈ []) => (by cases hp)), List.nodup_nil, Nat.le_refl _⟩
    · rintro n i σ' H2 hi ⟨rs, us, x4, x5, rfl, hn, m2, hj2, hF2, hus2, htr, hnd, hrl⟩
      have hsg2 : Dp K H2 vsg (sigD sg) := dp_kt (hj.kt m2) _ _ (by simp [sigD, tt, entD_tt]) hsg
      have e2 : m + (5 - i) * 16 = (m + (5 - (i + 1)) * 16 + 8) + 8 := by omega
      rw [e2] at hj2
      refine seq_in ?_
      unfold tAsg
      refine x_tree12 (i := 0) (a := 1) hj2 rfl rfl hs hsg2 fun va H3 ta m3 hj3 hta hva => ?_
      have hsg3 : Dp K H3 vsg (sigD sg) := dp_kt (hj2.kt m3) _ _ (by simp [sigD, tt, entD_tt]) hsg2
      refine one_in ?_
      refine x_tree12 (i := 0) (a := 1) hj3 rfl rfl hs hsg3 fun vb H4 tb m4 hj4 htb hvb => ?_
      refine ⟨by show 2 ≤ sizeLine; rw [sizeLine_eq]; omega, fun pp hpp => ?_⟩
      have s5 : Same H4 (upd H4 pp (.tup [va, vb])) := (Same.refl H4).new hpp
      have hva4 : Dp K H4 va ta.toD := dp_kt (hj3.kt m4) _ _ ta.toD_tt hva
      have hp5 : Dp K (upd H4 pp (.tup [va, vb])) (.ref pp) (rlD (ta, tb)) := .tup (st_of upd_same) (.cons (dp_same s5 _ _ hva4) (.cons (dp_same s5 _ _ hvb) .nil))
      have m25 : Mv j H2 (upd H4 pp (.tup [va, vb])) := (m3.trans m4).trans (Mv.of s5)
      have hj5 := hj4.same s5
      have hF5 := m25 _ _ hFj hF2
      have k25 := hj2.kt m25
      generalize upd H4 pp (.tup [va, vb]) = H5 at *
      have htt : tts (rs.map rlD) = true := tts_of fun d hd => by
        obtain ⟨p, _, rfl⟩ := List.mem_map.mp hd
        exact rlD_tt p
      have hus5 := dps_kt k25 _ _ htt hus2
      have hlay : SeqAt.shaped (.list (rs.map rlD)) = true := shaped_list (n := 12) (fun d hd => by
        obtain ⟨p, hp, rfl⟩ := List.mem_map.mp hd
        exact ⟨rl_lay p, rl_depth (htr p hp).1 (htr p hp).2.1⟩) (by decide)
      have hsh : SeqAt.shaped (rlD (ta, tb)) = true := shaped_of (rl_lay _) (Nat.le_trans (rl_depth hta htb) (by decide))
      refine name_in ?_
      dsimp only
      refine s_if (et_and (et_test (ed_neD (K := K) (ed_ixT (d := ta.toD) (ed_var (i := 5) hp5 rfl) ed_i rfl) (ed_ixT (d := tb.toD) (ed_var (i := 5) hp5 rfl) ed_i rfl) hta.sh htb.sh)) fun _ => et_test (ed_notInD (ed_var (i := 5) hp5 rfl) (ed_lstV (i := 3) rfl hF5 hus5) hsh hlay)) (fun hb H6 s6 => ?_) (fun _ H6 s6 => ?_)
      · rw [Bool.and_eq_true, Bool.not_eq_true', Bool.not_eq_true'] at hb
        obtain ⟨hb1, hb2⟩ := hb
        have hne : ta ≠ tb := fun z => by rw [z, Tr.eqv_self] at hb1; cases hb1
        have hni : (ta, tb) ∉ rs := fun z => by
          rw [List.any_eq_false] at hb2
          exact hb2 _ (List.mem_map.mpr ⟨_, z, rfl⟩) (rl_eqv_self _)
        have hF6 := s6 _ _ hF5
        refine s_append (K := K) (q := F) (i := 3) rfl hF6 (ed_var (i := 5) (dp_same s6 _ _ hp5) rfl) (by have := hus2.len; rw [List.length_map] at this; omega) fun v H7 s7 hF7 hv => ?_
        have hk : Kt H7 (L2.upd H7 F (.lst (us ++ [v]))) := Kt.rfl'.lst hF7
        refine ⟨rs ++ [(ta, tb)], us ++ [v], _, _, rfl, hn, ((m2.trans m25).trans (Mv.of (s6.trans s7))).own hF, ((hj5.same s6).same s7).other hFj hFL, upd_same, ?_, ?_, ?_, by simp; omega⟩
        · rw [List.map_append]
          exact (dps_kt hk _ _ htt (dps_same (s6.trans s7) _ _ hus5)).snoc (dp_kt hk _ _ (rlD_tt _) hv)
        · intro p hp
          rcases List.mem_append.mp hp with h | h
          · exact htr p h
          · obtain rfl := List.mem_singleton.mp h
            exact ⟨hta, htb, hne⟩
        · rw [List.nodup_append]
          exact ⟨hnd, List.nodup_cons.mpr ⟨by simp, List.nodup_nil⟩, fun a ha b hb z => by
            obtain rfl := List.mem_singleton.mp hb
            rw [z] at ha
            exact hni ha⟩
      · exact ⟨rs, us, _, _, rfl, hn, (m2.trans m25).trans (Mv.of s6), hj5.same s6, s6 _ _ hF5, dps_same s6 _ _ hus5, htr, hnd, by omega⟩
    · rintro n σ' H2 ⟨rs, us, x4, x5, rfl, hn, m2, hj2, hF2, hus2, htr, hnd, hrl⟩
      refine s_ret (K := K) (ed_tupL (ed_lstV rfl hF2 hus2)) fun v H3 s3 hv => ?_
      exact q v H3 rs (m2.trans (Mv.of s3)) ((hj2.same s3).mono (by omega)) ⟨by omega, htr, hnd⟩ (by omega) hv
end
end G


set_option Elab.async false
set_option linter.all false
set_option maxRecDepth 100000
set_option maxHeartbeats 4000000
namespace G
open PySem PySem.Spec PyProof.Rows L2
theorem trT_eq {sg : Sg} {t : Tr} (h : t.kids ≠ []) : trT sg t = nameOf sg t.hd ++ [40] ++ TL.joinL [44, 32] (t.kids.map (trT sg)) ++ [41] := by
  cases t with
  | n0 f => exact absurd rfl h
  | n1 f a => simp [trT, Tr.hd, Tr.kids, TL.joinL]
  | n2 f a b => simp [trT, Tr.hd, Tr.kids, TL.joinL]
section
variable {P : Program} {w : World} {K : PySem.W.Frag} {mg : Str → Option Value} {base : Heap}
def Rltt (N : Nat) : List PyData → PyData → Prop
  | [s, d], r => ∃ sg t, s = sigD sg ∧ SgLike sg ∧ Tr.ok sg t ∧ t.size ≤ 40 ∧ t.dep ≤ N ∧ d = t.toD ∧ r = .str (S (trT sg t))
  | _, _ => False
theorem sc__law_tree_text : FnScope ["signature", "tree", "name", "child"] ["signature", "tree"] (defScope s__law_tree_text) := ⟨rfl, rfl, rfl, by decide +kernel, rfl, by decide +kernel, by decide +kernel⟩
theorem ok__law_tree_text (T : Tx K mg) (n : Nat) (ih : Cl P w K mg base CX0 (30 + n) "_law_tree_text" ["signature", "tree"] (spD K (Rltt n)))  : Cl P w K mg base CX0 (30 + n + 1) "_law_tree_text" ["signature", "tree"] (spD K (Rltt (n + 1))) := by
  obtain ⟨fd, F⟩ := T.f__law_tree_text
  refine ⟨_, fd, T.g__law_tree_text, F.kp, F.bindsN fun _ _ _ _ _ _ us hl => match us, hl with | [_, _], _ => rfl, F.ok sc__law_tree_text (fun vs H Q E h => ?_) (fun cdv A outer s H vs Q E hr h => ?_)⟩
  · obtain ⟨ds, r, hd, hR, _⟩ := h
    match ds, hR with
    | [_, _], _ => exact hd.len
  · obtain ⟨ds, r, hd, hR, q⟩ := h
    match ds, vs, hd, hR with
    | [d0, d1], [v0, v1], .cons h0 (.cons h1 .nil), hR =>
    refine ⟨_, PSs.nox (pss_cons (ps_set (i := 2) sc__law_tree_text.nd rfl (by first | exact Or.inl rfl | exact Or.inr rfl) (pe_ix ix_tup (pe_ix ix_tup (pv 0) (pe_ix ix_tup (pv 1) pe_int (fun _ _ => rfl)) (fun _ _ => rfl)) pe_int (fun _ _ => rfl)))
  (pss_cons (ps_if (pt_cmpR op_eq (pe_callB call_len_seq (by rfl) T.b_len PyProof.Rows.Boot.«len» (pa_cons (pv 1) pa_nil)) pe_int (nomark _)) (pss_one (ps_ret (pv 2))) pss_nil)
  (pss_one (ps_ret (pe_op op_add_str (pe_op op_add_str (pe_op op_add_str (pv 2) pe_str) (pe_join pe_str (pe_lc (own := [("child", 3)]) (g := (gName 3)) rfl sc__law_tree_text.nd (pi_tup (pe_slice sl_tupA (pv 1) (po_some pe_int) po_none)) (blkOk_by (own := [("child", 3)]) (N := ["signature", "tree", "name", "child"]) (sc := defScope s__law_tree_text) (by decide +kernel)) (fun _ _ _ _ _ => (pg_name (i := 3) sc__law_tree_text.nd rfl (by first | exact Or.inl rfl | exact Or.inr rfl))) (fun _ _ _ _ _ => pts_nil) (fun _ _ _ _ _ => (G.pe_cl ih hr (by omega) pass0 (pa_cons (pv 0) (pa_cons (pv 3) pa_nil))))))) pe_str))))), ?_⟩
    obtain ⟨sg, t, rfl, hs, hok, hsz, hdp, rfl, rfl⟩ := hR
    obtain ⟨x, hx⟩ := Tr.hd_at hok
    have hn : nameOf sg t.hd = x.cps.toList := nameOf_eq hx
    have hxl : (nameOf sg t.hd).length ≤ 10 := (nameOf_small hs t.hd).2
    have h1' : Dp K H v1 (.tuple (.int (t.hd : Int) :: t.kids.map Tr.toD)) := by rw [← Tr.toD_eq]; exact h1
    refine s_set (K := K) (ed_ixT (d := .str x) (ed_ixT (d := entD (x, t.kids.length)) (ed_var h0) (ed_ixT (d := .int (t.hd : Int)) (ed_var h1') (ed_i (n := 0)) (by exact atI_nat (j := 0) rfl)) (atI_nat (by rw [List.getElem?_map, hx]; rfl))) ed_i rfl) fun v H1 s1 hv => ?_
    obtain rfl := dpS hv
    have ex : x = S (nameOf sg t.hd) := by rw [hn]
    have h12 := dp_same s1 _ _ h1'
    have h02 := dp_same s1 _ _ h0
    have hkl := t.kids_len
    refine s_if (et_test (ed_eqI (ed_lenT (ed_var h12)) ed_i)) (fun hb H2 s2 => ?_) (fun hb H2 s2 => ?_)
    · have hb := of_decide_eq_true hb
      have hk : t.kids = [] := List.length_eq_zero_iff.mp (by rw [List.length_cons, List.length_map] at hb; omega)
      have ht : trT sg t = nameOf sg t.hd := by cases t with
        | n0 f => rfl
        | n1 f a => cases hk
        | n2 f a b => cases hk
      rw [ht, ← ex] at q
      exact s_ret (K := K) (ed_var (.str x)) fun v H3 s3 hv => q v H3 ((s1.trans s2).trans s3) hv
    · have hb := of_decide_eq_false hb
      have hk : t.kids ≠ [] := fun z => hb (by rw [z]; rfl)
      rw [trT_eq hk] at q
      have hpart : ∀ c ∈ t.kids, (trT sg c).length ≤ 14 * 40 := fun c hc => by
        have := (trT_small hs c).2
        have hcs : c.size ≤ t.size := by
          cases t with
          | n0 f => simp [Tr.kids] at hc
          | n1 f a => simp [Tr.kids] at hc; subst hc; simp [Tr.size]
          | n2 f a b => simp [Tr.kids] at hc; rcases hc with rfl | rfl <;> simp [Tr.size] <;> omega
        omega
      have hwhole := (trT_small hs t).2
      rw [trT_eq hk] at hwhole
      simp at hwhole
      refine s_ret (K := K) (ed_catS (ed_catS (ed_catS (b := [40]) ((ed_var (.str x)).to (by rw [ex])) ((ed_s (n := "(")).to (congrArg _ strQ)) (by simp; omega)) (ed_join (ys := t.kids.map (trT sg)) ((ed_s (n := ", ")).to (congrArg _ strComma2)) ?_ (fun y hy => ?_) (by simp; omega) (by decide)) (by simp; omega)) ((ed_s (n := ")")).to (congrArg _ strP)) (by simp; omega)) fun v H3 s3 hv => q v H3 ((s1.trans s2).trans s3) hv
      · rw [List.map_map]
        refine en_lcM t.kids Tr.toD (fun c => .str (S (trT sg c))) (ei_tup (ed_tail (ed_var (dp_same s2 _ _ h12)))) (by omega) (fun _ _ => rfl) fun c hc v H3 s3 hv W hW => hW _ wipe_set1 ?_
        exact ed_call (ea_cons (ed_var (dp_same s3 _ _ (dp_same s2 _ _ h02))) (ea_cons (ed_var hv) ea_nil)) ⟨sg, c, rfl, hs, Tr.kid_ok hok hc, by
          have := t.size_eq
          have : c.size ≤ t.size := by
            cases t with
            | n0 f => simp [Tr.kids] at hc
            | n1 f a => simp [Tr.kids] at hc; subst hc; simp [Tr.size]
            | n2 f a b => simp [Tr.kids] at hc; rcases hc with rfl | rfl <;> simp [Tr.size] <;> omega
          omega, by have := Tr.kid_dep hc; omega, rfl, rfl⟩
      · obtain ⟨c, hc, rfl⟩ := List.mem_map.mp hy
        have := hpart c hc
        omega
theorem rec_law_tree_text (T : Tx K mg) : ∀ n, Cl P w K mg base CX0 (30 + n) "_law_tree_text" ["signature", "tree"] (spD K (Rltt n))
  | 0 => by
    have no : ∀ {vs H Q} {E : XK}, spD K (Rltt 0) vs H Q E → False := fun h => by
      obtain ⟨ds, r, _, hR, _⟩ := h
      match ds, hR with
      | [_, _], hR =>
        obtain ⟨sg, t, _, _, _, _, h, _⟩ := hR
        have := t.dep_pos
        omega
    obtain ⟨fd, F⟩ := T.f__law_tree_text
    exact ⟨_, fd, T.g__law_tree_text, F.kp, F.bindsN fun _ _ _ _ _ _ us hl => match us, hl with | [_, _], _ => rfl, F.ok sc__law_tree_text (fun vs H Q E h => (no h).elim) (fun cdv A outer s H vs Q E hr h => (no h).elim)⟩
  | n + 1 => ok__law_tree_text T n (rec_law_tree_text T n)
theorem rt_law_tree_text (T : Tx K mg) : Cl P w K mg base CX0 37 "_law_tree_text" ["signature", "tree"] (spD K (Rltt 7)) := rec_law_tree_text T 7
theorem sc__law_rules_text : FnScope ["signature", "rules", "left", "right"] ["signature", "rules"] (defScope s__law_rules_text) := ⟨rfl, rfl, rfl, by decide +kernel, rfl, by decide +kernel, by decide +kernel⟩
theorem ok__law_rules_text (T : Tx K mg)  : Cl P w K mg base CX0 38 "_law_rules_text" ["signature", "rules"] (spD K Rwritten_rules) := by
  obtain ⟨fd, F⟩ := T.f__law_rules_text
  refine ⟨_, fd, T.g__law_rules_text, F.kp, F.bindsN fun _ _ _ _ _ _ us hl => match us, hl with | [_, _], _ => rfl, F.ok sc__law_rules_text (fun vs H Q E h => ?_) (fun cdv A outer s H vs Q E hr h => ?_)⟩
  · obtain ⟨ds, r, hd, hR, _⟩ := h
    match ds, hR with
    | [_, _], _ => exact hd.len
  · obtain ⟨ds, r, hd, hR, q⟩ := h
    match ds, vs, hd, hR with
    | [d0, d1], [v0, v1], .cons h0 (.cons h1 .nil), hR =>
    refine ⟨_, PSs.nox (pss_one (ps_ret (pe_join pe_str (pe_lc (own := [("left", 2), ("right", 3)]) (g := (gTup K 2 (gCons (gName 2) (gCons (gName 3) gNil)))) rfl sc__law_rules_text.nd (pi_tup (pv 1)) (blkOk_by (own := [("left", 2), ("right", 3)]) (N := ["signature", "rules", "left", "right"]) (sc := defScope s__law_rules_text) (by decide +kernel)) (fun _ _ _ _ _ => (pg_tup rfl (pgs_cons (pg_name (i := 2) sc__law_rules_text.nd rfl (by first | exact Or.inl rfl | exact Or.inr rfl)) (pgs_cons (pg_name (i := 3) sc__law_rules_text.nd rfl (by first | exact Or.inl rfl | exact Or.inr rfl)) pgs_nil)))) (fun _ _ _ _ _ => pts_nil) (fun _ _ _ _ _ => (pe_op op_add_str (pe_op op_add_str (G.pe_cl (rt_law_tree_text T) hr (by decide) pass0 (pa_cons (pv 0) (pa_cons (pv 2) pa_nil))) pe_str) (G.pe_cl (rt_law_tree_text T) hr (by decide) pass0 (pa_cons (pv 0) (pa_cons (pv 3) pa_nil))))))))), ?_⟩
    obtain ⟨sg, rs, rfl, hs, htr, hl, rfl, rfl⟩ := hR
    refine s_ret (K := K) (d := .str (S (rlsT sg rs))) (ed_join (ys := rs.map (rlT sg)) ((ed_s (n := "; ")).to (congrArg _ strSemi2)) ?_ (fun y hy => ?_) (by simp; omega) (by decide)) fun v H2 s2 hv => q v H2 s2 hv
    · rw [List.map_map]
      refine en_lcM rs rlD (fun p => .str (S (rlT sg p))) (ei_tup (ed_var h1)) (by omega) (fun _ _ => rfl) fun p hp v H1 s1 hv W hW => g_pair hv fun w1 w2 e1 e2 => hW _ wipe_set2 ?_
      have t1 := (trT_small hs p.1).2
      have t2 := (trT_small hs p.2).2
      have z1 := (htr p hp).1
      have z2 := (htr p hp).2
      have := z1.size
      have := z2.size
      exact ed_catS (ed_catS (ed_call (ea_cons (ed_var (dp_same s1 _ _ h0)) (ea_cons (ed_var e1) ea_nil)) ⟨sg, p.1, rfl, hs, z1.ok, z1.size, z1.dep, rfl, rfl⟩) ((ed_s (n := " -> ")).to (congrArg _ strArr4)) (by simp; omega)) (ed_call (ea_cons (ed_var (dp_same s1 _ _ h0)) (ea_cons (ed_var e2) ea_nil)) ⟨sg, p.2, rfl, hs, z2.ok, z2.size, z2.dep, rfl, rfl⟩) (by simp; omega)
    · obtain ⟨p, hp, rfl⟩ := List.mem_map.mp hy
      have := rlT_len hs (htr p hp).1 (htr p hp).2
      omega
end
end G


set_option Elab.async false
set_option linter.all false
set_option maxRecDepth 100000
set_option maxHeartbeats 4000000
namespace G
open PySem PySem.Spec PyProof.Rows L2
theorem smallR (c : Nat) : decide (c ∈ ("abcdefghijklmnopqrstuvwxyz0123456789" : Str).cps.toList) = isRun c := inRuns c
section
variable {K : PySem.W.Frag} {σ : L2.St} {H H' : Hp} {ta tb te tl : TE} {d e : PyData} {D : Ends}
theorem s_par3N {i j l : Nat} {t1 t2 t3 : TE} {d1 d3 : PyData} {ds : List PyData} (h1 : EvD K t1 σ H d1) (h2 : EvN K t2 σ H ds) (h3 : EvD K t3 σ H d3) (q : ∀ v p vs w H', Same H H' → Dp K H' v d1 → H p = none → H' p = some (.lst vs) → DpAll K H' vs ds → Dp K H' w d3 → D.nx (((σ.set i (some v)).set j (some (.ref p))).set l (some w)) H') : tPar3 i j l (tCons t1 (tCons t2 (tCons t3 tNil))) D σ H :=
  h1 H (Same.refl H) _ fun v H1 s1 hv => h2 H1 s1 _ fun p vs H2 s2 hn hp hvs => h3 H2 (s1.trans s2) _ fun w H3 s3 hw => ⟨_, _, _, rfl, q v p vs w H3 ((s1.trans s2).trans s3) (dp_same (s2.trans s3) _ _ hv) (back s1 hn) (s3 _ _ hp) (dps_same s3 _ _ hvs) hw⟩
end
section
variable {P : Program} {w : World} {K : PySem.W.Frag} {mg : Str → Option Value} {base : Heap}
theorem sc__law_words : FnScope ["text", "small", "found", "at", "end"] ["text"] (defScope s__law_words) := ⟨rfl, rfl, rfl, by decide +kernel, rfl, by decide +kernel, by decide +kernel⟩
theorem ok__law_words (T : Tx K mg)  : Cl P w K mg base CX0 1 "_law_words" ["text"] (spN K Rwords_in) := by
  obtain ⟨fd, F⟩ := T.f__law_words
  refine ⟨_, fd, T.g__law_words, F.kp, F.bindsN fun _ _ _ _ _ _ us hl => match us, hl with | [_], _ => rfl, F.ok sc__law_words (fun vs H Q E h => ?_) (fun cdv A outer s H vs Q E hr h => ?_)⟩
  · obtain ⟨ds, rs, hd, hR, _⟩ := h
    match ds, hR with
    | [_], _ => exact hd.len
  · obtain ⟨ds, rs, hd, hR, q⟩ := h
    match ds, vs, hd, hR with
    | [d0], [v0], .cons h0 .nil, hR =>
    refine ⟨_, PSs.nox (pss_cons (ps_par3 (i := 1) (j := 2) (l := 3) rfl sc__law_words.nd rfl rfl rfl (by decide) (by decide) (by decide) rfl rfl rfl (pa_cons pe_str (pa_cons (pe_lst pa_nil) (pa_cons pe_int pa_nil))) (by rfl))
  (pss_cons (ps_while PassesOwn.never (pt_cmpR op_lt (pv 3) (pe_callB call_len_str (by rfl) T.b_len PyProof.Rows.Boot.«len» (pa_cons (pv 0) pa_nil)) (nomark _)) (pss_cons (ps_set (i := 4) sc__law_words.nd rfl (by first | exact Or.inl rfl | exact Or.inr rfl) (pe_op op_add (pv 3) pe_int))
  (C8.pss_cut (ps_while PassesOwn.never (PW.pt (pw_and (pt_cmpR G.op_inS (pe_ix ix_str (pv 0) (pv 3) (fun _ _ => rfl)) (pv 1) rfl) (pw_and (pt_cmpR op_lt (pv 4) (pe_callB call_len_str (by rfl) T.b_len PyProof.Rows.Boot.«len» (pa_cons (pv 0) pa_nil)) (nomark _)) (pw_and1 (pt_cmpR G.op_inS (pe_ix ix_str (pv 0) (pv 4) (fun _ _ => rfl)) (pv 1) rfl))))) (pss_one (ps_set (i := 4) sc__law_words.nd rfl (by first | exact Or.inl rfl | exact Or.inr rfl) (pe_op op_add (pv 4) pe_int))))
  (C8.pss_cut (ps_if (pt_cmpR op_eq (pe_slice sl_str (pv 0) (po_some (pv 3)) (po_some (pe_op op_add (pv 3) pe_int))) pe_str (nomark _)) (pss_one (ps_set (i := 4) sc__law_words.nd rfl (by first | exact Or.inl rfl | exact Or.inr rfl) (pe_op op_add (pv 3) pe_int))) pss_nil)
  (pss_cons (ps_if (pt_cmpR G.op_notInS (pe_ix ix_str (pv 0) (pv 3) (fun _ _ => rfl)) pe_str rfl) (pss_one (ps_expr (pe_bm PySem.F.plainAttrs_list PySem.F.slot_list_append PySem.F.type_list_append mt_append (pv 2) (pa_cons (pe_tup (pa_cons (pe_slice sl_str (pv 0) (po_some (pv 3)) (po_some (pv 4))) (pa_cons (pv 3) pa_nil))) pa_nil)))) pss_nil)
  (pss_one (ps_set (i := 3) sc__law_words.nd rfl (by first | exact Or.inl rfl | exact Or.inr rfl) (pv 4))))))))
  (pss_one (ps_ret (pv 2))))), ?_⟩
    obtain ⟨l, hl, rfl, rfl⟩ := hR
    refine s_par3N (K := K) ed_s (en_lst ea_nil (by decide)) ed_i fun vs0 F vs w H' s hs0 hn hp hvs hw => ?_
    obtain rfl := dpI hw
    obtain rfl := dpS hs0
    cases hvs
    refine s_while (W := fun m σ' H1 => ∃ (a : Nat) (acc : List (List Nat × Nat)) (us : List V) (x3 : Option V), σ' = [some v0, some (.str "abcdefghijklmnopqrstuvwxyz0123456789"), some (.ref F), some (.int (a : Int)), x3] ∧ Same H H1 ∧ H1 F = some (.lst us) ∧ DpAll K H1 us (acc.map wordD) ∧
      acc ++ wordsF (l.length - a) a (l.drop a) = wordsOf l ∧ a ≤ l.length ∧ acc.length ≤ a ∧ m = l.length - a) (m0 := l.length)
      ⟨0, [], [], none, rfl, s, hp, .nil, by simp [wordsOf], Nat.zero_le _, Nat.le_refl _, rfl⟩ ?_
    rintro m σ' H1 ⟨a, acc, us, x3, rfl, s1, hF, hus, hws, hal, hacc, rfl⟩
    refine ⟨_, et_test (K := K) (ed_lt (ed_vi rfl) (ed_lenS (ed_var (dp_same s1 _ _ h0)) (by rw [S_len]; omega))), fun H2 s2 => ⟨fun hb => ?_, fun hb => ?_⟩⟩
    · have hb := of_decide_eq_true hb
      rw [S_len] at hb
      obtain ⟨c, r, hcr⟩ : ∃ c r, l.drop a = c :: r := ⟨_, _, List.drop_eq_getElem_cons (by omega)⟩
      obtain ⟨hc, ha, hr, hlen⟩ := at_of hcr
      have hd2 : Dp K H2 v0 (.str (S l)) := dp_same (s1.trans s2) _ _ h0
      have hsz : l.length ≤ 100000 := by omega
      refine s_set (K := K) (ed_add (ed_vi rfl) ed_i) fun v H4 s24 hv => ?_
      obtain rfl := dpI hv
      have hd4 : Dp K H4 v0 (.str (S l)) := dp_same s24 _ _ hd2
      refine ⟨fun σ5 H5 => σ5 = [some v0, some (.str "abcdefghijklmnopqrstuvwxyz0123456789"), some (.ref F), some (.int (a : Int)), some (.int ((a + 1 + (if isRun c then runN r else 0) : Nat) : Int))] ∧ Same H4 H5, ?_, ?_⟩
      · by_cases hrun : isRun c = true
        · rw [if_pos hrun]
          refine s_while (W := fun m σ' H6 => ∃ k : Nat, σ' = [some v0, some (.str "abcdefghijklmnopqrstuvwxyz0123456789"), some (.ref F), some (.int (a : Int)), some (.int ((a + 1 + k : Nat) : Int))] ∧ Same H4 H6 ∧ runN r = k + runN (r.drop k) ∧ m = r.length - k ∧ k ≤ r.length) (m0 := r.length) ⟨0, rfl, Same.refl _, by simp, rfl, Nat.zero_le _⟩ ?_
          rintro m σ' H6 ⟨k, rfl, s6, hk, rfl, hkl⟩
          have hd6 : Dp K H6 v0 (.str (S l)) := dp_same s6 _ _ hd4
          have hdrop : l.drop (a + 1 + k) = r.drop k := by rw [← hr, List.drop_drop]
          have t1 : EvT _ [some v0, some (.str "abcdefghijklmnopqrstuvwxyz0123456789"), some (.ref F), some (.int (a : Int)), some (.int ((a + 1 + k : Nat) : Int))] H6 (isRun c) := et_test ((ed_inS (K := K) (ed_sign (ed_var (i := 0) hd6) (ed_vi (i := 3) rfl) hsz hc) (ed_var (i := 1) (.str _))).to (congrArg PyData.bool (smallR c)))
          cases hrk : r.drop k with
          | nil =>
            have hkl2 : r.length ≤ k := by
              have := congrArg List.length hrk
              simp at this; omega
            refine ⟨false, et_andT t1 hrun (et_andF (et_test (ed_lt (ed_vi rfl) (ed_lenS (ed_var hd6) (by rw [S_len]; omega)))) (by rw [S_len]; simp; omega)), fun H7 s7 => ⟨fun z => (nomatch z), fun _ => ?_⟩⟩
            dsimp only
            refine ⟨?_, s6.trans s7⟩
            rw [hrk] at hk
            simp only [runN, Nat.add_zero] at hk
            rw [hk]
          | cons c2 r2 =>
            rw [hrk] at hdrop
            obtain ⟨hc2, ha2, hr2, hlen2⟩ := at_of hdrop
            refine ⟨_, et_andT t1 hrun (et_andT (et_test (ed_lt (ed_vi rfl) (ed_lenS (ed_var hd6) (by rw [S_len]; omega)))) (by rw [S_len]; simp; omega) (et_test ((ed_inS (ed_sign (ed_var hd6) (ed_vi rfl) hsz hc2) (ed_var (.str _))).to (congrArg PyData.bool (smallR c2))))), fun H7 s7 => ⟨fun hrun2 => ?_, fun hrun2 => ?_⟩⟩
            · refine s_set (K := K) (ed_add (ed_vi rfl) ed_i) fun v H8 s8 hv => ?_
              obtain rfl := dpI hv
              have hlt : k < r.length := by
                have := congrArg List.length hrk
                simp at this; omega
              refine ⟨r.length - (k + 1), by omega, k + 1, ?_, (s6.trans s7).trans s8, ?_, rfl, hlt⟩
              · have : ((a + 1 + k : Nat) : Int) + 1 = ((a + 1 + (k + 1) : Nat) : Int) := by omega
                rw [this]; rfl
              · rw [hk, hrk]
                have : r.drop (k + 1) = r2 := by rw [← List.drop_drop, hrk]; rfl
                rw [this]
                simp only [runN, hrun2, if_true]
                omega
            · dsimp only
              refine ⟨?_, s6.trans s7⟩
              rw [hrk] at hk
              simp only [runN, hrun2] at hk
              rw [hk]
              simp only [Bool.false_eq_true, if_false, Nat.add_zero]
        · have hrun : isRun c = false := by simpa using hrun
          rw [hrun]
          simp only [Bool.false_eq_true, if_false, Nat.add_zero]
          refine s_while (W := fun m σ' H6 => σ' = [some v0, some (.str "abcdefghijklmnopqrstuvwxyz0123456789"), some (.ref F), some (.int (a : Int)), some (.int ((a + 1 : Nat) : Int))] ∧ Same H4 H6) (m0 := 0) ⟨rfl, Same.refl _⟩ ?_
          rintro m σ' H6 ⟨rfl, s6⟩
          have hd6 : Dp K H6 v0 (.str (S l)) := dp_same s6 _ _ hd4
          exact ⟨false, et_andF (et_test ((ed_inS (K := K) (ed_sign (ed_var (i := 0) hd6) (ed_vi (i := 3) rfl) hsz hc) (ed_var (i := 1) (.str _))).to (congrArg PyData.bool (smallR c)))) hrun, fun H7 s7 => ⟨fun z => (nomatch z), fun _ => ⟨rfl, s6.trans s7⟩⟩⟩
      · rintro σ5 H5 ⟨rfl, s5⟩
        refine ⟨fun σ5 H6 => σ5 = [some v0, some (.str "abcdefghijklmnopqrstuvwxyz0123456789"), some (.ref F), some (.int (a : Int)), some (.int ((a + tok c r : Nat) : Int))] ∧ Same H4 H6, ?_, ?_⟩
        · have hd5 : Dp K H5 v0 (.str (S l)) := dp_same s5 _ _ hd4
          have harr : decide (S ((l.drop a).take (a + 2 - a)) = ("->" : Str)) = arrow c r := by
            rw [hcr, Nat.add_sub_cancel_left]
            have e : ("->" : Str) = S [45, 62] := by decide +kernel
            rw [e]
            unfold arrow
            rw [← Bool.decide_and, decide_eq_decide]
            constructor
            · intro h
              have h := S_inj h
              cases r with
              | nil => simp at h
              | cons d r => simp at h ⊢; exact h
            · rintro ⟨rfl, h2⟩
              cases r with
              | nil => simp at h2
              | cons d r => simp at h2; subst h2; rfl
          have noarr : isRun c = true → arrow c r = false := fun h => by
            unfold arrow
            have : c ≠ 45 := fun z => by rw [z] at h; revert h; decide +kernel
            rw [decide_eq_false this]; rfl
          refine s_if (et_test ((ed_eqS (K := K) (ed_cutS (ed_var hd5) (ed_vi rfl) ((ed_add (ed_vi rfl) ed_i).to (show _ = PyData.int ((a + 2 : Nat) : Int) from congrArg PyData.int (by omega))) hsz (by omega)) ed_s).to (congrArg PyData.bool harr))) (fun harr H6 s6 => ?_) (fun harr H6 s6 => ?_)
          · refine s_set (K := K) (ed_add (ed_vi rfl) ed_i) fun v H7 s7 hv => ?_
            obtain rfl := dpI hv
            refine ⟨?_, (s5.trans s6).trans s7⟩
            have hnr : isRun c = false := by
              cases e : isRun c with
              | false => rfl
              | true => rw [noarr e] at harr; cases harr
            have : tok c r = 2 := by unfold tok; rw [hnr, harr]; rfl
            rw [this, show (a : Int) + 2 = ((a + 2 : Nat) : Int) by omega]; rfl
          · refine ⟨?_, s5.trans s6⟩
            have : tok c r = 1 + (if isRun c then runN r else 0) := by
              unfold tok
              split
              · omega
              · rw [harr]; rfl
            rw [this, Nat.add_assoc]
        · rintro σ5 H5 ⟨rfl, s5⟩
          have hd5 : Dp K H5 v0 (.str (S l)) := dp_same s5 _ _ hd4
          have s25 := s24.trans s5
          have hF5 := (s2.trans s25) _ _ hF
          have hus5 := dps_same (s2.trans s25) _ _ hus
          have hS5 : Same H H5 := (s1.trans s2).trans s25
          have htk := tok_le c r
          have htp := tok_pos c r
          have hstep : wordsF (l.length - a) a (l.drop a) = if isBl c then wordsF (l.length - (a + tok c r)) (a + tok c r) (l.drop (a + tok c r)) else ((l.drop a).take (tok c r), a) :: wordsF (l.length - (a + tok c r)) (a + tok c r) (l.drop (a + tok c r)) := by
            have e : l.length - a = (l.length - a - 1) + 1 := by omega
            rw [e, hcr]
            simp only [wordsF]
            have e2 : (c :: r).drop (tok c r) = l.drop (a + tok c r) := by rw [← hcr, List.drop_drop]
            rw [e2, wordsF_more (l.length - a - 1) (l.length - (a + tok c r)) _ _ (by simp; omega) (by simp)]
          have hul : us.length = acc.length := by rw [hus.len, List.length_map]
          refine s_if (et_test ((ed_notInS (K := K) (ed_sign (ed_var hd5) (ed_vi rfl) hsz hc) ed_s).to (congrArg (fun b : Bool => PyData.bool (!b)) (inBlanks c)))) (fun hbl H6 s6 => ?_) (fun hbl H6 s6 => ?_)
          · have hbl : isBl c = false := by simpa using hbl
            rw [hbl] at hstep
            refine s_append (K := K) (us := us) rfl (s6 _ _ hF5) (d := wordD ((l.drop a).take (tok c r), a)) ((ed_tup (ea_cons (ed_cutS (ed_var (dp_same s6 _ _ hd5)) (ed_vi rfl) (ed_vi rfl) hsz (by omega)) (ea_cons (ed_vi rfl) ea_nil)) (by simp)).to (by rw [Nat.add_sub_cancel_left]; rfl)) (by omega) fun v H7 s7 hF7 hv => ?_
            have hk : Kt H7 (upd H7 F (.lst (us ++ [v]))) := Kt.rfl'.lst hF7
            refine s_set (K := K) (ed_vi rfl) fun v2 H8 s8 hv2 => ?_
            obtain rfl := dpI hv2
            refine ⟨_, ?_, a + tok c r, acc ++ [((l.drop a).take (tok c r), a)], us ++ [v], _, rfl, ((hS5.trans s6).trans s7).own hn |>.trans s8, s8 _ _ upd_same, ?_, ?_, by omega, by simp; omega, rfl⟩
            · omega
            · rw [List.map_append]
              exact dps_same s8 _ _ ((dps_kt hk _ _ (wordD_tt _) (dps_same (s6.trans s7) _ _ hus5)).snoc (dp_kt hk _ _ rfl hv))
            · rw [← hws, hstep]
              simp
          · have hbl : isBl c = true := by simpa using hbl
            rw [hbl] at hstep
            refine s_set (K := K) (ed_vi rfl) fun v2 H8 s8 hv2 => ?_
            obtain rfl := dpI hv2
            refine ⟨_, ?_, a + tok c r, acc, us, _, rfl, (hS5.trans s6).trans s8, (s6.trans s8) _ _ hF5, dps_same (s6.trans s8) _ _ hus5, ?_, by omega, by omega, rfl⟩
            · omega
            · rw [← hws, hstep]
              rfl
    · dsimp only
      have hb := of_decide_eq_false hb
      rw [S_len] at hb
      have e : a = l.length := by omega
      subst e
      have hacc2 : acc = wordsOf l := by
        rw [← hws, List.drop_length, Nat.sub_self]
        simp [wordsF]
      refine ⟨.ref F, rfl, ?_⟩
      exact q F us H2 (s1.trans s2) hn (s2 _ _ hF) (by rw [← hacc2]; exact dps_same s2 _ _ hus)
end
end G


set_option Elab.async false
set_option linter.all false
set_option maxRecDepth 100000
set_option maxHeartbeats 4000000
namespace G
open PySem PySem.Spec PyProof.Rows L2
/-! ### loose texts -/
theorem Toks.blanks {ws : List (List Nat)} : ∀ {b cs : List Nat}, b.all isBl = true → Toks ws cs → Toks ws (b ++ cs)
  | [], _, _, h => h
  | c :: b, cs, hb, h => by
    have hb : isBl c = true ∧ b.all isBl = true := by simpa using hb
    exact .blank hb.1 (Toks.blanks hb.2 h)
def GoodB (b : List Nat) : Prop := b ≠ [] ∧ b.all isBl = true
theorem GoodB.nr {b cs : List Nat} (h : GoodB b) : NoRun (b ++ cs) := by
  obtain ⟨h1, h2⟩ := h
  cases b with
  | nil => exact absurd rfl h1
  | cons c b =>
    have h2 : isBl c = true ∧ b.all isBl = true := by simpa using h2
    exact nr_cons (blank_not_run h2.1)
theorem GoodB.na {b cs : List Nat} {c : Nat} (h : GoodB b) : G.arrow c (b ++ cs) = false := by
  obtain ⟨h1, h2⟩ := h
  cases b with
  | nil => exact absurd rfl h1
  | cons d b =>
    have h2 : isBl d = true ∧ b.all isBl = true := by simpa using h2
    unfold G.arrow
    have : d ≠ 62 := fun z => by rw [z] at h2; exact absurd h2.1 (by decide +kernel)
    have e : decide ((d :: b ++ cs).head? = some 62) = false := decide_eq_false fun z => this (Option.some.inj z)
    rw [e, Bool.and_false]
def looseL (ws bs : List (List Nat)) : List Nat := (List.zipWith (· ++ ·) ws bs).flatten
theorem Toks.loose {ws : List (List Nat)} {cs : List Nat} (h : Toks ws cs) : ∀ bs : List (List Nat), bs.length = ws.length → (∀ b ∈ bs, GoodB b) → Toks ws (looseL ws bs) := by
  induction h with
  | nil => intro bs hl _; exact .nil
  | blank hc h ih => exact ih
  | @run c w ws cs hc hw hn h ih =>
    intro bs hl hb
    cases bs with
    | nil => simp at hl
    | cons b bs =>
      have := ih bs (by simpa using hl) fun x hx => hb x (List.mem_cons_of_mem _ hx)
      have hg := hb b List.mem_cons_self
      have := Toks.run (cs := b ++ looseL ws bs) hc hw hg.nr (this.blanks hg.2)
      simpa [looseL] using this
  | @sign c ws cs hc hb2 ha h ih =>
    intro bs hl hb
    cases bs with
    | nil => simp at hl
    | cons b bs =>
      have := ih bs (by simpa using hl) fun x hx => hb x (List.mem_cons_of_mem _ hx)
      have hg := hb b List.mem_cons_self
      have := Toks.sign (cs := b ++ looseL ws bs) hc hb2 hg.na (this.blanks hg.2)
      simpa [looseL] using this
  | @arrow ws cs h ih =>
    intro bs hl hb
    cases bs with
    | nil => simp at hl
    | cons b bs =>
      have := ih bs (by simpa using hl) fun x hx => hb x (List.mem_cons_of_mem _ hx)
      have hg := hb b List.mem_cons_self
      have := Toks.arrow (cs := b ++ looseL ws bs) (this.blanks hg.2)
      simpa [looseL] using this
theorem looseL_snoc {ws bs : List (List Nat)} {w b : List Nat} (h : ws.length = bs.length) : looseL (ws ++ [w]) (bs ++ [b]) = looseL ws bs ++ w ++ b := by
  unfold looseL
  rw [List.zipWith_append h]
  simp
theorem wordsF_sum : ∀ (f at_ : Nat) (l : List Nat), ((wordsF f at_ l).map fun p => p.1.length).sum ≤ l.length
  | 0, _, _ => by simp [wordsF]
  | _ + 1, _, [] => by simp [wordsF]
  | f + 1, at_, c :: r => by
    have h := wordsF_sum f (at_ + tok c r) ((c :: r).drop (tok c r))
    have h2 : ((c :: r).drop (tok c r)).length = (c :: r).length - tok c r := List.length_drop
    have h3 : ((c :: r).take (tok c r)).length = min (tok c r) (c :: r).length := List.length_take
    simp only [wordsF]
    split
    · omega
    · simp only [List.map_cons, List.sum_cons]
      omega
/-! ### picks, and walks that draw -/
section
variable {K : PySem.W.Frag} {σ : L2.St} {H H' : Hp} {ta tb te tl : TE} {d e : PyData} {D : Ends} {j L : Addr}
theorem x_pick {ds : List PyData} {i n m : Nat} {E : XK} {Q : VK} (hk : EvN K tl σ H ds) (hj : Jg K H j L (n + 1)) (hv : σ[i]? = some (some (.ref j))) (hm : ds.length = m) (h1 : 1 ≤ m) (h2 : m ≤ 1000) (htt : tts ds = true)
    (q : ∀ v H' d, Mv j H H' → Jg K H' j L n → d ∈ ds → Dp K H' v d → Q v H') : tOp (rIxL K) tl (tCall (spTake K) [] E (tCons (tVar i) (tCons (tC (.int (m : Int))) tNil))) σ H Q := by
  refine hk H (Same.refl H) _ fun p us H1 s1 hp hl hus => ?_
  have hj1 := hj.same s1
  refine x_take hj1 hv h1 h2 ed_i fun H2 g m2 hj2 hg => ?_
  have hpj := (hj.there hp).1
  have hgd : ds[g]? = some (ds[g]'(by omega)) := List.getElem?_eq_getElem (by omega)
  obtain ⟨v, hv1, hv2⟩ := hus.get hgd
  have hmem : ds[g]'(by omega) ∈ ds := List.getElem_mem _
  exact ⟨p, us, (g : Int), v, rfl, rfl, sq_of (m2 _ _ hpj hl), atI_nat hv1, q v H2 _ ((Mv.of s1).trans m2) hj2 hmem (dp_kt (hj1.kt m2) _ _ (tts_mem htt hmem) hv2)⟩
theorem ej_listN {n : Nat} {xs : List PyData} (h : EvN K te σ H xs) (hj : Jg K H j L n) (htt : tts xs = true) : EvJ K j (iList K te) σ H xs := fun R q => h H (Same.refl H) _ fun p us H1 s1 hp hl hus => by
  have hpj := (hj.there hp).1
  exact ⟨p, rfl, ⟨us, sq_of hl⟩, q _ H1 s1
    { goes := fun i H2 hi s => by
        have : i < us.length := by rw [hus.len]; exact hi
        exact ⟨us, us[i], sq_of (s _ _ hpj hl), by simp [this]⟩
      stops := fun H2 s => ⟨us, sq_of (s _ _ hpj hl), by rw [hus.len]; exact Nat.le_refl _⟩
      yields := fun i H2 x H3 d hd s k y => by
        obtain ⟨e, y⟩ := y
        subst e
        have h1 := y us (sq_of (s _ _ hpj hl))
        obtain ⟨v, h2, h3⟩ := hus.get hd
        rw [h1] at h2
        cases h2
        exact ⟨rfl, dp_kt k d x (tts_mem htt (List.mem_of_getElem? hd)) h3⟩ }⟩
theorem s_forJ {wi : TI} {g : TG} {ts : TS} {xs : List PyData} (W : Nat → L2.St → Hp → Prop) (hi : EvJ K j wi σ H xs) (h0 : ∀ H', Same H H' → W 0 σ H') (hjug : ∀ i σ' H', W i σ' H' → ∃ n, Jg K H' j L n)
    (step : ∀ i x v σ' H1, xs[i]? = some x → W i σ' H1 → Dp K H1 v x → g v σ' H1 fun σ2 H2 => ts { D with nx := fun σ3 H3 => Mv j H1 H3 ∧ W (i + 1) σ3 H3, ct := fun σ3 H3 => Mv j H1 H3 ∧ W (i + 1) σ3 H3, bk := D.nx } σ2 H2) (fin : ∀ σ' H', W xs.length σ' H' → D.nx σ' H') :
    tFor wi g ts D σ H := by
  refine hi _ fun J H2 s2 w => ?_
  refine ⟨fun i m σ' H' => m = xs.length - i ∧ i ≤ xs.length ∧ Mv j H2 H' ∧ Kt H2 H' ∧ W i σ' H', ⟨xs.length, rfl, Nat.zero_le _, Mv.refl _ _, Kt.rfl', h0 _ s2⟩, ?_⟩
  rintro i m σ' H3 ⟨rfl, hil, m3, k3, hw⟩
  by_cases hlt : i < xs.length
  · refine .inr ⟨w.goes i H3 hlt m3, fun σ4 H4 => Mv j H3 H4 ∧ W (i + 1) σ4 H4, fun σ4 H4 ⟨a, b⟩ => ?_, fun x H4 y => ?_⟩
    · obtain ⟨n, hj⟩ := hjug _ _ _ hw
      exact ⟨xs.length - (i + 1), by omega, rfl, hlt, m3.trans a, k3.trans (hj.kt a), b⟩
    · obtain ⟨rfl, hxd⟩ := w.yields i H3 x H4 _ (List.getElem?_eq_getElem hlt) m3 k3 y
      exact step i _ x σ' H4 (List.getElem?_eq_getElem hlt) hw hxd
  · have e : i = xs.length := by omega
    subst e
    exact .inl ⟨w.stops H3 m3, fin _ _ hw⟩
end
def spLoose (K : PySem.W.Frag) : Sp := fun vs H Q _ => ∃ (j L : Addr) (m : Nat) (l : List Nat) (ws : List (List Nat)), vs = [.ref j, .str (S l)] ∧ l.length ≤ 12000 ∧ Toks ws l ∧ Jg K H j L (m + 1 + l.length) ∧
  ∀ H' l', Mv j H H' → Jg K H' j L m → Toks ws l' → l'.length ≤ 2 + 4 * l.length → Q (.str (S l')) H'
def blA : List PyData := [.str (S [32]), .str (S []), .str (S [10, 32])]
def blB : List PyData := [.str (S [32]), .str (S [10]), .str (S [32, 32]), .str (S [32, 10, 32])]
theorem blA_ok : ∀ d ∈ blA, ∃ b : List Nat, d = .str (S b) ∧ b.all isBl = true ∧ b.length ≤ 2 := by
  intro d hd
  simp only [blA, List.mem_cons, List.not_mem_nil, or_false] at hd
  rcases hd with rfl | rfl | rfl
  · exact ⟨_, rfl, by decide +kernel, by decide⟩
  · exact ⟨_, rfl, by decide +kernel, by decide⟩
  · exact ⟨_, rfl, by decide +kernel, by decide⟩
theorem blB_ok : ∀ d ∈ blB, ∃ b : List Nat, d = .str (S b) ∧ GoodB b ∧ b.length ≤ 3 := by
  intro d hd
  simp only [blB, List.mem_cons, List.not_mem_nil, or_false] at hd
  rcases hd with rfl | rfl | rfl | rfl
  · exact ⟨_, rfl, ⟨by decide, by decide +kernel⟩, by decide⟩
  · exact ⟨_, rfl, ⟨by decide, by decide +kernel⟩, by decide⟩
  · exact ⟨_, rfl, ⟨by decide, by decide +kernel⟩, by decide⟩
  · exact ⟨_, rfl, ⟨by decide, by decide +kernel⟩, by decide⟩
theorem bs1 : (" " : Str) = S [32] := by decide +kernel
theorem bs2 : ("" : Str) = S [] := by decide +kernel
theorem bs3 : ("\n " : Str) = S [10, 32] := by decide +kernel
theorem bs4 : ("\n" : Str) = S [10] := by decide +kernel
theorem bs5 : ("  " : Str) = S [32, 32] := by decide +kernel
theorem bs6 : (" \n " : Str) = S [32, 10, 32] := by decide +kernel
section
variable {P : Program} {w : World} {K : PySem.W.Frag} {mg : Str → Option Value} {base : Heap}
theorem sc__law_loose : FnScope ["jug", "text", "found", "word", "place"] ["jug", "text"] (defScope s__law_loose) := ⟨rfl, rfl, rfl, by decide +kernel, rfl, by decide +kernel, by decide +kernel⟩
theorem ok__law_loose (T : Tx K mg)  : Cl P w K mg base CX0 39 "_law_loose" ["jug", "text"] (spLoose K) := by
  obtain ⟨fd, F⟩ := T.f__law_loose
  refine ⟨_, fd, T.g__law_loose, F.kp, F.bindsN fun _ _ _ _ _ _ us hl => match us, hl with | [_, _], _ => rfl, F.ok sc__law_loose (fun vs H Q E h => ?_) (fun cdv A outer s H vs Q E hr h => ?_)⟩
  · obtain ⟨j, L, m, l, ws, rfl, _⟩ := h
    rfl
  · refine ⟨_, PSs.nox (pss_cons (ps_set (i := 2) sc__law_loose.nd rfl (by first | exact Or.inl rfl | exact Or.inr rfl) (pe_ix ix_list (pe_lst (pa_cons pe_str (pa_cons pe_str (pa_cons pe_str pa_nil)))) (G.pe_cl (ok__law_take T) hr (by decide) pass0 (pa_cons (pv 0) (pa_cons pe_int pa_nil))) (fun _ _ => rfl)))
  (pss_cons (ps_for PassesOwn.never rfl (pi_list (G.pe_cl (ok__law_words T) hr (by decide) pass0 (pa_cons (pv 1) pa_nil))) (pg_tup rfl (pgs_cons (pg_name (i := 3) sc__law_loose.nd rfl (by first | exact Or.inl rfl | exact Or.inr rfl)) (pgs_cons (pg_name (i := 4) sc__law_loose.nd rfl (by first | exact Or.inl rfl | exact Or.inr rfl)) pgs_nil))) (pss_one (ps_set (i := 2) sc__law_loose.nd rfl (by first | exact Or.inl rfl | exact Or.inr rfl) (pe_op op_add_str (pe_op op_add_str (pv 2) (pv 3)) (pe_ix ix_list (pe_lst (pa_cons pe_str (pa_cons pe_str (pa_cons pe_str (pa_cons pe_str pa_nil))))) (G.pe_cl (ok__law_take T) hr (by decide) pass0 (pa_cons (pv 0) (pa_cons pe_int pa_nil))) (fun _ _ => rfl))))))
  (pss_one (ps_ret (pv 2))))), ?_⟩
    obtain ⟨j, L, m, l, ws, rfl, hl, htk, hj, q⟩ := h
    have hws : (wordsOf l).map (·.1) = ws := htk.words'
    have hlen : (wordsOf l).length ≤ l.length := wordsF_len _ _ _
    have hsum : ((wordsOf l).map fun p => p.1.length).sum ≤ l.length := wordsF_sum _ _ _
    rw [show m + 1 + l.length = (m + l.length) + 1 by omega] at hj
    unfold tAsg tSeq
    refine x_pick (K := K) (ds := blA) (m := 3) (en_lst (ea_cons ((ed_s (n := " ")).to (congrArg _ bs1)) (ea_cons ((ed_s (n := "")).to (congrArg _ bs2)) (ea_cons ((ed_s (n := "\n ")).to (congrArg _ bs3)) ea_nil))) (by decide)) hj rfl rfl (by decide) (by decide) rfl fun v H1 d m1 hj1 hd hv => ?_
    obtain ⟨b0, rfl, hb0, hb0l⟩ := blA_ok d hd
    obtain rfl := dpS hv
    refine name_in ?_
    dsimp only
    refine s_forJ (K := K) (j := j) (xs := (wordsOf l).map wordD) (fun i σ' H' => ∃ (bs : List (List Nat)) (acc : List Nat) (x3 x4 : Option V), σ' = [some (.ref j), some (.str (S l)), some (.str (S acc)), x3, x4] ∧ acc = b0 ++ looseL (ws.take i) bs ∧ Mv j H H' ∧ Jg K H' j L (m + (l.length - i)) ∧ bs.length = i ∧ (∀ b ∈ bs, GoodB b) ∧ acc.length ≤ 2 + (((wordsOf l).take i).map fun p => p.1.length).sum + 3 * i)
      (ej_listN (en_call (ea_cons (ed_var (i := 1) (.str _)) ea_nil) ⟨l, by omega, rfl, rfl⟩) hj1 (wordD_tt _)) (fun H2 s2 => ⟨[], b0, none, none, rfl, by simp [looseL], m1.trans (Mv.of s2), (hj1.same s2).mono (by omega), rfl, fun b hb => (by cases hb), by simp; omega⟩) (fun i σ' H' ⟨_, _, _, _, _, _, _, h, _⟩ => ⟨_, h⟩) ?_ ?_
    · rintro i x v σ' H1 hx ⟨bs, acc, x3, x4, rfl, hacc, m1, hj1, hbs, hgood, hal⟩ hv
      rw [List.getElem?_map] at hx
      cases hp : (wordsOf l)[i]? with
      | none => rw [hp] at hx; cases hx
      | some p =>
        rw [hp] at hx
        obtain rfl := Option.some.inj hx
        obtain ⟨hil, hpe⟩ := List.getElem?_eq_some_iff.mp hp
        have hwl : ws.length = (wordsOf l).length := by rw [← hws, List.length_map]
        have hsp : ((wordsOf l).take (i + 1)).map (fun p => p.1.length) = ((wordsOf l).take i).map (fun p => p.1.length) ++ [p.1.length] := by rw [List.take_succ, hp]; simp
        have hwp : ws.take (i + 1) = ws.take i ++ [p.1] := by
          have : ws[i]? = some p.1 := by rw [← hws, List.getElem?_map, hp]; rfl
          rw [List.take_succ, this]; rfl
        have hsle : (((wordsOf l).take (i + 1)).map (fun p => p.1.length)).sum ≤ l.length := by
          have h1 : (((wordsOf l).take (i + 1)).map (fun p => p.1.length)).sum + (((wordsOf l).drop (i + 1)).map (fun p => p.1.length)).sum = ((wordsOf l).map fun p => p.1.length).sum := by
            rw [← List.sum_append, ← List.map_append, List.take_append_drop]
          omega
        have hsle2 := hsle
        rw [hsp, List.sum_append] at hsle2
        simp only [List.sum_cons, List.sum_nil] at hsle2
        refine g_pair hv fun w1 w2 e1 e2 => ?_
        refine op_in ?_
        refine (ed_catS (K := K) (σ := [some (.ref j), some (.str (S l)), some (.str (S acc)), some w1, some w2]) (a := acc) (b := p.1) (ed_var (i := 2) (.str _)) (ed_var (i := 3) e1) (by omega)) H1 (Same.refl H1) _ fun v2 H2 s2 hv2 => ?_
        have hj2 := hj1.same s2
        rw [show m + (l.length - i) = (m + (l.length - (i + 1))) + 1 by omega] at hj2
        refine x_pick (K := K) (ds := blB) (m := 4) (en_lst (ea_cons ((ed_s (n := " ")).to (congrArg _ bs1)) (ea_cons ((ed_s (n := "\n")).to (congrArg _ bs4)) (ea_cons ((ed_s (n := "  ")).to (congrArg _ bs5)) (ea_cons ((ed_s (n := " \n ")).to (congrArg _ bs6)) ea_nil)))) (by decide)) hj2 rfl rfl (by decide) (by decide) rfl fun v3 H3 d m3 hj3 hd hv3 => ?_
        obtain ⟨b, rfl, hb, hbl⟩ := blB_ok d hd
        refine ⟨S (acc ++ p.1), S b, dpS hv2, dpS hv3, sz_of (by rw [S_len, S_len, List.length_append]; omega), ?_⟩
        rw [S_cat]
        refine name_in ?_
        refine ⟨(Mv.of s2).trans m3, bs ++ [b], acc ++ p.1 ++ b, _, _, rfl, ?_, (m1.trans (Mv.of s2)).trans m3, hj3, by simp [hbs], fun b' hb' => ?_, ?_⟩
        · rw [hwp, looseL_snoc (by rw [List.length_take, hbs]; omega), hacc]
          simp
        · rcases List.mem_append.mp hb' with h | h
          · exact hgood _ h
          · obtain rfl := List.mem_singleton.mp h
            exact hb
        · rw [hsp, List.sum_append]
          simp only [List.length_append, List.sum_cons, List.sum_nil]
          omega
    · rintro σ' H2 ⟨bs, acc, x3, x4, rfl, hacc, m2, hj2, hbs, hgood, hal⟩
      rw [List.length_map] at hbs hacc hal hj2
      have hwl : ws.length = (wordsOf l).length := by rw [← hws, List.length_map]
      rw [← hwl, List.take_length] at hacc
      rw [List.take_length] at hal
      refine s_ret (K := K) (ed_var (i := 2) (.str _)) fun v H3 s3 hv => ?_
      obtain rfl := dpS hv
      refine q H3 acc (m2.trans (Mv.of s3)) ((hj2.same s3).mono (by omega)) ?_ (by omega)
      rw [hacc]
      exact Toks.blanks hb0 (htk.loose bs (by omega) hgood)
end
end G


set_option Elab.async false
set_option linter.all false
set_option maxRecDepth 100000
set_option maxHeartbeats 4000000
namespace G
open PySem PySem.Spec PyProof.Rows L2
def sdP : Nat → PyData → Prop
  | _, .int _ => True
  | _, .str s => PyData.strOk s = true
  | n + 1, .tuple ds => ds.length ≤ 100 ∧ ∀ d ∈ ds, sdP n d
  | _, _ => False
theorem kit2 {K : PySem.W.Frag} {t a b : Value} {x y : Bool} (h1 : PySem.W.kitOne K t a = some x) (h2 : PySem.W.kitOne K t b = some y) : PySem.W.kitAny K t [a, b] = some (x || y) := by
  unfold PySem.W.kitAny
  simp [h1, h2, PySem.W.kitAny]
  cases x <;> cases y <;> rfl
section
variable {K : PySem.W.Frag} {σ : L2.St} {H H' : Hp} {ta tb te tl : TE} {d e : PyData} {D : Ends}
theorem next_in (h : D.nx σ H) : tNext D σ H := h
theorem ed_isIS (ha : EvD K ta σ H d) : EvD K (tCB (rIsiT K) (tCons ta (tCons (tTup (tCons (tC (.ty "int")) (tCons (tC (.ty "str")) tNil))) tNil))) σ H (.bool (isI d || isS d)) := fun H1 s Q q => ha H1 s _ fun v H2 s2 hv => by
  refine ⟨by show 2 ≤ sizeLine; rw [sizeLine_eq]; omega, fun p hp => ?_⟩
  have s3 : Same H2 (upd H2 p (.tup [.ty "int", .ty "str"])) := (Same.refl H2).new hp
  refine ⟨v, p, [.ty "int", .ty "str"], .type (tyD d), [.type "int", .type "str"], isI d || isS d, rfl, upd_same, .cons (.ty _) (.cons (.ty _) .nil), dp_ty (dp_same s3 _ _ hv), ?_, q _ _ (s2.trans s3) (.bl _)⟩
  exact kit2 (kit_I d) (kit_S d)
end
def Rsame (N : Nat) : List PyData → PyData → Prop
  | [a, b], r => a = b ∧ (∃ n, N = n + 1 ∧ sdP n a) ∧ r = .bool true
  | _, _ => False
theorem sdP_shape {n : Nat} {d : PyData} (h : sdP n d) (ht : isT d = false) : SeqAt.shaped d = true ∧ PyData.eqv d d = true ∧ (isI d || isS d) = true ∧ isN d = false := by
  cases d with
  | int i => exact ⟨shaped_of rfl (by simp [PyData.depth]), by simp [PyData.eqv], rfl, rfl⟩
  | str x => exact ⟨shaped_of (by cases n <;> simpa [PyData.canLay0, sdP] using h) (by simp [PyData.depth]), by simp [PyData.eqv], rfl, rfl⟩
  | tuple ds => cases ht
  | none => cases n <;> exact h.elim
  | bool b => cases n <;> exact h.elim
  | list ds => cases n <;> exact h.elim
  | dict kv => cases n <;> exact h.elim
section
variable {P : Program} {w : World} {K : PySem.W.Frag} {mg : Str → Option Value} {base : Heap}
theorem sc__law_same : FnScope ["found", "due", "k"] ["found", "due"] (defScope s__law_same) := ⟨rfl, rfl, rfl, by decide +kernel, rfl, by decide +kernel, by decide +kernel⟩
theorem ok__law_same (T : Tx K mg) (n : Nat) (ih : Cl P w K mg base CX0 (40 + n) "_law_same" ["found", "due"] (spD K (Rsame n)))  : Cl P w K mg base CX0 (40 + n + 1) "_law_same" ["found", "due"] (spD K (Rsame (n + 1))) := by
  obtain ⟨fd, F⟩ := T.f__law_same
  refine ⟨_, fd, T.g__law_same, F.kp, F.bindsN fun _ _ _ _ _ _ us hl => match us, hl with | [_, _], _ => rfl, F.ok sc__law_same (fun vs H Q E h => ?_) (fun cdv A outer s H vs Q E hr h => ?_)⟩
  · obtain ⟨ds, r, hd, hR, _⟩ := h
    match ds, hR with
    | [_, _], _ => exact hd.len
  · obtain ⟨ds, r, hd, hR, q⟩ := h
    match ds, vs, hd, hR with
    | [d0, d1], [v0, v1], .cons h0 (.cons h1 .nil), hR =>
    refine ⟨_, PSs.nox (pss_cons (ps_if (PW.pt (pw_or (pt_cmpR op_isN (pv 1) pe_non (nomark _)) (pw_or1 (pt_cmpR op_isN (pv 0) pe_non (nomark _))))) (pss_one (ps_ret (pe_and (pe_cmpR op_isN (pv 0) pe_non (nomark _)) (pe_one (pe_cmpR op_isN (pv 1) pe_non (nomark _)))))) pss_nil)
  (pss_cons (ps_if (pt_val (pe_callB call_isi (by rfl) T.b_isinstance PyProof.Rows.Boot.«isinstance» (pa_cons (pv 1) (pa_cons (pe_bltn (v := .ty "tuple") (by rfl) T.b_tuple PyProof.Rows.Boot.«tuple» rfl) pa_nil)))) (pss_cons (ps_if (PW.pt (pw_or (pt_not (pt_val (pe_callB call_isi (by rfl) T.b_isinstance PyProof.Rows.Boot.«isinstance» (pa_cons (pv 0) (pa_cons (pe_bltn (v := .ty "tuple") (by rfl) T.b_tuple PyProof.Rows.Boot.«tuple» rfl) pa_nil))))) (pw_or1 (pt_cmpR op_ne (pe_callB call_len_seq (by rfl) T.b_len PyProof.Rows.Boot.«len» (pa_cons (pv 0) pa_nil)) (pe_callB call_len_seq (by rfl) T.b_len PyProof.Rows.Boot.«len» (pa_cons (pv 1) pa_nil)) (nomark _))))) (pss_one (ps_ret pe_bl)) pss_nil)
  (pss_one (ps_ret (pe_cmpR (op_eqD hr.units) (pe_lc (own := [("k", 2)]) (g := (gName 2)) rfl sc__law_same.nd (pi_range1 (by rfl) T.b_range (pa_cons (pe_callB call_len_seq (by rfl) T.b_len PyProof.Rows.Boot.«len» (pa_cons (pv 1) pa_nil)) pa_nil)) (blkOk_by (own := [("k", 2)]) (N := ["found", "due", "k"]) (sc := defScope s__law_same) (by decide +kernel)) (fun _ _ _ _ _ => (pg_name (i := 2) sc__law_same.nd rfl (by first | exact Or.inl rfl | exact Or.inr rfl))) (fun _ _ _ _ _ => pts_one (show PT _ _ (tNot (tB (tCall (spD K (Rsame n)) [] E0 (tCons (tOp (rIxT K) (tVar 0) (tVar 2)) (tCons (tOp (rIxT K) (tVar 1) (tVar 2)) tNil))))) from (pt_not (pt_val (G.pe_cl ih hr (by omega) pass0 (pa_cons (pe_ix ix_tup (pv 0) (pv 2) (fun _ _ => rfl)) (pa_cons (pe_ix ix_tup (pv 1) (pv 2) (fun _ _ => rfl)) pa_nil))))))) (fun _ _ _ _ _ => (pv 2))) (pe_lst pa_nil) (nomark _))))) pss_nil)
  (pss_cons (ps_if (PW.pt (pw_or (pt_cmpR op_ne (pe_callB call_isi (by rfl) T.b_isinstance PyProof.Rows.Boot.«isinstance» (pa_cons (pv 0) (pa_cons (pe_bltn (v := .ty "bool") (by rfl) T.b_bool PyProof.Rows.Boot.«bool» rfl) pa_nil))) (pe_callB call_isi (by rfl) T.b_isinstance PyProof.Rows.Boot.«isinstance» (pa_cons (pv 1) (pa_cons (pe_bltn (v := .ty "bool") (by rfl) T.b_bool PyProof.Rows.Boot.«bool» rfl) pa_nil))) (nomark _)) (pw_or1 (pt_cmpR op_ne (pe_callB call_isi (by rfl) T.b_isinstance PyProof.Rows.Boot.«isinstance» (pa_cons (pv 0) (pa_cons (pe_bltn (v := .ty "str") (by rfl) T.b_str PyProof.Rows.Boot.«str» rfl) pa_nil))) (pe_callB call_isi (by rfl) T.b_isinstance PyProof.Rows.Boot.«isinstance» (pa_cons (pv 1) (pa_cons (pe_bltn (v := .ty "str") (by rfl) T.b_str PyProof.Rows.Boot.«str» rfl) pa_nil))) (nomark _))))) (pss_one (ps_ret pe_bl)) pss_nil)
  (pss_one (ps_ret (pe_and (pe_callB call_isiT (by rfl) T.b_isinstance PyProof.Rows.Boot.«isinstance» (pa_cons (pv 0) (pa_cons (pe_tup (pa_cons (pe_bltn (v := .ty "int") (by rfl) T.b_int PyProof.Rows.Boot.«int» rfl) (pa_cons (pe_bltn (v := .ty "str") (by rfl) T.b_str PyProof.Rows.Boot.«str» rfl) pa_nil))) pa_nil))) (pe_one (pe_cmpR (op_eqD hr.units) (pv 0) (pv 1) (nomark _))))))))), ?_⟩
    obtain ⟨rfl, ⟨n', hn', hsd⟩, rfl⟩ := hR
    obtain rfl : n' = n := by omega
    cases ht : isT d0 with
    | false =>
      obtain ⟨hsh, heq, his, hno⟩ := sdP_shape hsd ht
      refine s_ifF (et_orF (et_test (ed_isN (ed_var h1))) hno (et_test (ed_isN (ed_var h0)))) hno fun H1 s1 => ?_
      have g0 := dp_same s1 _ _ h0
      have g1 := dp_same s1 _ _ h1
      refine s_ifF (et_B (ed_isi (K := K) (ed_var (i := 1) g1) (kit_T _))) ht fun H2 s2 => ?_
      have g0 := dp_same s2 _ _ g0
      have g1 := dp_same s2 _ _ g1
      refine s_ifF (et_orF (et_test (ed_neB (K := K) (ed_isi (ed_var (i := 0) g0) (kit_B _)) (ed_isi (ed_var (i := 1) g1) (kit_B _)))) (by simp) (et_test (ed_neB (K := K) (ed_isi (ed_var (i := 0) g0) (kit_S _)) (ed_isi (ed_var (i := 1) g1) (kit_S _))))) (by simp) fun H3 s3 => ?_
      have g0 := dp_same s3 _ _ g0
      have g1 := dp_same s3 _ _ g1
      refine s_ret (K := K) (ed_and (ed_isIS (ed_var g0)) fun _ => ed_eqD (ed_var g0) (ed_var g1) hsh hsh) fun v H4 s4 hv => q v H4 (((s1.trans s2).trans s3).trans s4) ?_
      rw [his, heq] at hv
      exact hv
    | true =>
      cases d0 with
      | tuple ds =>
        obtain ⟨m, rfl⟩ : ∃ m, n' = m + 1 := by
          cases n' with
          | zero => exact hsd.elim
          | succ m => exact ⟨m, rfl⟩
        obtain ⟨hdl, hds⟩ := hsd
        have hfe : ((List.range ds.length).filter (fun _ => false)).map (fun (i : Nat) => PyData.int (i : Int)) = [] := by
          rw [List.map_eq_nil_iff, List.filter_eq_nil_iff]
          exact fun _ _ h => nomatch h
        refine s_ifF (et_orF (et_test (ed_isN (ed_var h1))) rfl (et_test (ed_isN (ed_var h0)))) rfl fun H1 s1 => ?_
        have g0 := dp_same s1 _ _ h0
        have g1 := dp_same s1 _ _ h1
        refine s_ifT (et_B (ed_isi (K := K) (ed_var (i := 1) g1) (kit_T _))) rfl fun H2 s2 => ?_
        have g0 := dp_same s2 _ _ g0
        have g1 := dp_same s2 _ _ g1
        refine s_ifF (et_orF (et_not (et_B (ed_isi (K := K) (ed_var (i := 0) g0) (kit_T _)))) rfl (et_test (ed_neI (K := K) (ed_lenT (ed_var (i := 0) g0)) (ed_lenT (ed_var (i := 1) g1))))) (by simp) fun H3 s3 => ?_
        have g0 := dp_same s3 _ _ g0
        have g1 := dp_same s3 _ _ g1
        refine next_in ?_
        dsimp only
        refine s_ret (K := K) (ed_eqD (ed_ofN (en_lcP (List.range ds.length) (fun (i : Nat) => .int (i : Int)) (fun _ => false) (fun (i : Nat) => .int (i : Int)) ?_ (by rw [List.length_range]; omega) (fun _ _ _ => rfl) fun i hi v H4 s4 hv W hW => ?_)) (ed_ofN (en_lst ea_nil (by decide))) (by rw [hfe]; exact shaped_nilL) shaped_nilL) fun v H4 s4 hv => by
          rw [hfe] at hv
          exact q v H4 (((s1.trans s2).trans s3).trans s4) hv
        · exact ei_range (K := K) (ed_lenT (ed_var (i := 1) g1)) (by omega) (by omega)
        · have hil := List.mem_range.mp hi
          have hat : atI ds (i : Int) = some ds[i] := atI_nat (List.getElem?_eq_getElem hil)
          obtain rfl := dpI hv
          exact hW _ wipe_set1 (et_not (b := true) (et_B (K := K) (ed_call (ea_cons (ed_ixT (ed_var (i := 0) (dp_same s4 _ _ g0)) (ed_vi (i := 2) rfl) hat) (ea_cons (ed_ixT (ed_var (i := 1) (dp_same s4 _ _ g1)) (ed_vi (i := 2) rfl) hat) ea_nil)) ⟨rfl, ⟨m, rfl, hds _ (List.getElem_mem hil)⟩, rfl⟩))) fun z => nomatch z
      | _ => cases ht
theorem rec_law_same (T : Tx K mg) : ∀ n, Cl P w K mg base CX0 (40 + n) "_law_same" ["found", "due"] (spD K (Rsame n))
  | 0 => by
    have no : ∀ {vs H Q} {E : XK}, spD K (Rsame 0) vs H Q E → False := fun h => by
      obtain ⟨ds, r, _, hR, _⟩ := h
      match ds, hR with
      | [_, _], hR =>
        obtain ⟨_, ⟨n, h, _⟩, _⟩ := hR
        cases h
    obtain ⟨fd, F⟩ := T.f__law_same
    exact ⟨_, fd, T.g__law_same, F.kp, F.bindsN fun _ _ _ _ _ _ us hl => match us, hl with | [_, _], _ => rfl, F.ok sc__law_same (fun vs H Q E h => (no h).elim) (fun cdv A outer s H vs Q E hr h => (no h).elim)⟩
  | n + 1 => ok__law_same T n (rec_law_same T n)
theorem rt_law_same (T : Tx K mg) : Cl P w K mg base CX0 60 "_law_same" ["found", "due"] (spD K (Rsame 20)) := rec_law_same T 20
end
end G


set_option Elab.async false
set_option linter.all false
set_option maxRecDepth 100000
set_option maxHeartbeats 4000000
namespace G
open PySem PySem.Spec PyProof.Rows L2
section
variable {K : PySem.W.Frag} {σ : L2.St} {H H' : Hp} {ta tb te tl : TE} {d e : PyData} {D : Ends}
theorem er_XS {R : List PyData → PyData → Prop} {Y : List PyData → Addr → Prop} {W : WX} {ts : TA} {ds : List PyData} {C : Addr} (h : EvA K ts σ H ds) (hr : Y ds C) (q : ∀ H', Same H H' → W (.ref C) none σ H') : tDrop (tCallS (spX K R Y) (WE W) ts) D σ H :=
  h H (Same.refl H) _ fun vs H2 s2 hv => ⟨ds, hv, .inr ⟨C, hr, fun H' s' => q H' (s2.trans s')⟩⟩
theorem er_WS {R : List PyData → PyData → Prop} {Y : List PyData → Addr → Prop} {W : WX} {ts : TA} {ds : List PyData} {C : Addr} (t : NdefX.TabsN (TTab K) H) (h : EvA K ts σ H ds) (hr : Y ds C) (q : ∀ H', Xt K H H' → W (.ref C) none σ H') : tDrop (tCallS (spW K R Y) (WE W) ts) D σ H :=
  h H (Same.refl H) _ fun vs H2 s2 hv => ⟨t.ext s2, ds, hv, .inr ⟨C, hr, fun H' s' => q H' ((Xt.of s2 t).trans s')⟩⟩
theorem wm_yes {c cls : Value} {d : Option Addr} {ts : Addr → Value → Option Addr → TS} {r : List (Value × (Addr → Value → Option Addr → TS))} {Wout : WX} (h : PySem.W.exmOne K cls c = some true) (q : ∀ a, ts a cls d D σ H) : wMany K Wout D ((c, ts) :: r) cls d σ H :=
  ⟨true, h, fun _ a _ => q a, fun z => by cases z⟩
theorem wm_no {c cls : Value} {d : Option Addr} {ts : Addr → Value → Option Addr → TS} {r : List (Value × (Addr → Value → Option Addr → TS))} {Wout : WX} (h : PySem.W.exmOne K cls c = some false) (q : wMany K Wout D r cls d σ H) : wMany K Wout D ((c, ts) :: r) cls d σ H :=
  ⟨false, h, fun z => (by cases z), fun _ => q⟩
end
def Rword : List PyData → PyData → Prop
  | [w, s, t], r => (∃ k : Nat, k < 5 ∧ w = .int (k : Int) ∧ s = .tuple [] ∧ t = .none ∧ r = .str "signature") ∨ (w = .int 1 ∧ t = .none ∧ r = .str "tree" ∧ ∃ sg, SgOk sg ∧ s = sigD sg) ∨ (w = .int 2 ∧ t = .none ∧ r = .str "rules" ∧ ∃ sg, SgOk sg ∧ s = sigD sg)
  | _, _ => False
section
variable {P : Program} {w : World} {K : PySem.W.Frag} {mg : Str → Option Value} {base : Heap}
theorem sc__law_word : FnScope ["which", "signature", "thing", "word"] ["which", "signature", "thing"] (defScope s__law_word) := ⟨rfl, rfl, rfl, by decide +kernel, rfl, by decide +kernel, by decide +kernel⟩
theorem ok__law_word (T : Tx K mg) (tb : LamX.TabB base mg (wtC K) (wtP K)) (hP : PF P)  : Cl P w K mg base CX0 10 "_law_word" ["which", "signature", "thing"] (spW K Rword Y0) := by
  obtain ⟨fd, F⟩ := T.f__law_word
  refine ⟨_, fd, T.g__law_word, F.kp, F.bindsN fun _ _ _ _ _ _ us hl => match us, hl with | [_, _, _], _ => rfl, F.ok sc__law_word (fun vs H Q E h => ?_) (fun cdv A outer s H vs Q E hr h => ?_)⟩
  · obtain ⟨_, ds, hd, ⟨r, hR, _⟩ | ⟨C, hR, _⟩⟩ := h
    · match ds, hR with
      | [_, _, _], _ => exact hd.len
    · exact hR.elim
  · refine ⟨_, PSs.nox (pss_cons (ps_set (i := 3) sc__law_word.nd rfl (by first | exact Or.inl rfl | exact Or.inr rfl) pe_str)
  (pss_cons (ps_try_many (Wout := fun _ _ _ _ => False) rfl rfl takes_none5 (fun W pn xe tk _ => (pss_one (ps_if (pt_cmpR op_eq (pv 0) pe_int (nomark _)) (pss_one (ps_expr (G.pe_clS (ok_write_signature T) hr (by decide) (fun σ => passAt tk σ) (pa_cons (pv 1) pa_nil)))) (pss_one (ps_if (pt_cmpR op_eq (pv 0) pe_int (nomark _)) (pss_one (ps_expr (G.pe_clS (ok_write_tree T tb) hr (by decide) (fun σ => passAt tk σ) (pa_cons (pv 1) (pa_cons (pv 2) pa_nil))))) (pss_one (ps_if (pt_cmpR op_eq (pv 0) pe_int (nomark _)) (pss_one (ps_expr (G.pe_clS (ok_write_rules T tb) hr (by decide) (fun σ => passAt tk σ) (pa_cons (pv 1) (pa_cons (pv 2) pa_nil))))) (pss_one (ps_if (pt_cmpR op_eq (pv 0) pe_int (nomark _)) (pss_one (ps_expr (G.pe_clS (ok_read_tree T hP) hr (by decide) (fun σ => passAt tk σ) (pa_cons (pv 1) (pa_cons (pv 2) pa_nil))))) (pss_one (ps_expr (G.pe_clS (ok_read_rules T hP) hr (by decide) (fun σ => passAt tk σ) (pa_cons (pv 1) (pa_cons (pv 2) pa_nil)))))))))))))) (.cons ⟨rfl, by decide, Or.inl T.g_BadSignature⟩ (fun _ _ _ _ _ _ _ => (pss_one (ps_set (i := 3) sc__law_word.nd rfl (by first | exact Or.inl rfl | exact Or.inr rfl) pe_str))) (.cons ⟨rfl, by decide, Or.inl T.g_BadTree⟩ (fun _ _ _ _ _ _ _ => (pss_one (ps_set (i := 3) sc__law_word.nd rfl (by first | exact Or.inl rfl | exact Or.inr rfl) pe_str))) (.cons ⟨rfl, by decide, Or.inl T.g_BadRules⟩ (fun _ _ _ _ _ _ _ => (pss_one (ps_set (i := 3) sc__law_word.nd rfl (by first | exact Or.inl rfl | exact Or.inr rfl) pe_str))) (.cons ⟨rfl, by decide, Or.inl T.g_GroundError⟩ (fun _ _ _ _ _ _ _ => (pss_one (ps_set (i := 3) sc__law_word.nd rfl (by first | exact Or.inl rfl | exact Or.inr rfl) pe_str))) .nil)))))
  (pss_one (ps_ret (pv 3))))), ?_⟩
    obtain ⟨htab, ds, hd, ⟨r, hR, q⟩ | ⟨C, hR, q⟩⟩ := h
    · match ds, vs, hd, hR with
      | [d0, d1, d2], [v0, v1, v2], .cons h0 (.cons h1 (.cons h2 .nil)), hR =>
      have nk : ∀ (k m : Nat) {H' : Hp} {x : Option V}, EvT (tTest (tOp rEq (tVar 0) (tC (.int (m : Int))))) [some (.int (k : Int)), some v1, some v2, x] H' (decide ((k : Int) = (m : Int))) := fun k m H' x => et_test (ed_eqI (K := K) (ed_vi rfl) ed_i)
      refine s_set (K := K) ed_s fun v H1 s1 hv => ?_
      obtain rfl := dpS hv
      have x1 := Xt.of s1 htab
      rcases hR with ⟨k, hk, rfl, rfl, rfl, rfl⟩ | ⟨rfl, rfl, rfl, sg, hs, rfl⟩ | ⟨rfl, rfl, rfl, sg, hs, rfl⟩
      · obtain rfl := dpI h0
        have fin : ∀ H2 (r : List (Value × (Addr → Value → Option Addr → TS))), Xt K H1 H2 → wMany K (fun _ _ _ _ => False) { nx := tRet (tVar 3) { nx := fun x H' => Q V.non H', rt := Q }, rt := Q } ((.ref (He.ga K "BadSignature"), fun _ _ _ => tAsg (tC (.str "signature")) (gName 3)) :: r) (.ref (He.ga K "BadSignature")) none [some (.int (k : Int)), some v1, some v2, some (.str "told")] H2 :=
          fun H2 r x2 => wm_yes T.e_BadSignature_BadSignature fun a => s_set (K := K) ed_s fun v H3 s3 hv => s_ret (K := K) (ed_var hv) fun v4 H4 s4 hv4 => q v4 H4 ((x1.trans x2).same (s3.trans s4)) hv4
        match k, hk with
        | 0, _ => exact s_ifT (nk 0 0) (by decide) fun H2 s2 => er_XS (ea_cons (ed_var (dp_same (s1.trans s2) _ _ h1)) ea_nil) ⟨rfl, rfl⟩ fun H3 s3 => fin H3 _ ((Xt.of s2 x1.tab).same s3)
        | 1, _ => exact s_ifF (nk 1 0) (by decide) fun H2 s2 => s_ifT (nk 1 1) (by decide) fun H3 s3 => er_WS ((Xt.of (s2.trans s3) x1.tab).tab) (ea_cons (ed_var (dp_same ((s1.trans s2).trans s3) _ _ h1)) (ea_cons (ed_var (dp_same ((s1.trans s2).trans s3) _ _ h2)) ea_nil)) (.inl ⟨rfl, rfl⟩) fun H4 x4 => fin H4 _ ((Xt.of (s2.trans s3) x1.tab).trans x4)
        | 2, _ => exact s_ifF (nk 2 0) (by decide) fun H2 s2 => s_ifF (nk 2 1) (by decide) fun H3 s3 => s_ifT (nk 2 2) (by decide) fun H4 s4 => er_WS ((Xt.of ((s2.trans s3).trans s4) x1.tab).tab) (ea_cons (ed_var (dp_same (((s1.trans s2).trans s3).trans s4) _ _ h1)) (ea_cons (ed_var (dp_same (((s1.trans s2).trans s3).trans s4) _ _ h2)) ea_nil)) (.inl ⟨rfl, rfl⟩) fun H5 x5 => fin H5 _ ((Xt.of ((s2.trans s3).trans s4) x1.tab).trans x5)
        | 3, _ => exact s_ifF (nk 3 0) (by decide) fun H2 s2 => s_ifF (nk 3 1) (by decide) fun H3 s3 => s_ifF (nk 3 2) (by decide) fun H4 s4 => s_ifT (nk 3 3) (by decide) fun H5 s5 => er_XS (ea_cons (ed_var (dp_same ((((s1.trans s2).trans s3).trans s4).trans s5) _ _ h1)) (ea_cons (ed_var (dp_same ((((s1.trans s2).trans s3).trans s4).trans s5) _ _ h2)) ea_nil)) ⟨rfl, rfl⟩ fun H6 s6 => fin H6 _ (Xt.of ((((s2.trans s3).trans s4).trans s5).trans s6) x1.tab)
        | 4, _ => exact s_ifF (nk 4 0) (by decide) fun H2 s2 => s_ifF (nk 4 1) (by decide) fun H3 s3 => s_ifF (nk 4 2) (by decide) fun H4 s4 => s_ifF (nk 4 3) (by decide) fun H5 s5 => er_XS (ea_cons (ed_var (dp_same ((((s1.trans s2).trans s3).trans s4).trans s5) _ _ h1)) (ea_cons (ed_var (dp_same ((((s1.trans s2).trans s3).trans s4).trans s5) _ _ h2)) ea_nil)) ⟨rfl, rfl⟩ fun H6 s6 => fin H6 _ (Xt.of ((((s2.trans s3).trans s4).trans s5).trans s6) x1.tab)
      · obtain rfl := dpI h0
        exact s_ifF (nk 1 0) (by decide) fun H2 s2 => s_ifT (nk 1 1) (by decide) fun H3 s3 => er_WS ((Xt.of (s2.trans s3) x1.tab).tab) (ea_cons (ed_var (dp_same ((s1.trans s2).trans s3) _ _ h1)) (ea_cons (ed_var (dp_same ((s1.trans s2).trans s3) _ _ h2)) ea_nil)) (.inr ⟨rfl, rfl, sg, hs, rfl⟩) fun H4 x4 =>
          wm_no T.e_BadTree_BadSignature (wm_yes T.e_BadTree_BadTree fun a => s_set (K := K) ed_s fun v H5 s5 hv => s_ret (K := K) (ed_var hv) fun v6 H6 s6 hv6 => q v6 H6 (((x1.same (s2.trans s3)).trans x4).same (s5.trans s6)) hv6)
      · obtain rfl := dpI h0
        exact s_ifF (nk 2 0) (by decide) fun H2 s2 => s_ifF (nk 2 1) (by decide) fun H3 s3 => s_ifT (nk 2 2) (by decide) fun H4 s4 => er_WS ((Xt.of ((s2.trans s3).trans s4) x1.tab).tab) (ea_cons (ed_var (dp_same (((s1.trans s2).trans s3).trans s4) _ _ h1)) (ea_cons (ed_var (dp_same (((s1.trans s2).trans s3).trans s4) _ _ h2)) ea_nil)) (.inr ⟨rfl, rfl, sg, hs, rfl⟩) fun H5 x5 =>
          wm_no T.e_BadRules_BadSignature (wm_no T.e_BadRules_BadTree (wm_yes T.e_BadRules_BadRules fun a => s_set (K := K) ed_s fun v H6 s6 hv => s_ret (K := K) (ed_var hv) fun v7 H7 s7 hv7 => q v7 H7 (((x1.same ((s2.trans s3).trans s4)).trans x5).same (s6.trans s7)) hv7))
    · exact hR.elim
end
end G


set_option Elab.async false
set_option linter.all false
set_option maxRecDepth 100000
set_option maxHeartbeats 4000000
namespace G
open PySem PySem.Spec PyProof.Rows L2
theorem name_runs {sg : Sg} (hs : SgLike sg) {f : Nat} {e : Str × Nat} (h : sg[f]? = some e) : nameOf sg f ≠ [] ∧ (nameOf sg f).all isRun = true := by
  rw [nameOf_eq h]
  obtain ⟨a, b, _⟩ := low_run (hs.low _ (List.mem_of_getElem? h))
  exact ⟨a, b⟩
theorem tr_toks {sg : Sg} (hs : SgLike sg) : ∀ {t : Tr}, Tr.ok sg t → ∀ {ws : List (List Nat)} {cs : List Nat}, Toks ws cs → NoRun cs → Toks (trW sg t ++ ws) (trT sg t ++ cs)
  | .n0 f, ⟨x, hx⟩, ws, cs, h, hn => by
    obtain ⟨a, b⟩ := name_runs hs hx
    exact Toks.runL a b hn h
  | .n1 f t, ⟨⟨x, hx⟩, ht⟩, ws, cs, h, hn => by
    obtain ⟨a, b⟩ := name_runs hs hx
    have := Toks.runL a b (nr_cons r40) (Toks.sg (c := 40) (tr_toks hs ht (Toks.sg (c := 41) h) (nr_cons r41)))
    simpa [trW, trT] using this
  | .n2 f t u, ⟨⟨x, hx⟩, ht, hu⟩, ws, cs, h, hn => by
    obtain ⟨a, b⟩ := name_runs hs hx
    have := Toks.runL a b (nr_cons r40) (Toks.sg (c := 40) (tr_toks hs ht (Toks.sg (c := 44) (Toks.sp (tr_toks hs hu (Toks.sg (c := 41) h) (nr_cons r41)))) (nr_cons r44)))
    simpa [trW, trT] using this
theorem rl_toks {sg : Sg} (hs : SgLike sg) {p : Rl} (h1 : Tr.ok sg p.1) (h2 : Tr.ok sg p.2) {ws : List (List Nat)} {cs : List Nat} (h : Toks ws cs) (hn : NoRun cs) : Toks (rlW sg p ++ ws) (rlT sg p ++ cs) := by
  have := tr_toks hs h1 (Toks.sp (Toks.arrow (Toks.sp (tr_toks hs h2 h hn)))) (nr_cons r32)
  simpa [rlW, rlT] using this
theorem tail_toks {sg : Sg} (hs : SgLike sg) : ∀ {rs : List Rl}, (∀ p ∈ rs, Tr.ok sg p.1 ∧ Tr.ok sg p.2) → ∃ cs, Toks (tailR sg rs) cs ∧ NoRun cs ∧ ∀ p, rlsT sg (p :: rs) = rlT sg p ++ cs
  | [], _ => ⟨[], .nil, nr_nil, fun p => by simp [rlsT, TL.joinL]⟩
  | q :: rs, h => by
    obtain ⟨cs, h1, h2, h3⟩ := tail_toks hs (rs := rs) fun p hp => h p (List.mem_cons_of_mem _ hp)
    have hq := h q List.mem_cons_self
    refine ⟨59 :: 32 :: (rlT sg q ++ cs), ?_, nr_cons r59, fun p => ?_⟩
    · have := Toks.sg (c := 59) (Toks.sp (rl_toks hs hq.1 hq.2 h1 h2))
      simpa [tailR] using this
    · rw [← h3 q]
      simp [rlsT, TL.joinL]
theorem rls_toks {sg : Sg} (hs : SgLike sg) {rs : List Rl} (h : ∀ p ∈ rs, Tr.ok sg p.1 ∧ Tr.ok sg p.2) : Toks (rlsW sg rs) (rlsT sg rs) := by
  cases rs with
  | nil => exact .nil
  | cons p rs =>
    obtain ⟨cs, h1, h2, h3⟩ := tail_toks hs (rs := rs) fun p hp => h p (List.mem_cons_of_mem _ hp)
    have hp := h p List.mem_cons_self
    rw [h3 p]
    have := rl_toks hs hp.1 hp.2 h1 h2
    simpa [rlsW] using this
theorem tr_toks' {sg : Sg} (hs : SgLike sg) {t : Tr} (h : Tr.ok sg t) : Toks (trW sg t) (trT sg t) := by
  have := tr_toks hs h .nil nr_nil
  simpa using this
end G

set_option Elab.async false
set_option linter.all false
set_option maxRecDepth 100000
set_option maxHeartbeats 4000000
namespace G
open PySem PySem.Spec PyProof.Rows L2
section
variable {X : Cx} {CX : CXT} {k j n : Nat} {f : Addr} {fd : FuncData} {ps ks : List Str} {sp : Sp} {E : XK} {x : Str} {p pos : Pos} {kws : List Keyword} {tk : TA} {g : List Value → List Value → List Value} {gV : List V → List V → List V}
/-- f(k = v, ..) -/
theorem pe_callN0 (F : FnOk X.prog X.w X.K X.mg X.base CX k f fd ps sp) (hr : Room k X.A) (hg : Gl X x) (hm : X.mg x = some (.ref f)) (hk : PySem.W.keepIn X.K (.ref f) = true) (hb : KBn X.K fd ps 0 ks g gV) (hx : Passes CX X E)
    (hkw : PK X kws tk) (hall : (backToKw pos (keywordEach kws X.env)).all (·.1.isSome) = true := by rfl) (hks : (backToKw pos (keywordEach kws X.env)).filterMap (·.1) = ks := by rfl)
    (hdb : (x == ("__debug__" : Str)) = false := by decide) (hpl : ((backTo pos (starEach [] X.env)).any (·.1) || (backToKw pos (keywordEach kws X.env)).any (·.1.isNone)) = false := by rfl) :
    PE X (.Call (.Name x p) [] kws pos) (tCallN 0 ks.length sp gV E tNil tk) := by
  refine ⟨fun pins s σ H Q I h => ?_⟩
  refine wpAny_Call_Name_kw (ld_glob I hg hm ?_ hdb)
  refine PySem.W.callWith_KW0 (h₀ := X.base) I.ok.mod.kin hk hall ?_ hpl
  refine thn (hkw.run pos pins s σ H _ I h) fun ws s2 ⟨zs, H2, I2, rz, l1, l2, q2⟩ => ⟨I2.kIn, ?_⟩
  rw [hks]
  exact run_fnN (us := []) (vs := []) F hr hb hx I2 .nil rz rfl l2 q2
theorem pe_clK (c : ClK X.prog X.w X.K X.mg X.base CX k x ps ks sp) (hr : Room j X.A) (hk : k ≤ j) (hx : Passes CX X E) (hkw : PK X kws tk) (hg : Gl X x := by rfl)
    (hall : (backToKw pos (keywordEach kws X.env)).all (·.1.isSome) = true := by rfl) (hks : (backToKw pos (keywordEach kws X.env)).filterMap (·.1) = ks := by rfl)
    (hdb : (x == ("__debug__" : Str)) = false := by decide) (hpl : ((backTo pos (starEach [] X.env)).any (·.1) || (backToKw pos (keywordEach kws X.env)).any (·.1.isNone)) = false := by rfl) :
    PE X (.Call (.Name x p) [] kws pos) (tCallN 0 ks.length sp (fun _ zs => zs.reverse) E tNil tk) := by
  obtain ⟨f, fd, h1, h2, h3, h4, h5⟩ := c.ex
  exact pe_callN0 h4 (hr.mono hk) hg h1 h2 h5 hx hkw hall hks hdb hpl
end
end G

set_option Elab.async false
set_option linter.all false
set_option maxRecDepth 100000
set_option maxHeartbeats 4000000
namespace G
open PySem PySem.Spec PyProof.Rows L2
theorem Jg.xt {K : PySem.W.Frag} {H H' : Hp} {j L : Addr} {n : Nat} (x : Xt K H H') (h : Jg K H j L n) : Jg K H' j L n := by
  obtain ⟨ns, a, c, h1, h2, h3, h4, h5⟩ := h
  exact ⟨ns, a, c, x.ins h1, h2, x.ins h3, h4, h5⟩
theorem tabs_mv {T : List NdefX.NTab} {j : Addr} {us : List V} {H H' : Hp} (h : H j = some (.lst us)) (m : Mv j H H') (t : NdefX.TabsN T H) : NdefX.TabsN T H' := fun p hp => by
  obtain ⟨ps, h1, h2, h3⟩ := t p hp
  refine ⟨ps, m _ _ (fun z => by rw [z, h] at h1; cases h1) h1, h2, fun pos cv hc => ?_⟩
  obtain ⟨c, e1, e2⟩ := h3 pos cv hc
  exact ⟨c, e1, m _ _ (fun z => by rw [z, h] at e2; unfold LamX.CodeO at e2; cases e2) e2⟩
theorem Jg.tabs {K : PySem.W.Frag} {T : List NdefX.NTab} {H H' : Hp} {j L : Addr} {n : Nat} (h : Jg K H j L n) (m : Mv j H H') (t : NdefX.TabsN T H) : NdefX.TabsN T H' := by
  obtain ⟨ns, a, c, h1, _⟩ := h
  exact tabs_mv h1 m t
section
variable {K : PySem.W.Frag} {σ : L2.St} {H H' : Hp} {ta tb te tl te1 te2 : TE} {d e : PyData} {D : Ends} {j L : Addr} {ds es : List PyData}
theorem ed_min2 {i k : Int} (ha : EvD K te1 σ H (.int i)) (hb : EvD K te2 σ H (.int k)) : EvD K (tCB (fun xs H Q => ∃ i j, xs = [V.int i, V.int j] ∧ Q (V.int (if j < i then j else i)) H) (tCons te1 (tCons te2 tNil))) σ H (.int (if k < i then k else i)) := fun H1 s Q q =>
  ha H1 s _ fun v H2 s2 hv => hb H2 (s.trans s2) _ fun w H3 s3 hw => ⟨i, k, by rw [dpI hv, dpI hw], q _ H3 (s2.trans s3) (.int _)⟩
theorem en_cat (ha : EvN K ta σ H ds) (hb : EvN K tb σ H es) (hl : ds.length + es.length ≤ 1000) : EvN K (tOp rCat ta tb) σ H (ds ++ es) := fun H1 s Q q =>
  ha H1 s _ fun p vs H2 s2 hp hpl hvs => hb H2 (s.trans s2) _ fun r ws H3 s3 hr hrl hws => by
    refine ⟨p, r, vs, ws, rfl, rfl, s3 _ _ hpl, hrl, ?_, fun c hc => ?_⟩
    · rw [hvs.len, hws.len]
      have := sz_lt (n := ds.length + es.length) (by omega)
      omega
    · have s4 : Same H3 (upd H3 c (.lst (vs ++ ws))) := (Same.refl H3).new hc
      exact q c _ _ ((s2.trans s3).trans s4) (back (s2.trans s3) hc) upd_same (dps_app (dps_same (s3.trans s4) _ _ hvs) (dps_same s4 _ _ hws))
theorem dps_replicate {v : V} (h : Dp K H v d) : ∀ n, DpAll K H (List.replicate n v) (List.replicate n d)
  | 0 => .nil
  | n + 1 => .cons h (dps_replicate h n)
theorem en_rep {n : Nat} (ha : EvN K ta σ H [d]) (hn : n ≤ 1000) : EvN K (tOp rRep ta (tC (.int (n : Int)))) σ H (List.replicate n d) := fun H1 s Q q =>
  ha H1 s _ fun p vs H2 s2 hp hpl hvs => by
    cases hvs with
    | cons h1 h2 =>
      cases h2
      rename_i v
      refine ⟨p, (n : Int), [v], rfl, rfl, hpl, by omega, by omega, ?_, fun c hc => ?_⟩
      · have := sz_lt (n := n) (by omega)
        simp; omega
      · have e : (List.replicate ((n : Int)).toNat [v]).flatten = List.replicate n v := by
          rw [Int.toNat_natCast]
          clear hn hpl q
          induction n with
          | zero => rfl
          | succ n ih => rw [List.replicate_succ, List.flatten_cons, ih]; rfl
        rw [e]
        have s4 : Same H2 (upd H2 c (.lst (List.replicate n v))) := (Same.refl H2).new hc
        exact q c _ _ (s2.trans s4) (back s2 hc) upd_same (dps_replicate (dp_same s4 _ _ h1) n)
/-- a loop over a tuple that is there -/
theorem loop_tup {a : Addr} {xs : List V} {g : TG} {ts : TS} (hs : SqT K H a xs) (hv : DpAll K H xs ds) (W : Nat → L2.St → Hp → Prop) (h0 : W 0 σ H) (hsame : ∀ i σ' H', W i σ' H' → Same H H')
    (step : ∀ i x v σ' H1, ds[i]? = some x → W i σ' H1 → Dp K H1 v x → g v σ' H1 fun σ2 H2 => ts { D with nx := W (i + 1), ct := W (i + 1), bk := D.nx } σ2 H2) (fin : ∀ σ' H', W ds.length σ' H' → D.nx σ' H') :
    ∃ W : Nat → Nat → L2.St → Hp → Prop, (∃ m, W 0 m σ H) ∧ ∀ (i m : Nat) (σ : L2.St) (H : Hp), W i m σ H → (Itt K a).stop i H ∧ D.nx σ H ∨ (Itt K a).go i H ∧ ∃ N : L2.St → Hp → Prop, (∀ (σ' : L2.St) (H' : Hp), N σ' H' → ∃ m', m' < m ∧ W (i + 1) m' σ' H') ∧
      ∀ (x : V) (H' : Hp), (Itt K a).yld i H x H' → g x σ H' fun σ2 H2 => ts { nx := N, rt := D.rt, bk := D.nx, ct := N } σ2 H2 := by
  have w := wk_tup hs hv
  refine ⟨fun i m σ' H' => m = ds.length - i ∧ i ≤ ds.length ∧ W i σ' H', ⟨ds.length, rfl, Nat.zero_le _, h0⟩, ?_⟩
  rintro i m σ' H3 ⟨rfl, hil, hw⟩
  have s3 := hsame _ _ _ hw
  by_cases hlt : i < ds.length
  · refine .inr ⟨w.goes i H3 hlt s3, W (i + 1), fun σ4 H4 b => ⟨ds.length - (i + 1), by omega, rfl, hlt, b⟩, fun x H4 y => ?_⟩
    have hy := y
    obtain ⟨_, hxd⟩ := w.yields i H3 x H4 _ (List.getElem?_eq_getElem hlt) s3 hy
    have e4 : H4 = H3 := y.1
    rw [e4] at hxd ⊢
    exact step i _ x σ' _ (List.getElem?_eq_getElem hlt) hw hxd
  · have e : i = ds.length := by omega
    subst e
    exact .inl ⟨w.stops H3 s3, fin _ _ hw⟩
/-- a comprehension over a range, its elements may write into the table -/
theorem xr_lc {g : TG} {vs : List Nat} {n : Nat} {Q : VK} (f : PyData) (ht : NdefX.TabsN (TTab K) H) (hn : n ≤ 1000) (htt : tt f = true)
    (hel : ∀ i, i < n → ∀ v H1, Xt K H H1 → Dp K H1 v (.int (i : Int)) → ∀ W : L2.St → Hp → Prop, (∀ σ2, wipe σ2 vs = wipe σ vs → EvX K te σ2 H1 f → W σ2 H1) → g v (wipe σ vs) H1 W)
    (q : ∀ p us H', Xt K H H' → H p = none → H' p = some (.lst us) → DpAll K H' us (List.replicate n f) → Q (.ref p) H') : tLc (iRng1 (tCons (tC (.int (n : Int))) tNil)) g tYes te vs σ H Q := by
  refine ⟨(n : Int), rfl, by omega, by omega, fun D hD => ?_⟩
  have x0 : Xt K H (L2.upd H D (.lst [])) := Xt.of ((Same.refl H).new hD) ht
  refine ⟨fun i m H' => m = n - i ∧ i ≤ n ∧ Xt K H H' ∧ ∃ acc, H' D = some (.lst acc) ∧ DpAll K H' acc (List.replicate i f) ∧ acc.length ≤ i, ⟨n, rfl, Nat.zero_le _, x0, [], upd_same, .nil, Nat.le_refl _⟩, ?_⟩
  rintro i m H2 ⟨rfl, hi, x2, acc, hacc, hdp, hal⟩
  by_cases hlt : i < n
  · refine .inr ⟨show i < ((n : Int)).toNat by simpa using hlt, fun H' => i + 1 ≤ n ∧ Xt K H H' ∧ ∃ acc, H' D = some (.lst acc) ∧ DpAll K H' acc (List.replicate (i + 1) f) ∧ acc.length ≤ i + 1, fun H' ⟨a, b⟩ => ⟨n - (i + 1), by omega, rfl, a, b⟩, fun x H3 y => ?_⟩
    obtain ⟨rfl, rfl⟩ := y
    have hxd : Dp K H3 (.int (0 + (i : Int))) (.int (i : Int)) := by rw [show (0 + (i : Int)) = (i : Int) by omega]; exact .int _
    refine hel i hlt _ H3 x2 hxd _ fun σ2 hw he => ⟨hw, ?_⟩
    unfold tYes
    dsimp only
    simp only [if_true]
    refine he H3 (Xt.of (Same.refl H3) x2.tab) _ fun z H4 x4 hz => ?_
    have hacc4 := x4.ins hacc
    refine ⟨acc, hacc4, sz_lt (by omega), hlt, (x2.trans x4).upd hD hacc4, _, upd_same, ?_, by simp; omega⟩
    have hk : Kt H4 (L2.upd H4 D (.lst (acc ++ [z]))) := Kt.rfl'.lst hacc4
    rw [List.replicate_succ']
    exact (dps_kt hk _ _ (tts_of fun d hd => by rw [List.eq_of_mem_replicate hd]; exact htt) (dps_xt x4 _ _ hdp)).snoc (dp_kt hk _ _ htt hz)
  · have e : i = n := by omega
    subst e
    exact .inl ⟨show ((i : Int)).toNat ≤ i by simp, q D acc H2 x2 hD hacc hdp⟩
end
end G

set_option Elab.async false
set_option linter.all false
set_option maxRecDepth 100000
set_option maxHeartbeats 4000000
namespace G
open PySem PySem.Spec PyProof.Rows L2
instance (l : List Nat) : Decidable (small l) := by unfold small; infer_instance
theorem run_lt {c : Nat} (h : isRun c = true) : c < 128 := by
  have h4 : c ∈ smallL ++ digL := by
    unfold isRun isSm isDg at h
    rw [Bool.or_eq_true, decide_eq_true_eq, decide_eq_true_eq] at h
    exact List.mem_append.mpr h
  exact run_small c h4
theorem small_run {l : List Nat} (h : l.all isRun = true) : small l := fun c hc => run_lt (List.all_eq_true.mp h c hc)
theorem small_app {a b : List Nat} (ha : small a) (hb : small b) : small (a ++ b) := fun c hc => (List.mem_append.mp hc).elim (ha c) (hb c)
theorem small_join {a : List Nat} (ha : small a) : ∀ ys : List (List Nat), (∀ y ∈ ys, small y) → small (TL.joinL a ys)
  | [], _ => fun c hc => by simp [TL.joinL] at hc
  | [y], h => by simpa [TL.joinL] using h y (by simp)
  | y :: z :: r, h => by
    have ih := small_join ha (z :: r) fun x hx => h x (List.mem_cons_of_mem _ hx)
    have := small_app (small_app (h y (by simp)) ha) ih
    simpa [TL.joinL] using this
theorem small_sig {sg : Sg} (hs : SgLike sg) : small (sigT sg) := small_join (by decide +kernel) _ fun y hy => by
  obtain ⟨e, he, rfl⟩ := List.mem_map.mp hy
  exact small_app (small_app (small_run (low_run (hs.low e he)).2.1) (by decide +kernel)) (small_run (numW_run e.2 (by have := hs.ar e he; omega)))
theorem small_rls {sg : Sg} (hs : SgLike sg) (rs : List Rl) : small (rlsT sg rs) := small_join (by decide +kernel) _ fun y hy => by
  obtain ⟨p, hp, rfl⟩ := List.mem_map.mp hy
  exact small_app (small_app (trT_small hs p.1).1 (by decide +kernel)) (trT_small hs p.2).1
theorem sdP_tr : ∀ (t : Tr) (n : Nat), t.dep ≤ n → sdP n t.toD
  | t, 0, h => by have := t.dep_pos; omega
  | .n0 f, n + 1, h => ⟨by simp, fun d hd => by simp at hd; subst hd; cases n <;> trivial⟩
  | .n1 f a, n + 1, h => ⟨by simp, fun d hd => by
      simp at hd
      rcases hd with rfl | rfl
      · cases n <;> trivial
      · exact sdP_tr a n (by simp [Tr.dep] at h; omega)⟩
  | .n2 f a b, n + 1, h => ⟨by simp, fun d hd => by
      simp at hd
      rcases hd with rfl | rfl | rfl
      · cases n <;> trivial
      · exact sdP_tr a n (by simp [Tr.dep] at h; omega)
      · exact sdP_tr b n (by simp [Tr.dep] at h; omega)⟩
theorem sdP_sig {sg : Sg} (hs : SgLike sg) : sdP 19 (sigD sg) := ⟨by have := hs.few; rw [List.length_map]; omega, fun d hd => by
  obtain ⟨e, he, rfl⟩ := List.mem_map.mp hd
  refine ⟨by simp, fun d hd => ?_⟩
  simp at hd
  rcases hd with rfl | rfl
  · exact low_strOk (hs.low e he)
  · trivial⟩
theorem sdP_rls {sg : Sg} {rs : List Rl} (h : RlsOk sg rs) : sdP 19 (rlsD rs) := ⟨by have := h.few; rw [List.length_map]; omega, fun d hd => by
  obtain ⟨p, hp, rfl⟩ := List.mem_map.mp hd
  obtain ⟨h1, h2, _⟩ := h.tr p hp
  refine ⟨by simp, fun d hd => ?_⟩
  simp at hd
  rcases hd with rfl | rfl
  · exact sdP_tr p.1 17 (by have := h1.dep; omega)
  · exact sdP_tr p.2 17 (by have := h2.dep; omega)⟩
theorem rlsD_tt (rs : List Rl) : tt (rlsD rs) = true := by
  have : tts (rs.map rlD) = true := tts_of fun d hd => by
    obtain ⟨p, _, rfl⟩ := List.mem_map.mp hd
    exact rlD_tt p
  simpa [rlsD, tt] using this
def txD (sg : Sg) (t : Tr) (rs : List Rl) : List PyData := [.str (S (sigT sg)), .str (S (trT sg t)), .str (S (rlsT sg rs))]
theorem txD_eqv {sg : Sg} {t : Tr} {rs : List Rl} : PyData.eqv (.list (txD sg t rs)) (.list (txD sg t rs)) = true := by simp [txD, PyData.eqv, PyData.eqvAll]
theorem txD_sh {sg : Sg} {t : Tr} {rs : List Rl} (hs : SgLike sg) : SeqAt.shaped (.list (txD sg t rs)) = true :=
  smalls_sh (ys := [sigT sg, trT sg t, rlsT sg rs]) fun y hy => by
    simp at hy
    rcases hy with rfl | rfl | rfl
    · exact small_sig hs
    · exact (trT_small hs t).1
    · exact small_rls hs rs
theorem rlsT_len {sg : Sg} (hs : SgLike sg) {rs : List Rl} (h : RlsOk sg rs) (hl : rs.length ≤ 5) : (rlsT sg rs).length ≤ 10010 := by
  have := joinL_len [59, 32] 2000 (rs.map (rlT sg)) fun y hy => by
    obtain ⟨p, hp, rfl⟩ := List.mem_map.mp hy
    exact rlT_len hs (h.tr p hp).1 (h.tr p hp).2.1
  rw [List.length_map] at this
  have h2 : rs.length * (2000 + [59, 32].length) ≤ 5 * 2002 := Nat.mul_le_mul hl (by decide)
  unfold rlsT
  omega
section
variable {K : PySem.W.Frag} {σ : L2.St} {H H' : Hp} {ta tb te tl te1 te2 : TE} {d e : PyData} {D : Ends} {j L : Addr} {ds es : List PyData} {x y : TS} {t : TT}
theorem s_ifQ {R : Hp → Prop} {c : Bool} (h : ∀ Q : Bool → Hp → Prop, (∀ H', R H' → Q c H') → t σ H Q) (hc : c = false) (h2 : ∀ H', R H' → y D σ H') : tIfS t x y D σ H := by
  subst hc
  exact h _ fun H' r => h2 H' r
theorem test_in {Q : Bool → Hp → Prop} (h : te σ H fun v H1 => ∃ b, v = .bl b ∧ Q b H1) : tTest te σ H Q := h
theorem cons_in {ts : TA} {Q : List V → Hp → Prop} (h : te σ H fun v H1 => ts σ H1 fun vs H2 => Q (v :: vs) H2) : tCons te ts σ H Q := h
theorem lst_in {ts : TA} {Q : VK} (h : ts σ H fun xs H1 => xs.length ≤ sizeLine ∧ ∀ p, H1 p = none → Q (.ref p) (upd H1 p (.lst xs))) : tLst ts σ H Q := h
theorem tup_in {ts : TA} {Q : VK} (h : ts σ H fun xs H1 => xs.length ≤ sizeLine ∧ ∀ p, H1 p = none → Q (.ref p) (upd H1 p (.tup xs))) : tTup ts σ H Q := h
end
def spLaw (K : PySem.W.Frag) : Sp := fun vs H Q _ => ∃ (a : Addr) (ns : List Int), vs = [.ref a] ∧ SqL K H a (ns.map V.int) ∧ ns.length ≤ 63 ∧ NdefX.TabsN (TTab K) H ∧ ∀ H', Q (.bl true) H'
section
variable {P : Program} {w : World} {K : PySem.W.Frag} {mg : Str → Option Value} {base : Heap}
theorem sc_law : FnScope ["script", "jug", "turn", "signature", "tree", "rules", "texts", "name", "arity", "some", "text", "words", "which"] ["script"] (defScope s_law) := ⟨rfl, rfl, rfl, by decide +kernel, rfl, by decide +kernel, by decide +kernel⟩
theorem fo_law {f : Addr} {fd : FuncData} (T : Tx K mg) (tb : LamX.TabB base mg (wtC K) (wtP K)) (hP : PF P)  (F : FunD K "law" "law" (defArgs s_law) (defBody s_law) (defScope s_law) [] [] f fd) : FnOk P w K mg base CX0 70 f fd ["script"] (spLaw K) := by
  refine F.ok sc_law (fun vs H Q E h => ?_) (fun cdv A outer s H vs Q E hr h => ?_)
  · obtain ⟨a, ns, rfl, _⟩ := h
    rfl
  · refine ⟨_, PSs.nox (pss_cons (ps_set (i := 1) sc_law.nd rfl (by first | exact Or.inl rfl | exact Or.inr rfl) (G.pe_cl (ok__law_jug T) hr (by decide) pass0 (pa_cons (pv 0) pa_nil)))
  (pss_cons (ps_for PassesOwn.never rfl (pi_range1 (by rfl) T.b_range (pa_cons (pe_op op_add pe_int (pe_callB (call_min2 rfl) (by rfl) T.b_min PyProof.Rows.Boot.«min» (pa_cons (pe_callB call_len_seq (by rfl) T.b_len PyProof.Rows.Boot.«len» (pa_cons (pv 0) pa_nil)) (pa_cons pe_int pa_nil)))) pa_nil)) (pg_name (i := 2) sc_law.nd rfl (by first | exact Or.inl rfl | exact Or.inr rfl)) (pss_cons (ps_set (i := 3) sc_law.nd rfl (by first | exact Or.inl rfl | exact Or.inr rfl) (G.pe_cl (ok__law_signature T) hr (by decide) pass0 (pa_cons (pv 1) (pa_cons pe_int pa_nil))))
  (pss_cons (ps_par (i := 4) (j := 5) rfl sc_law.nd rfl rfl (by decide) rfl rfl (pa_cons (G.pe_cl (rt_law_tree T) hr (by decide) pass0 (pa_cons (pv 1) (pa_cons (pv 3) (pa_cons pe_int pa_nil)))) (pa_cons (G.pe_cl (ok__law_rules T) hr (by decide) pass0 (pa_cons (pv 1) (pa_cons (pv 3) (pa_cons pe_int pa_nil)))) pa_nil)) (by rfl))
  (pss_cons (ps_set (i := 6) sc_law.nd rfl (by first | exact Or.inl rfl | exact Or.inr rfl) (pe_lst (pa_cons (pe_join pe_str (pe_lc (own := [("name", 7), ("arity", 8)]) (g := (gTup K 2 (gCons (gName 7) (gCons (gName 8) gNil)))) rfl sc_law.nd (pi_tup (pv 3)) (blkOk_by (own := [("name", 7), ("arity", 8)]) (N := ["script", "jug", "turn", "signature", "tree", "rules", "texts", "name", "arity", "some", "text", "words", "which"]) (sc := defScope s_law) (by decide +kernel)) (fun _ _ _ _ _ => (pg_tup rfl (pgs_cons (pg_name (i := 7) sc_law.nd rfl (by first | exact Or.inl rfl | exact Or.inr rfl)) (pgs_cons (pg_name (i := 8) sc_law.nd rfl (by first | exact Or.inl rfl | exact Or.inr rfl)) pgs_nil)))) (fun _ _ _ _ _ => pts_nil) (fun _ _ _ _ _ => (pe_op op_add_str (pe_op op_add_str (pv 7) pe_str) (pe_callTy call_str_int (by rfl) T.b_str PyProof.Rows.Boot.«str» (pa_cons (pv 8) pa_nil)))))) (pa_cons (G.pe_cl (rt_law_tree_text T) hr (by decide) pass0 (pa_cons (pv 3) (pa_cons (pv 4) pa_nil))) (pa_cons (G.pe_cl (ok__law_rules_text T) hr (by decide) pass0 (pa_cons (pv 3) (pa_cons (pv 5) pa_nil))) pa_nil)))))
  (pss_cons (ps_if (pt_cmpR (op_neD hr.units) (pv 6) (pe_lst (pa_cons (G.pe_cl (ok_write_signature T) hr (by decide) passL (pa_cons (pv 3) pa_nil)) (pa_cons (G.pe_cl (ok_write_tree T tb) hr (by decide) passL (pa_cons (pv 3) (pa_cons (pv 4) pa_nil))) (pa_cons (G.pe_clK (okK_write_rules T tb) hr (by decide) passL (pk_cons (pv 5) (pk_cons (pv 3) pk_nil))) pa_nil)))) (nomark _)) (pss_one (ps_ret pe_bl)) pss_nil)
  (pss_cons (ps_for PassesOwn.never rfl (pi_tup (pe_tup (pa_cons (pv 6) (pa_cons (pe_lc (own := [("text", 10)]) (g := (gName 10)) rfl sc_law.nd (pi_list (pv 6)) (blkOk_by (own := [("text", 10)]) (N := ["script", "jug", "turn", "signature", "tree", "rules", "texts", "name", "arity", "some", "text", "words", "which"]) (sc := defScope s_law) (by decide +kernel)) (fun _ _ _ _ _ => (pg_name (i := 10) sc_law.nd rfl (by first | exact Or.inl rfl | exact Or.inr rfl))) (fun _ _ _ _ _ => pts_nil) (fun _ _ _ _ _ => (G.pe_cl (ok__law_loose T) hr (by decide) pass0 (pa_cons (pv 1) (pa_cons (pv 10) pa_nil))))) pa_nil)))) (pg_name (i := 9) sc_law.nd rfl (by first | exact Or.inl rfl | exact Or.inr rfl)) (pss_one (ps_if (PW.pt (pw_or (pt_not (pt_val (G.pe_cl (rt_law_same T) hr (by decide) pass0 (pa_cons (G.pe_cl (ok_read_signature T) hr (by decide) pass0 (pa_cons (pe_ix ix_list (pv 9) pe_int (fun _ _ => rfl)) pa_nil)) (pa_cons (pv 3) pa_nil))))) (pw_or (pt_not (pt_val (G.pe_cl (rt_law_same T) hr (by decide) pass0 (pa_cons (G.pe_cl (ok_read_tree T hP) hr (by decide) passL (pa_cons (pv 3) (pa_cons (pe_ix ix_list (pv 9) pe_int (fun _ _ => rfl)) pa_nil))) (pa_cons (pv 4) pa_nil))))) (pw_or1 (pt_not (pt_val (G.pe_cl (rt_law_same T) hr (by decide) pass0 (pa_cons (G.pe_cl (ok_read_rules T hP) hr (by decide) passL (pa_cons (pv 3) (pa_cons (pe_ix ix_list (pv 9) pe_int (fun _ _ => rfl)) pa_nil))) (pa_cons (pv 5) pa_nil))))))))) (pss_one (ps_ret pe_bl)) pss_nil)))
  (pss_cons (ps_set (i := 11) sc_law.nd rfl (by first | exact Or.inl rfl | exact Or.inr rfl) (pe_op op_cat (pe_lc (own := [("which", 12)]) (g := (gName 12)) rfl sc_law.nd (pi_range1 (by rfl) T.b_range (pa_cons pe_int pa_nil)) (blkOk_by (own := [("which", 12)]) (N := ["script", "jug", "turn", "signature", "tree", "rules", "texts", "name", "arity", "some", "text", "words", "which"]) (sc := defScope s_law) (by decide +kernel)) (fun _ _ _ _ _ => (pg_name (i := 12) sc_law.nd rfl (by first | exact Or.inl rfl | exact Or.inr rfl))) (fun _ _ _ _ _ => pts_nil) (fun _ _ _ _ _ => (G.pe_cl (ok__law_word T tb hP) hr (by decide) pass0 (pa_cons (pv 12) (pa_cons (pe_tup pa_nil) (pa_cons pe_non pa_nil)))))) (pe_lst (pa_cons (G.pe_cl (ok__law_word T tb hP) hr (by decide) pass0 (pa_cons pe_int (pa_cons (pv 3) (pa_cons pe_non pa_nil)))) (pa_cons (G.pe_cl (ok__law_word T tb hP) hr (by decide) pass0 (pa_cons pe_int (pa_cons (pv 3) (pa_cons pe_non pa_nil)))) pa_nil)))))
  (pss_one (ps_if (pt_cmpR (op_neD hr.units) (pv 11) (pe_op op_cat (pe_op op_rep (pe_lst (pa_cons pe_str pa_nil)) pe_int) (pe_lst (pa_cons pe_str (pa_cons pe_str pa_nil)))) (nomark _)) (pss_one (ps_ret pe_bl)) pss_nil)))))))))
  (pss_one (ps_ret pe_bl)))), ?_⟩
    obtain ⟨a, ns, rfl, ha, hns, htab, q⟩ := h
    unfold tAsg
    refine seq_in ?_
    refine ⟨_, rfl, a, ns, rfl, ha, fun j L H1 s1 hj0 hj1 => ?_⟩
    refine name_in ?_
    dsimp only
    refine seq_in ?_
    have htab1 := htab.ext s1
    have ha1 : Dp K H1 (.ref a) (.list (ns.map .int)) := .lst (s1.seq ha) (ints_dps ns)
    refine s_forR (n := 1 + min ns.length 8) (fun i σ' H' => ∃ x2 x3 x4 x5 x6 x7 x8 x9 x10 x11 x12 : Option V, σ' = [some (.ref a), some (.ref j), x2, x3, x4, x5, x6, x7, x8, x9, x10, x11, x12] ∧ Jg K H' j L ((9 - i) * 40000) ∧ NdefX.TabsN (TTab K) H')
      ((ed_add (K := K) (ed_i (n := 1)) (ed_min2 (ed_lenL (ed_var (i := 0) ha1)) (ed_i (n := 8)))).to ?_) (by omega) (fun H2 s2 => ⟨none, none, none, none, none, none, none, none, none, none, none, rfl, (hj1.same s2).mono (by omega), htab1.ext s2⟩) ?_ ?_
    · rw [List.length_map]
      congr 1
      split <;> omega
    · rintro i σ' H2 hi ⟨x2, x3, x4, x5, x6, x7, x8, x9, x10, x11, x12, rfl, hj2, htab2⟩
      rw [show (9 - i) * 40000 = ((9 - (i + 1)) * 40000 + 39991) + 9 by omega] at hj2
      refine seq_in ?_
      refine ⟨_, rfl, j, L, _, rfl, hj2, fun vsg H3 sg m3 hj3 hs hsl hsg => ?_⟩
      refine name_in ?_
      have htab3 := hj2.tabs m3 htab2
      dsimp only
      refine seq_in ?_
      refine cons_in ⟨_, rfl, _, rfl, j, L, _, 3, sg, vsg, rfl, by decide, by decide, hs, hj3.mono (m := ((9 - (i + 1)) * 40000 + 39976) + cT 3) (by show _ + 15 ≤ _; omega), hsg, fun vt H4 t m4 hj4 tok tsz tdep hvt => ?_⟩
      have hsg4 : Dp K H4 vsg (sigD sg) := dp_kt (hj3.kt m4) _ _ (by simp [sigD, tt, entD_tt]) hsg
      have htab4 := hj3.tabs m4 htab3
      have htok : TrOk sg t := ⟨tok, by have : cT 3 = 15 := rfl; omega, by omega⟩
      refine one_in ⟨_, rfl, _, rfl, j, L, _, sg, vsg, rfl, hs, hj4.mono (m := ((9 - (i + 1)) * 40000 + 39876) + 100) (by omega), hsg4, fun vr H5 rs m5 hj5 hrs hrl hvr => ⟨_, _, rfl, ?_⟩⟩
      have hsg5 : Dp K H5 vsg (sigD sg) := dp_kt (hj4.kt m5) _ _ (by simp [sigD, tt, entD_tt]) hsg4
      have hvt5 : Dp K H5 vt t.toD := dp_kt (hj4.kt m5) _ _ t.toD_tt hvt
      have htab5 := hj4.tabs m5 htab4
      dsimp only
      refine seq_in ?_
      have hfew := hs.1.few
      have l1 : (sigT sg).length ≤ 300 := sigT_len hs.1
      have l2 : (trT sg t).length ≤ 14 * t.size := (trT_small hs.1 t).2
      have l3 := rlsT_len hs.1 hrs hrl
      have hc3 : cT 3 = 15 := rfl
      refine s_setN (K := K) (ds := txD sg t rs) (en_lst (ea_cons (ed_join (ys := sg.map entT) ((ed_s (n := ", ")).to (congrArg _ strComma2)) ?_ (fun y hy => ?_) (by simp; omega) (by decide)) (ea_cons (ed_call (ea_cons (ed_var (i := 3) hsg5 rfl) (ea_cons (ed_var (i := 4) hvt5 rfl) ea_nil)) ⟨sg, t, rfl, hs.1, tok, by omega, by omega, rfl, rfl⟩) (ea_cons (ed_call (ea_cons (ed_var (i := 3) hsg5 rfl) (ea_cons (ed_var (i := 5) hvr rfl) ea_nil)) ⟨sg, rs, rfl, hs.1, fun p hp => ⟨(hrs.tr p hp).1, (hrs.tr p hp).2.1⟩, hrs.few, rfl, rfl⟩) ea_nil))) (by exact (by decide : 3 ≤ 1000))) fun pt us H6 s6 hptn hpt hus => ?_
      · rw [List.map_map]
        refine en_lcM sg entD (fun e => .str (S (entT e))) (ei_tup (ed_var hsg5)) (by omega) (fun _ _ => rfl) fun e he v H1 s1 hv W hW => g_pair hv fun w1 w2 h1 h2 => hW _ wipe_set2 ?_
        have hl := (low_run (hs.1.low e he)).2.2
        rw [Array.length_toList] at hl
        have ha := hs.1.ar e he
        have hn := (numW_ok e.2 (by omega)).2.1
        exact ed_catS (ed_catS (a := e.1.cps.toList) (ed_var h1) ((ed_s (n := "/")).to (congrArg _ strSlash)) (by simp; omega)) (ed_strI (ed_var h2) (by omega)) (by simp; omega)
      · obtain ⟨e, he, rfl⟩ := List.mem_map.mp hy
        have := entT_len (hs.1.low e he) (hs.1.ar e he)
        omega
      have hsg6 := dp_same s6 _ _ hsg5
      have hvt6 := dp_same s6 _ _ hvt5
      have hvr6 := dp_same s6 _ _ hvr
      have hj6 := hj5.same s6
      have htab6 := htab5.ext s6
      dsimp only
      refine seq_in ?_
      refine s_ifQ (R := fun H7 => Xt K H6 H7) (c := false) (fun Q q => ?_) rfl fun H7 x7 => ?_
      · refine test_in (op_in ⟨_, rfl, ?_⟩)
        refine lst_in (cons_in ?_)
        refine (ed_callX (K := K) (ea_cons (ed_var (i := 3) hsg6 rfl) ea_nil) ⟨sg, hs, rfl, rfl⟩) H6 (Same.refl _) _ fun v1 G1 g1 hv1 => ?_
        refine cons_in ?_
        have y1 : Xt K H6 G1 := Xt.of g1 htab6
        refine (ex_call2 (dp_xt y1 _ _ hsg6) (dp_xt y1 _ _ hvt6) rfl rfl ⟨sg, t, rfl, hs, htok, rfl, rfl⟩) G1 (Xt.of (Same.refl _) y1.tab) _ fun v2 G2 y2 hv2 => ?_
        have y12 := y1.trans y2
        refine one_in ⟨_, rfl, _, rfl, rfl, rfl, y2.tab, [sigD sg, rlsD rs], .cons (dp_xt y12 _ _ hsg6) (.cons (dp_xt y12 _ _ hvr6) .nil), .inl ⟨_, ⟨sg, rs, rfl, hs, hrs, rfl, rfl⟩, fun v3 G3 y3 hv3 => ?_⟩⟩
        refine ⟨by show 3 ≤ sizeLine; rw [sizeLine_eq]; omega, fun pw hpw => ?_⟩
        have y4 : Xt K G3 (upd G3 pw (.lst [v1, v2, v3])) := Xt.of ((Same.refl G3).new hpw) y3.tab
        have y34 := y3.trans y4
        have y := y12.trans y34
        refine ⟨.list (txD sg t rs), .list (txD sg t rs), .lst (sq_of (y.ins hpt)) (dps_xt y _ _ hus), .lst (sq_of upd_same) (.cons (dp_xt (y2.trans y34) _ _ hv1) (.cons (dp_xt y34 _ _ hv2) (.cons (dp_xt y4 _ _ hv3) .nil))), txD_sh hs.1, txD_sh hs.1, ?_⟩
        refine ⟨false, by rw [txD_eqv]; rfl, q _ y⟩
      refine next_in ?_
      dsimp only
      refine seq_in ?_
      have hsg7 := dp_xt x7 _ _ hsg6
      have hvt7 := dp_xt x7 _ _ hvt6
      have hvr7 := dp_xt x7 _ _ hvr6
      have hj7 := hj6.xt x7
      have htab7 := x7.tab
      have hpt7 := x7.ins hpt
      have hus7 := dps_xt x7 _ _ hus
      have hptj : pt ≠ j := (hj5.there hptn).1
      have tk1 : Toks (sigW sg) (sigT sg) := sig_toks hs.1.low hs.1.ar
      have tk2 : Toks (trW sg t) (trT sg t) := tr_toks' hs.1 tok
      have tk3 : Toks (rlsW sg rs) (rlsT sg rs) := rls_toks hs.1 fun p hp => ⟨(hrs.tr p hp).1.ok, (hrs.tr p hp).2.1.ok⟩
      unfold tFor iTup
      refine tup_in (cons_in ⟨_, rfl, one_in ?_⟩)
      refine j_lc (K := K) (j := j) (L := L) (m := (9 - (i + 1)) * 40000) (c := 10011) (xs := txD sg t rs) (φ := fun i d => ∃ ws l', [sigW sg, trW sg t, rlsW sg rs][i]? = some ws ∧ d = .str (S l') ∧ Toks ws l' ∧ l'.length ≤ 48002) (hj7.mono (by show _ + 3 * 10011 ≤ _; omega)) (by exact (by decide : 3 ≤ 1000)) (fun i d h => by obtain ⟨_, _, _, rfl, _⟩ := h; rfl) (ej_list (i := 6) rfl hpt7 hptj hus7 rfl) (fun i x v H8 m' hx m8 hv hj8 W hW => ?_) fun pl ul dl H8 m8 hj8 hpln hpl hul hdl hφ => ?_
      · obtain ⟨l, ws, rfl, hws, htk, hll⟩ : ∃ l ws, x = .str (S l) ∧ [sigW sg, trW sg t, rlsW sg rs][i]? = some ws ∧ Toks ws l ∧ l.length ≤ 10010 := by
          match i, hx with
          | 0, hx => exact ⟨_, _, (Option.some.inj hx).symm, rfl, tk1, by omega⟩
          | 1, hx => exact ⟨_, _, (Option.some.inj hx).symm, rfl, tk2, by omega⟩
          | 2, hx => exact ⟨_, _, (Option.some.inj hx).symm, rfl, tk3, by omega⟩
          | n + 3, hx => simp [txD] at hx
        obtain rfl := dpS hv
        exact hW _ wipe_set1 fun Q q => ⟨_, rfl, _, rfl, j, L, m', l, ws, rfl, by omega, htk, hj8.mono (by omega), fun H9 l' m9 hj9 tk len => q _ H9 _ m9 hj9 (.str _) ⟨ws, l', hws, rfl, tk, by omega⟩⟩
      refine ⟨by show 2 ≤ sizeLine; rw [sizeLine_eq]; omega, fun pp hpp => ?_⟩
      have s9 : Same H8 (upd H8 pp (.tup [.ref pt, .ref pl])) := (Same.refl H8).new hpp
      have m79 : Mv j H7 (upd H8 pp (.tup [.ref pt, .ref pl])) := m8.trans (Mv.of s9)
      have hpp9 : (upd H8 pp (.tup [.ref pt, .ref pl])) pp = some (.tup [.ref pt, .ref pl]) := upd_same
      generalize upd H8 pp (.tup [.ref pt, .ref pl]) = H9 at s9 m79 hpp9
      have hj9 := hj8.same s9
      have k79 := hj7.kt m79
      have hsg9 : Dp K H9 vsg (sigD sg) := dp_kt k79 _ _ (by simp [sigD, tt, entD_tt]) hsg7
      have hvt9 := dp_kt k79 _ _ t.toD_tt hvt7
      have hvr9 : Dp K H9 vr (rlsD rs) := dp_kt k79 _ _ (rlsD_tt rs) hvr7
      have htab9 := hj7.tabs m79 htab7
      have hpt9 : Dp K H9 (.ref pt) (.list (txD sg t rs)) := .lst (sq_of (m79 _ _ hptj hpt7)) (dps_kt k79 _ _ rfl hus7)
      have hpl9 : Dp K H9 (.ref pl) (.list dl) := .lst (sq_of (s9 _ _ hpl)) (dps_same s9 _ _ hul)
      refine ⟨pp, rfl, ⟨_, st_of hpp9⟩, ?_⟩
      refine loop_tup (K := K) (ds := [.list (txD sg t rs), .list dl]) (st_of hpp9) (.cons hpt9 (.cons hpl9 .nil)) (fun k σ' H' => ∃ x7 x8 x9 x10 x11 x12 : Option V, σ' = [some (.ref a), some (.ref j), some (.int (i : Int)), some vsg, some vt, some vr, some (.ref pt), x7, x8, x9, x10, x11, x12] ∧ Same H9 H') ⟨_, _, _, _, _, _, rfl, Same.refl _⟩ (fun k σ' H' ⟨_, _, _, _, _, _, _, h⟩ => h) ?_ ?_
      · rintro k x v σ' G1 hx ⟨x7, x8, x9, x10, x11, x12, rfl, g1⟩ hv
        obtain ⟨a1, a2, a3, rfl, t1, t2, t3, b1, b2, b3⟩ : ∃ a1 a2 a3, x = .list [.str (S a1), .str (S a2), .str (S a3)] ∧ Toks (sigW sg) a1 ∧ Toks (trW sg t) a2 ∧ Toks (rlsW sg rs) a3 ∧ a1.length ≤ 48002 ∧ a2.length ≤ 48002 ∧ a3.length ≤ 48002 := by
          match k, hx with
          | 0, hx => exact ⟨_, _, _, (Option.some.inj hx).symm, tk1, tk2, tk3, by omega, by omega, by omega⟩
          | 1, hx =>
            obtain rfl := Option.some.inj hx
            match dl, hdl, hφ with
            | [d0, d1, d2], _, hφ =>
              obtain ⟨w1, a1, e1, rfl, t1, b1⟩ := hφ 0 d0 rfl
              obtain ⟨w2, a2, e2, rfl, t2, b2⟩ := hφ 1 d1 rfl
              obtain ⟨w3, a3, e3, rfl, t3, b3⟩ := hφ 2 d2 rfl
              cases e1
              cases e2
              cases e3
              exact ⟨a1, a2, a3, rfl, t1, t2, t3, b1, b2, b3⟩
          | n + 2, hx => simp at hx
        refine name_in ?_
        dsimp only
        have hsgG := dp_same g1 _ _ hsg9
        have hvtG := dp_same g1 _ _ hvt9
        have hvrG := dp_same g1 _ _ hvr9
        refine s_ifF (et_orF (et_not (et_B (ed_call (ea_cons (ed_call (ea_cons (ed_ixL (d := .str (S a1)) (ed_var (i := 9) hv rfl) (ed_i (n := 0)) rfl) ea_nil) ⟨a1, sg, rfl, by omega, t1.words', hs, rfl⟩) (ea_cons (ed_var (i := 3) hsgG rfl) ea_nil)) ⟨rfl, ⟨19, rfl, sdP_sig hs.1⟩, rfl⟩))) rfl
          (et_orF (et_not (et_B (ed_call (ea_cons (ed_callX (ea_cons (ed_var (i := 3) hsgG rfl) (ea_cons (ed_ixL (d := .str (S a2)) (ed_var (i := 9) hv rfl) (ed_i (n := 1)) rfl) ea_nil)) ⟨a2, sg, t, rfl, hs, rfl, by omega, t2.words', htok, rfl⟩) (ea_cons (ed_var (i := 4) hvtG rfl) ea_nil)) ⟨rfl, ⟨19, rfl, sdP_tr t 19 (by have := htok.dep; omega)⟩, rfl⟩))) rfl
          (et_not (et_B (ed_call (ea_cons (ed_callX (ea_cons (ed_var (i := 3) hsgG rfl) (ea_cons (ed_ixL (d := .str (S a3)) (ed_var (i := 9) hv rfl) (ed_i (n := 2)) rfl) ea_nil)) ⟨a3, sg, rs, rfl, hs, rfl, by omega, t3.words', hrs, rfl⟩) (ea_cons (ed_var (i := 5) hvrG rfl) ea_nil)) ⟨rfl, ⟨19, rfl, sdP_rls hrs⟩, rfl⟩))))) rfl fun G2 g2 => ?_
        exact ⟨_, _, _, _, _, _, rfl, g1.trans g2⟩
      rintro σ' G1 ⟨x7, x8, x9, x10, x11, x12, rfl, g1⟩
      have hsgG := dp_same g1 _ _ hsg9
      have hjG := hj9.same g1
      have htabG := htab9.ext g1
      dsimp only
      refine seq_in ?_
      refine op_in ?_
      refine xr_lc (K := K) (n := 5) (.str "signature") htabG (by decide) rfl (fun k hk v G2 y2 hv W hW => hW _ wipe_set1 ?_) fun pw us1 G2 y2 hpw hpwl hus1 => ?_
      · intro G3 y3 Q q
        obtain rfl := dpI hv
        refine ⟨_, rfl, ?_⟩
        refine cons_in (tup_in ⟨Nat.zero_le _, fun pe hpe => ?_⟩)
        have s4 : Same G3 (upd G3 pe (.tup [])) := (Same.refl G3).new hpe
        have y4 : Xt K G3 (upd G3 pe (.tup [])) := Xt.of s4 y3.tab
        exact ⟨y4.tab, [.int (k : Int), .tuple [], .none], .cons (.int _) (.cons (.tup (st_of upd_same) .nil) (.cons .non .nil)), .inl ⟨_, .inl ⟨k, hk, rfl, rfl, rfl, rfl⟩, fun v H' y5 hv => q v H' (y4.trans y5) hv⟩⟩
      have hsg2 := dp_xt y2 _ _ hsgG
      refine lst_in (cons_in ?_)
      refine ⟨_, rfl, y2.tab, [.int 1, sigD sg, .none], .cons (.int _) (.cons hsg2 (.cons .non .nil)), .inl ⟨_, .inr (.inl ⟨rfl, rfl, rfl, sg, hs, rfl⟩), fun v1 G3 y3 hv1 => ?_⟩⟩
      refine one_in ?_
      refine ⟨_, rfl, y3.tab, [.int 2, sigD sg, .none], .cons (.int _) (.cons (dp_xt y3 _ _ hsg2) (.cons .non .nil)), .inl ⟨_, .inr (.inr ⟨rfl, rfl, rfl, sg, hs, rfl⟩), fun v2 G4 y4 hv2 => ?_⟩⟩
      refine ⟨by show 2 ≤ sizeLine; rw [sizeLine_eq]; omega, fun pq hpq => ?_⟩
      have y5 : Xt K G4 (upd G4 pq (.lst [v1, v2])) := Xt.of ((Same.refl G4).new hpq) y4.tab
      have hus1l : us1.length = 5 := by rw [hus1.len, List.length_replicate]
      refine ⟨pw, pq, us1, [v1, v2], rfl, rfl, ((y3.trans y4).trans y5).ins hpwl, upd_same, by rw [hus1l]; show 7 ≤ sizeLine; rw [sizeLine_eq]; omega, fun pc hpc => ?_⟩
      have s6 : Same (upd G4 pq (.lst [v1, v2])) (upd (upd G4 pq (.lst [v1, v2])) pc (.lst (us1 ++ [v1, v2]))) := (Same.refl _).new hpc
      have y6 : Xt K (upd G4 pq (.lst [v1, v2])) (upd (upd G4 pq (.lst [v1, v2])) pc (.lst (us1 ++ [v1, v2]))) := Xt.of s6 y5.tab
      have yall : Xt K G1 (upd (upd G4 pq (.lst [v1, v2])) pc (.lst (us1 ++ [v1, v2]))) := (((y2.trans y3).trans y4).trans y5).trans y6
      have hw : Dp K (upd (upd G4 pq (.lst [v1, v2])) pc (.lst (us1 ++ [v1, v2]))) (.ref pc) (.list (List.replicate 5 (.str "signature") ++ [.str "tree", .str "rules"])) :=
        .lst (sq_of upd_same) (dps_app (dps_xt (((y3.trans y4).trans y5).trans y6) _ _ hus1) (.cons (dp_xt ((y4.trans y5).trans y6) _ _ hv1) (.cons (dp_xt (y5.trans y6) _ _ hv2) .nil)))
      generalize upd (upd G4 pq (.lst [v1, v2])) pc (.lst (us1 ++ [v1, v2])) = G5 at yall hw
      have hj5 := hjG.xt yall
      refine name_in ?_
      dsimp only
      refine s_ifF (et_test (ed_neD (K := K) (ed_var (i := 11) hw rfl) (ed_ofN (en_cat (en_rep (n := 5) (en_lst (ds := [.str "signature"]) (ea_cons ed_s ea_nil) (by exact (by decide : 1 ≤ 1000))) (by decide)) (en_lst (ds := [.str "tree", .str "rules"]) (ea_cons ed_s (ea_cons ed_s ea_nil)) (by exact (by decide : 2 ≤ 1000))) (by simp))) (by decide +kernel) (by decide +kernel))) (by decide +kernel) fun G6 s7 => ?_
      exact ⟨_, _, _, _, _, _, _, _, _, _, _, rfl, (hj5.same s7), yall.tab.ext s7⟩
    · rintro σ' H2 ⟨x2, x3, x4, x5, x6, x7, x8, x9, x10, x11, x12, rfl, hj2, htab2⟩
      dsimp only
      refine s_ret (K := K) ed_b fun v H3 s3 hv => ?_
      obtain rfl := dpB hv
      exact q H3
end
end G


set_option Elab.async false
set_option linter.all false
set_option maxRecDepth 100000
set_option maxHeartbeats 0
namespace G
open PySem PySem.Spec PyProof.Rows L2
theorem tabs_nil {T : List NdefX.NTab} {H : Hp} (h : ∀ p ∈ T, H p.1 = some (.tbl #[])) : NdefX.TabsN T H := fun p hp => by
  refine ⟨#[], h p hp, ?_, fun pos cv hc => ?_⟩
  · trivial
  · cases hc
theorem facts {P : Program} (hP : PF P) {w : World} {K : PySem.W.Frag} {h : Heap} {mg : Str → Option Value} {f : Addr} (X : K.In h) (G : h.Ns mainGlobals mg) (hfa : mg ("law" : Str) = some (.ref f)) (c : SaysY fa fn [("written_tree", none)] exB csY cvY h K) :
    ∃ fd : FuncData, (∀ (s : Shared) (v : Value), BindsTo s fd ⟨[v], []⟩ [("script", v)]) ∧ ∀ base : Heap, K.In base → base.Ns mainGlobals mg → LamX.TabB base mg (wtC K) (wtP K) → FnOk P w K mg base CX0 70 f fd ["script"] (spLaw K) := by
  have T : Tx K mg := ⟨c.d, ⟨h, X, G⟩, c.more, c.clo⟩
  obtain ⟨fd, F⟩ := T.f_law
  have e := hfa.symm.trans T.g_law
  cases e
  have b := FunD.bindsA (ps := ["script"]) F fun _ _ _ _ _ _ us hl => match us, hl with | [_], _ => rfl
  exact ⟨fd, fun s v => b s [v] rfl, fun base _ _ tb => fo_law T tb hP F⟩
end G
open PySem PySem.W PySem.Calls PyProof.Rows
theorem PySem.Challenge.cw_groundturns_k77_texts_of_trees_and_rules_holds : PySem.Challenge.rw_groundturns_k77_texts_of_trees_and_rules.Holds := by
  w_on; o_law
  refine HandSHeadRun.head_any (r := OpenLaw.row PySem.Challenge.rw_groundturns_k77_texts_of_trees_and_rules) (q := view (OpenLaw.row PySem.Challenge.rw_groundturns_k77_texts_of_trees_and_rules).prog [G.lawAt]) (H := G.hk) (ob := G.ob) (M := 4000) (loose := G.la) (d := HandSHeadRun.topDef (OpenLaw.row PySem.Challenge.rw_groundturns_k77_texts_of_trees_and_rules).prog G.lawAt) (kwd := []) G.ob_eq
    (by kernel_rfl) (fun s => by kernel_rfl) G.run (by kernel_rfl) (by kernel_rfl) (by kernel_rfl) (by rfl) (by first | assumption | decide +kernel) (by decide +kernel) ⟨rfl, rfl, rfl, rfl, rfl, by decide +kernel⟩ ?hw ?hc
  case hw => w_witness2
  case hc =>
    refine LamX.walk_ofTsE (l := PySem.Challenge.rw_groundturns_k77_texts_of_trees_and_rules) (n := 63) (k := 70) (x := "script") (CX := fun _ => L2.CX0) rfl (by decide) (by kernel_rfl) ⟨rfl, by decide, by decide⟩ ?F (fun _ _ _ _ _ z => z)
    intro w mg fa h Y G0 hmg0
    obtain ⟨K, KX, c⟩ := Y
    have hmg : mg ("law" : PySem.Str) = some (.ref fa) := by
      have e : (HandSHeadRun.topDef (OpenLaw.row PySem.Challenge.rw_groundturns_k77_texts_of_trees_and_rules).prog G.lawAt).name = ("law" : PySem.Str) := by kernel_rfl
      rw [← e]
      exact hmg0
    obtain ⟨fd, hb, hF⟩ := G.facts (P := (PySem.Challenge.rw_groundturns_k77_texts_of_trees_and_rules).prog) ⟨by decide +kernel, by decide +kernel⟩ (w := w) KX G0 hmg c
    refine ⟨K, KX, fd, [He.cT K ("written_tree", none)], G.spLaw K, fun p hp => ?_, fun p hp => ?_, fun p hp => ?_, hb, fun H a ns hl hz hT hS => ⟨a, ns, rfl, hS, hl, G.tabs_nil fun p hp => ?_, fun _ => rfl⟩, fun base h1 h2 h3 => hF base h1 h2 (h3 _ List.mem_cons_self)⟩
    · obtain rfl := List.mem_singleton.mp hp
      exact c.empty _ List.mem_cons_self
    · obtain rfl := List.mem_singleton.mp hp
      exact c.out _ List.mem_cons_self
    · obtain rfl := List.mem_singleton.mp hp
      exact PySem.W.codeHd_of_K KX (c.hd _ List.mem_cons_self)
    · obtain rfl := List.mem_singleton.mp hp
      exact hT _ List.mem_cons_self

