import PyProof.Rows.All
import Wide.All
import OpenK.AllK
import Wide.FinOn
import KE.KStateDown
import HandS.ForMost
import HandS.ForExc
import HandS.Defaults
import HandS.Evl
import HandS.HeadHook1
import HandS.TryMany
import HandS.TryElse
import HandS.IsInst
import HandS.ExcIs
import HandS.CallSlots
import HandS.SuiteRaise
import HandS.Lambda
import HandS.HeadHook4
import HandS.Deep
import HandS.SortInts
import HandS.SetFor
import HandS.TupLen
import HandS.NoneIn
import HandS.More
import HandS.Rev
import HandS.ExcField
import HandS.Conv
import KE.KSortedM
import HandS.Walk
import HandS.ExcInit
import HandS.Style
import HandS.Codes
import HandS.ListItems
import HandS.Strs
import HandS.Zip
import KE.KDictWalk
import KE.KTryMore
import HandS.HotCalls
import HandS.Iter
import KE.KUnpack
import KE.KDictSum
import HandS.Set
import HandS.Head0
import HandS.Head1
import HandS.Head2
import HandS.HeadEnd
import HandS.HeadHook2
import HandS.HeadHook3
import PySem.Challenge.RW_mixposts_k21_posts_put_in
set_option Elab.async false
set_option linter.all false
set_option maxRecDepth 100000
set_option maxHeartbeats 4000000
namespace R
open PySem L2
def excB (K : PySem.W.Frag) (D : Addr) : Bool :=
  decide (PySem.W.findIn K (.ref D) "__getattribute__" = some (some (.builtin "BaseException.__getattribute__"))) && (decide (PySem.W.findIn K (.ref D) "__getattr__" = some none) &&
  (decide (PySem.W.subIn K (.ref D) (.type "BaseException") = some true) && (PySem.W.hasDictIn K D && (decide (PySem.W.findIn K (.ref D) "__class__" = some (some (.builtin "object.__class__"))) &&
  (decide (PySem.W.specialIn K (.builtin "object.__class__") "__get__" = some (some (.builtin "getset_descriptor.__get__"))) && (decide (PySem.W.takesIn K (.builtin "object.__class__") = some true) && decide (PySem.W.mroIn K D (.type "object") = some true)))))))
def oexB (K : PySem.W.Frag) (C : Addr) : Bool := (match K.lookup C with
  | some ⟨.type "type", _, .cls cd, sl⟩ => (match cd.mro, sl.toList with
    | .ref C' :: bm, [_, _, _, _, some (.builtin n), _] => C' == C && (n == "ValueError.__new__" && (!cd.hasDel && (cd.hasDict && PySem.HandSPX.refsVE bm)))
    | _, _ => false)
  | _ => false) && (decide (PySem.W.findIn K (.ref C) "__setattr__" = some (some (.builtin "object.__setattr__"))) &&
  (decide (PySem.W.subIn K (.ref C) (.type "BaseException") = some true) && (decide (PySem.W.typeIn K (.ref C) = some (.type "type")) && PySem.W.keepIn K (.ref C))))
def insB (K : PySem.W.Frag) (C : Addr) : Bool := decide (PySem.W.findIn K (.ref C) "__class__" = some (some (.builtin "object.__class__"))) && (decide (PySem.W.specialIn K (.builtin "object.__class__") "__get__" = some (some (.builtin "getset_descriptor.__get__"))) && (decide (PySem.W.takesIn K (.builtin "object.__class__") = some true) && decide (PySem.W.mroIn K C (.type "object") = some true)))
end R
namespace W
open PySem L2 R
def top (i : Nat) : Stmt := PySem.Challenge.pw_mixposts_k21_posts_put_in.main.body.getD i (.Pass ⟨0, 0, 0, 0⟩)
abbrev s__law_cell_at : Stmt := top 21
abbrev s_Net__init_ : Stmt := inClass (top 19) 0
abbrev s__law_mixed : Stmt := top 22
abbrev s__law_name : Stmt := top 23
abbrev s__law_due : Stmt := top 24
abbrev s_Post_kind : Stmt := inClass (top 16) 1
abbrev s_House_kind : Stmt := inClass (top 17) 0
abbrev s_Listener_kind : Stmt := inClass (top 18) 0
abbrev s_Net_home : Stmt := inClass (top 19) 12
abbrev s_Post_reads : Stmt := inClass (top 16) 2
abbrev s_Listener_reads : Stmt := inClass (top 18) 1
abbrev s_Net_listeners : Stmt := inClass (top 19) 11
abbrev s_Net_put_in : Stmt := inClass (top 19) 1
abbrev s_Post__init_ : Stmt := inClass (top 16) 0
abbrev s_Net_house : Stmt := inClass (top 19) 2
abbrev s_Net_listener : Stmt := inClass (top 19) 4
abbrev s_Net_post : Stmt := inClass (top 19) 3
abbrev s__law_word : Stmt := top 25
abbrev s__law_put : Stmt := top 26
abbrev s_Net_posts : Stmt := inClass (top 19) 9
abbrev s_Net_names : Stmt := inClass (top 19) 10
abbrev s_Post_hears : Stmt := inClass (top 16) 3
abbrev s_House_hears : Stmt := inClass (top 17) 1
abbrev s__law_is : Stmt := top 27
abbrev s__law_stands : Stmt := top 28
abbrev s_Net_ties : Stmt := inClass (top 19) 13
abbrev s_law : Stmt := top 29
def d__law_cell_at : He.DefD := ⟨("_law_cell_at", none), "_law_cell_at", "_law_cell_at", defArgs s__law_cell_at, defBody s__law_cell_at, defScope s__law_cell_at, [], []⟩
def d_Net__init_ : He.DefD := ⟨("Net", some "__init__"), "__init__", "Net.__init__", defArgs s_Net__init_, defBody s_Net__init_, defScope s_Net__init_, [], []⟩
def d__law_mixed : He.DefD := ⟨("_law_mixed", none), "_law_mixed", "_law_mixed", defArgs s__law_mixed, defBody s__law_mixed, defScope s__law_mixed, [], []⟩
def d__law_name : He.DefD := ⟨("_law_name", none), "_law_name", "_law_name", defArgs s__law_name, defBody s__law_name, defScope s__law_name, [], []⟩
def d__law_due : He.DefD := ⟨("_law_due", none), "_law_due", "_law_due", defArgs s__law_due, defBody s__law_due, defScope s__law_due, [], []⟩
def d_Post_kind : He.DefD := ⟨("Post", some "kind"), "kind", "Post.kind", defArgs s_Post_kind, defBody s_Post_kind, defScope s_Post_kind, [], []⟩
def d_House_kind : He.DefD := ⟨("House", some "kind"), "kind", "House.kind", defArgs s_House_kind, defBody s_House_kind, defScope s_House_kind, [], []⟩
def d_Listener_kind : He.DefD := ⟨("Listener", some "kind"), "kind", "Listener.kind", defArgs s_Listener_kind, defBody s_Listener_kind, defScope s_Listener_kind, [], []⟩
def d_Net_home : He.DefD := ⟨("Net", some "home"), "home", "Net.home", defArgs s_Net_home, defBody s_Net_home, defScope s_Net_home, [], []⟩
def d_Post_reads : He.DefD := ⟨("Post", some "reads"), "reads", "Post.reads", defArgs s_Post_reads, defBody s_Post_reads, defScope s_Post_reads, [], []⟩
def d_Listener_reads : He.DefD := ⟨("Listener", some "reads"), "reads", "Listener.reads", defArgs s_Listener_reads, defBody s_Listener_reads, defScope s_Listener_reads, [], []⟩
def d_Net_listeners : He.DefD := ⟨("Net", some "listeners"), "listeners", "Net.listeners", defArgs s_Net_listeners, defBody s_Net_listeners, defScope s_Net_listeners, [], []⟩
def d_Net_put_in : He.DefD := ⟨("Net", some "put_in"), "put_in", "Net.put_in", defArgs s_Net_put_in, defBody s_Net_put_in, defScope s_Net_put_in, [], []⟩
def d_Post__init_ : He.DefD := ⟨("Post", some "__init__"), "__init__", "Post.__init__", defArgs s_Post__init_, defBody s_Post__init_, defScope s_Post__init_, [], []⟩
def d_Net_house : He.DefD := ⟨("Net", some "house"), "house", "Net.house", defArgs s_Net_house, defBody s_Net_house, defScope s_Net_house, [], []⟩
def d_Net_listener : He.DefD := ⟨("Net", some "listener"), "listener", "Net.listener", defArgs s_Net_listener, defBody s_Net_listener, defScope s_Net_listener, [], []⟩
def d_Net_post : He.DefD := ⟨("Net", some "post"), "post", "Net.post", defArgs s_Net_post, defBody s_Net_post, defScope s_Net_post, [], []⟩
def d__law_word : He.DefD := ⟨("_law_word", none), "_law_word", "_law_word", defArgs s__law_word, defBody s__law_word, defScope s__law_word, [], []⟩
def d__law_put : He.DefD := ⟨("_law_put", none), "_law_put", "_law_put", defArgs s__law_put, defBody s__law_put, defScope s__law_put, [], []⟩
def d_Net_posts : He.DefD := ⟨("Net", some "posts"), "posts", "Net.posts", defArgs s_Net_posts, defBody s_Net_posts, defScope s_Net_posts, [], []⟩
def d_Net_names : He.DefD := ⟨("Net", some "names"), "names", "Net.names", defArgs s_Net_names, defBody s_Net_names, defScope s_Net_names, [], []⟩
def d_Post_hears : He.DefD := ⟨("Post", some "hears"), "hears", "Post.hears", defArgs s_Post_hears, defBody s_Post_hears, defScope s_Post_hears, [], []⟩
def d_House_hears : He.DefD := ⟨("House", some "hears"), "hears", "House.hears", defArgs s_House_hears, defBody s_House_hears, defScope s_House_hears, [], []⟩
def d__law_is : He.DefD := ⟨("_law_is", none), "_law_is", "_law_is", defArgs s__law_is, defBody s__law_is, defScope s__law_is, [], []⟩
def d__law_stands : He.DefD := ⟨("_law_stands", none), "_law_stands", "_law_stands", defArgs s__law_stands, defBody s__law_stands, defScope s__law_stands, [], []⟩
def d_Net_ties : He.DefD := ⟨("Net", some "ties"), "ties", "Net.ties", defArgs s_Net_ties, defBody s_Net_ties, defScope s_Net_ties, [], []⟩
def d_law : He.DefD := ⟨("law", none), "law", "law", defArgs s_law, defBody s_law, defScope s_law, [], []⟩
def fns : List He.DefD := [d__law_cell_at, d_Net__init_, d__law_mixed, d__law_name, d__law_due, d_Post_kind, d_House_kind, d_Listener_kind, d_Net_home, d_Post_reads, d_Listener_reads, d_Net_listeners, d_Net_put_in, d_Post__init_, d_Net_house, d_Net_listener, d_Net_post, d__law_word, d__law_put, d_Net_posts, d_Net_names, d_Post_hears, d_House_hears, d__law_is, d__law_stands, d_Net_ties, d_law]
def fas : List He.Fa := [.free "len", .free "range", .free "zip", .free "enumerate", .free "reversed", .free "int", .free "str", .free "bool", .free "list", .free "tuple", .free "dict", .free "set", .free "sorted", .free "min", .free "max", .free "sum", .free "all", .free "any", .free "isinstance", .free "divmod", .free "ValueError", .str "LETTERS" "abcdefghijklmnopqrstuvwxyz", .int "MOST_POSTS" 20, .int "MOST_LISTENERS" 8, .glo "PostError", .exc "PostError", .glo "NoName", .exc "NoName", .glo "Taken", .exc "Taken", .glo "OneHouse", .exc "OneHouse", .glo "NoPost", .glo "IntoHouse", .exc "IntoHouse", .glo "RingMade", .exc "RingMade", .glo "NoNumber", .exc "NoNumber", .glo "TooMany", .exc "TooMany", .glo "Post", .cls "Post", .glo "House", .cls "House", .glo "Listener", .cls "Listener", .glo "Net", .cls "Net", .noat "Net" "by_name", .noat "Net" "by_number", .noat "Net" "given", .noat "Post" "name", .noat "House" "name", .noat "Listener" "name", .exm "IntoHouse" "PostError" true, .exm "NoName" "PostError" true, .exm "NoNumber" "PostError" true, .exm "NoPost" "PostError" true, .exm "OneHouse" "PostError" true, .exm "PostError" "PostError" true, .exm "RingMade" "PostError" true, .exm "Taken" "PostError" true, .exm "TooMany" "PostError" true, .glo "_law_cell_at", .glo "_law_mixed", .glo "_law_name", .glo "_law_due", .meth "Post" "kind", .meth "House" "kind", .meth "Listener" "kind", .meth "Post" "reads", .meth "House" "reads", .meth "Listener" "reads", .meth "Net" "home", .meth "Net" "listeners", .meth "Net" "put_in", .mkr "House", .mkr "Listener", .mkr "Post", .glo "_law_word", .glo "_law_put", .meth "Net" "house", .meth "Net" "listener", .meth "Net" "post", .glo "_law_is", .meth "Post" "hears", .meth "House" "hears", .meth "Listener" "hears", .glo "_law_stands", .meth "Net" "posts", .meth "Net" "names", .mkr "Net", .meth "Net" "ties", .glo "law"]
def tfs : List He.Defn := []
def exb (K : PySem.W.Frag) : Bool := (insB K (He.ga K "Post")) && ((decide (PySem.W.kitOne K (.ref (He.ga K "Post")) (.ref (He.ga K "Post")) = some true)) && ((insB K (He.ga K "House")) && ((decide (PySem.W.kitOne K (.ref (He.ga K "House")) (.ref (He.ga K "Post")) = some true)) && ((insB K (He.ga K "Listener")) && ((decide (PySem.W.kitOne K (.ref (He.ga K "Listener")) (.ref (He.ga K "Post")) = some true)) && ((decide (PySem.W.kitOne K (.ref (He.ga K "Post")) (.ref (He.ga K "House")) = some false)) && ((decide (PySem.W.kitOne K (.ref (He.ga K "House")) (.ref (He.ga K "House")) = some true)) && ((decide (PySem.W.kitOne K (.ref (He.ga K "Listener")) (.ref (He.ga K "House")) = some false)) && ((decide (PySem.W.kitOne K (.ref (He.ga K "Post")) (.ref (He.ga K "Listener")) = some false)) && ((decide (PySem.W.kitOne K (.ref (He.ga K "House")) (.ref (He.ga K "Listener")) = some false)) && ((decide (PySem.W.kitOne K (.ref (He.ga K "Listener")) (.ref (He.ga K "Listener")) = some true)) && ((excB K (He.ga K "NoName")) && ((decide (PySem.W.kitOne K (.ref (He.ga K "NoName")) (.ref (He.ga K "NoName")) = some true)) && ((excB K (He.ga K "Taken")) && ((decide (PySem.W.kitOne K (.ref (He.ga K "Taken")) (.ref (He.ga K "NoName")) = some false)) && ((excB K (He.ga K "OneHouse")) && ((decide (PySem.W.kitOne K (.ref (He.ga K "OneHouse")) (.ref (He.ga K "NoName")) = some false)) && ((excB K (He.ga K "TooMany")) && ((decide (PySem.W.kitOne K (.ref (He.ga K "TooMany")) (.ref (He.ga K "NoName")) = some false)) && ((decide (PySem.W.kitOne K (.ref (He.ga K "NoName")) (.ref (He.ga K "Taken")) = some false)) && ((decide (PySem.W.kitOne K (.ref (He.ga K "Taken")) (.ref (He.ga K "Taken")) = some true)) && ((decide (PySem.W.kitOne K (.ref (He.ga K "OneHouse")) (.ref (He.ga K "Taken")) = some false)) && ((decide (PySem.W.kitOne K (.ref (He.ga K "TooMany")) (.ref (He.ga K "Taken")) = some false)) && ((decide (PySem.W.kitOne K (.ref (He.ga K "NoName")) (.ref (He.ga K "OneHouse")) = some false)) && ((decide (PySem.W.kitOne K (.ref (He.ga K "Taken")) (.ref (He.ga K "OneHouse")) = some false)) && ((decide (PySem.W.kitOne K (.ref (He.ga K "OneHouse")) (.ref (He.ga K "OneHouse")) = some true)) && ((decide (PySem.W.kitOne K (.ref (He.ga K "TooMany")) (.ref (He.ga K "OneHouse")) = some false)) && ((decide (PySem.W.kitOne K (.ref (He.ga K "NoName")) (.ref (He.ga K "TooMany")) = some false)) && ((decide (PySem.W.kitOne K (.ref (He.ga K "Taken")) (.ref (He.ga K "TooMany")) = some false)) && ((decide (PySem.W.kitOne K (.ref (He.ga K "OneHouse")) (.ref (He.ga K "TooMany")) = some false)) && ((decide (PySem.W.kitOne K (.ref (He.ga K "TooMany")) (.ref (He.ga K "TooMany")) = some true)) && ((decide (PySem.W.kitOne K (.ref (He.ga K "NoName")) (.ref (He.ga K "NoPost")) = some false)) && ((decide (PySem.W.kitOne K (.ref (He.ga K "Taken")) (.ref (He.ga K "NoPost")) = some false)) && ((decide (PySem.W.kitOne K (.ref (He.ga K "OneHouse")) (.ref (He.ga K "NoPost")) = some false)) && ((decide (PySem.W.kitOne K (.ref (He.ga K "TooMany")) (.ref (He.ga K "NoPost")) = some false)) && ((decide (PySem.W.kitOne K (.ref (He.ga K "NoName")) (.ref (He.ga K "IntoHouse")) = some false)) && ((decide (PySem.W.kitOne K (.ref (He.ga K "Taken")) (.ref (He.ga K "IntoHouse")) = some false)) && ((decide (PySem.W.kitOne K (.ref (He.ga K "OneHouse")) (.ref (He.ga K "IntoHouse")) = some false)) && ((decide (PySem.W.kitOne K (.ref (He.ga K "TooMany")) (.ref (He.ga K "IntoHouse")) = some false)) && ((decide (PySem.W.kitOne K (.ref (He.ga K "NoName")) (.type "ValueError") = some true)) && ((decide (PySem.W.kitOne K (.ref (He.ga K "Taken")) (.type "ValueError") = some true)) && ((decide (PySem.W.kitOne K (.ref (He.ga K "OneHouse")) (.type "ValueError") = some true)) && ((decide (PySem.W.kitOne K (.ref (He.ga K "TooMany")) (.type "ValueError") = some true)) && ((decide (He.ma K (He.ga K "House") "reads" = He.ma K (He.ga K "Post") "reads")) && ((decide (He.ma K (He.ga K "House") "__init__" = He.ma K (He.ga K "Post") "__init__")) && ((decide (He.ma K (He.ga K "Listener") "__init__" = He.ma K (He.ga K "Post") "__init__")) && ((decide (He.ma K (He.ga K "Listener") "hears" = He.ma K (He.ga K "Post") "hears")))))))))))))))))))))))))))))))))))))))))))))))))
abbrev Rw : PySem.W.OpenRow := PySem.W.OpenLaw.row PySem.Challenge.rw_mixposts_k21_posts_put_in
abbrev hk : PySem.W.Hook := He.hookX 4 fas fns [] tfs exb
def ob (s : PySem.W.SharedT) : He.AlX := He.obsX 4 fas fns [] tfs exb (HandSHeadRun.getT s)
theorem ob_eq (s : PySem.W.SharedT) : ob s = hk.obs s.abs := He.obsX_eq (HandSHeadRun.getT_eq s)
def names : List PySem.Str := (["_wall", "PostError", "NoName", "Taken", "OneHouse", "NoPost", "IntoHouse", "RingMade", "NoNumber", "TooMany", "LETTERS", "MOST_POSTS", "MOST_LISTENERS", "MOST_TIES", "Post", "House", "Listener", "Net", "_law_cell_at", "_law_mixed", "_law_name", "_law_due", "_law_word", "_law_put", "_law_is", "_law_stands"] : List PySem.Str)
theorem run (w : World) : HandSHeadRun.RunEq Rw (PySem.W.view Rw.prog [29]) hk ob 8000 names w := by
  intro os
  kernel_rfl
end W
/-! R: programs as partial functions on plain data and owned cells, over the hand layer -/
namespace R
open PySem L2
abbrev Ex := Evl.Ex
abbrev Fg := PySem.W.Frag

/-! ### the readings as they are wanted -/
def wE (X : Cx) (e : Expr) : TE := fun s H k => ∃ t, PE X e t ∧ t s H k
def wT (X : Cx) (e : Expr) : TT := fun s H k => ∃ t, PT X e t ∧ t s H k
def wW (X : Cx) (e : Expr) : TT := fun s H k => ∃ t, PW X e t ∧ t s H k
def wA (X : Cx) (es : List Expr) : TA := fun s H k => ∃ t, PA X es t ∧ t s H k
def wS (X : Cx) (st : Stmt) : TS := fun D s H => ∃ t, PS X st t ∧ t D s H
def wB (X : Cx) (st : List Stmt) : TS := fun D s H => ∃ t, PSs X st t ∧ t D s H
def wG (X : Cx) (tg : Expr) : TG := fun v s H k => ∃ g, PG X tg g ∧ g v s H k
def wGs (X : Cx) (tgs : List Expr) : TGs := fun v s H k => ∃ g, PGs X tgs g ∧ g v s H k
def wI (X : Cx) (tg iter : Expr) : TI := fun s H R => ∃ w, PI X tg iter w ∧ w s H R
def wTs (X : Cx) (ifs : List Expr) : TT := fun s H k => ∃ t, PTs X ifs t ∧ t s H k
def wO (X : Cx) (o : Option Expr) : TO := fun s H k => ∃ t, PO X o t ∧ t s H k
section
variable {X : Cx} {e tg iter : Expr} {es : List Expr} {st : Stmt} {sts : List Stmt} {o : Option Expr}
theorem wE_ok : PE X e (wE X e) := ⟨fun pins s q H k I ⟨_, h, w⟩ => h.run pins s q H k I w⟩
theorem wT_ok : PT X e (wT X e) := ⟨fun pins s q H k I ⟨_, h, w⟩ => h.run pins s q H k I w⟩
theorem wW_ok : PW X e (wW X e) := ⟨fun w pins s q H k I ⟨_, h, z⟩ => h.run w pins s q H k I z⟩
theorem wA_ok : PA X es (wA X es) := ⟨fun p pins s q H k I ⟨_, h, w⟩ => h.run p pins s q H k I w⟩
theorem wS_ok : PS X st (wS X st) := ⟨fun pins s q H D I ⟨_, h, w⟩ => h.run pins s q H D I w⟩
theorem wB_ok : PSs X sts (wB X sts) := ⟨fun pins s q H D I ⟨_, h, w⟩ => h.run pins s q H D I w⟩
theorem wG_ok : PG X tg (wG X tg) := ⟨fun pins s q H v u k I r ⟨_, h, z⟩ => h.run pins s q H v u k I r z⟩
theorem wGs_ok : PGs X es (wGs X es) := ⟨fun pins s q H v u k I r ⟨_, h, z⟩ => h.run pins s q H v u k I r z⟩
theorem wI_ok : PI X tg iter (wI X tg iter) := ⟨fun pins s q H R I ⟨_, h, z⟩ => h.run pins s q H R I z⟩
theorem wTs_ok : PTs X es (wTs X es) := ⟨fun pins s q H k I ⟨_, h, z⟩ => h.run pins s q H k I z⟩
theorem wO_ok : PO X o (wO X o) := ⟨fun pins s q H k I ⟨_, h, z⟩ => h.run pins s q H k I z⟩
end

/-! ### plain data -/
/-- an exception of the class cls, its dict at d: known for good -/
def exoH (cls : PySem.Value) (d : Option Addr) (a : Addr) : HO := .ext fun h => ∃ oe : PySem.Obj, h.get? a = some oe ∧ Zc cls d oe ∧ ∃ vs, oe.data = .fields vs
inductive D where
  | non | bl (b : Bool) | int (i : Int) | str (s : Str)
  | lst (l : List D) | tup (l : List D) | dk (l : List (Key × D)) | dt (l : List (List Key × D))
  | ins (n : Str) (fs : List (Str × D))
  | cls (n : Str) | ty (n : String) | adr (a : Addr)
  | exf (a d : Addr) (fs : List (Str × D))
  | scr (l : List Int)
  /-- a caught exception, kept; whether it has fields -/
  | exo (n : Str) (has : Bool) (fs : List (Str × D))
/-- a value as it is known: plain data, the n-th cell, a tuple of such -/
inductive El where
  | v (d : D)
  | at (n : Nat)
  | tp (l : List El)
/-- a cell: an owned object; a dict that is walked: as what it is locked -/
inductive Ob where
  | lst (l : List El)
  | dk (lk : Option HO) (l : List (Key × El))
  | dt (lk : Option HO) (l : List (List Key × El))
  | ins (n : Str) (fs : List (Str × El))
  /-- the table of the def p's code object: each code object in it bears the name q -/
  | tab (p : Str × Option Str) (q : Str)
abbrev Cs := List (Option Ob)
abbrev Gs := List (Option El)

section
variable (K : Fg)
mutual
def Rep (M : Hp) : D → V → Prop
  | .non, v => v = .non
  | .bl b, v => v = .bl b
  | .int i, v => v = .int i
  | .str s, v => v = .str s
  | .lst l, v => ∃ a vs, v = .ref a ∧ M a = some (.lst vs) ∧ RepL M l vs
  | .tup l, v => ∃ a vs, v = .ref a ∧ M a = some (.tup vs) ∧ RepL M l vs
  | .dk l, v => ∃ a kvs, v = .ref a ∧ Rd M a (.dK kvs) ∧ RepK M l kvs
  | .dt l, v => ∃ a kvs, v = .ref a ∧ Rd M a (.dT kvs) ∧ RepT M l kvs
  | .ins n fs, v => ∃ a dx fvs, v = .ref a ∧ M a = some (.ins (He.ga K n) dx fvs) ∧ RepF M fs fvs
  | .cls n, v => v = .ref (He.ga K n)
  | .ty n, v => v = .ty n
  | .adr a, v => v = .ref a
  | .exf a d fs, v => v = .ref a ∧ ∃ fvs, M d = some (.xd fvs) ∧ RepF M fs fvs
  | .scr l, v => ∃ a, v = .ref a ∧ (Rd M a (.lst (l.map V.int)) ∨ SqL K (fun _ => none) a (l.map V.int))
  | .exo n has fs, v => ∃ (a d : Addr), v = .ref a ∧ M a = some (exoH (.ref (He.ga K n)) (if has = true then some d else none) a) ∧ (has = true → ∃ fvs, M d = some (.xd fvs) ∧ RepF M fs fvs)
def RepL (M : Hp) : List D → List V → Prop
  | [], vs => vs = []
  | d :: l, vs => ∃ v r, vs = v :: r ∧ Rep M d v ∧ RepL M l r
def RepK (M : Hp) : List (Key × D) → List (Key × V) → Prop
  | [], vs => vs = []
  | d :: l, vs => ∃ v r, vs = (d.1, v) :: r ∧ Rep M d.2 v ∧ RepK M l r
def RepT (M : Hp) : List (List Key × D) → List (List Key × V) → Prop
  | [], vs => vs = []
  | d :: l, vs => ∃ v r, vs = (d.1, v) :: r ∧ Rep M d.2 v ∧ RepT M l r
def RepF (M : Hp) : List (Str × D) → List (Str × V) → Prop
  | [], vs => vs = []
  | d :: l, vs => ∃ v r, vs = (d.1, v) :: r ∧ Rep M d.2 v ∧ RepF M l r
end
end
section
variable {K : Fg} {M M' : Hp}
mutual
theorem Rep.mono (e : Ex M M') : ∀ {d : D} {v : V}, Rep K M d v → Rep K M' d v
  | .non, v, h => h
  | .bl _, v, h => h
  | .int _, v, h => h
  | .str _, v, h => h
  | .lst l, v, h => by
    obtain ⟨a, vs, e1, r, h⟩ := h
    exact ⟨a, vs, e1, e _ _ r, RepL.mono e h⟩
  | .scr l, v, h => by
    obtain ⟨a, e1, r⟩ := h
    exact ⟨a, e1, r.imp (Evl.ex_rd e) id⟩
  | .tup l, v, h => by
    obtain ⟨a, vs, e1, r, h⟩ := h
    exact ⟨a, vs, e1, e _ _ r, RepL.mono e h⟩
  | .cls _, v, h => h
  | .ty _, v, h => h
  | .adr _, v, h => h
  | .exf a d fs, v, h => by
    obtain ⟨e1, vs, r, h⟩ := h
    exact ⟨e1, vs, e _ _ r, RepF.mono e h⟩
  | .exo n has fs, v, h => by
    obtain ⟨a, d, e1, r, h⟩ := h
    exact ⟨a, d, e1, e _ _ r, fun z => by
      obtain ⟨vs, r2, h2⟩ := h z
      exact ⟨vs, e _ _ r2, RepF.mono e h2⟩⟩
  | .dk l, v, h => by
    obtain ⟨a, vs, e1, r, h⟩ := h
    exact ⟨a, vs, e1, Evl.ex_rd e r, RepK.mono e h⟩
  | .dt l, v, h => by
    obtain ⟨a, vs, e1, r, h⟩ := h
    exact ⟨a, vs, e1, Evl.ex_rd e r, RepT.mono e h⟩
  | .ins C fs, v, h => by
    obtain ⟨a, dx, vs, e1, r, h⟩ := h
    exact ⟨a, dx, vs, e1, e _ _ r, RepF.mono e h⟩
theorem RepL.mono (e : Ex M M') : ∀ {l : List D} {vs : List V}, RepL K M l vs → RepL K M' l vs
  | [], _, h => h
  | d :: l, _, h => by
    obtain ⟨v, r, e1, h1, h2⟩ := h
    exact ⟨v, r, e1, Rep.mono e h1, RepL.mono e h2⟩
theorem RepK.mono (e : Ex M M') : ∀ {l : List (Key × D)} {vs : List (Key × V)}, RepK K M l vs → RepK K M' l vs
  | [], _, h => h
  | (k, d) :: l, _, h => by
    obtain ⟨v, r, e1, h1, h2⟩ := h
    exact ⟨v, r, e1, Rep.mono e h1, RepK.mono e h2⟩
theorem RepT.mono (e : Ex M M') : ∀ {l : List (List Key × D)} {vs : List (List Key × V)}, RepT K M l vs → RepT K M' l vs
  | [], _, h => h
  | (k, d) :: l, _, h => by
    obtain ⟨v, r, e1, h1, h2⟩ := h
    exact ⟨v, r, e1, Rep.mono e h1, RepT.mono e h2⟩
theorem RepF.mono (e : Ex M M') : ∀ {l : List (Str × D)} {vs : List (Str × V)}, RepF K M l vs → RepF K M' l vs
  | [], _, h => h
  | (k, d) :: l, _, h => by
    obtain ⟨v, r, e1, h1, h2⟩ := h
    exact ⟨v, r, e1, Rep.mono e h1, RepF.mono e h2⟩
end
end

inductive All2 {α β : Type} (R : α → β → Prop) : List α → List β → Prop
  | nil : All2 R [] []
  | cons {a b l r} (h : R a b) (t : All2 R l r) : All2 R (a :: l) (b :: r)
section
variable {α β γ : Type} {R : α → β → Prop}
theorem All2.imp {R' : α → β → Prop} (f : ∀ a b, R a b → R' a b) : ∀ {l : List α} {r : List β}, All2 R l r → All2 R' l r
  | _, _, .nil => .nil
  | _, _, .cons h t => .cons (f _ _ h) (t.imp f)
theorem All2.length : ∀ {l : List α} {r : List β}, All2 R l r → l.length = r.length
  | _, _, .nil => rfl
  | _, _, .cons _ t => congrArg (· + 1) t.length
theorem All2.get : ∀ {l : List α} {r : List β} {i : Nat} {a : α}, All2 R l r → l[i]? = some a → ∃ b, r[i]? = some b ∧ R a b
  | _, _, 0, _, .cons h _, e => by
    simp at e
    subst e
    exact ⟨_, rfl, h⟩
  | _, _, i + 1, a, .cons _ t, e => by
    obtain ⟨b, e1, h1⟩ := t.get (i := i) (a := a) (by simpa using e)
    exact ⟨b, by simpa using e1, h1⟩
  | _, _, _, _, .nil, e => by simp at e
theorem All2.set {a : α} {b : β} (h : R a b) : ∀ {l : List α} {r : List β} (i : Nat), All2 R l r → All2 R (l.set i a) (r.set i b)
  | _, _, _, .nil => .nil
  | _, _, 0, .cons _ t => .cons h t
  | _, _, i + 1, .cons q t => .cons q (All2.set h i t)
theorem All2.append : ∀ {l l' : List α} {r r' : List β}, All2 R l r → All2 R l' r' → All2 R (l ++ l') (r ++ r')
  | _, _, _, _, .nil, h => h
  | _, _, _, _, .cons q t, h => .cons q (t.append h)
theorem All2.take : ∀ {l : List α} {r : List β} (n : Nat), All2 R l r → All2 R (l.take n) (r.take n)
  | _, _, 0, _ => by simp; exact .nil
  | _, _, _ + 1, .nil => .nil
  | _, _, n + 1, .cons q t => .cons q (t.take n)
theorem All2.drop : ∀ {l : List α} {r : List β} (n : Nat), All2 R l r → All2 R (l.drop n) (r.drop n)
  | _, _, 0, h => h
  | _, _, _ + 1, .nil => .nil
  | _, _, n + 1, .cons q t => t.drop n
theorem All2.map_l {f : γ → α} : ∀ {l : List γ} {r : List β}, All2 R (l.map f) r ↔ All2 (fun x b => R (f x) b) l r
  | [], r => ⟨fun h => by cases h; exact .nil, fun h => by cases h; exact .nil⟩
  | x :: l, r => ⟨fun h => by
      cases h with
      | cons q t => exact .cons q (All2.map_l.mp t), fun h => by
      cases h with
      | cons q t => exact .cons q (All2.map_l.mpr t)⟩
end
theorem repL_iff {K : Fg} {M : Hp} : ∀ {l : List D} {vs : List V}, RepL K M l vs ↔ All2 (Rep K M) l vs
  | [], vs => ⟨fun h => by rw [show vs = [] from h]; exact .nil, fun h => by cases h; rfl⟩
  | d :: l, vs => ⟨fun ⟨v, r, e, h1, h2⟩ => by rw [e]; exact .cons h1 (repL_iff.mp h2), fun h => by
      cases h with
      | cons q t => exact ⟨_, _, rfl, q, repL_iff.mpr t⟩⟩
theorem repK_iff {K : Fg} {M : Hp} : ∀ {l : List (Key × D)} {vs : List (Key × V)}, RepK K M l vs ↔ All2 (fun p q => p.1 = q.1 ∧ Rep K M p.2 q.2) l vs
  | [], vs => ⟨fun h => by rw [show vs = [] from h]; exact .nil, fun h => by cases h; rfl⟩
  | d :: l, vs => ⟨fun ⟨v, r, e, h1, h2⟩ => by rw [e]; exact .cons ⟨rfl, h1⟩ (repK_iff.mp h2), fun h => by
      cases h with
      | @cons _ b _ _ q t =>
        obtain ⟨k, v⟩ := b
        obtain ⟨q1, q2⟩ := q
        have q1' : d.1 = k := q1
        subst q1'
        exact ⟨_, _, rfl, q2, repK_iff.mpr t⟩⟩
theorem repT_iff {K : Fg} {M : Hp} : ∀ {l : List (List Key × D)} {vs : List (List Key × V)}, RepT K M l vs ↔ All2 (fun p q => p.1 = q.1 ∧ Rep K M p.2 q.2) l vs
  | [], vs => ⟨fun h => by rw [show vs = [] from h]; exact .nil, fun h => by cases h; rfl⟩
  | d :: l, vs => ⟨fun ⟨v, r, e, h1, h2⟩ => by rw [e]; exact .cons ⟨rfl, h1⟩ (repT_iff.mp h2), fun h => by
      cases h with
      | @cons _ b _ _ q t =>
        obtain ⟨k, v⟩ := b
        obtain ⟨q1, q2⟩ := q
        have q1' : d.1 = k := q1
        subst q1'
        exact ⟨_, _, rfl, q2, repT_iff.mpr t⟩⟩
theorem repF_iff {K : Fg} {M : Hp} : ∀ {l : List (Str × D)} {vs : List (Str × V)}, RepF K M l vs ↔ All2 (fun p q => p.1 = q.1 ∧ Rep K M p.2 q.2) l vs
  | [], vs => ⟨fun h => by rw [show vs = [] from h]; exact .nil, fun h => by cases h; rfl⟩
  | d :: l, vs => ⟨fun ⟨v, r, e, h1, h2⟩ => by rw [e]; exact .cons ⟨rfl, h1⟩ (repF_iff.mp h2), fun h => by
      cases h with
      | @cons _ b _ _ q t =>
        obtain ⟨k, v⟩ := b
        obtain ⟨q1, q2⟩ := q
        have q1' : d.1 = k := q1
        subst q1'
        exact ⟨_, _, rfl, q2, repF_iff.mpr t⟩⟩

/-! ### cells in the heap -/
def live : List Addr → Cs → List Addr
  | a :: A, some _ :: C => a :: live A C
  | _ :: A, none :: C => live A C
  | _, _ => []
/-- the heap without what is owned -/
def fz (A : List Addr) (C : Cs) (H : Hp) : Hp := fun a => if a ∈ live A C then none else H a
section
variable (K : Fg)
mutual
def RepE (A : List Addr) (C : Cs) (H : Hp) : El → V → Prop
  | .v d, x => Rep K (fz A C H) d x
  | .at n, x => ∃ a, A[n]? = some a ∧ x = .ref a
  | .tp l, x => ∃ a vs, x = .ref a ∧ fz A C H a = some (.tup vs) ∧ RepEs A C H l vs
def RepEs (A : List Addr) (C : Cs) (H : Hp) : List El → List V → Prop
  | [], vs => vs = []
  | e :: l, vs => ∃ v r, vs = v :: r ∧ RepE A C H e v ∧ RepEs A C H l r
end
def SlotE (A : List Addr) (C : Cs) (H : Hp) (o : Option El) (x : Option V) : Prop := ∀ e, o = some e → ∃ v, x = some v ∧ RepE K A C H e v
def PairE {κ : Type} (A : List Addr) (C : Cs) (H : Hp) (p : κ × El) (q : κ × V) : Prop := p.1 = q.1 ∧ RepE K A C H p.2 q.2
def CellOk (A : List Addr) (C : Cs) (H : Hp) (a : Addr) : Ob → Prop
  | .lst l => ∃ vs, H a = some (.lst vs) ∧ All2 (RepE K A C H) l vs
  | .dk none l => ∃ vs, H a = some (.dK vs) ∧ All2 (PairE K A C H) l vs
  | .dk (some ho) l => ∃ o vs, ho = .frz o (.dK vs) ∧ H a = some ho ∧ All2 (PairE K A C H) l vs
  | .dt none l => ∃ vs, H a = some (.dT vs) ∧ All2 (PairE K A C H) l vs
  | .dt (some ho) l => ∃ o vs, ho = .frz o (.dT vs) ∧ H a = some ho ∧ All2 (PairE K A C H) l vs
  | .ins n fs => ∃ dx fvs, H a = some (.ins (He.ga K n) dx fvs) ∧ All2 (PairE K A C H) fs fvs
  | .tab p q => a = (He.cT K p).2 ∧ ∃ ps : Array PySem.Value, H a = some (.tbl ps) ∧ PySem.TriplesOk ps.toList ∧ ∀ (pos : Pos) (cv : PySem.Value), PySem.codeAmong pos ps.toList = some cv → ∃ c, cv = .ref c ∧ fz A C H c = some (LamX.CodeO c q)
end
/-- the base: F what stands since, A0 the addresses since -/
structure Bs where
  F : Hp
  A0 : List Addr
structure Sat (K : Fg) (b : Bs) (A : List Addr) (G : Gs) (C : Cs) (s : St) (H : Hp) : Prop where
  len : A.length = C.length
  nd : (live A C).Nodup
  ex : Ex b.F (fz A C H)
  pre : b.A0 <+: A
  cell : ∀ (i : Nat) (a : Addr) (o : Ob), A[i]? = some a → C[i]? = some (some o) → CellOk K A C H a o
  slot : All2 (SlotE K A C H) G s

theorem live_mem : ∀ {A : List Addr} {C : Cs} {a : Addr}, a ∈ live A C ↔ ∃ (i : Nat) (o : Ob), A[i]? = some a ∧ C[i]? = some (some o)
  | [], _, a => by simp [live]
  | x :: A, [], a => by simp [live]
  | x :: A, some o :: C, a => by
    simp only [live, List.mem_cons, live_mem (A := A) (C := C)]
    constructor
    · rintro (rfl | ⟨i, o', h1, h2⟩)
      · exact ⟨0, o, rfl, rfl⟩
      · exact ⟨i + 1, o', by simpa using h1, by simpa using h2⟩
    · rintro ⟨i, o', h1, h2⟩
      cases i with
      | zero => exact .inl (by simpa using h1.symm)
      | succ i => exact .inr ⟨i, o', by simpa using h1, by simpa using h2⟩
  | x :: A, none :: C, a => by
    simp only [live, live_mem (A := A) (C := C)]
    constructor
    · rintro ⟨i, o', h1, h2⟩
      exact ⟨i + 1, o', by simpa using h1, by simpa using h2⟩
    · rintro ⟨i, o', h1, h2⟩
      cases i with
      | zero => simp at h2
      | succ i => exact ⟨i, o', by simpa using h1, by simpa using h2⟩
section
variable {K : Fg} {A A' : List Addr} {C C' : Cs} {H H' : Hp} {b : Bs} {G : Gs} {s : St}
theorem mk_of {a : Addr} {o : HO} (h : fz A C H a = some o) : H a = some o := by
  unfold fz at h
  split at h
  · cases h
  · exact h
theorem mk_not {a : Addr} {o : HO} (h : fz A C H a = some o) : a ∉ live A C := by
  unfold fz at h
  split at h
  · cases h
  · assumption
theorem rd_of {a : Addr} {o : HO} (h : Rd (fz A C H) a o) : Rd H a o := h.imp mk_of fun ⟨z, e⟩ => ⟨z, mk_of e⟩
theorem mk_at {a : Addr} (h : a ∉ live A C) : fz A C H a = H a := by
  unfold fz
  rw [if_neg h]
theorem mk_ex (e : Ex H H') : Ex (fz A C H) (fz A C H') := fun a o h => by
  rw [mk_at (mk_not h)]
  exact e a o (mk_of h)
/-- what goes on: the owned ones have more places, what is not owned stays -/
structure Go (A : List Addr) (C : Cs) (H : Hp) (A' : List Addr) (C' : Cs) (H' : Hp) : Prop where
  pre : A <+: A'
  ex : Ex (fz A C H) (fz A' C' H')
theorem Go.refl : Go A C H A C H := ⟨List.prefix_rfl, Evl.Ex.refl _⟩
theorem Go.trans {A'' : List Addr} {C'' : Cs} {H'' : Hp} (x : Go A C H A' C' H') (y : Go A' C' H' A'' C'' H'') : Go A C H A'' C'' H'' := ⟨x.pre.trans y.pre, x.ex.trans y.ex⟩
theorem Go.of (e : Ex H H') : Go A C H A C H' := ⟨List.prefix_rfl, mk_ex e⟩
theorem pre_get {l r : List Addr} (h : l <+: r) {i : Nat} {a : Addr} (e : l[i]? = some a) : r[i]? = some a := by
  obtain ⟨x, rfl⟩ := h
  rw [List.getElem?_append_left ((List.getElem?_eq_some_iff.mp e).1)]
  exact e
mutual
theorem RepE.go (g : Go A C H A' C' H') : ∀ {e : El} {x : V}, RepE K A C H e x → RepE K A' C' H' e x
  | .v d, x, h => Rep.mono g.ex h
  | .at n, x, h => by
    obtain ⟨a, h1, h2⟩ := h
    exact ⟨a, pre_get g.pre h1, h2⟩
  | .tp l, x, h => by
    obtain ⟨a, vs, h1, h2, h3⟩ := h
    exact ⟨a, vs, h1, g.ex _ _ h2, RepEs.go g h3⟩
theorem RepEs.go (g : Go A C H A' C' H') : ∀ {l : List El} {vs : List V}, RepEs K A C H l vs → RepEs K A' C' H' l vs
  | [], _, h => h
  | e :: l, _, h => by
    obtain ⟨v, r, h1, h2, h3⟩ := h
    exact ⟨v, r, h1, RepE.go g h2, RepEs.go g h3⟩
end
theorem repEs_iff : ∀ {l : List El} {vs : List V}, RepEs K A C H l vs ↔ All2 (RepE K A C H) l vs
  | [], vs => ⟨fun h => by rw [show vs = [] from h]; exact .nil, fun h => by cases h; rfl⟩
  | d :: l, vs => ⟨fun ⟨v, r, e, h1, h2⟩ => by rw [e]; exact .cons h1 (repEs_iff.mp h2), fun h => by
      cases h with
      | cons q t => exact ⟨_, _, rfl, q, repEs_iff.mpr t⟩⟩
theorem SlotE.go (g : Go A C H A' C' H') {o : Option El} {x : Option V} (h : SlotE K A C H o x) : SlotE K A' C' H' o x := fun e he =>
  let ⟨v, h1, h2⟩ := h e he
  ⟨v, h1, h2.go g⟩
theorem repEs_go (g : Go A C H A' C' H') {l : List El} {vs : List V} (h : All2 (RepE K A C H) l vs) : All2 (RepE K A' C' H') l vs := h.imp fun _ _ r => r.go g
theorem pairEs_go {κ : Type} (g : Go A C H A' C' H') {l : List (κ × El)} {vs : List (κ × V)} (h : All2 (PairE K A C H) l vs) : All2 (PairE K A' C' H') l vs := h.imp fun _ _ r => ⟨r.1, r.2.go g⟩
theorem CellOk.go (g : Go A C H A' C' H') {a : Addr} (e : ∀ x, H a = some x → H' a = some x) {o : Ob} (c : CellOk K A C H a o) : CellOk K A' C' H' a o := by
  cases o with
  | lst l =>
    obtain ⟨vs, h3, h4⟩ := c
    exact ⟨vs, e _ h3, repEs_go g h4⟩
  | dk k l =>
    cases k with
    | none =>
      obtain ⟨vs, h3, h4⟩ := c
      exact ⟨vs, e _ h3, pairEs_go g h4⟩
    | some ho =>
      obtain ⟨o, vs, eh, h3, h4⟩ := c
      exact ⟨o, vs, eh, e _ h3, pairEs_go g h4⟩
  | dt k l =>
    cases k with
    | none =>
      obtain ⟨vs, h3, h4⟩ := c
      exact ⟨vs, e _ h3, pairEs_go g h4⟩
    | some ho =>
      obtain ⟨o, vs, eh, h3, h4⟩ := c
      exact ⟨o, vs, eh, e _ h3, pairEs_go g h4⟩
  | ins n fs =>
    obtain ⟨dx, vs, h3, h4⟩ := c
    exact ⟨dx, vs, e _ h3, pairEs_go g h4⟩
  | tab p q =>
    obtain ⟨h0, ps, h1, h2, h3⟩ := c
    exact ⟨h0, ps, e _ h1, h2, fun pos cv z => let ⟨c, e1, e2⟩ := h3 pos cv z; ⟨c, e1, g.ex _ _ e2⟩⟩
theorem CellOk.some {a : Addr} {o : Ob} (c : CellOk K A C H a o) : ∃ x, H a = some x := by
  cases o with
  | lst l => exact let ⟨_, h, _⟩ := c; ⟨_, h⟩
  | dk k l => cases k with
    | none => exact let ⟨_, h, _⟩ := c; ⟨_, h⟩
    | some ho => exact let ⟨_, _, _, h, _⟩ := c; ⟨_, h⟩
  | dt k l => cases k with
    | none => exact let ⟨_, h, _⟩ := c; ⟨_, h⟩
    | some ho => exact let ⟨_, _, _, h, _⟩ := c; ⟨_, h⟩
  | ins n fs => exact let ⟨_, _, h, _⟩ := c; ⟨_, h⟩
  | tab p q => exact let ⟨_, _, h, _⟩ := c; ⟨_, h⟩
theorem Sat.ext (S : Sat K b A G C s H) (e : Ex H H') : Sat K b A G C s H' :=
  ⟨S.len, S.nd, S.ex.trans (mk_ex e), S.pre, fun i a o h1 h2 => (S.cell i a o h1 h2).go (Go.of e) fun x => e a x, S.slot.imp fun _ _ r => r.go (Go.of e)⟩
theorem Sat.get (S : Sat K b A G C s H) {i : Nat} {r : El} (h : G[i]? = some (some r)) : ∃ v, s[i]? = some (some v) ∧ RepE K A C H r v := by
  obtain ⟨x, h1, h2⟩ := S.slot.get h
  obtain ⟨v, rfl, h3⟩ := h2 r rfl
  exact ⟨v, h1, h3⟩
theorem Sat.put (S : Sat K b A G C s H) {i : Nat} {r : El} {v : V} (h : RepE K A C H r v) : Sat K b A (G.set i (some r)) C (s.set i (some v)) H :=
  ⟨S.len, S.nd, S.ex, S.pre, S.cell, S.slot.set (fun e he => ⟨v, rfl, by cases he; exact h⟩) i⟩
theorem Sat.gone (S : Sat K b A G C s H) (i : Nat) : Sat K b A (G.set i none) C (s.set i none) H :=
  ⟨S.len, S.nd, S.ex, S.pre, S.cell, S.slot.set (fun e he => by cases he) i⟩
/-- other slots, the same heap -/
theorem Sat.slots {G' : Gs} {s' : St} (S : Sat K b A G C s H) (h : All2 (SlotE K A C H) G' s') : Sat K b A G' C s' H := ⟨S.len, S.nd, S.ex, S.pre, S.cell, h⟩
/-- the base laid anew here -/
def Bs.now (A : List Addr) (C : Cs) (H : Hp) : Bs := ⟨fz A C H, A⟩
theorem Sat.now (S : Sat K b A G C s H) : Sat K (Bs.now A C H) A G C s H := ⟨S.len, S.nd, Evl.Ex.refl _, List.prefix_rfl, S.cell, S.slot⟩
theorem Sat.go (S : Sat K (Bs.now A C H) A' G C' s H') : Go A C H A' C' H' := ⟨S.pre, S.ex⟩
/-- back to the earlier base -/
theorem Sat.back {G' : Gs} {s' : St} (S : Sat K b A G C s H) (T : Sat K (Bs.now A C H) A' G' C' s' H') : Sat K b A' G' C' s' H' := ⟨T.len, T.nd, S.ex.trans T.ex, S.pre.trans T.pre, T.cell, T.slot⟩
theorem Sat.fresh (S : Sat K b A G C s H) {p : Addr} (h : H p = none) : p ∉ live A C := fun q => by
  obtain ⟨i, o, h1, h2⟩ := live_mem.mp q
  obtain ⟨x, e⟩ := (S.cell i p o h1 h2).some
  rw [h] at e
  cases e
/-- a new object that is not owned -/
theorem Sat.newAt (S : Sat K b A G C s H) {p : Addr} {o : HO} (h : H p = none) : fz A C (upd H p o) p = some o := by
  rw [mk_at (S.fresh h)]
  exact upd_same
end

/-! ### owned objects written, made -/
section
variable {K : Fg} {b : Bs} {A A' : List Addr} {G : Gs} {C : Cs} {s : St} {H H' : Hp} {o o' : Ob} {n : Nat} {a : Addr} {ho : HO}
theorem live_set : ∀ {A : List Addr} {C : Cs} {n : Nat} {o o' : Ob}, C[n]? = some (some o) → live A (C.set n (some o')) = live A C
  | [], _, _, _, _, _ => by simp [live]
  | x :: A, [], _, _, _, _ => by simp [live]
  | x :: A, c :: C, 0, o, o', h => by
    have e : c = some o := by simpa using h
    subst e
    rfl
  | x :: A, c :: C, n + 1, o, o', h => by
    have ih := live_set (A := A) (C := C) (n := n) (o := o) (o' := o') (by simpa using h)
    cases c with
    | none => simpa [live] using ih
    | some c => simpa [live] using ih
theorem live_new : ∀ {A : List Addr} {C : Cs} {p : Addr} {o : Ob}, A.length = C.length → live (A ++ [p]) (C ++ [some o]) = live A C ++ [p]
  | [], [], p, o, _ => rfl
  | [], _ :: _, _, _, h => by cases h
  | _ :: _, [], _, _, h => by cases h
  | x :: A, c :: C, p, o, h => by
    have ih := live_new (A := A) (C := C) (p := p) (o := o) (by simpa using h)
    cases c with
    | none => simpa [live] using ih
    | some c => simpa [live] using ih
theorem live_inj : ∀ {A : List Addr} {C : Cs}, (live A C).Nodup → ∀ {i j : Nat} {a : Addr} {o o' : Ob}, A[i]? = some a → C[i]? = some (some o) → A[j]? = some a → C[j]? = some (some o') → i = j
  | [], _, _, i, _, _, _, _, h, _, _, _ => by simp at h
  | x :: A, [], _, i, _, _, _, _, _, h, _, _ => by simp at h
  | x :: A, none :: C, hn, i, j, a, o, o', h1, h2, h3, h4 => by
    cases i with
    | zero => simp at h2
    | succ i => cases j with
      | zero => simp at h4
      | succ j =>
        have q := live_inj (A := A) (C := C) (by simpa [live] using hn) (by simpa using h1) (by simpa using h2) (by simpa using h3) (by simpa using h4)
        omega
  | x :: A, some c :: C, hn, i, j, a, o, o', h1, h2, h3, h4 => by
    have hn' : x ∉ live A C ∧ (live A C).Nodup := by simpa [live] using hn
    cases i with
    | zero => cases j with
      | zero => rfl
      | succ j =>
        have e : x = a := by simpa using h1
        subst e
        exact absurd (live_mem.mpr ⟨j, o', by simpa using h3, by simpa using h4⟩) hn'.1
    | succ i => cases j with
      | zero =>
        have e : x = a := by simpa using h3
        subst e
        exact absurd (live_mem.mpr ⟨i, o, by simpa using h1, by simpa using h2⟩) hn'.1
      | succ j =>
        have q := live_inj (A := A) (C := C) hn'.2 (by simpa using h1) (by simpa using h2) (by simpa using h3) (by simpa using h4)
        omega
theorem mk_set (hA : A[n]? = some a) (hC : C[n]? = some (some o)) : fz A (C.set n (some o')) (upd H a ho) = fz A C H := by
  funext c
  unfold fz
  rw [live_set hC]
  split
  · rfl
  · rename_i hn
    have : c ≠ a := fun e => hn (e ▸ live_mem.mpr ⟨n, o, hA, hC⟩)
    rw [upd_ne this]
theorem mk_new {p : Addr} (hl : A.length = C.length) (hp : p ∉ live A C) (hn : H p = none) : fz (A ++ [p]) (C ++ [some o]) (upd H p ho) = fz A C H := by
  funext c
  unfold fz
  rw [live_new hl]
  by_cases e : c = p
  · subst e
    rw [if_pos (by simp), if_neg hp, hn]
  · rw [upd_ne e]
    by_cases q : c ∈ live A C
    · rw [if_pos (by simp [q]), if_pos q]
    · rw [if_neg (by simp [q, e]), if_neg q]
theorem goSet (hA : A[n]? = some a) (hC : C[n]? = some (some o)) : Go A C H A (C.set n (some o')) (upd H a ho) := ⟨List.prefix_rfl, by rw [mk_set hA hC]; exact Evl.Ex.refl _⟩
theorem Sat.cellSet (S : Sat K b A G C s H) (hA : A[n]? = some a) (hC : C[n]? = some (some o)) (h : CellOk K A (C.set n (some o')) (upd H a ho) a o') : Sat K b A G (C.set n (some o')) s (upd H a ho) := by
  have e := mk_set (ho := ho) (H := H) (o' := o') hA hC
  have g : Go A C H A (C.set n (some o')) (upd H a ho) := goSet hA hC
  refine ⟨by rw [List.length_set]; exact S.len, by rw [live_set hC]; exact S.nd, by rw [e]; exact S.ex, S.pre, fun i a' o2 h1 h2 => ?_, S.slot.imp fun _ _ r => r.go g⟩
  by_cases hi : i = n
  · subst hi
    rw [hA] at h1
    cases h1
    have : o2 = o' := by
      rw [List.getElem?_set_self ((List.getElem?_eq_some_iff.mp hC).1)] at h2
      exact (Option.some.inj (Option.some.inj h2)).symm
    subst this
    exact h
  · rw [List.getElem?_set_ne (Ne.symm hi)] at h2
    have ne : a' ≠ a := fun q => hi (live_inj S.nd h1 h2 (q ▸ hA) hC)
    exact (S.cell i a' o2 h1 h2).go g fun x q => by rw [upd_ne ne]; exact q
theorem Sat.goNew (S : Sat K b A G C s H) {p : Addr} (hp : H p = none) : Go A C H (A ++ [p]) (C ++ [some o]) (upd H p ho) :=
  ⟨List.prefix_append _ _, by rw [mk_new S.len (S.fresh hp) hp]; exact Evl.Ex.refl _⟩
theorem Sat.cellNew (S : Sat K b A G C s H) {p : Addr} (hp : H p = none) (h : CellOk K (A ++ [p]) (C ++ [some o]) (upd H p ho) p o) : Sat K b (A ++ [p]) G (C ++ [some o]) s (upd H p ho) := by
  have g : Go A C H (A ++ [p]) (C ++ [some o]) (upd H p ho) := S.goNew hp
  have pl := S.fresh hp
  refine ⟨by simp [S.len], ?_, by rw [mk_new S.len pl hp]; exact S.ex, S.pre.trans g.pre, fun i a' o2 h1 h2 => ?_, S.slot.imp fun _ _ r => r.go g⟩
  · rw [live_new S.len, List.nodup_append]
    refine ⟨S.nd, by simp, fun x hx y hy e => ?_⟩
    have hy' : y = p := by simpa using hy
    exact pl (by rw [← hy', ← e]; exact hx)
  · by_cases hi : i < A.length
    · rw [List.getElem?_append_left hi] at h1
      rw [List.getElem?_append_left (by rw [← S.len]; exact hi)] at h2
      have c := S.cell i a' o2 h1 h2
      refine c.go g fun x q => ?_
      have ne : a' ≠ p := fun z => pl (by rw [← z]; exact live_mem.mpr ⟨i, o2, h1, h2⟩)
      rw [upd_ne ne]
      exact q
    · have l1 := (List.getElem?_eq_some_iff.mp h1).1
      have hi' : i = A.length := by simp at l1; omega
      subst hi'
      have e1 : p = a' := by simpa using h1
      have e2 : o = o2 := by
        rw [S.len] at h2
        simpa using h2
      subst e1
      subst e2
      exact h
theorem Sat.atNew (S : Sat K b A G C s H) {p : Addr} : RepE K (A ++ [p]) (C ++ [some o]) H' (.at C.length) (.ref p) := ⟨p, by rw [← S.len]; simp, rfl⟩
theorem Sat.newTp (S : Sat K b A G C s H) {q : Addr} {l : List El} {vs : List V} (hq : H q = none) (h : All2 (RepE K A C H) l vs) : RepE K A C (upd H q (.tup vs)) (.tp l) (.ref q) :=
  ⟨q, vs, rfl, S.newAt hq, repEs_iff.mpr (repEs_go (Go.of (Evl.Ex.new hq)) h)⟩
/-- a new list, as plain data -/
theorem Sat.newL (S : Sat K b A G C s H) {q : Addr} {ds : List D} {vs : List V} (hq : H q = none) (h : All2 (RepE K A C H) (ds.map El.v) vs) : RepE K A C (upd H q (.lst vs)) (.v (.lst ds)) (.ref q) :=
  ⟨q, vs, rfl, S.newAt hq, repL_iff.mpr ((All2.map_l (f := El.v) (R := RepE K A C _).mp (repEs_go (Go.of (Evl.Ex.new hq)) h)).imp fun _ _ z => by unfold RepE at z; exact z)⟩
theorem Sat.newT (S : Sat K b A G C s H) {q : Addr} {ds : List D} {vs : List V} (hq : H q = none) (h : All2 (RepE K A C H) (ds.map El.v) vs) : RepE K A C (upd H q (.tup vs)) (.v (.tup ds)) (.ref q) :=
  ⟨q, vs, rfl, S.newAt hq, repL_iff.mpr ((All2.map_l (f := El.v) (R := RepE K A C _).mp (repEs_go (Go.of (Evl.Ex.new hq)) h)).imp fun _ _ z => by unfold RepE at z; exact z)⟩
end
end R
namespace R
open PySem L2
abbrev Takes := @L2N.Takes
abbrev Zc := @L2N.Zn

/-! ### what a piece of syntax does, as a partial function -/
structure Exn where
  cls : Str
  fs : Option (List (Str × D))
inductive Rz (α : Type) where
  | ok (a : α)
  | er (x : Exn)
abbrev Mr (α : Type) := Option (Rz α × Cs)
def Mr.bind {α β : Type} (m : Mr α) (k : α → Cs → Mr β) : Mr β := match m with
  | none => none
  | some (.er x, C) => some (.er x, C)
  | some (.ok a, C) => k a C
abbrev FE := Gs → Cs → Mr El
abbrev FT := Gs → Cs → Mr Bool
abbrev FA := Gs → Cs → Mr (List El)
inductive Fl where
  | nx | rt (r : El) | bk | ct | er (x : Exn)
abbrev FS := Gs → Cs → Option (Fl × Gs × Cs)
def XRep (K : Fg) (A : List Addr) (C : Cs) (H : Hp) (x : Exn) (c : Value) (d : Option Addr) : Prop := c = .ref (He.ga K x.cls) ∧ match x.fs with
  | none => d = none
  | some fs => ∃ a fvs, d = some a ∧ fz A C H a = some (.xd fvs) ∧ RepF K (fz A C H) fs fvs
theorem XRep.go {K : Fg} {A A' : List Addr} {C C' : Cs} {H H' : Hp} {x : Exn} {c : Value} {d : Option Addr} (g : Go A C H A' C' H') (h : XRep K A C H x c d) : XRep K A' C' H' x c d := by
  obtain ⟨h1, h2⟩ := h
  refine ⟨h1, ?_⟩
  revert h2
  cases x.fs with
  | none => exact id
  | some fs => exact fun ⟨a, fvs, e, h3, h4⟩ => ⟨a, fvs, e, g.ex _ _ h3, RepF.mono g.ex h4⟩
/-- what is wanted of an outcome -/
structure Po (K : Fg) (b : Bs) (G : Gs) (s : St) (W : WX) {α β : Type} (R : List Addr → Cs → Hp → α → β → Prop) (k : β → Hp → Prop) (o : Rz α × Cs) : Prop where
  ok : ∀ r C', o = (.ok r, C') → ∀ v A' H', Sat K b A' G C' s H' → R A' C' H' r v → k v H'
  er : ∀ x C', o = (.er x, C') → ∀ c d A' H', Sat K b A' G C' s H' → XRep K A' C' H' x c d → W c d s H'
def Im {α β : Type} (X : Cx) (R : List Addr → Cs → Hp → α → β → Prop) (w : St → Hp → (β → Hp → Prop) → Prop) (f : Gs → Cs → Mr α) : Prop :=
  ∀ (b : Bs) (A : List Addr) (G : Gs) (C : Cs) (s : St) (H : Hp) (W : WX), Sat X.K b A G C s H → Takes X W → ∀ o, f G C = some o → ∀ k, Po X.K b G s W R k o → w s H k
abbrev ImE (X : Cx) (e : Expr) (f : FE) : Prop := Im X (RepE X.K) (wE X e) f
abbrev ImT (X : Cx) (e : Expr) (f : FT) : Prop := Im X (fun _ _ _ r v => v = r) (wT X e) f
abbrev ImW (X : Cx) (e : Expr) (f : FT) : Prop := Im X (fun _ _ _ r v => v = r) (wW X e) f
abbrev ImTs (X : Cx) (es : List Expr) (f : FT) : Prop := Im X (fun _ _ _ r v => v = r) (wTs X es) f
abbrev ImA (X : Cx) (es : List Expr) (f : FA) : Prop := Im X (fun A C H => All2 (RepE X.K A C H)) (wA X es) f
abbrev ImO (X : Cx) (o : Option Expr) (f : Gs → Cs → Mr (Option Int)) : Prop := Im X (fun _ _ _ r v => v = r) (wO X o) f
theorem bind_inv {α β : Type} {m : Mr α} {k : α → Cs → Mr β} {o : Rz β × Cs} (h : m.bind k = some o) : (∃ x C1, m = some (.er x, C1) ∧ o = (.er x, C1)) ∨ ∃ r C1, m = some (.ok r, C1) ∧ k r C1 = some o := by
  cases m with
  | none => cases h
  | some p =>
    obtain ⟨r, C1⟩ := p
    cases r with
    | er x => exact .inl ⟨x, C1, rfl, (Option.some.inj h).symm⟩
    | ok r => exact .inr ⟨r, C1, rfl, h⟩
section
variable {α β γ δ : Type} {X : Cx} {R : List Addr → Cs → Hp → α → β → Prop} {w : St → Hp → (β → Hp → Prop) → Prop} {f : Gs → Cs → Mr α} {b : Bs} {A : List Addr} {G : Gs} {C C1 : Cs} {s : St} {H : Hp} {W : WX}
theorem Im.ok (h : Im X R w f) (S : Sat X.K b A G C s H) (tk : Takes X W) {r : α} (hf : f G C = some (.ok r, C1)) {k : β → Hp → Prop}
    (q : ∀ v A1 H1, Sat X.K b A1 G C1 s H1 → Go A C H A1 C1 H1 → R A1 C1 H1 r v → k v H1) : w s H k :=
  h (Bs.now A C H) A G C s H W S.now tk _ hf _ ⟨fun r' C' e v A' H' T hr => by cases e; exact q v A' H' (S.back T) T.go hr, fun x C' e => by cases e⟩
theorem Im.er (h : Im X R w f) (S : Sat X.K b A G C s H) (tk : Takes X W) {x : Exn} (hf : f G C = some (.er x, C1)) {R' : List Addr → Cs → Hp → γ → δ → Prop} {k' : δ → Hp → Prop} (q : Po X.K b G s W R' k' (.er x, C1)) (k : β → Hp → Prop) : w s H k :=
  h b A G C s H W S tk _ hf _ ⟨(fun r' C' e => by cases e), (fun x' C' e => by cases e; exact q.er x C1 rfl)⟩
end
/-- a step that surely is taken -/
theorem Im.pure {α β : Type} {X : Cx} {R : List Addr → Cs → Hp → α → β → Prop} {w : St → Hp → (β → Hp → Prop) → Prop} {f : Gs → Cs → Mr α}
    (h : ∀ (b : Bs) (A : List Addr) (G : Gs) (C : Cs) (s : St) (H : Hp), Sat X.K b A G C s H → ∀ o, f G C = some o → ∃ r C', o = (.ok r, C') ∧ ∀ k, (∀ v A' H', Sat X.K b A' G C' s H' → R A' C' H' r v → k v H') → w s H k) : Im X R w f := fun b A G C s H W S tk o ho k q => by
  obtain ⟨r, C', e, h2⟩ := h b A G C s H S o ho
  exact h2 k (q.ok r C' e)

/-! ### names, constants -/
section
variable {X : Cx} {a b c e : Expr} {p p2 : Pos}
def eVar (i : Nat) : FE := fun G C => match G[i]? with
  | some (some r) => some (.ok r, C)
  | _ => none
def eC (d : D) : FE := fun _ C => some (.ok (.v d), C)
theorem im_var (i : Nat) {w : Str} (hN : X.N[i]? = some w) (hv : Vis X.env.scope w) (hd : (w == ("__debug__" : Str)) = false := by decide) (hcd : (w == ("__classdict__" : Str)) = false := by decide) : ImE X (.Name w p) (eVar i) :=
  Im.pure fun b A G C s H S o h => by
    unfold eVar at h
    cases hg : G[i]? with
    | none => rw [hg] at h; cases h
    | some x =>
      cases x with
      | none => rw [hg] at h; cases h
      | some r =>
        rw [hg] at h
        cases h
        refine ⟨r, C, rfl, fun k q => ⟨_, pe_var hN hv hd hcd, ?_⟩⟩
        obtain ⟨v, h1, h2⟩ := S.get hg
        exact ⟨v, h1, q v A H S h2⟩
theorem im_c {d : D} {t : V} (hp : PE X e (tC t)) (hr : ∀ M, Rep X.K M d t) : ImE X e (eC d) := Im.pure fun b A G C s H S o h => by
  cases h
  exact ⟨_, _, rfl, fun k q => ⟨_, hp, q _ A H S (hr _)⟩⟩
theorem im_int {i : Int} {j} : ImE X (.Constant (.int i) j p) (eC (.int i)) := im_c pe_int fun _ => rfl
theorem im_bl {w : Bool} {j} : ImE X (.Constant (.bool w) j p) (eC (.bl w)) := im_c pe_bl fun _ => rfl
theorem im_non {j} : ImE X (.Constant .none j p) (eC .non) := im_c pe_non fun _ => rfl
theorem im_str {w : Str} {j} : ImE X (.Constant (.str w) j p) (eC (.str w)) := im_c pe_str fun _ => rfl
theorem im_gI {w : Str} {i : Int} (hg : Gl X w) (hm : ∃ t, X.mg w = some (.int i t)) (hd : (w == ("__debug__" : Str)) = false := by decide) : ImE X (.Name w p) (eC (.int i)) := by
  obtain ⟨t, hm⟩ := hm
  exact im_c (t := .int i) (pe_glob hg hm ⟨t, rfl⟩ hd) fun _ => rfl
theorem im_gS {w z : Str} (hg : Gl X w) (hm : ∃ t, X.mg w = some (.str z t)) (hd : (w == ("__debug__" : Str)) = false := by decide) : ImE X (.Name w p) (eC (.str z)) := by
  obtain ⟨t, hm⟩ := hm
  exact im_c (t := .str z) (pe_glob hg hm ⟨t, rfl⟩ hd) fun _ => rfl
theorem im_cls {w : Str} (hg : Gl X w) (hm : X.mg w = some (.ref (He.ga X.K w))) (hd : (w == ("__debug__" : Str)) = false := by decide) : ImE X (.Name w p) (eC (.cls w)) := im_c (t := .ref (He.ga X.K w)) (pe_glob hg hm rfl hd) fun _ => rfl
theorem im_ty {x : Str} {T : String} (hg : Gl X x) (hm : X.mg x = none) (hv : bootBuiltins x = some (.type T)) (hn : x ≠ "__name__" := by decide) (hd : (x == ("__debug__" : Str)) = false := by decide) : ImE X (.Name x p) (eC (.ty T)) :=
  im_c (t := .ty T) (pe_bltn (v := .ty T) hg hm hv rfl hn hd) fun _ => rfl

/-! ### two operands -/
abbrev O2 := El → El → Cs → Option (El × Cs)
abbrev B2 := El → El → Cs → Option Bool
def OkOp (X : Cx) (sem : Value → Value → Sem Value) (f : O2) : Prop := ∀ x y C r C', f x y C = some (r, C') → ∃ R, OpR X sem R ∧ ∀ (b : Bs) (A : List Addr) (G : Gs) (s : St) (H : Hp) (vx vy : V), Sat X.K b A G C s H → RepE X.K A C H x vx → RepE X.K A C H y vy →
  ∀ k : VK, (∀ v A' H', Sat X.K b A' G C' s H' → RepE X.K A' C' H' r v → k v H') → R vx vy H k
def OkCmp (X : Cx) (op : CmpOp) (f : B2) : Prop := ∀ x y C c, f x y C = some c → ∃ R, OpR X (compareOp op) R ∧ ∀ (b : Bs) (A : List Addr) (G : Gs) (s : St) (H : Hp) (vx vy : V), Sat X.K b A G C s H → RepE X.K A C H x vx → RepE X.K A C H y vy →
  ∀ k : VK, (∀ H', Ex H H' → k (.bl c) H') → R vx vy H k
theorem opR_false {sem : Value → Value → Sem Value} : OpR X sem (fun _ _ _ _ => False) := fun _ _ _ _ _ _ _ _ _ _ _ _ h => False.elim h
def eBin (o : O2) (fa fb : FE) : FE := fun G C => (fa G C).bind fun x C => (fb G C).bind fun y C => (o x y C).map fun r => (.ok r.1, r.2)
theorem im_bin {op : Operator} {f : O2} {fa fb : FE} (ha : ImE X a fa) (hb : ImE X b fb) (ho : OkOp X (binaryOp op) f) : ImE X (.BinOp a op b p) (eBin f fa fb) := fun bb A G C s H W S tk o h k q => by
  rcases bind_inv h with ⟨x, C1, h1, rfl⟩ | ⟨x, C1, h1, h⟩
  · exact ⟨_, pe_op opR_false wE_ok wE_ok, ha.er S tk h1 q _⟩
  rcases bind_inv h with ⟨y, C2, h2, rfl⟩ | ⟨y, C2, h2, h⟩
  · exact ⟨_, pe_op opR_false wE_ok wE_ok, ha.ok S tk h1 fun vx A1 H1 S1 g1 rx => hb.er S1 tk h2 q _⟩
  cases h3 : f x y C2 with
  | none => rw [h3] at h; cases h
  | some o3 =>
    obtain ⟨r, C'⟩ := o3
    rw [h3] at h
    cases h
    obtain ⟨R, hR, hq⟩ := ho x y C2 r C' h3
    exact ⟨_, pe_op hR wE_ok wE_ok, ha.ok S tk h1 fun vx A1 H1 S1 g1 rx => hb.ok S1 tk h2 fun vy A2 H2 S2 g2 ry => hq bb A2 G s H2 vx vy S2 (rx.go g2) ry k fun v A' H' S' r' => q.ok _ _ rfl v A' H' S' r'⟩
def eCmp (o : B2) (fa fb : FE) : FT := fun G C => (fa G C).bind fun x C => (fb G C).bind fun y C => (o x y C).map fun c => (.ok c, C)
theorem cmp_core {op : CmpOp} {f : B2} {fa fb : FE} (ha : ImE X a fa) (hb : ImE X b fb) (ho : OkCmp X op f) {bb : Bs} {A : List Addr} {G : Gs} {C : Cs} {s : St} {H : Hp} {W : WX} (S : Sat X.K bb A G C s H) (tk : Takes X W) {o : Rz Bool × Cs} (h : eCmp f fa fb G C = some o) :
    ∃ R, OpR X (compareOp op) R ∧ ∀ (k : VK), Po X.K bb G s W (fun _ _ _ r v => v = .bl r) k o → wE X a s H fun x H1 => wE X b s H1 fun y H2 => R x y H2 k := by
  rcases bind_inv h with ⟨x, C1, h1, rfl⟩ | ⟨x, C1, h1, h⟩
  · exact ⟨_, opR_false, fun k q => ha.er S tk h1 q _⟩
  rcases bind_inv h with ⟨y, C2, h2, rfl⟩ | ⟨y, C2, h2, h⟩
  · exact ⟨_, opR_false, fun k q => ha.ok S tk h1 fun vx A1 H1 S1 g1 rx => hb.er S1 tk h2 q _⟩
  cases h3 : f x y C2 with
  | none => rw [h3] at h; cases h
  | some c =>
    rw [h3] at h
    cases h
    obtain ⟨R, hR, hq⟩ := ho x y C2 c h3
    exact ⟨_, hR, fun k q => ha.ok S tk h1 fun vx A1 H1 S1 g1 rx => hb.ok S1 tk h2 fun vy A2 H2 S2 g2 ry => hq bb A2 G s H2 vx vy S2 (rx.go g2) ry k fun H' e => q.ok _ _ rfl _ A2 H' (S2.ext e) rfl⟩
/-- a test's answer as a value -/
def eB (f : FT) : FE := fun G C => (f G C).bind fun c C => some (.ok (.v (.bl c)), C)
theorem eB_inv {f : FT} {G : Gs} {C : Cs} {o : Rz El × Cs} (h : eB f G C = some o) : ∃ o', f G C = some o' ∧ ((∃ x C1, o' = (.er x, C1) ∧ o = (.er x, C1)) ∨ ∃ c C1, o' = (.ok c, C1) ∧ o = (.ok (.v (.bl c)), C1)) := by
  rcases bind_inv h with ⟨x, C1, h1, rfl⟩ | ⟨c, C1, h1, h⟩
  · exact ⟨_, h1, .inl ⟨x, C1, rfl, rfl⟩⟩
  · cases h
    exact ⟨_, h1, .inr ⟨c, C1, rfl, rfl⟩⟩
theorem im_cmp {op : CmpOp} {f : B2} {fa fb : FE} (ha : ImE X a fa) (hb : ImE X b fb) (ho : OkCmp X op f) (hm : behindInMarks op b = false := by first | exact nomark _ | rfl) : ImE X (.Compare a [op] [b] p) (eB (eCmp f fa fb)) := fun bb A G C s H W S tk o h k q => by
  obtain ⟨o', h', hh⟩ := eB_inv h
  obtain ⟨R, hR, hq⟩ := cmp_core ha hb ho S tk h'
  refine ⟨_, pe_cmpR hR wE_ok wE_ok hm, hq k ?_⟩
  rcases hh with ⟨x, C1, rfl, rfl⟩ | ⟨c, C1, rfl, rfl⟩
  · exact ⟨(fun _ _ e => by cases e), (fun x' C' e => by cases e; exact q.er x C1 rfl)⟩
  · exact ⟨(fun r C' e v A' H' S' hr => by cases e; subst hr; exact q.ok _ _ rfl _ A' H' S' rfl), (fun _ _ e => by cases e)⟩
theorem it_cmp {op : CmpOp} {f : B2} {fa fb : FE} (ha : ImE X a fa) (hb : ImE X b fb) (ho : OkCmp X op f) (hm : behindInMarks op b = false := by first | exact nomark _ | rfl) : ImT X (.Compare a [op] [b] p) (eCmp f fa fb) := fun bb A G C s H W S tk o h k q => by
  obtain ⟨R, hR, hq⟩ := cmp_core ha hb ho S tk h
  refine ⟨_, pt_cmpR hR wE_ok wE_ok hm, hq _ ⟨fun r C' e v A' H' S' hr => ?_, fun x C' e c d A' H' S' hx => q.er x C' e c d A' H' S' hx⟩⟩
  subst hr
  exact ⟨r, rfl, q.ok r C' e r A' H' S' rfl⟩
/-- a < b < c -/
def eCh (o o' : B2) (fa fb fc : FE) : FT := fun G C => (fa G C).bind fun x C => (fb G C).bind fun y C => match o x y C with
  | none => none
  | some false => some (.ok false, C)
  | some true => (fc G C).bind fun z C => (o' y z C).map fun c => (.ok c, C)
theorem ch_core {op op' : CmpOp} {f f' : B2} {fa fb fc : FE} (ha : ImE X a fa) (hb : ImE X b fb) (hc : ImE X c fc) (ho : OkCmp X op f) (ho' : OkCmp X op' f') {bb : Bs} {A : List Addr} {G : Gs} {C : Cs} {s : St} {H : Hp} {W : WX} (S : Sat X.K bb A G C s H) (tk : Takes X W) {o : Rz Bool × Cs} (h : eCh f f' fa fb fc G C = some o) :
    ∃ R R', OpR X (compareOp op) R ∧ OpR X (compareOp op') R' ∧ ∀ (k : VK), Po X.K bb G s W (fun _ _ _ r v => v = .bl r) k o → tChain R R' (wE X a) (wE X b) (wE X c) s H k := by
  rcases bind_inv h with ⟨x, C1, h1, rfl⟩ | ⟨x, C1, h1, h⟩
  · exact ⟨_, _, opR_false, opR_false, fun k q => ha.er S tk h1 q _⟩
  rcases bind_inv h with ⟨y, C2, h2, rfl⟩ | ⟨y, C2, h2, h⟩
  · exact ⟨_, _, opR_false, opR_false, fun k q => ha.ok S tk h1 fun vx A1 H1 S1 g1 rx => hb.er S1 tk h2 q _⟩
  cases h3 : f x y C2 with
  | none => rw [h3] at h; cases h
  | some t =>
    obtain ⟨R, hR, hq⟩ := ho x y C2 t h3
    rw [h3] at h
    cases t with
    | false =>
      cases h
      exact ⟨_, _, hR, opR_false, fun k q => ha.ok S tk h1 fun vx A1 H1 S1 g1 rx => hb.ok S1 tk h2 fun vy A2 H2 S2 g2 ry => hq bb A2 G s H2 vx vy S2 (rx.go g2) ry _ fun H' e => ⟨false, rfl, q.ok _ _ rfl _ A2 H' (S2.ext e) rfl⟩⟩
    | true =>
      rcases bind_inv h with ⟨z, C3, h4, rfl⟩ | ⟨z, C3, h4, h⟩
      · exact ⟨_, _, hR, opR_false, fun k q => ha.ok S tk h1 fun vx A1 H1 S1 g1 rx => hb.ok S1 tk h2 fun vy A2 H2 S2 g2 ry => hq bb A2 G s H2 vx vy S2 (rx.go g2) ry _ fun H' e => ⟨true, rfl, hc.er (S2.ext e) tk h4 q _⟩⟩
      cases h5 : f' y z C3 with
      | none => rw [h5] at h; cases h
      | some t' =>
        rw [h5] at h
        cases h
        obtain ⟨R', hR', hq'⟩ := ho' y z C3 t' h5
        exact ⟨_, _, hR, hR', fun k q => ha.ok S tk h1 fun vx A1 H1 S1 g1 rx => hb.ok S1 tk h2 fun vy A2 H2 S2 g2 ry => hq bb A2 G s H2 vx vy S2 (rx.go g2) ry _ fun H' e => ⟨true, rfl,
          hc.ok (S2.ext e) tk h4 fun vz A4 H4 S4 g4 rz => hq' bb A4 G s H4 vy vz S4 ((ry.go (Go.of e)).go g4) rz k fun H5 e5 => q.ok _ _ rfl _ A4 H5 (S4.ext e5) rfl⟩⟩
theorem it_ch {op op' : CmpOp} {f f' : B2} {fa fb fc : FE} (ha : ImE X a fa) (hb : ImE X b fb) (hc : ImE X c fc) (ho : OkCmp X op f) (ho' : OkCmp X op' f') (hm : lastMarks [op, op'] [b, c] = false := by rfl) : ImT X (.Compare a [op, op'] [b, c] p) (eCh f f' fa fb fc) := fun bb A G C s H W S tk o h k q => by
  obtain ⟨R, R', hR, hR', hq⟩ := ch_core ha hb hc ho ho' S tk h
  refine ⟨_, pt_chain hR hR' wE_ok wE_ok wE_ok hm, hq _ ⟨fun r C' e v A' H' S' hr => ?_, fun x C' e c d A' H' S' hx => q.er x C' e c d A' H' S' hx⟩⟩
  subst hr
  exact ⟨r, rfl, q.ok r C' e r A' H' S' rfl⟩

/-! ### and, or, not, if else -/
/-- a value that is True or False, as a test -/
def tV (f : FE) : FT := fun G C => (f G C).bind fun r C => match r with
  | .v (.bl c) => some (.ok c, C)
  | _ => none
theorem it_val {f : FE} (h : ImE X e f) (he : ∀ whole, isTrue e X.env whole = (do let v ← whole; standAt e.pos; holding [v] (truthy v)) := by intro _; rfl) : ImT X e (tV f) := fun bb A G C s H W S tk o ho k q => by
  refine ⟨_, pt_val wE_ok he, ?_⟩
  rcases bind_inv ho with ⟨x, C1, h1, rfl⟩ | ⟨r, C1, h1, h2⟩
  · exact h.er S tk h1 q _
  · cases r with
    | «at» n => cases h2
    | tp l => cases h2
    | v d =>
      cases d <;> try (cases h2)
      rename_i c
      exact h.ok S tk h1 fun v A1 H1 S1 g1 r1 => ⟨c, r1, q.ok _ _ rfl c A1 H1 S1 rfl⟩
def eNot (f : FE) : FE := fun G C => (f G C).bind fun r C => match r with
  | .v (.bl c) => some (.ok (.v (.bl !c)), C)
  | _ => none
def tNot (f : FT) : FT := fun G C => (f G C).bind fun c C => some (.ok !c, C)
theorem it_not {f : FT} (h : ImT X a f) : ImT X (.UnaryOp .Not a p) (tNot f) := fun bb A G C s H W S tk o ho k q => by
  refine ⟨_, pt_not wT_ok, ?_⟩
  rcases bind_inv ho with ⟨x, C1, h1, rfl⟩ | ⟨r, C1, h1, h2⟩
  · exact h.er S tk h1 q _
  · cases h2
    exact h.ok S tk h1 fun v A1 H1 S1 g1 r1 => by subst r1; exact q.ok _ _ rfl _ A1 H1 S1 rfl
theorem im_one {op : BoolOp} {f : FE} (h : ImE X a f) : ImE X (.BoolOp op [a] p) f := fun bb A G C s H W S tk o ho k q => ⟨_, pe_one wE_ok, h bb A G C s H W S tk o ho k q⟩
def eAnd (f g : FE) : FE := fun G C => (f G C).bind fun r C => match r with
  | .v (.bl true) => g G C
  | .v (.bl false) => some (.ok (.v (.bl false)), C)
  | _ => none
def eOr (f g : FE) : FE := fun G C => (f G C).bind fun r C => match r with
  | .v (.bl false) => g G C
  | .v (.bl true) => some (.ok (.v (.bl true)), C)
  | _ => none
theorem im_and {rest : List Expr} {f g : FE} (ha : ImE X a f) (hb : ImE X (.BoolOp .And (b :: rest) p) g) : ImE X (.BoolOp .And (a :: b :: rest) p) (eAnd f g) := fun bb A G C s H W S tk o ho k q => by
  refine ⟨_, pe_and wE_ok wE_ok, ?_⟩
  rcases bind_inv ho with ⟨x, C1, h1, rfl⟩ | ⟨r, C1, h1, h2⟩
  · exact ha.er S tk h1 q _
  · cases r with
    | «at» n => cases h2
    | tp l => cases h2
    | v d =>
      cases d <;> try (cases h2)
      rename_i c
      refine ha.ok S tk h1 fun v A1 H1 S1 g1 r1 => ⟨c, r1, ?_⟩
      cases c with
      | true => exact hb bb A1 G C1 s H1 W S1 tk o h2 k q
      | false =>
        cases h2
        exact q.ok _ _ rfl _ A1 H1 S1 rfl
def tAnd (f g : FT) : FT := fun G C => (f G C).bind fun c C => if c = true then g G C else some (.ok false, C)
def tOr (f g : FT) : FT := fun G C => (f G C).bind fun c C => if c = true then some (.ok true, C) else g G C
theorem ImW.it {f : FT} (h : ImW X e f) : ImT X e f := fun bb A G C s H W S tk o ho k q => ⟨_, PW.pt wW_ok, h bb A G C s H W S tk o ho k q⟩
theorem iw_and1 {f : FT} (h : ImT X a f) : ImW X (.BoolOp .And [a] p) f := fun bb A G C s H W S tk o ho k q => ⟨_, pw_and1 wT_ok, h bb A G C s H W S tk o ho k q⟩
theorem iw_or1 {f : FT} (h : ImT X a f) : ImW X (.BoolOp .Or [a] p) f := fun bb A G C s H W S tk o ho k q => ⟨_, pw_or1 wT_ok, h bb A G C s H W S tk o ho k q⟩
theorem iw_and {rest : List Expr} {f g : FT} (ha : ImT X a f) (hb : ImW X (.BoolOp .And (b :: rest) p) g) : ImW X (.BoolOp .And (a :: b :: rest) p) (tAnd f g) := fun bb A G C s H W S tk o ho k q => by
  refine ⟨_, pw_and wT_ok wW_ok, ?_⟩
  rcases bind_inv ho with ⟨x, C1, h1, rfl⟩ | ⟨c, C1, h1, h2⟩
  · exact ha.er S tk h1 q _
  · refine ha.ok S tk h1 fun v A1 H1 S1 g1 r1 => ?_
    subst r1
    cases v with
    | true => exact hb bb A1 G C1 s H1 W S1 tk o h2 k q
    | false =>
      cases h2
      exact q.ok _ _ rfl _ A1 H1 S1 rfl
theorem iw_or {rest : List Expr} {f g : FT} (ha : ImT X a f) (hb : ImW X (.BoolOp .Or (b :: rest) p) g) : ImW X (.BoolOp .Or (a :: b :: rest) p) (tOr f g) := fun bb A G C s H W S tk o ho k q => by
  refine ⟨_, pw_or wT_ok wW_ok, ?_⟩
  rcases bind_inv ho with ⟨x, C1, h1, rfl⟩ | ⟨c, C1, h1, h2⟩
  · exact ha.er S tk h1 q _
  · refine ha.ok S tk h1 fun v A1 H1 S1 g1 r1 => ?_
    subst r1
    cases v with
    | false => exact hb bb A1 G C1 s H1 W S1 tk o h2 k q
    | true =>
      cases h2
      exact q.ok _ _ rfl _ A1 H1 S1 rfl
def eIf (t : FT) (f g : FE) : FE := fun G C => (t G C).bind fun c C => if c = true then f G C else g G C
/-- one operand -/
def eNeg (f : FE) : FE := fun G C => (f G C).bind fun r C => match r with
  | .v (.int i) => some (.ok (.v (.int (-i))), C)
  | _ => none
/-! ### arguments, displays -/
variable {es : List Expr}
def aNil : FA := fun _ C => some (.ok [], C)
def aCons (f : FE) (g : FA) : FA := fun G C => (f G C).bind fun r C => (g G C).bind fun rs C => some (.ok (r :: rs), C)
theorem ia_nil : ImA X [] aNil := Im.pure fun b A G C s H S o h => by
  cases h
  exact ⟨_, _, rfl, fun k q => ⟨_, pa_nil, q [] A H S .nil⟩⟩
theorem ia_cons {f : FE} {g : FA} (h : ImE X e f) (ht : ImA X es g) (hs : starEach (e :: es) X.env = (false, eval e X.env) :: starEach es X.env := by rfl) : ImA X (e :: es) (aCons f g) := fun bb A G C s H W S tk o ho k q => by
  refine ⟨_, pa_cons wE_ok wA_ok hs, ?_⟩
  rcases bind_inv ho with ⟨x, C1, h1, rfl⟩ | ⟨r, C1, h1, h2⟩
  · exact h.er S tk h1 q _
  · rcases bind_inv h2 with ⟨x, C2, h3, rfl⟩ | ⟨rs, C2, h3, h4⟩
    · exact h.ok S tk h1 fun v A1 H1 S1 g1 r1 => ht.er S1 tk h3 q _
    · cases h4
      exact h.ok S tk h1 fun v A1 H1 S1 g1 r1 => ht.ok S1 tk h3 fun vs A2 H2 S2 g2 r2 => q.ok _ _ rfl _ A2 H2 S2 (.cons (r1.go g2) r2)
/-- plain data out of values -/
def unV : List El → Option (List D)
  | [] => some []
  | .v d :: l => (unV l).map (d :: ·)
  | _ :: _ => none
theorem unV_some : ∀ {l : List El} {ds : List D}, unV l = some ds → l = ds.map El.v
  | [], ds, h => by
    cases h
    rfl
  | .v d :: l, ds, h => by
    unfold unV at h
    cases e : unV l with
    | none => rw [e] at h; cases h
    | some r =>
      rw [e] at h
      cases h
      rw [unV_some e] <;> rfl
  | .at _ :: _, _, h => by cases h
  | .tp _ :: _, _, h => by cases h
theorem unV_map : ∀ {l : List D}, unV (l.map El.v) = some l
  | [] => rfl
  | d :: l => by
    show (unV (l.map El.v)).map (d :: ·) = _
    rw [unV_map] <;> rfl
/-- [..], (..): plain data -/
def eLst (g : FA) : FE := fun G C => (g G C).bind fun rs C => match unV rs with
  | some ds => if ds.length ≤ sizeLine then some (.ok (.v (.lst ds)), C) else none
  | none => none
def mkTup (rs : List El) : El := match unV rs with
  | some ds => .v (.tup ds)
  | none => .tp rs
def eTup (g : FA) : FE := fun G C => (g G C).bind fun rs C => if rs.length ≤ sizeLine then some (.ok (mkTup rs), C) else none
/-- the same as new cells -/
def eLstC (g : FA) : FE := fun G C => (g G C).bind fun rs C => if rs.length ≤ sizeLine then some (.ok (.at C.length), C ++ [some (.lst rs)]) else none
theorem im_lst {g : FA} (h : ImA X es g) : ImE X (.List es p) (eLst g) := fun bb A G C s H W S tk o ho k q => by
  refine ⟨_, pe_lst wA_ok, ?_⟩
  rcases bind_inv ho with ⟨x, C1, h1, rfl⟩ | ⟨rs, C1, h1, h2⟩
  · exact h.er S tk h1 q _
  · cases e : unV rs with
    | none => rw [e] at h2; cases h2
    | some ds =>
      rw [e] at h2
      have h3 : (if ds.length ≤ sizeLine then some (Rz.ok (.v (.lst ds)), C1) else none) = some o := h2
      split at h3
      · rename_i hl
        cases h3
        have e' := unV_some e
        subst e'
        exact h.ok S tk h1 fun vs A1 H1 S1 g1 r1 => ⟨by rw [← r1.length, List.length_map]; exact hl, fun w hw => q.ok _ _ rfl _ A1 _ (S1.ext (Evl.Ex.new hw)) (S1.newL hw r1)⟩
      · cases h3
theorem mkTup_new {K : Fg} {b : Bs} {A : List Addr} {G : Gs} {C : Cs} {s : St} {H : Hp} {q : Addr} {rs : List El} {vs : List V} (S : Sat K b A G C s H) (hq : H q = none) (h : All2 (RepE K A C H) rs vs) : RepE K A C (upd H q (.tup vs)) (mkTup rs) (.ref q) := by
  unfold mkTup
  cases e : unV rs with
  | none => exact S.newTp hq h
  | some ds =>
    rw [unV_some e] at h
    exact S.newT hq h
theorem im_tup {g : FA} {x1} (h : ImA X es g) : ImE X (.Tuple es x1 p) (eTup g) := fun bb A G C s H W S tk o ho k q => by
  refine ⟨_, pe_tup wA_ok, ?_⟩
  rcases bind_inv ho with ⟨x, C1, h1, rfl⟩ | ⟨rs, C1, h1, h2⟩
  · exact h.er S tk h1 q _
  · split at h2
    · rename_i hl
      cases h2
      exact h.ok S tk h1 fun vs A1 H1 S1 g1 r1 => ⟨by rw [← r1.length]; exact hl, fun w hw => q.ok _ _ rfl _ A1 _ (S1.ext (Evl.Ex.new hw)) (mkTup_new S1 hw r1)⟩
    · cases h2
/-- {} -/
def eDict : FE := fun _ C => some (.ok (.at C.length), C ++ [some (.dk none [])])
def eDictT : FE := fun _ C => some (.ok (.at C.length), C ++ [some (.dt none [])])
theorem im_dict : ImE X (.Dict [] [] p) eDict := Im.pure fun b A G C s H S o h => by
  cases h
  exact ⟨_, _, rfl, fun k q => ⟨_, pe_dnewK, fun w hw => q _ _ _ (S.cellNew hw ⟨[], upd_same, .nil⟩) S.atNew⟩⟩
end
end R
namespace R
open PySem L2

/-! ### what a value is, seen through the cells -/
def viewL (C : Cs) : El → Option (List El)
  | .v (.lst l) => some (l.map El.v)
  | .at n => match C[n]? with
    | some (some (.lst l)) => some l
    | _ => none
  | _ => none
/-- the script, too -/
def viewS (C : Cs) : El → Option (List El)
  | .v (.scr l) => some (l.map fun i => El.v (.int i))
  | x => viewL C x
def viewT (C : Cs) : El → Option (List El)
  | .v (.tup l) => some (l.map El.v)
  | .tp l => some l
  | _ => none
def viewK (C : Cs) : El → Option (List (Key × El))
  | .v (.dk l) => some (l.map fun p => (p.1, El.v p.2))
  | .at n => match C[n]? with
    | some (some (.dk _ l)) => some l
    | _ => none
  | _ => none
def viewTK (C : Cs) : El → Option (List (List Key × El))
  | .v (.dt l) => some (l.map fun p => (p.1, El.v p.2))
  | .at n => match C[n]? with
    | some (some (.dt _ l)) => some l
    | _ => none
  | _ => none
def viewI (C : Cs) : El → Option (Str × List (Str × El))
  | .v (.ins n fs) => some (n, fs.map fun p => (p.1, El.v p.2))
  | .at n => match C[n]? with
    | some (some (.ins m fs)) => some (m, fs)
    | _ => none
  | _ => none
section
variable {K : Fg} {b : Bs} {A : List Addr} {G : Gs} {C : Cs} {s : St} {H : Hp} {x : El} {v : V}
theorem viewL_ok {l : List El} (S : Sat K b A G C s H) (h : viewL C x = some l) (r : RepE K A C H x v) : ∃ a vs, v = .ref a ∧ H a = some (.lst vs) ∧ All2 (RepE K A C H) l vs := by
  cases x with
  | v d =>
    cases d <;> try (cases h)
    obtain ⟨a, vs, e, h1, h2⟩ := r
    exact ⟨a, vs, e, mk_of h1, All2.map_l.mpr (repL_iff.mp h2)⟩
  | tp l => cases h
  | «at» n =>
    obtain ⟨a, h1, h2⟩ := r
    unfold viewL at h
    dsimp only at h
    cases e : C[n]? with
    | none => rw [e] at h; cases h
    | some o =>
      cases o with
      | none => rw [e] at h; cases h
      | some o =>
        cases o <;> rw [e] at h <;> try (cases h)
        obtain ⟨vs, h3, h4⟩ := S.cell n a _ h1 e
        exact ⟨a, vs, h2, h3, h4⟩
theorem viewS_ok {l : List El} (S : Sat K b A G C s H) (h : viewS C x = some l) (r : RepE K A C H x v) : ∃ a vs, v = .ref a ∧ SqL K H a vs ∧ All2 (RepE K A C H) l vs := by
  have gen : ∀ (h : viewL C x = some l), ∃ a vs, v = .ref a ∧ SqL K H a vs ∧ All2 (RepE K A C H) l vs := fun h => by
    obtain ⟨a, vs, e, h1, h2⟩ := viewL_ok S h r
    exact ⟨a, vs, e, .inl (.inl h1), h2⟩
  cases x with
  | tp l => exact gen h
  | «at» n => exact gen h
  | v d =>
    cases d with
    | scr l0 =>
      cases h
      obtain ⟨a, e, h1⟩ := r
      refine ⟨a, l0.map V.int, e, ?_, ?_⟩
      · rcases h1 with (h1 | ⟨o, h1⟩) | h1
        · exact .inl (.inl (mk_of h1))
        · exact .inl (.inr ⟨o, mk_of h1⟩)
        · rcases h1 with (h1 | ⟨o, h1⟩) | h1
          · cases h1
          · cases h1
          · exact .inr h1
      · clear h1 gen
        induction l0 with
        | nil => exact .nil
        | cons i l0 ih => exact .cons rfl ih
    | _ => exact gen h
theorem viewT_ok {l : List El} (S : Sat K b A G C s H) (h : viewT C x = some l) (r : RepE K A C H x v) : ∃ a vs, v = .ref a ∧ H a = some (.tup vs) ∧ All2 (RepE K A C H) l vs := by
  cases x with
  | v d =>
    cases d <;> try (cases h)
    unfold RepE at r
    obtain ⟨a, vs, e, h1, h2⟩ := r
    exact ⟨a, vs, e, mk_of h1, All2.map_l.mpr ((repL_iff.mp h2).imp fun _ _ z => by unfold RepE; exact z)⟩
  | «at» n => cases h
  | tp l =>
    cases h
    unfold RepE at r
    obtain ⟨a, vs, e, h1, h2⟩ := r
    exact ⟨a, vs, e, mk_of h1, repEs_iff.mp h2⟩
theorem pairs_map {κ : Type} {l : List (κ × D)} {vs : List (κ × V)} (h : All2 (fun p q => p.1 = q.1 ∧ Rep K (fz A C H) p.2 q.2) l vs) : All2 (PairE K A C H) (l.map fun p => (p.1, El.v p.2)) vs :=
  All2.map_l.mpr (h.imp fun p q z => z)
theorem viewK_ok {l : List (Key × El)} (S : Sat K b A G C s H) (h : viewK C x = some l) (r : RepE K A C H x v) : ∃ a vs, v = .ref a ∧ Rd H a (.dK vs) ∧ All2 (PairE K A C H) l vs := by
  cases x with
  | v d =>
    cases d <;> try (cases h)
    obtain ⟨a, vs, e, h1, h2⟩ := r
    exact ⟨a, vs, e, rd_of h1, pairs_map (repK_iff.mp h2)⟩
  | tp l => cases h
  | «at» n =>
    obtain ⟨a, h1, h2⟩ := r
    unfold viewK at h
    dsimp only at h
    cases e : C[n]? with
    | none => rw [e] at h; cases h
    | some o =>
      cases o with
      | none => rw [e] at h; cases h
      | some o =>
        cases o <;> rw [e] at h <;> try (cases h)
        rename_i lk
        cases lk with
        | none =>
          obtain ⟨vs, h3, h4⟩ := S.cell n a _ h1 e
          exact ⟨a, vs, h2, .inl h3, h4⟩
        | some ho =>
          obtain ⟨o, vs, eh, h3, h4⟩ := S.cell n a _ h1 e
          exact ⟨a, vs, h2, .inr ⟨o, by rw [h3, eh]⟩, h4⟩
theorem viewTK_ok {l : List (List Key × El)} (S : Sat K b A G C s H) (h : viewTK C x = some l) (r : RepE K A C H x v) : ∃ a vs, v = .ref a ∧ Rd H a (.dT vs) ∧ All2 (PairE K A C H) l vs := by
  cases x with
  | v d =>
    cases d <;> try (cases h)
    obtain ⟨a, vs, e, h1, h2⟩ := r
    exact ⟨a, vs, e, rd_of h1, pairs_map (repT_iff.mp h2)⟩
  | tp l => cases h
  | «at» n =>
    obtain ⟨a, h1, h2⟩ := r
    unfold viewTK at h
    dsimp only at h
    cases e : C[n]? with
    | none => rw [e] at h; cases h
    | some o =>
      cases o with
      | none => rw [e] at h; cases h
      | some o =>
        cases o <;> rw [e] at h <;> try (cases h)
        rename_i lk
        cases lk with
        | none =>
          obtain ⟨vs, h3, h4⟩ := S.cell n a _ h1 e
          exact ⟨a, vs, h2, .inl h3, h4⟩
        | some ho =>
          obtain ⟨o, vs, eh, h3, h4⟩ := S.cell n a _ h1 e
          exact ⟨a, vs, h2, .inr ⟨o, by rw [h3, eh]⟩, h4⟩
theorem viewI_ok {m : Str} {l : List (Str × El)} (S : Sat K b A G C s H) (h : viewI C x = some (m, l)) (r : RepE K A C H x v) : ∃ a dx vs, v = .ref a ∧ H a = some (.ins (He.ga K m) dx vs) ∧ All2 (PairE K A C H) l vs := by
  cases x with
  | v d =>
    cases d <;> try (cases h)
    obtain ⟨a, dx, vs, e, h1, h2⟩ := r
    exact ⟨a, dx, vs, e, mk_of h1, pairs_map (repF_iff.mp h2)⟩
  | tp l => cases h
  | «at» n =>
    obtain ⟨a, h1, h2⟩ := r
    unfold viewI at h
    dsimp only at h
    cases e : C[n]? with
    | none => rw [e] at h; cases h
    | some o =>
      cases o with
      | none => rw [e] at h; cases h
      | some o =>
        cases o <;> rw [e] at h <;> try (cases h)
        obtain ⟨dx, vs, h3, h4⟩ := S.cell n a _ h1 e
        exact ⟨a, dx, vs, h2, h3, h4⟩
end
def flat : D → Option V
  | .non => some .non
  | .bl b => some (.bl b)
  | .int i => some (.int i)
  | .str s => some (.str s)
  | .ty n => some (.ty n)
  | _ => none
theorem flat_rep {K : Fg} {d : D} {x : V} (h : flat d = some x) {M : Hp} {v : V} : Rep K M d v ↔ v = x := by
  cases d <;> simp [flat] at h <;> subst h <;> simp [Rep]

/-! ### arithmetic -/
instance {i j : Int} : Decidable (CMul i j) := by unfold CMul; infer_instance
instance {i j : Int} : Decidable (CPow i j) := by unfold CPow; infer_instance
instance {i j : Int} : Decidable (CDiv i j) := by unfold CDiv; infer_instance
def oAdd : O2 := fun x y C => match x, y with
  | .v (.int i), .v (.int j) => some (.v (.int (i + j)), C)
  | .v (.str a), .v (.str b) => if a.length + b.length ≤ sizeLine then some (.v (.str (a ++ b)), C) else none
  | x, y => match viewL C x, viewL C y with
    | some l, some m => match unV (l ++ m) with
      | some ds => if ds.length ≤ sizeLine then some (.v (.lst ds), C) else none
      | none => none
    | _, _ => none
def oI (g : Int → Int → Int) (p : Int → Int → Bool) : O2 := fun x y C => match x, y with
  | .v (.int i), .v (.int j) => if p i j = true then some (.v (.int (g i j)), C) else none
  | _, _ => none
def oSub : O2 := oI (fun i j => i - j) fun _ _ => true
def oMul : O2 := oI (fun i j => i * j) fun i j => decide (CMul i j)
def oDiv : O2 := oI (fun i j => i / j) fun i j => decide (CDiv i j)
def oMod : O2 := oI (fun i j => i % j) fun i j => decide (0 < j)
def oPow : O2 := oI (fun i j => i ^ j.toNat) fun i j => decide (CPow i j)
section
variable {X : Cx}
theorem okI {op : Value → Value → Sem Value} {P : Int → Int → Prop} {g : Int → Int → Int} {p : Int → Int → Bool} (ho : OpR X op (rI P fun i j => .int (g i j))) (hp : ∀ i j, p i j = true → P i j) : OkOp X op (oI g p) := fun x y C r C' h => by
  unfold oI at h
  split at h
  · rename_i i j
    split at h
    · rename_i hh
      cases h
      exact ⟨_, ho, fun b A G s H vx vy S rx ry k q => ⟨i, j, rx, ry, hp i j hh, q _ A H S rfl⟩⟩
    · cases h
  · cases h
theorem ok_mul : OkOp X (binaryOp .Mult) oMul := okI op_mul fun _ _ => of_decide_eq_true
theorem ok_div : OkOp X (binaryOp .FloorDiv) oDiv := okI op_fdiv fun _ _ => of_decide_eq_true
theorem ok_mod : OkOp X (binaryOp .Mod) oMod := okI op_mod fun _ _ => of_decide_eq_true
theorem ok_add : OkOp X (binaryOp .Add) oAdd := fun x y C r C' h => by
  have lists : (match viewL C x, viewL C y with
    | some l, some m => match unV (l ++ m) with
      | some ds => if ds.length ≤ sizeLine then some (.v (.lst ds), C) else none
      | none => none
    | _, _ => none) = some (r, C') → ∃ R, OpR X (binaryOp .Add) R ∧ ∀ (b : Bs) (A : List Addr) (G : Gs) (s : St) (H : Hp) (vx vy : V), Sat X.K b A G C s H → RepE X.K A C H x vx → RepE X.K A C H y vy →
      ∀ k : VK, (∀ v A' H', Sat X.K b A' G C' s H' → RepE X.K A' C' H' r v → k v H') → R vx vy H k := fun h => by
    cases e1 : viewL C x with
    | none => rw [e1] at h; cases h
    | some l =>
      cases e2 : viewL C y with
      | none => rw [e1, e2] at h; cases h
      | some m =>
        rw [e1, e2] at h
        dsimp only at h
        cases e3 : unV (l ++ m) with
        | none => rw [e3] at h; cases h
        | some ds =>
          rw [e3] at h
          dsimp only at h
          split at h
          · rename_i hl
            cases h
            refine ⟨_, op_cat, fun b A G s H vx vy S rx ry k q => ?_⟩
            obtain ⟨a, vs, ea, h1, h2⟩ := viewL_ok S e1 rx
            obtain ⟨a', ws, eb, h3, h4⟩ := viewL_ok S e2 ry
            have r2 := h2.append h4
            rw [unV_some e3] at r2
            refine ⟨a, a', vs, ws, ea, eb, h1, h3, ?_, fun p hp => q _ A _ (S.ext (Evl.Ex.new hp)) (S.newL hp r2)⟩
            have := r2.length
            rw [List.length_map, List.length_append] at this
            omega
          · cases h
  unfold oAdd at h
  split at h
  · rename_i i j
    cases h
    exact ⟨_, op_add, fun b A G s H vx vy S rx ry k q => ⟨i, j, rx, ry, q _ A H S rfl⟩⟩
  · rename_i i j
    split at h
    · rename_i hl
      cases h
      exact ⟨_, op_add_str, fun b A G s H vx vy S rx ry k q => ⟨i, j, rx, ry, hl, q _ A H S rfl⟩⟩
    · cases h
  · exact lists h

/-! ### comparisons -/
def bI (g : Int → Int → Bool) : B2 := fun x y _ => match x, y with
  | .v (.int i), .v (.int j) => some (g i j)
  | _, _ => none
def bLt : B2 := bI fun i j => decide (i < j)
def bLe : B2 := bI fun i j => decide (i ≤ j)
def bGt : B2 := bI fun i j => decide (j < i)
def bGe : B2 := bI fun i j => decide (j ≤ i)
theorem okB {op : CmpOp} {g : Int → Int → Bool} (ho : OpR X (compareOp op) (rI0 fun i j => .bl (g i j))) : OkCmp X op (bI g) := fun x y C c h => by
  unfold bI at h
  split at h
  · rename_i i j
    cases h
    exact ⟨_, ho, fun b A G s H vx vy S rx ry k q => ⟨i, j, rx, ry, q H (Evl.Ex.refl H)⟩⟩
  · cases h
theorem ok_lt : OkCmp X .Lt bLt := okB op_lt
theorem ok_le : OkCmp X .LtE bLe := okB op_le
theorem ok_gt : OkCmp X .Gt bGt := okB op_gt
theorem ok_ge : OkCmp X .GtE bGe := okB op_ge
def isNon : El → Bool
  | .v .non => true
  | _ => false
theorem rep_non {K : Fg} {A : List Addr} {C : Cs} {H : Hp} {d : El} {v : V} (h : RepE K A C H d v) : decide (v = .non) = isNon d := by
  cases d with
  | «at» n => obtain ⟨a, _, rfl⟩ := h; rfl
  | tp l => obtain ⟨a, _, rfl, _⟩ := h; rfl
  | v d =>
    cases d with
    | non => rw [show v = .non from h] <;> rfl
    | bl b => rw [show v = .bl b from h] <;> rfl
    | int b => rw [show v = .int b from h] <;> rfl
    | str b => rw [show v = .str b from h] <;> rfl
    | lst l => obtain ⟨a, _, rfl, _⟩ := h; rfl
    | tup l => obtain ⟨a, _, rfl, _⟩ := h; rfl
    | dk l => obtain ⟨a, _, rfl, _⟩ := h; rfl
    | dt l => obtain ⟨a, _, rfl, _⟩ := h; rfl
    | ins K l => obtain ⟨a, _, _, rfl, _⟩ := h; rfl
    | cls a => rw [show v = .ref _ from h] <;> rfl
    | ty n => rw [show v = .ty n from h] <;> rfl
    | adr n => rw [show v = .ref n from h] <;> rfl
    | exf a d fs => obtain ⟨rfl, _⟩ := h; rfl
    | exo n k fs => obtain ⟨a, _, rfl, _⟩ := h; rfl
    | scr l => obtain ⟨a, rfl, _⟩ := h; rfl
def bIs : B2 := fun x y _ => match y with
  | .v .non => some (isNon x)
  | _ => none
def bIsNot : B2 := fun x y _ => match y with
  | .v .non => some (!isNon x)
  | _ => none
theorem ok_is : OkCmp X .Is bIs := fun x y C c h => by
  unfold bIs at h
  split at h
  · cases h
    exact ⟨_, op_isN, fun b A G s H vx vy S rx ry k q => ⟨ry, by rw [rep_non rx]; exact q H (Evl.Ex.refl H)⟩⟩
  · cases h
theorem ok_isNot : OkCmp X .IsNot bIsNot := fun x y C c h => by
  unfold bIsNot at h
  split at h
  · cases h
    exact ⟨_, op_notN, fun b A G s H vx vy S rx ry k q => ⟨ry, by rw [rep_non rx]; exact q H (Evl.Ex.refl H)⟩⟩
  · cases h

/-! ### == of data -/
mutual
def pdD : D → Option PyData
  | .non => some .none
  | .bl b => some (.bool b)
  | .int i => some (.int i)
  | .str s => some (.str s)
  | .lst l => (pdL l).map .list
  | .tup l => (pdL l).map .tuple
  | _ => none
def pdL : List D → Option (List PyData)
  | [] => some []
  | d :: l => match pdD d, pdL l with
    | some x, some r => some (x :: r)
    | _, _ => none
end
def pdE (C : Cs) : Nat → El → Option PyData
  | _, .v d => pdD d
  | 0, .at _ => none
  | k + 1, .at n => match C[n]? with
    | some (some (.lst l)) => (l.mapM (pdE C k)).map .list
    | _ => none
  | 0, .tp _ => none
  | k + 1, .tp l => (l.mapM (pdE C k)).map .tuple
mutual
theorem pdD_ok {K : Fg} {A : List Addr} {C : Cs} {H : Hp} : ∀ {d : D} {p : PyData} {v : V}, pdD d = some p → Rep K (fz A C H) d v → Dp K H v p
  | .non, _, v, h, r => by cases h; rw [show v = .non from r]; exact .non
  | .bl b, _, v, h, r => by cases h; rw [show v = .bl b from r]; exact .bl b
  | .int b, _, v, h, r => by cases h; rw [show v = .int b from r]; exact .int b
  | .str b, _, v, h, r => by cases h; rw [show v = .str b from r]; exact .str b
  | .lst l, p, v, h, r => by
    unfold pdD at h
    cases e : pdL l with
    | none => rw [e] at h; cases h
    | some ps =>
      rw [e] at h
      cases h
      obtain ⟨a, vs, ev, h1, h2⟩ := r
      rw [ev]
      exact .lst (.inl (.inl (mk_of h1))) (pdL_ok e h2)
  | .tup l, p, v, h, r => by
    unfold pdD at h
    cases e : pdL l with
    | none => rw [e] at h; cases h
    | some ps =>
      rw [e] at h
      cases h
      obtain ⟨a, vs, ev, h1, h2⟩ := r
      rw [ev]
      exact .tup (.inl (.inl (mk_of h1))) (pdL_ok e h2)
  | .dk _, _, _, h, _ => by cases h
  | .dt _, _, _, h, _ => by cases h
  | .ins _ _, _, _, h, _ => by cases h
  | .cls _, _, _, h, _ => by cases h
  | .ty _, _, _, h, _ => by cases h
  | .adr _, _, _, h, _ => by cases h
  | .exf _ _ _, _, _, h, _ => by cases h
  | .exo _ _ _, _, _, h, _ => by cases h
  | .scr _, _, _, h, _ => by cases h
theorem pdL_ok {K : Fg} {A : List Addr} {C : Cs} {H : Hp} : ∀ {l : List D} {ps : List PyData} {vs : List V}, pdL l = some ps → RepL K (fz A C H) l vs → DpAll K H vs ps
  | [], _, vs, h, r => by cases h; rw [show vs = [] from r]; exact .nil
  | d :: l, ps, vs, h, r => by
    obtain ⟨v, w, e, h1, h2⟩ := r
    subst e
    unfold pdL at h
    cases e1 : pdD d with
    | none => rw [e1] at h; cases h
    | some x =>
      cases e2 : pdL l with
      | none => rw [e1, e2] at h; cases h
      | some y =>
        rw [e1, e2] at h
        cases h
        exact .cons (pdD_ok e1 h1) (pdL_ok e2 h2)
end
theorem mapM_some {α β : Type} {f : α → Option β} : ∀ {l : List α} {r : List β}, l.mapM f = some r → All2 (fun a b => f a = some b) l r
  | [], r, h => by
    have e : r = [] := by simpa using h.symm
    subst e
    exact .nil
  | a :: l, r, h => by
    rw [List.mapM_cons] at h
    cases e : f a with
    | none => rw [e] at h; cases h
    | some b =>
      rw [e] at h
      cases e2 : l.mapM f with
      | none =>
        rw [e2] at h
        cases h
      | some r' =>
        rw [e2] at h
        have e3 : b :: r' = r := by simpa using h
        subst e3
        exact .cons e (mapM_some e2)
theorem pdE_ok {K : Fg} {b : Bs} {A : List Addr} {G : Gs} {C : Cs} {s : St} {H : Hp} (S : Sat K b A G C s H) : ∀ {k : Nat} {x : El} {p : PyData} {v : V}, pdE C k x = some p → RepE K A C H x v → Dp K H v p
  | k, .v d, p, v, h, r => by
    have h' : pdD d = some p := by cases k <;> exact h
    exact pdD_ok h' r
  | 0, .at _, _, _, h, _ => by cases h
  | 0, .tp _, _, _, h, _ => by cases h
  | k + 1, .tp l, p, v, h, ⟨a, vs, h1, h2, h3⟩ => by
    subst h1
    have go : ∀ {l : List El} {ds : List PyData} {vs : List V}, All2 (fun x d => pdE C k x = some d) l ds → All2 (RepE K A C H) l vs → DpAll K H vs ds := by
      intro l ds vs q1
      induction q1 generalizing vs with
      | nil => intro q2; cases q2; exact .nil
      | cons q _ ih => intro q2; cases q2 with | cons r1 r2 => exact .cons (pdE_ok S q r1) (ih r2)
    unfold pdE at h
    cases e2 : l.mapM (pdE C k) with
    | none => rw [e2] at h; cases h
    | some ds =>
      rw [e2] at h
      cases h
      exact .tup (.inl (.inl (mk_of h2))) (go (mapM_some e2) (repEs_iff.mp h3))
  | k + 1, .at n, p, v, h, ⟨a, h1, h2⟩ => by
    subst h2
    have go : ∀ {l : List El} {ds : List PyData} {vs : List V}, All2 (fun x d => pdE C k x = some d) l ds → All2 (RepE K A C H) l vs → DpAll K H vs ds := by
      intro l ds vs q1
      induction q1 generalizing vs with
      | nil => intro q2; cases q2; exact .nil
      | cons q _ ih => intro q2; cases q2 with | cons r1 r2 => exact .cons (pdE_ok S q r1) (ih r2)
    unfold pdE at h
    cases e : C[n]? with
    | none => rw [e] at h; cases h
    | some o =>
      cases o with
      | none => rw [e] at h; cases h
      | some o =>
        rw [e] at h
        have c := S.cell n a o h1 e
        cases o with
        | lst l =>
          obtain ⟨vs, h3, h4⟩ := c
          dsimp only at h
          cases e2 : l.mapM (pdE C k) with
          | none => rw [e2] at h; cases h
          | some ds =>
            rw [e2] at h
            cases h
            exact .lst (.inl (.inl h3)) (go (mapM_some e2) h4)
        | dk _ _ => cases h
        | dt _ _ => cases h
        | ins _ _ => cases h
        | tab _ _ => cases h
def flE : El → Option V
  | .v d => flat d
  | _ => none
/-- x == y -/
def eqE (C : Cs) (x y : El) : Option Bool := match flE x, flE y with
  | some v, some w => if scal v w = true then some (decide (v = w)) else none
  | _, _ => match pdE C 3 x, pdE C 3 y with
    | some d, some e => if SeqAt.shaped d = true ∧ SeqAt.shaped e = true then some (PyData.eqv d e) else none
    | _, _ => none
def bEq : B2 := fun x y C => eqE C x y
def bNe : B2 := fun x y C => (eqE C x y).map (!·)
theorem flE_rep {K : Fg} {A : List Addr} {C : Cs} {H : Hp} {x : El} {w v : V} (h : flE x = some w) (r : RepE K A C H x v) : v = w := by
  cases x with
  | «at» n => cases h
  | tp l => cases h
  | v d => exact (flat_rep h).mp r
theorem ok_eq (hu : X.A.units + 64 < cLine) : OkCmp X .Eq bEq := fun x y C c h => by
  unfold bEq eqE at h
  split at h
  · rename_i v w e1 e2
    split at h
    · rename_i hs
      cases h
      exact ⟨_, op_eq, fun b A G s H vx vy S rx ry k q => by
        rw [flE_rep e1 rx, flE_rep e2 ry]
        exact ⟨hs, q H (Evl.Ex.refl H)⟩⟩
    · cases h
  · split at h
    · rename_i d e e1 e2
      split at h
      · rename_i hs
        cases h
        exact ⟨_, op_eqD hu, fun b A G s H vx vy S rx ry k q => ⟨d, e, pdE_ok S e1 rx, pdE_ok S e2 ry, hs.1, hs.2, q H (Evl.Ex.refl H)⟩⟩
      · cases h
    · cases h
theorem ok_ne (hu : X.A.units + 64 < cLine) : OkCmp X .NotEq bNe := fun x y C c h => by
  unfold bNe eqE at h
  split at h
  · rename_i v w e1 e2
    split at h
    · rename_i hs
      cases h
      exact ⟨_, op_ne, fun b A G s H vx vy S rx ry k q => by
        rw [flE_rep e1 rx, flE_rep e2 ry]
        exact ⟨hs, q H (Evl.Ex.refl H)⟩⟩
    · cases h
  · split at h
    · rename_i d e e1 e2
      split at h
      · rename_i hs
        cases h
        exact ⟨_, op_neD hu, fun b A G s H vx vy S rx ry k q => ⟨d, e, pdE_ok S e1 rx, pdE_ok S e2 ry, hs.1, hs.2, q H (Evl.Ex.refl H)⟩⟩
      · cases h
    · cases h

/-! ### keys, in -/
def keyE : El → Option Key
  | .v (.int i) => some (.inl i)
  | .v (.str s) => some (.inr s)
  | _ => none
theorem keyE_ok {K : Fg} {A : List Addr} {C : Cs} {H : Hp} {x : El} {k : Key} {v : V} (h : keyE x = some k) (r : RepE K A C H x v) : v = kV k := by
  unfold keyE at h
  split at h
  · cases h; exact r
  · cases h; exact r
  · cases h
def keyD : D → Option Key
  | .int i => some (.inl i)
  | .str s => some (.inr s)
  | _ => none
def keysD : List D → Option (List Key)
  | [] => some []
  | d :: l => match keyD d, keysD l with
    | some k, some r => some (k :: r)
    | _, _ => none
def keyT : El → Option (List Key)
  | .v (.tup l) => keysD l
  | _ => none
theorem keysD_ok {K : Fg} {M : Hp} : ∀ {l : List D} {ks : List Key} {vs : List V}, keysD l = some ks → RepL K M l vs → vs = ks.map kV
  | [], ks, vs, h, r => by cases h; exact r
  | d :: l, ks, vs, h, r => by
    obtain ⟨v, w, e, h1, h2⟩ := r
    subst e
    unfold keysD at h
    cases e1 : keyD d with
    | none => rw [e1] at h; cases h
    | some k =>
      cases e2 : keysD l with
      | none => rw [e1, e2] at h; cases h
      | some r =>
        rw [e1, e2] at h
        cases h
        rw [keysD_ok e2 h2]
        unfold keyD at e1
        split at e1
        · cases e1; rw [show v = .int _ from h1]; rfl
        · cases e1; rw [show v = .str _ from h1]; rfl
        · cases e1
theorem keyT_ok {K : Fg} {A : List Addr} {C : Cs} {H : Hp} {x : El} {ks : List Key} {v : V} (h : keyT x = some ks) (r : RepE K A C H x v) : ∃ a, v = .ref a ∧ H a = some (.tup (ks.map kV)) := by
  unfold keyT at h
  split at h
  · obtain ⟨a, vs, e, h1, h2⟩ := r
    rw [keysD_ok h h2] at h1
    exact ⟨a, e, mk_of h1⟩
  · cases h
def val {κ α : Type} [DecidableEq κ] (l : List (κ × α)) (k : κ) : Option α := (l.find? fun kv => decide (kv.1 = k)).map (·.2)
theorem val_rep {κ : Type} [DecidableEq κ] {R : El → V → Prop} {k : κ} : ∀ {l : List (κ × El)} {vs : List (κ × V)}, All2 (fun p q => p.1 = q.1 ∧ R p.2 q.2) l vs → (∀ e, val l k = some e → ∃ v, valV vs k = some v ∧ R e v) ∧ (val l k = none → valV vs k = none)
  | _, _, .nil => ⟨(fun e h => by cases h), fun _ => rfl⟩
  | (j, x) :: l, (j', y) :: vs, .cons ⟨e, r⟩ t => by
    have e' : j = j' := e
    subst e'
    have ih := val_rep (k := k) t
    unfold val valV at ih ⊢
    rw [List.find?_cons, List.find?_cons]
    by_cases c : j = k
    · simp only [c, decide_true]
      exact ⟨(fun e h => by cases h; exact ⟨y, rfl, r⟩), (fun h => by cases h)⟩
    · simp only [c, decide_false]
      exact ih
def bIn0 (C : Cs) (x y : El) : Option Bool := match viewK C y, keyE x with
  | some l, some k => some (val l k).isSome
  | _, _ => match viewTK C y, keyT x with
    | some l, some k => some (val l k).isSome
    | _, _ => match x, y with
      | .v (.str a), .v (.str z) => match a.cps.toList with
        | [c] => some (decide (c ∈ z.cps.toList))
        | _ => none
      | _, _ => match (match viewS C y with | some l => some l | none => viewT C y) with
        | some l => match flE x, l.mapM flE with
          | some v, some vs => if flatV v = true ∧ vs.all flatV = true then some (inV v vs) else none
          | _, _ => match pdE C 3 x, viewL C y, pdE C 3 y with
            | some d, some _, some (.list ds) => if SeqAt.shaped d = true ∧ SeqAt.shaped (.list ds) = true then some (ds.any fun z => PyData.eqv z d) else none
            | _, _, _ => none
        | none => none
end
end R
namespace R
open PySem L2

/-! ### in -/
/-- a comparison by a rule R, whatever its judgement is -/
structure CmpR (X : Cx) (op : CmpOp) (a b : Expr) (p : Pos) (R : R2) : Prop where
  pe : PE X (.Compare a [op] [b] p) (tOp R (wE X a) (wE X b))
  pt : PT X (.Compare a [op] [b] p) (tTest (tOp R (wE X a) (wE X b)))
section
variable {X : Cx} {a b c e : Expr} {p p2 : Pos}
theorem CmpR.of {op : CmpOp} {R : R2} (ho : OpR X (compareOp op) R) (hm : behindInMarks op b = false) : CmpR X op a b p R := ⟨pe_cmpR ho wE_ok wE_ok hm, pt_cmpR ho wE_ok wE_ok hm⟩
def rDIn (f : Bool → Bool) : R2 := fun y x H Q => ∃ a o, x = .ref a ∧ DGet H a y o ∧ Q (.bl (f o.isSome)) H
theorem CmpR.din (hu : X.A.units + 1 < cLine) (hm : behindInMarks .In b = false) : CmpR X .In a b p (rDIn id) :=
  ⟨pe_cmp (pc_din hu wE_ok wE_ok) hm, pt_cmp (pc_din hu wE_ok wE_ok) hm⟩
theorem CmpR.dnin (hu : X.A.units + 1 < cLine) (hm : behindInMarks .NotIn b = false) : CmpR X .NotIn a b p (rDIn not) :=
  ⟨pe_cmp (pc_dnotin hu wE_ok wE_ok) hm, pt_cmp (pc_dnotin hu wE_ok wE_ok) hm⟩
def OkC (X : Cx) (op : CmpOp) (a b : Expr) (p : Pos) (f : B2) : Prop := ∀ x y C c, f x y C = some c → ∃ R, CmpR X op a b p R ∧ ∀ (bb : Bs) (A : List Addr) (G : Gs) (s : St) (H : Hp) (vx vy : V), Sat X.K bb A G C s H → RepE X.K A C H x vx → RepE X.K A C H y vy →
  ∀ k : VK, (∀ H', Ex H H' → k (.bl c) H') → R vx vy H k
theorem cmpC_core {op : CmpOp} {f : B2} {fa fb : FE} (ha : ImE X a fa) (hb : ImE X b fb) (ho : OkC X op a b p f) (h0 : CmpR X op a b p (fun _ _ _ _ => False)) {bb : Bs} {A : List Addr} {G : Gs} {C : Cs} {s : St} {H : Hp} {W : WX} (S : Sat X.K bb A G C s H) (tk : Takes X W) {o : Rz Bool × Cs} (h : eCmp f fa fb G C = some o) :
    ∃ R, CmpR X op a b p R ∧ ∀ (k : VK), Po X.K bb G s W (fun _ _ _ r v => v = .bl r) k o → wE X a s H fun x H1 => wE X b s H1 fun y H2 => R x y H2 k := by
  rcases bind_inv h with ⟨x, C1, h1, rfl⟩ | ⟨x, C1, h1, h⟩
  · exact ⟨_, h0, fun k q => ha.er S tk h1 q _⟩
  rcases bind_inv h with ⟨y, C2, h2, rfl⟩ | ⟨y, C2, h2, h⟩
  · exact ⟨_, h0, fun k q => ha.ok S tk h1 fun vx A1 H1 S1 g1 rx => hb.er S1 tk h2 q _⟩
  cases h3 : f x y C2 with
  | none => rw [h3] at h; cases h
  | some c =>
    rw [h3] at h
    cases h
    obtain ⟨R, hR, hq⟩ := ho x y C2 c h3
    exact ⟨_, hR, fun k q => ha.ok S tk h1 fun vx A1 H1 S1 g1 rx => hb.ok S1 tk h2 fun vy A2 H2 S2 g2 ry => hq bb A2 G s H2 vx vy S2 (rx.go g2) ry k fun H' e => q.ok _ _ rfl _ A2 H' (S2.ext e) rfl⟩
theorem imC {op : CmpOp} {f : B2} {fa fb : FE} (ha : ImE X a fa) (hb : ImE X b fb) (ho : OkC X op a b p f) (h0 : CmpR X op a b p (fun _ _ _ _ => False)) : ImE X (.Compare a [op] [b] p) (eB (eCmp f fa fb)) := fun bb A G C s H W S tk o h k q => by
  obtain ⟨o', h', hh⟩ := eB_inv h
  obtain ⟨R, hR, hq⟩ := cmpC_core ha hb ho h0 S tk h'
  refine ⟨_, hR.pe, hq k ?_⟩
  rcases hh with ⟨x, C1, rfl, rfl⟩ | ⟨c, C1, rfl, rfl⟩
  · exact ⟨(fun _ _ e => by cases e), (fun x' C' e => by cases e; exact q.er x C1 rfl)⟩
  · exact ⟨(fun r C' e v A' H' S' hr => by cases e; subst hr; exact q.ok _ _ rfl _ A' H' S' rfl), (fun _ _ e => by cases e)⟩
theorem itC {op : CmpOp} {f : B2} {fa fb : FE} (ha : ImE X a fa) (hb : ImE X b fb) (ho : OkC X op a b p f) (h0 : CmpR X op a b p (fun _ _ _ _ => False)) : ImT X (.Compare a [op] [b] p) (eCmp f fa fb) := fun bb A G C s H W S tk o h k q => by
  obtain ⟨R, hR, hq⟩ := cmpC_core ha hb ho h0 S tk h
  refine ⟨_, hR.pt, hq _ ⟨fun r C' e v A' H' S' hr => ?_, fun x C' e c d A' H' S' hx => q.er x C' e c d A' H' S' hx⟩⟩
  subst hr
  exact ⟨r, rfl, q.ok r C' e r A' H' S' rfl⟩
def bIn : B2 := fun x y C => bIn0 C x y
def bNotIn : B2 := fun x y C => (bIn0 C x y).map (!·)
theorem mapFl {K : Fg} {A : List Addr} {C : Cs} {H : Hp} : ∀ {l : List El} {vs ws : List V}, l.mapM flE = some vs → All2 (RepE K A C H) l ws → ws = vs := fun {l vs ws} h r => by
  have go : ∀ {l : List El} {vs ws : List V}, All2 (fun a b => flE a = some b) l vs → All2 (RepE K A C H) l ws → ws = vs := by
    intro l vs ws q
    induction q generalizing ws with
    | nil => intro r; cases r; rfl
    | cons q1 _ ih =>
      intro r
      cases r with
      | cons r1 r2 => rw [flE_rep q1 r1, ih r2]
  exact go (mapM_some h) r
theorem DGet.of_k {H : Hp} {a : Addr} {kvs : List (Key × V)} {k : Key} {r : Option V} (e : Rd H a (.dK kvs)) (h : r = valV kvs k) : DGet H a (kV k) r := .inl ⟨kvs, k, e, rfl, h⟩
theorem okC_in0 {op : CmpOp} {f : Bool → Bool} (h1 : CmpR X op a b p (rDIn f)) (h2 : CmpR X op a b p (fun x y H Q => ∃ (c : Nat) (z : Str), x = .str ⟨#[c]⟩ ∧ y = .str z ∧ Q (.bl (f (decide (c ∈ z.cps.toList)))) H))
    (h3 : CmpR X op a b p (fun x y H Q => ∃ p xs, y = .ref p ∧ (SqL X.K H p xs ∨ SqT X.K H p xs) ∧ flatV x = true ∧ xs.all flatV = true ∧ Q (.bl (f (inV x xs))) H))
    (h4 : CmpR X op a b p (fun x y H Q => ∃ d ds, Dp X.K H x d ∧ Dp X.K H y (.list ds) ∧ SeqAt.shaped d = true ∧ SeqAt.shaped (.list ds) = true ∧ Q (.bl (f (ds.any fun z => PyData.eqv z d))) H)) : OkC X op a b p (fun x y C => (bIn0 C x y).map f) := fun x y C c h => by
  dsimp only at h
  cases hb : bIn0 C x y with
  | none => rw [hb] at h; cases h
  | some c0 =>
    rw [hb] at h
    cases h
    unfold bIn0 at hb
    split at hb
    · rename_i l k e1 e2
      cases hb
      refine ⟨_, h1, fun bb A G s H vx vy S rx ry k' q => ?_⟩
      obtain ⟨a, vs, e, hr, hv⟩ := viewK_ok S e1 ry
      rw [keyE_ok e2 rx]
      refine ⟨a, valV vs k, e, DGet.of_k hr rfl, ?_⟩
      have vr := val_rep (R := RepE X.K A C H) (k := k) hv
      cases e3 : val l k with
      | none =>
        rw [vr.2 e3]
        have := q H (Evl.Ex.refl H)
        rw [e3] at this
        exact this
      | some z =>
        obtain ⟨w, hw, _⟩ := vr.1 z e3
        rw [hw]
        have := q H (Evl.Ex.refl H)
        rw [e3] at this
        exact this
    · split at hb
      · rename_i l k e1 e2
        cases hb
        refine ⟨_, h1, fun bb A G s H vx vy S rx ry k' q => ?_⟩
        obtain ⟨a, vs, e, hr, hv⟩ := viewTK_ok S e1 ry
        obtain ⟨t, et, ht⟩ := keyT_ok e2 rx
        refine ⟨a, valV vs k, e, .inr ⟨vs, k, t, hr, et, ht, rfl⟩, ?_⟩
        have vr := val_rep (R := RepE X.K A C H) (k := k) hv
        cases e3 : val l k with
        | none =>
          rw [vr.2 e3]
          have := q H (Evl.Ex.refl H)
          rw [e3] at this
          exact this
        | some z =>
          obtain ⟨w, hw, _⟩ := vr.1 z e3
          rw [hw]
          have := q H (Evl.Ex.refl H)
          rw [e3] at this
          exact this
      · split at hb
        · rename_i a1 z1 _ _
          split at hb
          · rename_i c1 e1
            cases hb
            refine ⟨_, h2, fun bb A G s H vx vy S rx ry k' q => ⟨c1, z1, ?_, ry, q H (Evl.Ex.refl H)⟩⟩
            rw [show vx = .str a1 from rx]
            obtain ⟨⟨l⟩⟩ := a1
            simp only at e1
            subst e1
            rfl
          · cases hb
        · split at hb
          · rename_i l e0
            split at hb
            · rename_i v vs e1 e2
              split at hb
              · rename_i hf
                cases hb
                refine ⟨_, h3, fun bb A G s H vx vy S rx ry k' q => ?_⟩
                rw [flE_rep e1 rx]
                split at e0
                · rename_i l' e5
                  cases e0
                  obtain ⟨a, ws, e, hr, hv⟩ := viewS_ok S e5 ry
                  have := mapFl e2 hv
                  subst this
                  exact ⟨a, _, e, .inl hr, hf.1, hf.2, q H (Evl.Ex.refl H)⟩
                · obtain ⟨a, ws, e, hr, hv⟩ := viewT_ok S e0 ry
                  have := mapFl e2 hv
                  subst this
                  exact ⟨a, _, e, .inr (.inl (.inl hr)), hf.1, hf.2, q H (Evl.Ex.refl H)⟩
              · cases hb
            · split at hb
              · rename_i d l2 ds e1 e2 e3
                split at hb
                · rename_i hs
                  cases hb
                  exact ⟨_, h4, fun bb A G s H vx vy S rx ry k' q => ⟨d, ds, pdE_ok S e1 rx, pdE_ok S e3 ry, hs.1, hs.2, q H (Evl.Ex.refl H)⟩⟩
                · cases hb
              · cases hb
          · cases hb
theorem okC_in (hu : X.A.units + 65 < cLine) (hm : behindInMarks .In b = false) : OkC X .In a b p bIn := by
  have := okC_in0 (f := id) (CmpR.din (a := a) (p := p) (by omega) hm) (.of op_in_sign hm) (.of (op_in_seq) hm) (.of (op_inD hu) hm)
  intro x y C c h
  exact this x y C c (by dsimp only; rw [show bIn0 C x y = some c from h] <;> rfl)
theorem okC_notIn (hu : X.A.units + 65 < cLine) (hm : behindInMarks .NotIn b = false) : OkC X .NotIn a b p bNotIn :=
  okC_in0 (f := not) (CmpR.dnin (a := a) (p := p) (by omega) hm) (.of op_notIn_sign hm) (.of (op_notIn_seq) hm) (.of (op_notInD hu) hm)
theorem im_in {fa fb : FE} (ha : ImE X a fa) (hb : ImE X b fb) (hu : X.A.units + 65 < cLine) (hm : behindInMarks .In b = false := by rfl) : ImE X (.Compare a [.In] [b] p) (eB (eCmp bIn fa fb)) := imC ha hb (okC_in hu hm) (.of opR_false hm)
theorem it_in {fa fb : FE} (ha : ImE X a fa) (hb : ImE X b fb) (hu : X.A.units + 65 < cLine) (hm : behindInMarks .In b = false := by rfl) : ImT X (.Compare a [.In] [b] p) (eCmp bIn fa fb) := itC ha hb (okC_in hu hm) (.of opR_false hm)
theorem it_nin {fa fb : FE} (ha : ImE X a fa) (hb : ImE X b fb) (hu : X.A.units + 65 < cLine) (hm : behindInMarks .NotIn b = false := by rfl) : ImT X (.Compare a [.NotIn] [b] p) (eCmp bNotIn fa fb) := itC ha hb (okC_notIn hu hm) (.of opR_false hm)

/-! ### a[b] -/
def oIx (C : Cs) (x y : El) : Option El := match viewK C x, keyE y with
  | some l, some k => val l k
  | _, _ => match viewTK C x, keyT y with
    | some l, some k => val l k
    | _, _ => match y with
      | .v (.int i) => match viewS C x with
        | some l => atI l i
        | none => match viewT C x with
          | some l => atI l i
          | none => match x with
            | .v (.str w) => if w.length ≤ sizeLine then (atI w.cps.toList i).map fun c => .v (.str ⟨#[c]⟩) else none
            | _ => none
      | _ => none
def eIx (fa fb : FE) : FE := fun G C => (fa G C).bind fun x C => (fb G C).bind fun y C => (oIx C x y).map fun r => (.ok r, C)
theorem All2.atI {α β : Type} {R : α → β → Prop} {l : List α} {r : List β} {i : Int} {a : α} (h : All2 R l r) (e : L2.atI l i = some a) : ∃ b, L2.atI r i = some b ∧ R a b := by
  unfold L2.atI at e ⊢
  rw [← h.length]
  cases e1 : ixN l.length i with
  | none => rw [e1] at e; cases e
  | some j =>
    rw [e1] at e
    exact h.get e
theorem ixR_false : IxR X (fun _ _ _ _ => False) := fun _ _ _ _ _ _ _ _ _ _ _ _ _ _ h => h.elim
theorem im_ix {fa fb : FE} (ha : ImE X a fa) (hb : ImE X b fb) (hu : X.A.units + 1 < cLine) (hs : PlainIx b := by exact fun _ _ => rfl) : ImE X (.Subscript a b p) (eIx fa fb) := fun bb A G C s H W S tk o h k q => by
  rcases bind_inv h with ⟨x, C1, h1, rfl⟩ | ⟨x, C1, h1, h⟩
  · exact ⟨_, pe_ix ixR_false wE_ok wE_ok hs, ha.er S tk h1 q _⟩
  rcases bind_inv h with ⟨y, C2, h2, rfl⟩ | ⟨y, C2, h2, h⟩
  · exact ⟨_, pe_ix ixR_false wE_ok wE_ok hs, ha.ok S tk h1 fun vx A1 H1 S1 g1 rx => hb.er S1 tk h2 q _⟩
  cases h3 : oIx C2 x y with
  | none => rw [h3] at h; cases h
  | some r =>
    rw [h3] at h
    cases h
    unfold oIx at h3
    split at h3
    · rename_i l ky e1 e2
      refine ⟨_, pe_dget hu wE_ok wE_ok hs, ha.ok S tk h1 fun vx A1 H1 S1 g1 rx => hb.ok S1 tk h2 fun vy A2 H2 S2 g2 ry => ?_⟩
      obtain ⟨t, vs, e, hr, hv⟩ := viewK_ok S2 e1 (rx.go g2)
      obtain ⟨w, hw, rw'⟩ := (val_rep (R := RepE X.K A2 C2 H2) (k := ky) hv).1 r h3
      rw [keyE_ok e2 ry]
      exact ⟨t, w, e, DGet.of_k hr hw.symm, q.ok _ _ rfl w A2 H2 S2 rw'⟩
    · split at h3
      · rename_i l ky e1 e2
        refine ⟨_, pe_dget hu wE_ok wE_ok hs, ha.ok S tk h1 fun vx A1 H1 S1 g1 rx => hb.ok S1 tk h2 fun vy A2 H2 S2 g2 ry => ?_⟩
        obtain ⟨t, vs, e, hr, hv⟩ := viewTK_ok S2 e1 (rx.go g2)
        obtain ⟨w, hw, rw'⟩ := (val_rep (R := RepE X.K A2 C2 H2) (k := ky) hv).1 r h3
        obtain ⟨u, eu, hu'⟩ := keyT_ok e2 ry
        exact ⟨t, w, e, .inr ⟨vs, ky, u, hr, eu, hu', hw.symm⟩, q.ok _ _ rfl w A2 H2 S2 rw'⟩
      · split at h3
        · rename_i i _ _
          split at h3
          · rename_i l e1
            refine ⟨_, pe_ix ix_list wE_ok wE_ok hs, ha.ok S tk h1 fun vx A1 H1 S1 g1 rx => hb.ok S1 tk h2 fun vy A2 H2 S2 g2 ry => ?_⟩
            obtain ⟨t, vs, e, hr, hv⟩ := viewS_ok S2 e1 (rx.go g2)
            obtain ⟨w, hw, rw'⟩ := hv.atI h3
            exact ⟨t, vs, i, w, e, ry, hr, hw, q.ok _ _ rfl w A2 H2 S2 rw'⟩
          · split at h3
            · rename_i l e1
              refine ⟨_, pe_ix ix_tup wE_ok wE_ok hs, ha.ok S tk h1 fun vx A1 H1 S1 g1 rx => hb.ok S1 tk h2 fun vy A2 H2 S2 g2 ry => ?_⟩
              obtain ⟨t, vs, e, hr, hv⟩ := viewT_ok S2 e1 (rx.go g2)
              obtain ⟨w, hw, rw'⟩ := hv.atI h3
              exact ⟨t, vs, i, w, e, ry, .inl (.inl hr), hw, q.ok _ _ rfl w A2 H2 S2 rw'⟩
            · split at h3
              · rename_i w _ _ _ _
                split at h3
                · rename_i hl
                  cases h4 : atI w.cps.toList i with
                  | none => rw [h4] at h3; cases h3
                  | some c =>
                    rw [h4] at h3
                    cases h3
                    exact ⟨_, pe_ix ix_str wE_ok wE_ok hs, ha.ok S tk h1 fun vx A1 H1 S1 g1 rx => hb.ok S1 tk h2 fun vy A2 H2 S2 g2 ry => ⟨w, i, c, rx, ry, hl, h4, q.ok _ _ rfl _ A2 H2 S2 rfl⟩⟩
                · cases h3
              · cases h3
        · cases h3

/-! ### slices -/
abbrev FO := Gs → Cs → Mr (Option Int)
def pNone : FO := fun _ C => some (.ok none, C)
def pSome (f : FE) : FO := fun G C => (f G C).bind fun r C => match r with
  | .v (.int i) => some (.ok (some i), C)
  | _ => none
theorem ip_none : ImO X none pNone := Im.pure fun b A G C s H S o h => by
  cases h
  exact ⟨_, _, rfl, fun k q => ⟨_, po_none, q none A H S rfl⟩⟩
theorem ip_some {f : FE} (h : ImE X e f) : ImO X (some e) (pSome f) := fun bb A G C s H W S tk o ho k q => by
  refine ⟨_, po_some wE_ok, ?_⟩
  rcases bind_inv ho with ⟨x, C1, h1, rfl⟩ | ⟨r, C1, h1, h2⟩
  · exact h.er S tk h1 q _
  · cases r with
    | «at» n => cases h2
    | tp l => cases h2
    | v d =>
      cases d <;> try (cases h2)
      rename_i i
      exact h.ok S tk h1 fun v A1 H1 S1 g1 r1 => ⟨i, r1, q.ok _ _ rfl _ A1 H1 S1 rfl⟩
def cutL {α : Type} (xs : List α) (lo hi : Option Int) : List α := (xs.drop (HT.sIx xs.length 0 lo)).take (HT.sIx xs.length xs.length hi - HT.sIx xs.length 0 lo)
theorem All2.cut {R : El → V → Prop} {l : List El} {vs : List V} {x y : Option Int} (h : All2 R l vs) : All2 R (cutL l x y) (cutV vs x y) := by
  unfold cutL cutV
  rw [h.length]
  exact (h.drop _).take _
def oCut (own : Bool) (C : Cs) (a : El) (x y : Option Int) : Option (El × Cs) := match viewS C a with
  | some l => if own = true then some (.at C.length, C ++ [some (.lst (cutL l x y))]) else match unV (cutL l x y) with
    | some ds => some (.v (.lst ds), C)
    | none => none
  | none => match a with
    | .v (.str z) => if z.length ≤ sizeLine then some (.v (.str (cutS z x y)), C) else none
    | _ => match viewT C a with
      | some l => if HT.sIx l.length 0 x = 0 ∧ HT.sIx l.length l.length y = l.length then none else match unV (cutL l x y) with
        | some ds => some (.v (.tup ds), C)
        | none => none
      | none => none
/-- a[lo:hi]; own: the list as a cell -/
def eCut (own : Bool) (fa : FE) (fl fh : FO) : FE := fun G C => (fa G C).bind fun a C => (fl G C).bind fun x C => (fh G C).bind fun y C => (oCut own C a x y).map fun r => (.ok r.1, r.2)
theorem slR_false : SlR X (fun _ _ _ _ _ => False) := fun _ _ _ _ _ _ _ _ _ _ _ _ _ _ _ _ _ h => h.elim
theorem im_cut {lo hi : Option Expr} (own : Bool) {fa : FE} {fl fh : FO} (ha : ImE X a fa) (hl : ImO X lo fl) (hh : ImO X hi fh) : ImE X (.Subscript a (.Slice lo hi none p2) p) (eCut own fa fl fh) := fun bb A G C s H W S tk o h k q => by
  rcases bind_inv h with ⟨x, C1, h1, rfl⟩ | ⟨a1, C1, h1, h⟩
  · exact ⟨_, pe_slice slR_false wE_ok wO_ok wO_ok, ha.er S tk h1 q _⟩
  rcases bind_inv h with ⟨x, C2, h2, rfl⟩ | ⟨x, C2, h2, h⟩
  · exact ⟨_, pe_slice slR_false wE_ok wO_ok wO_ok, ha.ok S tk h1 fun vx A1 H1 S1 g1 rx => hl.er S1 tk h2 q _⟩
  rcases bind_inv h with ⟨z, C3, h3, rfl⟩ | ⟨y, C3, h3, h⟩
  · exact ⟨_, pe_slice slR_false wE_ok wO_ok wO_ok, ha.ok S tk h1 fun vx A1 H1 S1 g1 rx => hl.ok S1 tk h2 fun vy A2 H2 S2 g2 ry => hh.er S2 tk h3 q _⟩
  cases h4 : oCut own C3 a1 x y with
  | none => rw [h4] at h; cases h
  | some r =>
    rw [h4] at h
    cases h
    unfold oCut at h4
    split at h4
    · rename_i l e1
      refine ⟨_, pe_slice sl_list wE_ok wO_ok wO_ok, ha.ok S tk h1 fun vx A1 H1 S1 g1 rx => hl.ok S1 tk h2 fun vy A2 H2 S2 g2 ry => hh.ok S2 tk h3 fun vz A3 H3 S3 g3 rz => ?_⟩
      subst ry rz
      obtain ⟨t, vs, e, hr, hv⟩ := viewS_ok S3 e1 ((rx.go g2).go g3)
      refine ⟨t, vs, e, hr, fun w hw => ?_⟩
      split at h4
      · cases h4
        exact q.ok _ _ rfl _ _ _ (S3.cellNew hw ⟨_, upd_same, repEs_go (S3.goNew hw) hv.cut⟩) S3.atNew
      · split at h4
        · rename_i ds e2
          cases h4
          have r2 := hv.cut (x := vy) (y := vz)
          rw [unV_some e2] at r2
          exact q.ok _ _ rfl _ A3 _ (S3.ext (Evl.Ex.new hw)) (S3.newL hw r2)
        · cases h4
    · split at h4
      · rename_i z _
        split at h4
        · rename_i hz
          cases h4
          refine ⟨_, pe_slice sl_str wE_ok wO_ok wO_ok, ha.ok S tk h1 fun vx A1 H1 S1 g1 rx => hl.ok S1 tk h2 fun vy A2 H2 S2 g2 ry => hh.ok S2 tk h3 fun vz A3 H3 S3 g3 rz => ?_⟩
          subst ry rz
          exact ⟨_, (rx.go g2).go g3, hz, q.ok _ _ rfl _ A3 H3 S3 rfl⟩
        · cases h4
      · split at h4
        · rename_i l e1
          split at h4
          · cases h4
          · rename_i hwh
            split at h4
            · rename_i ds e2
              cases h4
              refine ⟨_, pe_slice sl_tup wE_ok wO_ok wO_ok, ha.ok S tk h1 fun vx A1 H1 S1 g1 rx => hl.ok S1 tk h2 fun vy A2 H2 S2 g2 ry => hh.ok S2 tk h3 fun vz A3 H3 S3 g3 rz => ?_⟩
              subst ry rz
              obtain ⟨t, vs, e, hr, hv⟩ := viewT_ok S3 e1 ((rx.go g2).go g3)
              refine ⟨t, vs, e, .inl (.inl hr), by rw [← hv.length]; exact hwh, fun w hw => ?_⟩
              have r2 := hv.cut (x := vy) (y := vz)
              rw [unV_some e2] at r2
              exact q.ok _ _ rfl _ A3 _ (S3.ext (Evl.Ex.new hw)) (S3.newT hw r2)
            · cases h4
        · cases h4

/-! ### built-ins called by their names -/
abbrev ON := List El → Cs → Option (El × Cs)
def OkCall (X : Cx) (callee : Value) (f : ON) : Prop := ∀ xs C r C', f xs C = some (r, C') → ∃ R, CallR X callee R ∧ ∀ (b : Bs) (A : List Addr) (G : Gs) (s : St) (H : Hp) (vs : List V), Sat X.K b A G C s H → All2 (RepE X.K A C H) xs vs →
  ∀ k : VK, (∀ v A' H', Sat X.K b A' G C' s H' → RepE X.K A' C' H' r v → k v H') → R vs H k
theorem callR_false {f : Value} : CallR X f (fun _ _ _ => False) := fun _ _ _ _ _ _ _ _ _ h => h.elim
def eFn (f : ON) (fa : FA) : FE := fun G C => (fa G C).bind fun xs C => (f xs C).map fun r => (.ok r.1, r.2)
variable {es : List Expr}
theorem fn_core {callee : Value} {f : ON} {fa : FA} (ha : ImA X (e :: es) fa) (ho : OkCall X callee f) {bb : Bs} {A : List Addr} {G : Gs} {C : Cs} {s : St} {H : Hp} {W : WX} (S : Sat X.K bb A G C s H) (tk : Takes X W) {o : Rz El × Cs} (h : eFn f fa G C = some o) :
    ∃ R, CallR X callee R ∧ ∀ k, Po X.K bb G s W (RepE X.K) k o → tCB R (wA X (e :: es)) s H k := by
  rcases bind_inv h with ⟨x, C1, h1, rfl⟩ | ⟨xs, C1, h1, h⟩
  · exact ⟨_, callR_false, fun k q => ha.er S tk h1 q _⟩
  cases h3 : f xs C1 with
  | none => rw [h3] at h; cases h
  | some r =>
    obtain ⟨r, C'⟩ := r
    rw [h3] at h
    cases h
    obtain ⟨R, hR, hq⟩ := ho xs C1 r C' h3
    exact ⟨R, hR, fun k q => ha.ok S tk h1 fun vs A1 H1 S1 g1 rx => hq bb A1 G s H1 vs S1 rx k fun v A' H' S' r' => q.ok _ _ rfl v A' H' S' r'⟩
theorem im_blt {id : String} {w : Str} {f : ON} {fa : FA} (ha : ImA X (e :: es) fa) (ho : OkCall X (.builtin id) f) (hg : Gl X w) (hm : X.mg w = none) (hv : bootBuiltins w = some (.builtin id))
    (hn : w ≠ "__name__" := by decide) (hdb : (w == ("__debug__" : Str)) = false := by decide) (he : starEach (e :: es) X.env = (false, eval e X.env) :: starEach es X.env := by rfl) (hpl : (backTo p (starEach es X.env)).any (·.1) = false := by rfl) : ImE X (.Call (.Name w p2) (e :: es) [] p) (eFn f fa) := fun bb A G C s H W S tk o h k q => by
  obtain ⟨R, hR, hq⟩ := fn_core ha ho S tk h
  exact ⟨_, pe_callB hR hg hm hv wA_ok hn hdb he hpl, hq k q⟩
theorem im_bty {T : String} {w : Str} {f : ON} {fa : FA} (ha : ImA X (e :: es) fa) (ho : OkCall X (.type T) f) (hg : Gl X w) (hm : X.mg w = none) (hv : bootBuiltins w = some (.type T))
    (hn : w ≠ "__name__" := by decide) (hdb : (w == ("__debug__" : Str)) = false := by decide) (he : starEach (e :: es) X.env = (false, eval e X.env) :: starEach es X.env := by rfl) (hpl : (backTo p (starEach es X.env)).any (·.1) = false := by rfl) : ImE X (.Call (.Name w p2) (e :: es) [] p) (eFn f fa) := fun bb A G C s H W S tk o h k q => by
  obtain ⟨R, hR, hq⟩ := fn_core ha ho S tk h
  exact ⟨_, pe_callTy hR hg hm hv wA_ok hn hdb he hpl, hq k q⟩
theorem one_ {K : Fg} {A : List Addr} {C : Cs} {H : Hp} {x : El} {vs : List V} (h : All2 (RepE K A C H) [x] vs) : ∃ v, vs = [v] ∧ RepE K A C H x v := by
  cases h with
  | cons a l => cases l; exact ⟨_, rfl, a⟩
theorem two_ {K : Fg} {A : List Addr} {C : Cs} {H : Hp} {x y : El} {vs : List V} (h : All2 (RepE K A C H) [x, y] vs) : ∃ v w, vs = [v, w] ∧ RepE K A C H x v ∧ RepE K A C H y w := by
  cases h with
  | cons a l => cases l with | cons a2 l => cases l; exact ⟨_, _, rfl, a, a2⟩
/-- len -/
def lenE (C : Cs) (x : El) : Option Nat := match viewS C x with
  | some l => some l.length
  | none => match viewT C x with
    | some l => some l.length
    | none => match x with
      | .v (.str w) => if w.length ≤ sizeLine then some w.length else none
      | .v (.dk l) => some l.length
      | .at n => match C[n]? with
        | some (some (.dk none l)) => some l.length
        | some (some (.dt none l)) => some l.length
        | _ => none
      | _ => none
def fLen : ON := fun xs C => match xs with
  | [x] => (lenE C x).map fun n => (.v (.int n), C)
  | _ => none
theorem call_lenR {X : Cx} : CallR X (.builtin "len") (fun xs H Q => ∃ a kvs, xs = [V.ref a] ∧ Rd H a (.dK kvs) ∧ Q (.int kvs.length) H) := by
  intro pins s σ H xs us Q I r h
  obtain ⟨a, kvs, rfl, ha, q⟩ := h
  obtain ⟨u, rfl, ru⟩ := vals1 r
  cases ru
  exact d_len I ha fun t s' I' => ⟨.int kvs.length, H, I', ⟨t, rfl⟩, q⟩
theorem ok_len : OkCall X (.builtin "len") fLen := fun xs C r C' h => by
  unfold fLen at h
  split at h
  · rename_i x
    cases h1 : lenE C x with
    | none => rw [h1] at h; cases h
    | some n =>
      rw [h1] at h
      cases h
      unfold lenE at h1
      split at h1
      · rename_i l e1
        cases h1
        refine ⟨_, call_len, fun b A G s H vs S ra k q => ?_⟩
        obtain ⟨v, rfl, rb⟩ := one_ ra
        obtain ⟨t, ws, e, hr, hv⟩ := viewS_ok S e1 rb
        subst e
        exact ⟨_, l.length, rfl, .inl ⟨ws, hr, hv.length⟩, q _ A H S rfl⟩
      · split at h1
        · rename_i l e1
          cases h1
          refine ⟨_, call_len, fun b A G s H vs S ra k q => ?_⟩
          obtain ⟨v, rfl, rb⟩ := one_ ra
          obtain ⟨t, ws, e, hr, hv⟩ := viewT_ok S e1 rb
          subst e
          exact ⟨_, l.length, rfl, .inr ⟨ws, .inl (.inl hr), hv.length⟩, q _ A H S rfl⟩
        · split at h1
          · rename_i w _ _
            split at h1
            · rename_i hl
              cases h1
              refine ⟨_, call_len, fun b A G s H vs S ra k q => ?_⟩
              obtain ⟨v, rfl, rb⟩ := one_ ra
              have e : v = .str w := rb
              subst e
              exact ⟨_, w.length, rfl, ⟨hl, rfl⟩, q _ A H S rfl⟩
            · cases h1
          · rename_i l _ _
            cases h1
            refine ⟨_, call_lenR, fun b A G s H vs S ra k q => ?_⟩
            obtain ⟨v, rfl, rb⟩ := one_ ra
            obtain ⟨t, ws, e, hr, hv⟩ := rb
            subst e
            refine ⟨t, ws, rfl, rd_of hr, ?_⟩
            rw [← (repK_iff.mp hv).length]
            exact q _ A H S rfl
          · rename_i n1 _ _
            split at h1
            · rename_i l e1
              cases h1
              refine ⟨_, call_lenD, fun b A G s H vs S ra k q => ?_⟩
              obtain ⟨v, rfl, rb⟩ := one_ ra
              obtain ⟨t, ht, e⟩ := rb
              obtain ⟨ws, h3, h4⟩ := S.cell _ t _ ht e1
              subst e
              refine ⟨t, ws, rfl, h3, ?_⟩
              rw [← h4.length]
              exact q _ A H S rfl
            · rename_i l e1
              cases h1
              refine ⟨_, call_len_dT, fun b A G s H vs S ra k q => ?_⟩
              obtain ⟨v, rfl, rb⟩ := one_ ra
              obtain ⟨t, ht, e⟩ := rb
              obtain ⟨ws, h3, h4⟩ := S.cell _ t _ ht e1
              subst e
              refine ⟨t, ws, rfl, h3, ?_⟩
              rw [← h4.length]
              exact q _ A H S rfl
            · cases h1
          · cases h1
  · cases h
/-- int of a truth, a number, a text -/
def fInt : ON := fun xs C => match xs with
  | [.v (.bl c)] => some (.v (.int (if c = true then 1 else 0)), C)
  | [.v (.int i)] => some (.v (.int i), C)
  | [.v (.str a)] => match PySem.intText? a with
    | some n => if a.length ≤ 640 then some (.v (.int n), C) else none
    | none => none
  | _ => none
def fStr : ON := fun xs C => match xs with
  | [.v (.int i)] => if i.natAbs.log2 < 1920 then some (.v (.str (toString i)), C) else none
  | _ => none
def fII (g : Int → Int → Int) : ON := fun xs C => match xs with
  | [.v (.int i), .v (.int j)] => some (.v (.int (g i j)), C)
  | _ => none
def fMin2 : ON := fII fun i j => if j < i then j else i
def fMax2 : ON := fII fun i j => if j > i then j else i
instance {i j : Int} : Decidable (CDivN i j) := by unfold CDivN; infer_instance
def fDivmod : ON := fun xs C => match xs with
  | [.v (.int i), .v (.int j)] => if CDiv i j then some (.v (.tup [.int (i / j), .int (i % j)]), C) else none
  | _ => none
/-- intsE, texts, truths out of values -/
def intE : El → Option Int
  | .v (.int i) => some i
  | _ => none
def blE : El → Option Bool
  | .v (.bl i) => some i
  | _ => none
def strE : El → Option Str
  | .v (.str i) => some i
  | _ => none
def intsE : List El → Option (List Int)
  | [] => some []
  | x :: l => match intE x, intsE l with
    | some i, some r => some (i :: r)
    | _, _ => none
def blsE : List El → Option (List Bool)
  | [] => some []
  | x :: l => match blE x, blsE l with
    | some i, some r => some (i :: r)
    | _, _ => none
def strsE : List El → Option (List Str)
  | [] => some []
  | x :: l => match strE x, strsE l with
    | some i, some r => some (i :: r)
    | _, _ => none
section
variable {K : Fg} {A : List Addr} {C : Cs} {H : Hp}
theorem intsE_ok : ∀ {l : List El} {ns : List Int} {vs : List V}, intsE l = some ns → All2 (RepE K A C H) l vs → vs = ns.map V.int
  | [], ns, vs, h, r => by cases h; cases r; rfl
  | x :: l, ns, vs, h, r => by
    cases r with
    | cons r1 r2 =>
      unfold intsE at h
      cases e1 : intE x with
      | none => rw [e1] at h; cases h
      | some i =>
        cases e2 : intsE l with
        | none => rw [e1, e2] at h; cases h
        | some ms =>
          rw [e1, e2] at h
          cases h
          rw [intsE_ok e2 r2]
          unfold intE at e1
          split at e1
          · cases e1; rw [show _ = V.int _ from r1]; rfl
          · cases e1
theorem blsE_ok : ∀ {l : List El} {ns : List Bool} {vs : List V}, blsE l = some ns → All2 (RepE K A C H) l vs → vs = ns.map V.bl
  | [], ns, vs, h, r => by cases h; cases r; rfl
  | x :: l, ns, vs, h, r => by
    cases r with
    | cons r1 r2 =>
      unfold blsE at h
      cases e1 : blE x with
      | none => rw [e1] at h; cases h
      | some i =>
        cases e2 : blsE l with
        | none => rw [e1, e2] at h; cases h
        | some ms =>
          rw [e1, e2] at h
          cases h
          rw [blsE_ok e2 r2]
          unfold blE at e1
          split at e1
          · cases e1; rw [show _ = V.bl _ from r1]; rfl
          · cases e1
theorem strsE_ok : ∀ {l : List El} {ns : List Str} {vs : List V}, strsE l = some ns → All2 (RepE K A C H) l vs → vs = ns.map V.str
  | [], ns, vs, h, r => by cases h; cases r; rfl
  | x :: l, ns, vs, h, r => by
    cases r with
    | cons r1 r2 =>
      unfold strsE at h
      cases e1 : strE x with
      | none => rw [e1] at h; cases h
      | some i =>
        cases e2 : strsE l with
        | none => rw [e1, e2] at h; cases h
        | some ms =>
          rw [e1, e2] at h
          cases h
          rw [strsE_ok e2 r2]
          unfold strE at e1
          split at e1
          · cases e1; rw [show _ = V.str _ from r1]; rfl
          · cases e1
end
def fList1 {α : Type} (g : List El → Option α) (f : α → El) : ON := fun xs C => match xs with
  | [x] => match viewS C x with
    | some l => (g l).map fun a => (f a, C)
    | none => none
  | _ => none
def fSum : ON := fList1 intsE fun l => .v (.int l.sum)
def fAll : ON := fList1 blsE fun l => .v (.bl (l.all id))
def fAny : ON := fList1 blsE fun l => .v (.bl (l.any id))
theorem list1_ {α : Type} {g : List El → Option α} {f : α → El} {xs : List El} {C C' : Cs} {r : El} (h : fList1 g f xs C = some (r, C')) : ∃ x l a, xs = [x] ∧ viewS C x = some l ∧ g l = some a ∧ r = f a ∧ C' = C := by
  unfold fList1 at h
  split at h
  · rename_i x
    split at h
    · rename_i l e1
      cases e2 : g l with
      | none => rw [e2] at h; cases h
      | some a =>
        rw [e2] at h
        cases h
        exact ⟨x, l, a, rfl, e1, e2, rfl, rfl⟩
    · cases h
  · cases h
theorem ok_all (hc : X.calm = true) : OkCall X (.builtin "all") fAll := fun xs C r C' h => by
  obtain ⟨x, l, ns, rfl, e1, e2, rfl, rfl⟩ := list1_ h
  refine ⟨_, cr_all hc, fun b A G s H vs S ra k q => ?_⟩
  obtain ⟨v, rfl, rb⟩ := one_ ra
  obtain ⟨t, ws, e, hr, hv⟩ := viewS_ok S e1 rb
  subst e
  rw [blsE_ok e2 hv] at hr
  exact ⟨t, ns, rfl, hr, q _ A H S rfl⟩
end
end R
namespace R
open PySem L2

/-! ### statements -/
def PoS (K : Fg) (b : Bs) (D : Ends) (W : WX) : Fl × Gs × Cs → Prop
  | (.nx, G, C) => ∀ A s H, Sat K b A G C s H → D.nx s H
  | (.rt r, G, C) => ∀ v A s H, Sat K b A G C s H → RepE K A C H r v → D.rt v H
  | (.bk, G, C) => ∀ A s H, Sat K b A G C s H → D.bk s H
  | (.ct, G, C) => ∀ A s H, Sat K b A G C s H → D.ct s H
  | (.er x, G, C) => ∀ c d A s H, Sat K b A G C s H → XRep K A C H x c d → W c d s H
def Is (X : Cx) (w : Ends → St → Hp → Prop) (f : FS) : Prop :=
  ∀ (b : Bs) (A : List Addr) (G : Gs) (C : Cs) (s : St) (H : Hp) (W : WX), Sat X.K b A G C s H → Takes X W → ∀ o, f G C = some o → ∀ D, PoS X.K b D W o → w D s H
abbrev ImS (X : Cx) (st : Stmt) (f : FS) : Prop := Is X (wS X st) f
abbrev ImB (X : Cx) (ss : List Stmt) (f : FS) : Prop := Is X (wB X ss) f
/-- an expression's answer, then a statement's work -/
def sBind {α : Type} (m : Mr α) (G : Gs) (k : α → Cs → Option (Fl × Gs × Cs)) : Option (Fl × Gs × Cs) := match m with
  | none => none
  | some (.er x, C) => some (.er x, G, C)
  | some (.ok a, C) => k a C
theorem sBind_inv {α : Type} {m : Mr α} {G : Gs} {k : α → Cs → Option (Fl × Gs × Cs)} {o : Fl × Gs × Cs} (h : sBind m G k = some o) : (∃ x C1, m = some (.er x, C1) ∧ o = (.er x, G, C1)) ∨ ∃ r C1, m = some (.ok r, C1) ∧ k r C1 = some o := by
  cases m with
  | none => cases h
  | some p =>
    obtain ⟨r, C1⟩ := p
    cases r with
    | er x => exact .inl ⟨x, C1, rfl, (Option.some.inj h).symm⟩
    | ok r => exact .inr ⟨r, C1, rfl, h⟩
section
variable {α β : Type} {X : Cx} {R : List Addr → Cs → Hp → α → β → Prop} {w : St → Hp → (β → Hp → Prop) → Prop} {f : Gs → Cs → Mr α} {b : Bs} {A : List Addr} {G : Gs} {C C1 : Cs} {s : St} {H : Hp} {W : WX}
theorem Im.erS (h : Im X R w f) (S : Sat X.K b A G C s H) (tk : Takes X W) {x : Exn} (hf : f G C = some (.er x, C1)) {D : Ends} (q : PoS X.K b D W (.er x, G, C1)) (k : β → Hp → Prop) : w s H k :=
  h b A G C s H W S tk _ hf _ ⟨(fun r' C' e => by cases e), (fun x' C' e c d A' H' S' hx => by cases e; exact q c d A' s H' S' hx)⟩
end
section
variable {X : Cx} {e o tg iter : Expr} {st : Stmt} {rest body : List Stmt} {p p' : Pos}
def sNil : FS := fun G C => some (.nx, G, C)
def sCons (f g : FS) : FS := fun G C => match f G C with
  | some (.nx, G, C) => g G C
  | o => o
theorem ib_nil : ImB X [] sNil := fun b A G C s H W S tk o h D q => by
  cases h
  exact ⟨_, pss_nil, q A s H S⟩
theorem ib_cons {f g : FS} (h : ImS X st f) (k : ImB X rest g) : ImB X (st :: rest) (sCons f g) := fun b A G C s H W S tk o ho D q => by
  refine ⟨_, pss_cons wS_ok wB_ok, ?_⟩
  unfold sCons at ho
  split at ho
  · rename_i G1 C1 e
    exact h b A G C s H W S tk _ e _ fun A1 s1 H1 S1 => k b A1 G1 C1 s1 H1 W S1 tk o ho D q
  · rename_i hn
    refine h b A G C s H W S tk _ ho _ ?_
    obtain ⟨fl, G1, C1⟩ := o
    cases fl with
    | nx => exact absurd ho (hn G1 C1)
    | rt r => exact q
    | bk => exact q
    | ct => exact q
    | er x => exact q
def sPass : FS := fun G C => some (.nx, G, C)
def sBrk : FS := fun G C => some (.bk, G, C)
def sCnt : FS := fun G C => some (.ct, G, C)
def sAsg (i : Nat) (fe : FE) : FS := fun G C => sBind (fe G C) G fun r C => some (.nx, G.set i (some r), C)
theorem is_asg (n : Nat) {x : Str} {fe : FE} (he : ImE X e fe) (hN : X.N.Nodup) (hi : X.N[n]? = some x) (hx : Loc X.env.scope x) (hs : swapsWith e (some (.Name x p')) p.line X.env = pure false := by rfl)
    (hf : X.fn x = true ∨ X.env.scope.names.lookup x = some .local := by first | exact .inl rfl | exact .inr rfl | assumption) : ImS X (.Assign [.Name x p'] e p) (sAsg n fe) := fun b A G C s H W S tk o h D q => by
  refine ⟨_, ps_set hN hi hx wE_ok hs hf, ?_⟩
  rcases sBind_inv h with ⟨x, C1, h1, rfl⟩ | ⟨r, C1, h1, h⟩
  · exact he.erS S tk h1 q _
  · cases h
    exact he.ok S tk h1 fun v A1 H1 S1 g1 r1 => q A1 _ H1 (S1.put r1)
def sExp (fe : FE) : FS := fun G C => sBind (fe G C) G fun _ C => some (.nx, G, C)
theorem is_exp {fe : FE} (he : ImE X e fe) (hs : swapsWith e none p.line X.env = pure false := by rfl) : ImS X (.Expr e p) (sExp fe) := fun b A G C s H W S tk o h D q => by
  refine ⟨_, ps_expr wE_ok hs, ?_⟩
  rcases sBind_inv h with ⟨x, C1, h1, rfl⟩ | ⟨r, C1, h1, h⟩
  · exact he.erS S tk h1 q _
  · cases h
    exact he.ok S tk h1 fun v A1 H1 S1 g1 r1 => q A1 _ H1 S1
def sRet (fe : FE) : FS := fun G C => sBind (fe G C) G fun r C => some (.rt r, G, C)
theorem is_ret {fe : FE} (he : ImE X e fe) : ImS X (.Return (some e) p) (sRet fe) := fun b A G C s H W S tk o h D q => by
  refine ⟨_, ps_ret wE_ok, ?_⟩
  rcases sBind_inv h with ⟨x, C1, h1, rfl⟩ | ⟨r, C1, h1, h⟩
  · exact he.erS S tk h1 q _
  · cases h
    exact he.ok S tk h1 fun v A1 H1 S1 g1 r1 => q v A1 s H1 S1 r1
def sRetN : FS := fun G C => some (.rt (.v .non), G, C)
def sIf (t : FT) (f g : FS) : FS := fun G C => sBind (t G C) G fun c C => if c = true then f G C else g G C
theorem is_if {t : FT} {f g : FS} {x y : List Stmt} (hc : ImT X e t) (h1 : ImB X x f) (h2 : ImB X y g) : ImS X (.If e x y p) (sIf t f g) := fun b A G C s H W S tk o h D q => by
  refine ⟨_, ps_if wT_ok wB_ok wB_ok, ?_⟩
  rcases sBind_inv h with ⟨x, C1, h3, rfl⟩ | ⟨c, C1, h3, h⟩
  · exact hc.erS S tk h3 q _
  · refine hc.ok S tk h3 fun v A1 H1 S1 g1 r1 => ?_
    subst r1
    cases v with
    | true => exact h1 b A1 G C1 s H1 W S1 tk o h D q
    | false => exact h2 b A1 G C1 s H1 W S1 tk o h D q
/-- x += e, of ints -/
def sAug (i : Nat) (f : Int → Int → Int) (fe : FE) : FS := fun G C => match G[i]? with
  | some (some (.v (.int a))) => sBind (fe G C) G fun r C => match r with
    | .v (.int b) => some (.nx, G.set i (some (.v (.int (f a b)))), C)
    | _ => none
  | _ => none
/-! ### targets -/
abbrev FG := El → Gs → Cs → Option Gs
abbrev FGs := List El → Gs → Cs → Option Gs
/-- r is laid to the target: the slots at ns alone change -/
def ImG (X : Cx) (tg : Expr) (ns : List Nat) (f : FG) : Prop := ∀ (b : Bs) (A : List Addr) (G : Gs) (C : Cs) (s : St) (H : Hp) (r : El) (v : V) (G' : Gs), Sat X.K b A G C s H → RepE X.K A C H r v → f r G C = some G' →
  ∀ k : St → Hp → Prop, (∀ s', Sat X.K b A G' C s' H → (∀ i, i ∉ ns → s'[i]? = s[i]?) → s'.length = s.length → k s' H) → wG X tg v s H k
def ImGs (X : Cx) (tgs : List Expr) (ns : List Nat) (f : FGs) : Prop := ∀ (b : Bs) (A : List Addr) (G : Gs) (C : Cs) (s : St) (H : Hp) (rs : List El) (vs : List V) (G' : Gs), Sat X.K b A G C s H → All2 (RepE X.K A C H) rs vs → f rs G C = some G' →
  ∀ k : St → Hp → Prop, (∀ s', Sat X.K b A G' C s' H → (∀ i, i ∉ ns → s'[i]? = s[i]?) → s'.length = s.length → k s' H) → wGs X tgs vs s H k
variable {tgs : List Expr} {ns ms : List Nat}
def gN (i : Nat) : FG := fun r G _ => some (G.set i (some r))
theorem ig_name (n : Nat) {x : Str} (hN : X.N.Nodup) (hi : X.N[n]? = some x) (hx : Loc X.env.scope x) (hf : X.fn x = true ∨ X.env.scope.names.lookup x = some .local := by first | exact .inl rfl | exact .inr rfl | assumption) : ImG X (.Name x p) [n] (gN n) :=
  fun b A G C s H r v G' S h e k q => by
    cases e
    exact ⟨_, pg_name hN hi hx hf, q _ (S.put h) (fun i hi => by
      rw [List.getElem?_set_ne]
      intro z
      exact hi (by simp [z])) (by simp)⟩
def gNil : FGs := fun rs G _ => match rs with
  | [] => some G
  | _ => none
def gCons (f : FG) (g : FGs) : FGs := fun rs G C => match rs with
  | r :: rs => (f r G C).bind fun G => g rs G C
  | [] => none
theorem igs_nil : ImGs X [] [] gNil := fun b A G C s H rs vs G' S h e k q => ⟨_, pgs_nil, by
  cases h with
  | nil =>
    cases e
    exact ⟨rfl, q s S (fun _ _ => rfl) rfl⟩
  | cons _ _ => cases e⟩
theorem igs_cons {f : FG} {g : FGs} (h1 : ImG X tg ns f) (h2 : ImGs X tgs ms g) (hs : (assignEach (tg :: tgs) X.env).map (·.2) = assign tg X.env :: (assignEach tgs X.env).map (·.2) := by rfl) : ImGs X (tg :: tgs) (ns ++ ms) (gCons f g) := fun b A G C s H rs vs G' S h e k q => by
  cases h with
  | nil => cases e
  | @cons r v rs vs a l =>
    have e' : (f r G C).bind (fun G => g rs G C) = some G' := e
    cases e1 : f r G C with
    | none => rw [e1] at e'; cases e'
    | some G1 =>
      rw [e1] at e'
      refine ⟨_, pgs_cons wG_ok wGs_ok hs, _, _, rfl, h1 b A G C s H r v G1 S a e1 _ fun s1 S1 f1 l1 => h2 b A G1 C s1 H rs vs G' S1 l e' _ fun s2 S2 f2 l2 => q s2 S2 (fun i hi => ?_) (l2.trans l1)⟩
      rw [List.mem_append, not_or] at hi
      rw [f2 i hi.2, f1 i hi.1]
/-- a tuple, a list taken apart -/
def gTp (g : FGs) (n : Nat) : FG := fun r G C => match viewT C r with
  | some l => if l.length = n then g l G C else none
  | none => match viewL C r with
    | some l => if l.length = n then g l G C else none
    | none => none
theorem ig_tup {k n : Nat} {g : FGs} (hc : X.calm = true) (h : ImGs X tgs ns g) (hl : (assignEach tgs X.env).length = n := by rfl) (hst : (assignEach tgs X.env).findIdx? (·.1) = none := by rfl) : ImG X (.Tuple tgs k p) ns (gTp g n) :=
  fun b A G C s H r v G' S hr e q hq => by
    unfold gTp at e
    split at e
    · rename_i l e1
      split at e
      · rename_i e2
        obtain ⟨a, vs, ev, h1, h2⟩ := viewT_ok S e1 hr
        exact ⟨_, pg_tup hc wGs_ok hl hst, a, vs, ev, .inl (.inl h1), h2.length.symm.trans e2, h b A G C s H l vs G' S h2 e q hq⟩
      · cases e
    · split at e
      · rename_i l e1
        split at e
        · rename_i e2
          obtain ⟨a, vs, ev, h1, h2⟩ := viewL_ok S e1 hr
          exact ⟨_, pg_unl hc wGs_ok hl hst, a, vs, ev, .inl (.inl h1), h2.length.symm.trans e2, h b A G C s H l vs G' S h2 e q hq⟩
        · cases e
      · cases e
/-- target = e -/
def sTo (g : FG) (fe : FE) : FS := fun G C => sBind (fe G C) G fun r C => (g r G C).map fun G => (.nx, G, C)
/-- a, b = x, y (two local names) -/
def sPar (i j : Nat) (fa : FA) : FS := fun G C => sBind (fa G C) G fun rs C => match rs with
  | [x, y] => some (.nx, (G.set i (some x)).set j (some y), C)
  | _ => none
/-! ### fields -/
def lookE (f : Str) : List (Str × El) → Option El
  | [] => none
  | (g, x) :: l => if f = g then some x else lookE f l
def putE (f : Str) (r : El) : List (Str × El) → List (Str × El)
  | [] => [(f, r)]
  | (g, x) :: q => if g = f then (g, r) :: q else (g, x) :: putE f r q
theorem lookE_rep {R : El → V → Prop} {f : Str} {r : El} : ∀ {fs : List (Str × El)} {gs : List (Str × V)}, All2 (fun p q => p.1 = q.1 ∧ R p.2 q.2) fs gs → lookE f fs = some r → ∃ v, gs.lookup f = some v ∧ R r v
  | _, _, .nil, h => by cases h
  | (g, x) :: fs, (g', y) :: gs, .cons ⟨e, q⟩ t, h => by
    have e' : g = g' := e
    subst e'
    unfold lookE at h
    rw [List.lookup_cons]
    split at h
    · rename_i hc
      cases h
      subst hc
      exact ⟨y, by simp, q⟩
    · rename_i hc
      have hc' : (f == g) = false := by simpa using hc
      rw [hc']
      exact lookE_rep t h
theorem putE_rep {R : El → V → Prop} {f : Str} {r : El} {v : V} (h : R r v) : ∀ {fs : List (Str × El)} {gs : List (Str × V)}, All2 (fun p q => p.1 = q.1 ∧ R p.2 q.2) fs gs → All2 (fun p q => p.1 = q.1 ∧ R p.2 q.2) (putE f r fs) (putF f v gs)
  | _, _, .nil => .cons ⟨rfl, h⟩ .nil
  | (g, x) :: fs, (g', y) :: gs, .cons ⟨e, q⟩ t => by
    have e' : g = g' := e
    subst e'
    unfold putE putF
    split
    · exact .cons ⟨rfl, h⟩ t
    · exact .cons ⟨rfl, q⟩ (putE_rep h t)
variable {f : Str} {cs : List Str}
/-- o.f, o an instance of one of the classes cs -/
def eFld (f : Str) (cs : List Str) (fo : FE) : FE := fun G C => (fo G C).bind fun r C => match viewI C r with
  | some (n, fs) => if cs.contains n = true then (lookE f fs).map fun r => (.ok r, C) else none
  | none => none
theorem im_fld {fo : FE} (ho : ImE X o fo) (hc : ∀ n, cs.contains n = true → Cls X.K (He.ga X.K n) ∧ NoAttr X.K (He.ga X.K n) f) (hb : attributeBase o f X.env (eval o X.env) = eval o X.env := by rfl) : ImE X (.Attribute o f p) (eFld f cs fo) := fun bb A G C s H W S tk o' h k q => by
  refine ⟨_, pe_fld wE_ok hb, ?_⟩
  rcases bind_inv h with ⟨x, C1, h1, rfl⟩ | ⟨r, C1, h1, h⟩
  · exact ho.er S tk h1 q _
  · split at h
    · rename_i n fs e1
      split at h
      · rename_i hn
        cases e2 : lookE f fs with
        | none => rw [e2] at h; cases h
        | some y =>
          rw [e2] at h
          cases h
          refine ho.ok S tk h1 fun v A1 H1 S1 g1 r1 => ?_
          obtain ⟨a, dx, vs, ev, h3, h4⟩ := viewI_ok S1 e1 r1
          obtain ⟨w, h5, h6⟩ := lookE_rep (R := RepE X.K A1 C1 H1) h4 e2
          exact ⟨a, _, dx, vs, w, ev, h3, (hc n hn).1, (hc n hn).2, h5, q.ok _ _ rfl w A1 H1 S1 h6⟩
      · cases h
    · cases h
/-- o.f = e -/
def sFld (f : Str) (cs : List Str) (fe fo : FE) : FS := fun G C => sBind (fe G C) G fun y C => sBind (fo G C) G fun r C => match r with
  | .at m => match C[m]? with
    | some (some (.ins n fs)) => if cs.contains n = true ∧ fs.length < 1000 then some (.nx, G, C.set m (some (.ins n (putE f y fs)))) else none
    | _ => none
  | _ => none
theorem is_fld {fe fo : FE} (he : ImE X e fe) (ho : ImE X o fo) (hc : ∀ n, cs.contains n = true → Cls X.K (He.ga X.K n) ∧ NoAttr X.K (He.ga X.K n) f)
    (hs : swapsWith e (some (.Attribute o f p')) p.line X.env = pure false := by rfl) : ImS X (.Assign [.Attribute o f p'] e p) (sFld f cs fe fo) := fun b A G C s H W S tk o' h D q => by
  refine ⟨_, ps_fld wE_ok wE_ok hs, ?_⟩
  rcases sBind_inv h with ⟨x, C1, h1, rfl⟩ | ⟨y, C1, h1, h⟩
  · exact he.erS S tk h1 q _
  rcases sBind_inv h with ⟨x, C2, h2, rfl⟩ | ⟨r, C2, h2, h⟩
  · exact he.ok S tk h1 fun vy A1 H1 S1 g1 ry => ho.erS S1 tk h2 q _
  split at h
  · rename_i m
    split at h
    · rename_i n fs e1
      split at h
      · rename_i hn
        cases h
        refine he.ok S tk h1 fun vy A1 H1 S1 g1 ry => ho.ok S1 tk h2 fun v A2 H2 S2 g2 r2 => ?_
        obtain ⟨a, ea, ev⟩ := r2
        obtain ⟨dx, fvs, h3, h4⟩ := S2.cell m a _ ea e1
        refine ⟨a, _, dx, fvs, ev, h3, (hc n hn.1).1, (hc n hn.1).2, by rw [← h4.length]; exact hn.2, q A2 s _ (S2.cellSet ea e1 ?_)⟩
        have g : Go A2 C2 H2 A2 (C2.set m (some (.ins n (putE f y fs)))) (upd H2 a (.ins (He.ga X.K n) dx (putF f vy fvs))) := goSet ea e1
        exact ⟨dx, putF f vy fvs, upd_same, pairEs_go g (putE_rep (R := RepE X.K A2 C2 H2) (ry.go g2) h4)⟩
      · cases h
    · cases h
  · cases h

/-! ### o[i] = e -/
variable {i : Expr}
def putKE {κ : Type} [DecidableEq κ] (l : List (κ × El)) (k : κ) (v : El) : List (κ × El) :=
  if (l.any fun kv => decide (kv.1 = k)) = true then l.map (fun kv => if kv.1 = k then (kv.1, v) else kv) else l ++ [(k, v)]
theorem putKE_rep {κ : Type} [DecidableEq κ] {R : El → V → Prop} {k : κ} {r : El} {v : V} (h : R r v) {l : List (κ × El)} {vs : List (κ × V)} (hl : All2 (fun p q => p.1 = q.1 ∧ R p.2 q.2) l vs) : All2 (fun p q => p.1 = q.1 ∧ R p.2 q.2) (putKE l k r) (putK vs k v) := by
  have ha : (l.any fun kv => decide (kv.1 = k)) = (vs.any fun kv => decide (kv.1 = k)) := by
    induction hl with
    | nil => rfl
    | cons a _ ih => rw [List.any_cons, List.any_cons, ih, a.1]
  unfold putKE putK
  rw [ha]
  split
  · clear ha
    induction hl with
    | nil => exact .nil
    | @cons a b _ _ q t ih =>
      rename_i hh
      refine .cons ?_ ?_
      · obtain ⟨ak, ax⟩ := a
        obtain ⟨bk, bx⟩ := b
        obtain ⟨q1, q2⟩ := q
        have q1' : ak = bk := q1
        subst q1'
        dsimp only
        split
        · exact ⟨rfl, h⟩
        · exact ⟨rfl, q2⟩
      · have go : ∀ {l : List (κ × El)} {vs : List (κ × V)}, All2 (fun p q => p.1 = q.1 ∧ R p.2 q.2) l vs → All2 (fun p q => p.1 = q.1 ∧ R p.2 q.2) (l.map (fun kv => if kv.1 = k then (kv.1, r) else kv)) (vs.map (fun kv => if kv.1 = k then (kv.1, v) else kv)) := by
          intro l vs hl
          induction hl with
          | nil => exact .nil
          | @cons a b _ _ q _ ih2 =>
            refine .cons ?_ ih2
            obtain ⟨ak, ax⟩ := a
            obtain ⟨bk, bx⟩ := b
            obtain ⟨q1, q2⟩ := q
            have q1' : ak = bk := q1
            subst q1'
            dsimp only
            split
            · exact ⟨rfl, h⟩
            · exact ⟨rfl, q2⟩
        exact go t
  · exact hl.append (.cons ⟨rfl, h⟩ .nil)
def oPut (C : Cs) (o i y : El) : Option Cs := match o with
  | .at m => match C[m]? with
    | some (some (.dk none l)) => match keyE i with
      | some k => if l.length < sizeLine then some (C.set m (some (.dk none (putKE l k y)))) else none
      | none => none
    | some (some (.dt none l)) => match keyT i with
      | some k => if l.length < sizeLine then some (C.set m (some (.dt none (putKE l k y)))) else none
      | none => none
    | some (some (.lst l)) => match i with
      | .v (.int n) => match ixN l.length n with
        | some j => some (C.set m (some (.lst (l.set j y))))
        | none => none
      | _ => none
    | _ => none
  | _ => none
/-- o[i] = e; lst: o is a list -/
def sPut (fe fo fi : FE) : FS := fun G C => sBind (fe G C) G fun y C => sBind (fo G C) G fun r C => sBind (fi G C) G fun i C => (oPut C r i y).map fun C => (.nx, G, C)
theorem oPut_k {K : Fg} {b : Bs} {A : List Addr} {G : Gs} {C : Cs} {s : St} {H : Hp} {o i y : El} {C' : Cs} {vo vi vy : V} (S : Sat K b A G C s H) (h : oPut C o i y = some C') (ro : RepE K A C H o vo) (ri : RepE K A C H i vi) (ry : RepE K A C H y vy) :
    (∃ a H', vo = .ref a ∧ DPut H a vi vy H' ∧ Sat K b A G C' s H') ∨ ∃ a xs n j, vo = .ref a ∧ vi = .int n ∧ H a = some (.lst xs) ∧ ixN xs.length n = some j ∧ Sat K b A G C' s (upd H a (.lst (xs.set j vy))) := by
  unfold oPut at h
  split at h
  · rename_i m
    obtain ⟨a, ea, ev⟩ := ro
    split at h
    · rename_i l e1
      split at h
      · rename_i k e2
        split at h
        · rename_i hl
          cases h
          obtain ⟨vs, h3, h4⟩ := S.cell m a _ ea e1
          rw [keyE_ok e2 ri]
          refine .inl ⟨a, _, ev, DPut.k h3 (by rw [← h4.length]; exact hl), S.cellSet ea e1 ?_⟩
          exact ⟨_, upd_same, pairEs_go (goSet ea e1) (putKE_rep (R := RepE K A C H) ry h4)⟩
        · cases h
      · cases h
    · rename_i l e1
      split at h
      · rename_i k e2
        split at h
        · rename_i hl
          cases h
          obtain ⟨vs, h3, h4⟩ := S.cell m a _ ea e1
          obtain ⟨t, et, ht⟩ := keyT_ok e2 ri
          rw [et]
          refine .inl ⟨a, _, ev, DPut.t h3 ht (by rw [← h4.length]; exact hl), S.cellSet ea e1 ?_⟩
          exact ⟨_, upd_same, pairEs_go (goSet ea e1) (putKE_rep (R := RepE K A C H) ry h4)⟩
        · cases h
      · cases h
    · rename_i l e1
      split at h
      · rename_i n
        split at h
        · rename_i j e2
          cases h
          obtain ⟨vs, h3, h4⟩ := S.cell m a _ ea e1
          refine .inr ⟨a, vs, n, j, ev, ri, h3, by rw [← h4.length]; exact e2, S.cellSet ea e1 ?_⟩
          exact ⟨_, upd_same, repEs_go (goSet ea e1) (h4.set ry j)⟩
        · cases h
      · cases h
    · cases h
  · cases h
/-- what stands at the object put to is a list -/
def isLst (C : Cs) : El → Bool
  | .at m => match C[m]? with
    | some (some (.lst _)) => true
    | _ => false
  | _ => false
theorem is_put {fe fo fi : FE} (he : ImE X e fe) (ho : ImE X o fo) (hi : ImE X i fi) (hu : X.A.units + 1 < cLine)
    (hs : swapsWith e (some (.Subscript o i p')) p.line X.env = pure false := by rfl)
    (hs2 : swapsWithSole [.Subscript o i p'] e p.line X.env = pure false := by rfl) (hw : swappedStores [.Subscript o i p'] e X.env = pure none := by rfl) (h1 : (assignEach [.Subscript o i p'] X.env).map (·.2) = [assign (.Subscript o i p') X.env] := by rfl)
    (hg : PG X (.Subscript o i p') (gSub (wE X o) (wE X i) rSetL) := by exact pg_sub wE_ok wE_ok set_list) : ImS X (.Assign [.Subscript o i p'] e p) (sPut fe fo fi) := fun b A G C s H W S tk o' h D q => by
  have dict : wE X e s H (fun v H1 => wE X o s H1 fun x H2 => wE X i s H2 fun y H3 => ∃ a H4, x = .ref a ∧ DPut H3 a y v H4 ∧ D.nx s H4) → wS X (.Assign [.Subscript o i p'] e p) D s H := fun z => ⟨_, ps_dput hu wE_ok wE_ok wE_ok hs, z⟩
  have list : wE X e s H (fun v H1 => wE X o s H1 fun x H2 => wE X i s H2 fun y H3 => rSetL x y v H3 fun H4 => D.nx s H4) → wS X (.Assign [.Subscript o i p'] e p) D s H := fun z => ⟨_, ps_asg wE_ok hg hs2 hw h1, z⟩
  rcases sBind_inv h with ⟨x, C1, h1, rfl⟩ | ⟨y, C1, h1, h⟩
  · exact dict (he.erS S tk h1 q _)
  rcases sBind_inv h with ⟨x, C2, h2, rfl⟩ | ⟨r, C2, h2, h⟩
  · exact dict (he.ok S tk h1 fun vy A1 H1 S1 g1 ry => ho.erS S1 tk h2 q _)
  rcases sBind_inv h with ⟨x, C3, h3, rfl⟩ | ⟨i', C3, h3, h⟩
  · exact dict (he.ok S tk h1 fun vy A1 H1 S1 g1 ry => ho.ok S1 tk h2 fun vo A2 H2 S2 g2 ro => hi.erS S2 tk h3 q _)
  cases h4 : oPut C3 r i' y with
  | none => rw [h4] at h; cases h
  | some C' =>
    rw [h4] at h
    cases h
    cases hl : isLst C3 r with
    | true =>
      refine list (he.ok S tk h1 fun vy A1 H1 S1 g1 ry => ho.ok S1 tk h2 fun vo A2 H2 S2 g2 ro => hi.ok S2 tk h3 fun vi A3 H3 S3 g3 ri => ?_)
      rcases oPut_k S3 h4 (ro.go g3) ri ((ry.go g2).go g3) with ⟨a, H', ev, hp, S'⟩ | ⟨a, xs, n, j, ev, ei, ha, hj, S'⟩
      · exfalso
        unfold isLst at hl
        split at hl
        · rename_i m
          split at hl
          · rename_i l e1
            obtain ⟨a', ea, ev'⟩ := ro.go g3
            obtain ⟨vs, hv, _⟩ := S3.cell m a' _ ea e1
            rw [ev] at ev'
            cases ev'
            rcases hp with ⟨_, _, z, _⟩ | ⟨_, _, _, z, _⟩
            · rw [hv] at z; cases z
            · rw [hv] at z; cases z
          · cases hl
        · cases hl
      · exact ⟨a, xs, n, j, ev, ei, ha, hj, q A3 s _ S'⟩
    | false =>
      refine dict (he.ok S tk h1 fun vy A1 H1 S1 g1 ry => ho.ok S1 tk h2 fun vo A2 H2 S2 g2 ro => hi.ok S2 tk h3 fun vi A3 H3 S3 g3 ri => ?_)
      rcases oPut_k S3 h4 (ro.go g3) ri ((ry.go g2).go g3) with ⟨a, H', ev, hp, S'⟩ | ⟨a, xs, n, j, ev, ei, ha, hj, S'⟩
      · exact ⟨a, H', ev, hp, q A3 s _ S'⟩
      · exfalso
        unfold oPut at h4
        split at h4
        · rename_i m
          obtain ⟨a', ea, ev'⟩ := ro.go g3
          rw [ev] at ev'
          cases ev'
          split at h4
          · rename_i l e1
            obtain ⟨vs, hv, _⟩ := S3.cell m _ _ ea e1
            rw [hv] at ha; cases ha
          · rename_i l e1
            obtain ⟨vs, hv, _⟩ := S3.cell m _ _ ea e1
            rw [hv] at ha; cases ha
          · rename_i l e1
            unfold isLst at hl
            simp only [e1] at hl
            cases hl
          · cases h4
        · cases h4
end
end R
namespace R
open PySem L2

/-! ### dropping cells -/
mutual
def closedE (n : Nat) : El → Bool
  | .v _ => true
  | .at m => decide (m < n)
  | .tp l => closedEs n l
def closedEs (n : Nat) : List El → Bool
  | [] => true
  | e :: l => closedE n e && closedEs n l
end
def closedP {κ : Type} (n : Nat) : List (κ × El) → Bool
  | [] => true
  | p :: l => closedE n p.2 && closedP n l
def closedO (n : Nat) : Ob → Bool
  | .lst l => closedEs n l
  | .dk _ l => closedP n l
  | .dt _ l => closedP n l
  | .ins _ l => closedP n l
  | .tab _ _ => true
/-- cells from n on may go: those below lean on none of them -/
def okDrop (C C1 : Cs) (n : Nat) : Prop := C.length ≤ n ∧ n ≤ C1.length ∧ ∀ i o, i < n → C1[i]? = some (some o) → C[i]? = some (some o) ∨ closedO n o = true
section
variable {K : Fg} {b : Bs} {A A1 : List Addr} {G G1 : Gs} {C C1 : Cs} {s s1 : St} {H H1 : Hp} {n : Nat}
mutual
theorem closedE_of : ∀ {e : El} {v : V}, RepE K A C H e v → A.length ≤ n → closedE n e = true
  | .v _, _, _, _ => rfl
  | .at m, _, ⟨a, h, _⟩, hl => decide_eq_true (Nat.lt_of_lt_of_le (List.getElem?_eq_some_iff.mp h).1 hl)
  | .tp l, _, ⟨a, vs, _, _, h⟩, hl => closedEs_of h hl
theorem closedEs_of : ∀ {l : List El} {vs : List V}, RepEs K A C H l vs → A.length ≤ n → closedEs n l = true
  | [], _, _, _ => rfl
  | e :: l, _, ⟨v, r, _, h1, h2⟩, hl => by
    unfold closedEs
    rw [closedE_of h1 hl, closedEs_of h2 hl] <;> rfl
end
theorem closedP_of {κ : Type} {l : List (κ × El)} {vs : List (κ × V)} (h : All2 (PairE K A C H) l vs) (hl : A.length ≤ n) : closedP n l = true := by
  induction h with
  | nil => rfl
  | cons q _ ih =>
    unfold closedP
    rw [closedE_of q.2 hl, ih] <;> rfl
theorem closedO_of {a : Addr} {o : Ob} (h : CellOk K A C H a o) (hl : A.length ≤ n) : closedO n o = true := by
  cases o with
  | lst l => exact let ⟨vs, _, h2⟩ := h; closedEs_of (repEs_iff.mpr h2) hl
  | dk k l => cases k with
    | none => exact let ⟨vs, _, h2⟩ := h; closedP_of h2 hl
    | some ho => exact let ⟨_, vs, _, _, h2⟩ := h; closedP_of h2 hl
  | dt k l => cases k with
    | none => exact let ⟨vs, _, h2⟩ := h; closedP_of h2 hl
    | some ho => exact let ⟨_, vs, _, _, h2⟩ := h; closedP_of h2 hl
  | ins m l => exact let ⟨_, vs, _, h2⟩ := h; closedP_of h2 hl
  | tab p q => rfl
theorem live_take : ∀ {A : List Addr} {C : Cs} {n : Nat}, (live (A.take n) (C.take n)).Sublist (live A C)
  | [], _, n => by simp [live]
  | _ :: _, [], n => by cases n <;> simp [live]
  | a :: A, c :: C, 0 => by simp [live]
  | a :: A, some o :: C, n + 1 => by
    rw [List.take_succ_cons, List.take_succ_cons]
    exact (live_take (A := A) (C := C) (n := n)).cons_cons a
  | a :: A, none :: C, n + 1 => by
    rw [List.take_succ_cons, List.take_succ_cons]
    exact live_take (A := A) (C := C) (n := n)
theorem fz_take : Ex (fz A C H) (fz (A.take n) (C.take n) H) := fun a o h => by
  rw [mk_at fun z => mk_not h (live_take.subset z)]
  exact mk_of h
mutual
theorem RepE.take : ∀ {e : El} {v : V}, RepE K A C H e v → closedE n e = true → RepE K (A.take n) (C.take n) H e v
  | .v d, _, h, _ => Rep.mono fz_take h
  | .at m, _, ⟨a, h, e⟩, hc => ⟨a, by rw [List.getElem?_take_of_lt (of_decide_eq_true hc)]; exact h, e⟩
  | .tp l, _, ⟨a, vs, e, h1, h⟩, hc => ⟨a, vs, e, fz_take _ _ h1, RepEs.take h hc⟩
theorem RepEs.take : ∀ {l : List El} {vs : List V}, RepEs K A C H l vs → closedEs n l = true → RepEs K (A.take n) (C.take n) H l vs
  | [], _, h, _ => h
  | e :: l, _, ⟨v, r, ev, h1, h2⟩, hc => by
    unfold closedEs at hc
    obtain ⟨c1, c2⟩ := Bool.and_eq_true_iff.mp hc
    exact ⟨v, r, ev, RepE.take h1 c1, RepEs.take h2 c2⟩
end
theorem pairs_take {κ : Type} {l : List (κ × El)} {vs : List (κ × V)} (h : All2 (PairE K A C H) l vs) (hc : closedP n l = true) : All2 (PairE K (A.take n) (C.take n) H) l vs := by
  induction h with
  | nil => exact .nil
  | cons q _ ih =>
    unfold closedP at hc
    obtain ⟨c1, c2⟩ := Bool.and_eq_true_iff.mp hc
    exact .cons ⟨q.1, q.2.take c1⟩ (ih c2)
theorem CellOk.take {a : Addr} {o : Ob} (h : CellOk K A C H a o) (hc : closedO n o = true) : CellOk K (A.take n) (C.take n) H a o := by
  cases o with
  | lst l => exact let ⟨vs, h1, h2⟩ := h; ⟨vs, h1, repEs_iff.mp (RepEs.take (repEs_iff.mpr h2) hc)⟩
  | dk k l => cases k with
    | none => exact let ⟨vs, h1, h2⟩ := h; ⟨vs, h1, pairs_take h2 hc⟩
    | some ho => exact let ⟨o, vs, h0, h1, h2⟩ := h; ⟨o, vs, h0, h1, pairs_take h2 hc⟩
  | dt k l => cases k with
    | none => exact let ⟨vs, h1, h2⟩ := h; ⟨vs, h1, pairs_take h2 hc⟩
    | some ho => exact let ⟨o, vs, h0, h1, h2⟩ := h; ⟨o, vs, h0, h1, pairs_take h2 hc⟩
  | ins m l => exact let ⟨dx, vs, h1, h2⟩ := h; ⟨dx, vs, h1, pairs_take h2 hc⟩
  | tab p q => exact let ⟨h0, ps, h1, h2, h3⟩ := h; ⟨h0, ps, h1, h2, fun pos cv z => let ⟨c, e1, e2⟩ := h3 pos cv z; ⟨c, e1, fz_take _ _ e2⟩⟩
theorem pre_take {l r : List Addr} (h : l <+: r) {n : Nat} (hn : l.length ≤ n) : l <+: r.take n := by
  obtain ⟨x, rfl⟩ := h
  rw [List.take_append]
  rw [List.take_of_length_le hn]
  exact List.prefix_append _ _
/-- behind a call: what stood, and the first n cells -/
theorem Sat.drop (S : Sat K b A G C s H) (T : Sat K (Bs.now A C H) A1 G1 C1 s1 H1) (h : okDrop C C1 n) : Sat K b (A1.take n) G (C1.take n) s H1 := by
  obtain ⟨h0, h1, h2⟩ := h
  have hl : A.length ≤ n := by rw [S.len]; exact h0
  have go : Go A C H (A1.take n) (C1.take n) H1 := ⟨pre_take T.pre hl, T.ex.trans fz_take⟩
  refine ⟨by rw [List.length_take, List.length_take, T.len], T.nd.sublist live_take, S.ex.trans go.ex, S.pre.trans go.pre, fun i a o e1 e2 => ?_, S.slot.imp fun _ _ r => r.go go⟩
  have hi : i < n := by
    have := (List.getElem?_eq_some_iff.mp e1).1
    rw [List.length_take] at this
    omega
  rw [List.getElem?_take_of_lt hi] at e1 e2
  have c := T.cell i a o e1 e2
  refine c.take ?_
  rcases h2 i o hi e2 with z | z
  · have li : i < A.length := by
      rw [S.len]
      exact (List.getElem?_eq_some_iff.mp z).1
    exact closedO_of (S.cell i A[i] o (List.getElem?_eq_getElem li) z) hl
  · exact z
/-- cells from n on as plain data -/
def toDn (n : Nat) (C : Cs) : Nat → El → Option D
  | _, .v d => some d
  | 0, _ => none
  | k + 1, .tp l => (l.mapM (toDn n C k)).map .tup
  | k + 1, .at m => if m < n then none else match C[m]? with
    | some (some (.lst l)) => (l.mapM (toDn n C k)).map .lst
    | some (some (.dk none l)) => (l.mapM fun p => (toDn n C k p.2).map fun d => (p.1, d)).map .dk
    | some (some (.dt none l)) => (l.mapM fun p => (toDn n C k p.2).map fun d => (p.1, d)).map .dt
    | some (some (.ins c l)) => (l.mapM fun p => (toDn n C k p.2).map fun d => (p.1, d)).map (.ins c)
    | _ => none
theorem fz_cell (T : Sat K b A1 G1 C1 s1 H1) {m : Nat} {a : Addr} {o : Ob} {x : HO} (hA : A1[m]? = some a) (hC : C1[m]? = some (some o)) (hm : ¬ m < n) (h : H1 a = some x) : fz (A1.take n) (C1.take n) H1 a = some x := by
  rw [mk_at]
  · exact h
  · intro z
    obtain ⟨i, o', e1, e2⟩ := live_mem.mp z
    have hi : i < n := by
      have := (List.getElem?_eq_some_iff.mp e1).1
      rw [List.length_take] at this
      omega
    rw [List.getElem?_take_of_lt hi] at e1 e2
    exact hm (live_inj T.nd e1 e2 hA hC ▸ hi)
theorem toDn_ok (T : Sat K b A1 G1 C1 s1 H1) : ∀ {k : Nat} {e : El} {d : D} {v : V}, toDn n C1 k e = some d → RepE K A1 C1 H1 e v → Rep K (fz (A1.take n) (C1.take n) H1) d v
  | k, .v d, d', v, h, r => by
    have e : some d = some d' := by cases k <;> exact h
    cases e
    exact Rep.mono fz_take r
  | 0, .at _, _, _, h, _ => by cases h
  | 0, .tp _, _, _, h, _ => by cases h
  | k + 1, .tp l, d, v, h, ⟨a, vs, ev, h1, h2⟩ => by
    have go : ∀ {l : List El} {ds : List D} {vs : List V}, All2 (fun x d => toDn n C1 k x = some d) l ds → All2 (RepE K A1 C1 H1) l vs → All2 (Rep K (fz (A1.take n) (C1.take n) H1)) ds vs := by
      intro l ds vs q1
      induction q1 generalizing vs with
      | nil => intro q2; cases q2; exact .nil
      | cons q _ ih => intro q2; cases q2 with | cons r1 r2 => exact .cons (toDn_ok T q r1) (ih r2)
    unfold toDn at h
    cases e2 : l.mapM (toDn n C1 k) with
    | none => rw [e2] at h; cases h
    | some ds =>
      rw [e2] at h
      cases h
      exact ⟨a, vs, ev, fz_take _ _ h1, repL_iff.mpr (go (mapM_some e2) (repEs_iff.mp h2))⟩
  | k + 1, .at m, d, v, h, ⟨a, hA, ev⟩ => by
    have go : ∀ {l : List El} {ds : List D} {vs : List V}, All2 (fun x d => toDn n C1 k x = some d) l ds → All2 (RepE K A1 C1 H1) l vs → All2 (Rep K (fz (A1.take n) (C1.take n) H1)) ds vs := by
      intro l ds vs q1
      induction q1 generalizing vs with
      | nil => intro q2; cases q2; exact .nil
      | cons q _ ih => intro q2; cases q2 with | cons r1 r2 => exact .cons (toDn_ok T q r1) (ih r2)
    have goP : ∀ {κ : Type} {l : List (κ × El)} {ds : List (κ × D)} {vs : List (κ × V)}, All2 (fun (p : κ × El) (q : κ × D) => ((toDn n C1 k p.2).map fun d => (p.1, d)) = some q) l ds → All2 (PairE K A1 C1 H1) l vs → All2 (fun p q => p.1 = q.1 ∧ Rep K (fz (A1.take n) (C1.take n) H1) p.2 q.2) ds vs := by
      intro κ l ds vs q1
      induction q1 generalizing vs with
      | nil => intro q2; cases q2; exact .nil
      | @cons p q _ _ hq _ ih =>
        intro q2
        cases q2 with
        | cons r1 r2 =>
          cases e5 : toDn n C1 k p.2 with
          | none => rw [e5] at hq; cases hq
          | some d5 =>
            rw [e5] at hq
            cases hq
            exact .cons ⟨r1.1, toDn_ok T e5 r1.2⟩ (ih r2)
    unfold toDn at h
    split at h
    · cases h
    · rename_i hm
      cases hC : C1[m]? with
      | none => rw [hC] at h; cases h
      | some x =>
        cases x with
        | none => rw [hC] at h; cases h
        | some o =>
          rw [hC] at h
          have c := T.cell m a o hA hC
          cases o with
          | lst l =>
            obtain ⟨vs, h1, h2⟩ := c
            dsimp only at h
            cases e2 : l.mapM (toDn n C1 k) with
            | none => rw [e2] at h; cases h
            | some ds =>
              rw [e2] at h
              cases h
              exact ⟨a, vs, ev, fz_cell T hA hC hm h1, repL_iff.mpr (go (mapM_some e2) h2)⟩
          | dk lk l =>
            cases lk with
            | some ho => cases h
            | none =>
              obtain ⟨vs, h1, h2⟩ := c
              dsimp only at h
              cases e2 : (l.mapM fun p => (toDn n C1 k p.2).map fun d => (p.1, d)) with
              | none => rw [e2] at h; cases h
              | some ds =>
                rw [e2] at h
                cases h
                exact ⟨a, vs, ev, .inl (fz_cell T hA hC hm h1), repK_iff.mpr (goP (mapM_some e2) h2)⟩
          | dt lk l =>
            cases lk with
            | some ho => cases h
            | none =>
              obtain ⟨vs, h1, h2⟩ := c
              dsimp only at h
              cases e2 : (l.mapM fun p => (toDn n C1 k p.2).map fun d => (p.1, d)) with
              | none => rw [e2] at h; cases h
              | some ds =>
                rw [e2] at h
                cases h
                exact ⟨a, vs, ev, .inl (fz_cell T hA hC hm h1), repT_iff.mpr (goP (mapM_some e2) h2)⟩
          | ins c0 l =>
            obtain ⟨dx, vs, h1, h2⟩ := c
            dsimp only at h
            cases e2 : (l.mapM fun p => (toDn n C1 k p.2).map fun d => (p.1, d)) with
            | none => rw [e2] at h; cases h
            | some ds =>
              rw [e2] at h
              cases h
              exact ⟨a, dx, vs, ev, fz_cell T hA hC hm h1, repF_iff.mpr (goP (mapM_some e2) h2)⟩
          | tab p q => cases h
/-- a value that is handed on over the first n cells -/
def closeV (n : Nat) (C : Cs) (r : El) : Option El := if closedE n r = true then some r else (toDn n C 5 r).map .v
theorem closeV_ok (T : Sat K b A1 G1 C1 s1 H1) {r r' : El} {v : V} (h : closeV n C1 r = some r') (rr : RepE K A1 C1 H1 r v) : RepE K (A1.take n) (C1.take n) H1 r' v := by
  unfold closeV at h
  split at h
  · rename_i hc
    cases h
    exact rr.take hc
  · cases e : toDn n C1 5 r with
    | none => rw [e] at h; cases h
    | some d =>
      rw [e] at h
      cases h
      exact toDn_ok T e rr
theorem XRep.take {x : Exn} {c : Value} {d : Option Addr} (h : XRep K A C H x c d) : XRep K (A.take n) (C.take n) H x c d := by
  obtain ⟨h1, h2⟩ := h
  refine ⟨h1, ?_⟩
  revert h2
  cases x.fs with
  | none => exact id
  | some fs => exact fun ⟨a, fvs, e, h3, h4⟩ => ⟨a, fvs, e, fz_take _ _ h3, RepF.mono fz_take h4⟩
end

/-! ### what is walked -/
abbrev Wt := List El × (Cs → Prop)
abbrev FI := Gs → Cs → Mr Wt
structure Wk (K : Fg) (A : List Addr) (C : Cs) (H : Hp) (J : It) (r : Wt) : Prop where
  now : r.2 C
  go : ∀ b A' G' C' s' H', Sat K b A' G' C' s' H' → Go A C H A' C' H' → r.2 C' → ∀ i, i < r.1.length → J.go i H'
  stop : ∀ b A' G' C' s' H', Sat K b A' G' C' s' H' → Go A C H A' C' H' → r.2 C' → J.stop r.1.length H'
  yld : ∀ b A' G' C' s' H', Sat K b A' G' C' s' H' → Go A C H A' C' H' → r.2 C' → ∀ i e x H'', r.1[i]? = some e → J.yld i H' x H'' → Ex H' H'' ∧ RepE K A' C' H'' e x
abbrev ImI (X : Cx) (tg iter : Expr) (f : FI) : Prop := Im X (fun A C H r J => Wk X.K A C H J r) (wI X tg iter) f
section
variable {X : Cx} {tg e e2 : Expr} {p p2 : Pos}
/-- a list -/
def iLst (fe : FE) : FI := fun G C => (fe G C).bind fun r C => match viewS C r with
  | some l => some (.ok (l, fun C' => viewS C' r = some l), C)
  | none => none
theorem ii_list {fe : FE} (h : ImE X e fe) : ImI X tg e (iLst fe) := fun b A G C s H W S tk o ho k q => by
  refine ⟨_, pi_list wE_ok, ?_⟩
  rcases bind_inv ho with ⟨x, C1, h1, rfl⟩ | ⟨r, C1, h1, h2⟩
  · exact h.er S tk h1 q _
  · split at h2
    · rename_i l e1
      cases h2
      refine h.ok S tk h1 fun v A1 H1 S1 g1 r1 => ?_
      obtain ⟨a, vs, ev, hq, hv⟩ := viewS_ok S1 e1 r1
      refine ⟨a, ev, ⟨vs, hq⟩, q.ok _ _ rfl _ A1 H1 S1 ⟨e1, fun b' A' G' C' s' H' S' g' hw i hi => ?_, fun b' A' G' C' s' H' S' g' hw => ?_, fun b' A' G' C' s' H' S' g' hw i e x H'' he y => ?_⟩⟩
      · obtain ⟨a', vs', ev', hq', hv'⟩ := viewS_ok S' hw (r1.go g')
        rw [ev] at ev'
        cases ev'
        have hi' : i < vs'.length := by rw [← hv'.length]; exact hi
        exact ⟨vs', vs'[i], hq', by simp [hi']⟩
      · obtain ⟨a', vs', ev', hq', hv'⟩ := viewS_ok S' hw (r1.go g')
        rw [ev] at ev'
        cases ev'
        exact ⟨vs', hq', by rw [hv'.length]; exact Nat.le_refl _⟩
      · obtain ⟨a', vs', ev', hq', hv'⟩ := viewS_ok S' hw (r1.go g')
        rw [ev] at ev'
        cases ev'
        obtain ⟨eH, y⟩ := y
        subst eH
        obtain ⟨w, h5, h6⟩ := hv'.get he
        have z := y vs' hq'
        rw [h5] at z
        cases z
        exact ⟨Evl.Ex.refl _, h6⟩
    · cases h2
/-- a tuple -/
def iTup (fe : FE) : FI := fun G C => (fe G C).bind fun r C => match viewT C r with
  | some l => some (.ok (l, fun _ => True), C)
  | none => none
/-- range -/
def rngE (lo : Int) (n : Nat) : List El := (List.range n).map fun (i : Nat) => El.v (.int (lo + (i : Int)))
theorem rngE_len {lo : Int} {n : Nat} : (rngE lo n).length = n := by simp [rngE]
theorem rngE_get {lo : Int} {n i : Nat} {d : El} (h : (rngE lo n)[i]? = some d) : i < n ∧ d = .v (.int (lo + (i : Int))) := by
  unfold rngE at h
  rw [List.getElem?_map] at h
  cases e : (List.range n)[i]? with
  | none => rw [e] at h; cases h
  | some j =>
    rw [e] at h
    obtain ⟨h1, h2⟩ := List.getElem?_eq_some_iff.mp e
    have : j = i := by simpa using h2.symm
    subst this
    exact ⟨by simpa using h1, by simpa using h.symm⟩
theorem wk_rng {K : Fg} {A : List Addr} {C : Cs} {H : Hp} {lo : Int} {n : Nat} : Wk K A C H (Itr lo n) (rngE lo n, fun _ => True) where
  now := trivial
  go := fun _ _ _ _ _ _ _ _ _ i hi => by rw [rngE_len] at hi; exact hi
  stop := fun _ _ _ _ _ _ _ _ _ => by show n ≤ (rngE lo n).length; rw [rngE_len]; exact Nat.le_refl n
  yld := fun _ _ _ _ _ _ _ _ _ i e x H'' he y => by
    obtain ⟨e1, y⟩ := y
    subst e1 y
    obtain ⟨_, e⟩ := rngE_get he
    subst e
    exact ⟨Evl.Ex.refl _, rfl⟩
def iRng1 (fa : FA) : FI := fun G C => (fa G C).bind fun xs C => match xs with
  | [.v (.int n)] => if -(2 ^ 62) ≤ n ∧ n < 2 ^ 62 then some (.ok (rngE 0 n.toNat, fun _ => True), C) else none
  | _ => none
def iRng2 (fa : FA) : FI := fun G C => (fa G C).bind fun xs C => match xs with
  | [.v (.int m), .v (.int n)] => if -(2 ^ 62) ≤ m ∧ m < 2 ^ 62 ∧ -(2 ^ 62) ≤ n ∧ n < 2 ^ 62 then some (.ok (rngE m (n - m).toNat, fun _ => True), C) else none
  | _ => none
theorem ii_range1 {fa : FA} {q : Pos} (h : ImA X [e] fa) (hg : Gl X "range") (hm : X.mg "range" = none) (hs : starEach [e] X.env = [(false, eval e X.env)] := by rfl) : ImI X tg (.Call (.Name "range" q) [e] [] p) (iRng1 fa) := fun b A G C s H W S tk o ho k q => by
  refine ⟨_, pi_range1 hg hm wA_ok hs, ?_⟩
  rcases bind_inv ho with ⟨x, C1, h1, rfl⟩ | ⟨r, C1, h1, h2⟩
  · exact h.er S tk h1 q _
  · split at h2
    · rename_i n
      split at h2
      · rename_i hn
        cases h2
        refine h.ok S tk h1 fun vs A1 H1 S1 g1 r1 => ?_
        obtain ⟨v, rfl, rb⟩ := one_ r1
        exact ⟨n, congrArg (fun z => [z]) rb, hn.1, hn.2, q.ok _ _ rfl _ A1 H1 S1 wk_rng⟩
      · cases h2
    · cases h2
/-- enumerate -/
def enumE (l : List El) : List El := l.mapIdx fun i x => mkTup [.v (.int (i : Int)), x]
def iEnum (fa : FA) : FI := fun G C => (fa G C).bind fun xs C => match xs with
  | [r] => match viewS C r with
    | some l => some (.ok (enumE l, fun C' => viewS C' r = some l), C)
    | none => none
  | _ => none
/-- zip -/
def iZip (fa : FA) : FI := fun G C => (fa G C).bind fun xs C => match xs with
  | [r, r2] => match viewS C r, viewS C r2 with
    | some l, some l2 => some (.ok (List.zipWith (fun x y => mkTup [x, y]) l l2, fun C' => viewS C' r = some l ∧ viewS C' r2 = some l2), C)
    | _, _ => none
  | _ => none
/-- a text's signs -/
def iStr (fe : FE) : FI := fun G C => (fe G C).bind fun r C => match r with
  | .v (.str x) => some (.ok (x.cps.toList.map fun c => El.v (.str ⟨#[c]⟩), fun _ => True), C)
  | _ => none
theorem ii_str {fe : FE} (h : ImE X e fe) : ImI X tg e (iStr fe) := fun b A G C s H W S tk o ho k q => by
  refine ⟨_, pi_str wE_ok, ?_⟩
  rcases bind_inv ho with ⟨x, C1, h1, rfl⟩ | ⟨r, C1, h1, h2⟩
  · exact h.er S tk h1 q _
  · split at h2
    · rename_i x
      cases h2
      refine h.ok S tk h1 fun v A1 H1 S1 g1 r1 => ⟨x, r1, q.ok _ _ rfl _ A1 H1 S1 ⟨trivial, fun b' A' G' C' s' H' S' g' hw i hi => ?_, fun b' A' G' C' s' H' S' g' hw => ?_, fun b' A' G' C' s' H' S' g' hw i e y H'' he yl => ?_⟩⟩
      · show i < x.cps.size
        simpa using hi
      · show x.cps.size ≤ _
        simp
      · obtain ⟨eH, c, hc, ev⟩ := yl
        subst eH ev
        have hl : x.cps.toList[i]? = some c := by simpa using hc
        have he' : (x.cps.toList.map fun c => El.v (.str ⟨#[c]⟩))[i]? = some e := he
        rw [List.getElem?_map, hl] at he'
        cases he'
        exact ⟨Evl.Ex.refl _, rfl⟩
    · cases h2

/-! ### for, while -/
open Classical in
noncomputable def loopF (tg : FG) (body : FS) (w : Cs → Prop) : List El → Gs → Cs → Option (Fl × Gs × Cs)
  | [], G, C => if w C then some (.nx, G, C) else none
  | x :: l, G, C => if w C then match tg x G C with
    | none => none
    | some G1 => match body G1 C with
      | some (.nx, G2, C2) => loopF tg body w l G2 C2
      | some (.ct, G2, C2) => loopF tg body w l G2 C2
      | some (.bk, G2, C2) => some (.nx, G2, C2)
      | o => o
    else none
noncomputable def sFor (tg : FG) (it : FI) (body : FS) : FS := fun G C => sBind (it G C) G fun r C => loopF tg body r.2 r.1 G C
variable {iter : Expr} {body : List Stmt} {ns : List Nat}
/-- a for's walk, from the iterator on -/
theorem for_core {g : FG} {fb : FS} {w : Cs → Prop} {items : List El} {J : It} {A1 : List Addr} {G : Gs} {C1 : Cs} {s : St} {H1 : Hp} {b : Bs} {W : WX} {o : Fl × Gs × Cs} {D : Ends} (S1 : Sat X.K b A1 G C1 s H1) (wk : Wk X.K A1 C1 H1 J (items, w)) (h : loopF g fb w items G C1 = some o)
    (hg : ImG X tg ns g) (hb : ImB X body fb) (tk : Takes X W) (q : PoS X.K b D W o) :
    ∃ Wf : Nat → Nat → St → Hp → Prop, (∃ m, Wf 0 m s H1) ∧ ∀ i m s H, Wf i m s H → (J.stop i H ∧ D.nx s H) ∨ (J.go i H ∧ ∃ N : St → Hp → Prop, (∀ σ' H', N σ' H' → ∃ m', m' < m ∧ Wf (i + 1) m' σ' H') ∧ ∀ x H', J.yld i H x H' → wG X tg x s H' fun σ2 H2 => wB X body { D with nx := N, ct := N, bk := D.nx } σ2 H2) := by
  refine ⟨fun i m s H => m = items.length - i ∧ i ≤ items.length ∧ ∃ A2 G2 C2, Sat X.K (Bs.now A1 C1 H1) A2 G2 C2 s H ∧ loopF g fb w (items.drop i) G2 C2 = some o, ⟨_, rfl, Nat.zero_le _, A1, G, C1, S1.now, h⟩, ?_⟩
  rintro i m s2 H2 ⟨rfl, hi2, A2, G2, C2, S2, h2⟩
  have go2 := S2.go
  by_cases hlt : i < items.length
  · have hx : items.drop i = items[i] :: items.drop (i + 1) := List.drop_eq_getElem_cons hlt
    rw [hx] at h2
    unfold loopF at h2
    split at h2
    · rename_i hw
      refine .inr ⟨wk.go _ _ _ _ _ _ S2 go2 hw i hlt, fun s H => ∃ A3 G3 C3, Sat X.K (Bs.now A1 C1 H1) A3 G3 C3 s H ∧ loopF g fb w (items.drop (i + 1)) G3 C3 = some o, fun s' H' ⟨A3, G3, C3, S3, h3⟩ => ⟨items.length - (i + 1), by omega, rfl, hlt, A3, G3, C3, S3, h3⟩, fun x H3 y => ?_⟩
      obtain ⟨e3, r3⟩ := wk.yld _ _ _ _ _ _ S2 go2 hw i items[i] x H3 (by simp [hlt]) y
      have S3 := S2.ext e3
      cases e4 : g items[i] G2 C2 with
      | none => rw [e4] at h2; cases h2
      | some G3 =>
        rw [e4] at h2
        dsimp only at h2
        refine hg _ A2 G2 C2 s2 H3 items[i] x G3 S3 r3 e4 _ fun s4 S4 _ _ => ?_
        cases e5 : fb G3 C2 with
        | none => rw [e5] at h2; cases h2
        | some o5 =>
          obtain ⟨fl, G5, C5⟩ := o5
          rw [e5] at h2
          refine hb _ A2 G3 C2 s4 H3 W S4 tk _ e5 _ ?_
          cases fl with
          | nx => exact fun A6 s6 H6 S6 => ⟨A6, G5, C5, S6, h2⟩
          | ct => exact fun A6 s6 H6 S6 => ⟨A6, G5, C5, S6, h2⟩
          | bk =>
            cases h2
            exact fun A6 s6 H6 S6 => q A6 s6 H6 (S1.back S6)
          | rt r =>
            cases h2
            exact fun v A6 s6 H6 S6 rr => q v A6 s6 H6 (S1.back S6) rr
          | er x =>
            cases h2
            exact fun c d A6 s6 H6 S6 rr => q c d A6 s6 H6 (S1.back S6) rr
    · cases h2
  · have e : i = items.length := by omega
    subst e
    rw [List.drop_length] at h2
    unfold loopF at h2
    split at h2
    · rename_i hw
      cases h2
      exact .inl ⟨wk.stop _ _ _ _ _ _ S2 go2 hw, q A2 s2 H2 (S1.back S2)⟩
    · cases h2
theorem is_for {g : FG} {it : FI} {fb : FS} (hi : ImI X tg iter it) (hg : ImG X tg ns g) (hb : ImB X body fb) (hc : X.calm = true) (hp : PassesOwn (model X.prog X.w) X.A X.env X.xe)
    (hs : ∀ x, foldedSetIterable iter X.env x = pure x := by intro _; rfl) : ImS X (.For tg iter body [] p) (sFor g it fb) := fun b A G C s H W S tk o h D q => by
  refine ⟨_, ps_for hp hc wI_ok wG_ok wB_ok hs, ?_⟩
  rcases sBind_inv h with ⟨x, C1, h1, rfl⟩ | ⟨r, C1, h1, h⟩
  · exact hi.erS S tk h1 q _
  · exact hi.ok S tk h1 fun J A1 H1 S1 g1 wk => for_core S1 wk h hg hb tk q
def FUEL : Nat := 1000000000
def whileF (c : FT) (fb : FS) : Nat → FS
  | 0 => fun _ _ => none
  | n + 1 => fun G C => sBind (c G C) G fun t C => if t = true then match fb G C with
    | some (.nx, G2, C2) => whileF c fb n G2 C2
    | some (.ct, G2, C2) => whileF c fb n G2 C2
    | some (.bk, G2, C2) => some (.nx, G2, C2)
    | o => o
    else some (.nx, G, C)
def sWhile (c : FT) (fb : FS) : FS := whileF c fb FUEL
end
end R
namespace R
open PySem L2

/-! ### comprehensions -/
def wipeG (G : Gs) : List Nat → Gs
  | [] => G
  | v :: vs => (wipeG G vs).set v none
theorem wipe_slots {K : Fg} {A : List Addr} {C : Cs} {H : Hp} {G : Gs} {s : St} (h : All2 (SlotE K A C H) G s) : ∀ vs : List Nat, All2 (SlotE K A C H) (wipeG G vs) (wipe s vs)
  | [] => h
  | v :: vs => (wipe_slots h vs).set (fun _ z => by cases z) v
theorem wipe_get {s : St} {i : Nat} : ∀ {vs : List Nat}, i ∈ vs → i < s.length → (wipe s vs)[i]? = some none
  | [], h, _ => by cases h
  | v :: vs, h, hl => by
    unfold wipe
    by_cases hi : v = i
    · subst hi
      rw [List.getElem?_set_self (by rw [wipe_length]; exact hl)]
    · rw [List.getElem?_set_ne hi]
      exact wipe_get (by
        rcases List.mem_cons.mp h with z | z
        · exact absurd z.symm hi
        · exact z) hl
theorem wipe_same {s s' : St} {vs ns : List Nat} (hn : ∀ i ∈ ns, i ∈ vs) (f : ∀ i, i ∉ ns → s'[i]? = s[i]?) (hl : s'.length = s.length) : wipe s' vs = wipe s vs := by
  apply List.ext_getElem?
  intro i
  by_cases hi : i ∈ vs
  · by_cases h : i < s.length
    · rw [wipe_get hi h, wipe_get hi (by rw [hl]; exact h)]
    · rw [List.getElem?_eq_none (by rw [wipe_length]; omega), List.getElem?_eq_none (by rw [wipe_length]; omega)]
  · rw [wipe_out hi, wipe_out hi]
    exact f i fun z => hi (hn i z)
theorem wipe_twice {s : St} {vs : List Nat} : wipe (wipe s vs) vs = wipe s vs := by
  apply List.ext_getElem?
  intro i
  by_cases hi : i ∈ vs
  · by_cases h : i < s.length
    · rw [wipe_get hi h, wipe_get hi (by rw [wipe_length]; exact h)]
    · rw [List.getElem?_eq_none (by rw [wipe_length, wipe_length]; omega), List.getElem?_eq_none (by rw [wipe_length]; omega)]
  · rw [wipe_out hi]
theorem Sat.wiped {K : Fg} {b : Bs} {A : List Addr} {G : Gs} {C : Cs} {s : St} {H : Hp} (S : Sat K b A G C s H) (vs : List Nat) : Sat K b A (wipeG G vs) C (wipe s vs) H := S.slots (wipe_slots S.slot vs)
theorem takes_false {X : Cx} : Takes X (fun _ _ _ _ => False) := fun _ _ ⟨_, _, _, _, _, _, _, _, _, _, _, _, _, _, _, _, w⟩ => w.elim
def tTrue : FT := fun _ C => some (.ok true, C)
open Classical in
noncomputable def lcF (tg : FG) (tst : FT) (elt : FE) (w : Cs → Prop) (vs : List Nat) (n : Nat) (G : Gs) : List El → Cs → Option Cs
  | [], C => if w C then some C else none
  | x :: l, C => if w C then match tg x (wipeG G vs) C with
    | none => none
    | some G1 => match tst G1 C with
      | some (.ok t, C1) => if t = true then match elt G1 C1 with
        | some (.ok r, C2) => match C2[n]? with
          | some (some (.lst acc)) => if acc.length < sizeLine then lcF tg tst elt w vs n G l (C2.set n (some (.lst (acc ++ [r])))) else none
          | _ => none
        | _ => none
        else lcF tg tst elt w vs n G l C1
      | _ => none
    else none
open Classical in
/-- the list that was made: a cell, or plain data -/
noncomputable def lcEnd (own : Bool) (C1 C2 : Cs) : Mr El := if own = true then some (.ok (.at C1.length), C2) else if okDrop C1 C2 C1.length then match closeV C1.length C2 (.at C1.length) with
  | some r => some (.ok r, C2.take C1.length)
  | none => none
  else none
noncomputable def eLc (own : Bool) (vs : List Nat) (tg : FG) (it : FI) (tst : FT) (elt : FE) : FE := fun G C => (it G C).bind fun r C1 => match lcF tg tst elt r.2 vs C1.length G r.1 (C1 ++ [some (.lst [])]) with
  | some C2 => lcEnd own C1 C2
  | none => none
section
variable {X : Cx} {e elt tg iter : Expr} {ifs : List Expr} {p : Pos} {ns : List Nat} {scope : Scope}
theorem its_nil : ImTs X [] tTrue := Im.pure fun b A G C s H S o h => by
  cases h
  exact ⟨_, _, rfl, fun k q => ⟨_, pts_nil, q true A H S rfl⟩⟩
theorem its_one {f : FT} (h : ImT X e f) : ImTs X [e] f := fun b A G C s H W S tk o ho k q => ⟨_, pts_one wT_ok, h b A G C s H W S tk o ho k q⟩
/-- the block's context -/
abbrev Blk (X : Cx) (scope : Scope) (P : Cx → Prop) : Prop := ∀ (s : Shared) (H : Hp) (c : Addr) (cl : List (Str × Addr)) (fp : List Addr), P (X.blk s H scope (compEnvC scope cl c X.env) fp)
def bG (X : Cx) (scope : Scope) (tg : Expr) : TG := fun v s H k => Blk X scope fun Y => wG Y tg v s H k
def bT (X : Cx) (scope : Scope) (ifs : List Expr) : TT := fun s H k => Blk X scope fun Y => wTs Y ifs s H k
def bE (X : Cx) (scope : Scope) (e : Expr) : TE := fun s H k => Blk X scope fun Y => wE Y e s H k
/-- the walk of a comprehension, from the iterator on -/
theorem lc_core2 {gf : FG} {tst : FT} {ef : FE} {w : Cs → Prop} {items : List El} {J : It} {A1 : List Addr} {G : Gs} {C1 C2 : Cs} {s : St} {H1 : Hp} {b : Bs} {vs : List Nat} {own : Bool} {o : Rz El × Cs} {k : VK} (S1 : Sat X.K b A1 G C1 s H1) (wk : Wk X.K A1 C1 H1 J (items, w)) (h : lcF gf tst ef w vs C1.length G items (C1 ++ [some (.lst [])]) = some C2) (h2 : lcEnd own C1 C2 = some o)
    (hg : Blk X scope fun Y => ImG Y tg ns gf) (ht : Blk X scope fun Y => ImTs Y ifs tst) (he : Blk X scope fun Y => ImE Y elt ef) (hn : ∀ i ∈ ns, i ∈ vs)
    (q : ∀ r C', o = (.ok r, C') → ∀ v A' H', Sat X.K b A' G C' s H' → RepE X.K A' C' H' r v → k v H') :
    ∀ D, H1 D = none → ∃ Wf : Nat → Nat → Hp → Prop, (∃ m, Wf 0 m (upd H1 D (.lst []))) ∧ ∀ i m H, Wf i m H →
      (J.stop i H ∧ k (.ref D) H) ∨ (J.go i H ∧ ∃ Nx : Hp → Prop, (∀ H', Nx H' → ∃ m', m' < m ∧ Wf (i + 1) m' H') ∧ ∀ x H', J.yld i H x H' → bG X scope tg x (wipe s vs) H' fun σ2 H2 => wipe σ2 vs = wipe s vs ∧ bT X scope ifs σ2 H2 fun b H3 =>
        if b = true then bE X scope elt σ2 H3 fun y H4 => ∃ acc, H4 D = some (.lst acc) ∧ acc.length < sizeLine ∧ Nx (upd H4 D (.lst (acc ++ [y]))) else Nx H3) := by
  intro D hD
  have SD := S1.cellNew (o := .lst []) hD ⟨[], upd_same, .nil⟩
  have gD : Go A1 C1 H1 (A1 ++ [D]) (C1 ++ [some (.lst [])]) (upd H1 D (.lst [])) := S1.goNew hD
  have hDl : (A1 ++ [D])[C1.length]? = some D := by rw [← S1.len]; simp
  refine ⟨fun i m H => m = items.length - i ∧ i ≤ items.length ∧ ∃ A2 C3, Sat X.K (Bs.now (A1 ++ [D]) (C1 ++ [some (.lst [])]) (upd H1 D (.lst []))) A2 G C3 s H ∧ lcF gf tst ef w vs C1.length G (items.drop i) C3 = some C2, ⟨_, rfl, Nat.zero_le _, _, _, SD.now, h⟩, ?_⟩
  rintro i m H2 ⟨rfl, hi2, A2, C3, S2, h3⟩
  have go2 := gD.trans S2.go
  have hD2 : A2[C1.length]? = some D := pre_get S2.pre hDl
  by_cases hlt : i < items.length
  · have hx : items.drop i = items[i] :: items.drop (i + 1) := List.drop_eq_getElem_cons hlt
    rw [hx] at h3
    unfold lcF at h3
    split at h3
    · rename_i hw
      refine .inr ⟨wk.go _ _ _ _ _ _ S2 go2 hw i hlt, fun H => ∃ A2 C3, Sat X.K (Bs.now (A1 ++ [D]) (C1 ++ [some (.lst [])]) (upd H1 D (.lst []))) A2 G C3 s H ∧ lcF gf tst ef w vs C1.length G (items.drop (i + 1)) C3 = some C2, fun H' ⟨A3, C4, S4, h4⟩ => ⟨items.length - (i + 1), by omega, rfl, hlt, A3, C4, S4, h4⟩, fun x H3 y => ?_⟩
      obtain ⟨e3, r3⟩ := wk.yld _ _ _ _ _ _ S2 go2 hw i items[i] x H3 (by simp [hlt]) y
      have S3 := S2.ext e3
      cases e4 : gf items[i] (wipeG G vs) C3 with
      | none => rw [e4] at h3; cases h3
      | some G1 =>
        rw [e4] at h3
        dsimp only at h3
        intro s' H' c cl fp
        refine hg s' H' c cl fp _ A2 (wipeG G vs) C3 (wipe s vs) H3 items[i] x G1 (S3.wiped vs) r3 e4 _ fun s4 S4 f4 l4 => ?_
        refine ⟨by rw [wipe_same hn f4 l4]; exact wipe_twice, ?_⟩
        intro s' H' c cl fp
        cases e5 : tst G1 C3 with
        | none => rw [e5] at h3; cases h3
        | some o5 =>
          obtain ⟨r5, C5⟩ := o5
          cases r5 with
          | er x => rw [e5] at h3; cases h3
          | ok t =>
            rw [e5] at h3
            dsimp only at h3
            refine (ht s' H' c cl fp).ok S4 takes_false e5 fun t' A5 H5 S5 g5 rt => ?_
            subst rt
            -- the def's own slots, over the heap as it is
            have back : ∀ {A6 C6 H6 G6 s6}, Sat X.K (Bs.now (A1 ++ [D]) (C1 ++ [some (.lst [])]) (upd H1 D (.lst []))) A6 G6 C6 s6 H6 → Go A2 C3 H3 A6 C6 H6 → Sat X.K (Bs.now (A1 ++ [D]) (C1 ++ [some (.lst [])]) (upd H1 D (.lst []))) A6 G C6 s H6 :=
              fun S6 g6 => S6.slots (S3.slot.imp fun _ _ r => r.go g6)
            cases t' with
            | false => exact ⟨A5, C5, back S5 g5, h3⟩
            | true =>
              rw [if_pos rfl] at h3 ⊢
              intro s' H' c cl fp
              cases e6 : ef G1 C5 with
              | none => rw [e6] at h3; cases h3
              | some o6 =>
                obtain ⟨r6, C6⟩ := o6
                cases r6 with
                | er x => rw [e6] at h3; cases h3
                | ok r =>
                  rw [e6] at h3
                  dsimp only at h3
                  refine (he s' H' c cl fp).ok S5 takes_false e6 fun v A6 H6 S6 g6 rv => ?_
                  cases e7 : C6[C1.length]? with
                  | none => rw [e7] at h3; cases h3
                  | some x7 =>
                    cases x7 with
                    | none => rw [e7] at h3; cases h3
                    | some ob =>
                      cases ob with
                      | lst acc =>
                        rw [e7] at h3
                        dsimp only at h3
                        split at h3
                        · rename_i hl
                          have hD6 : A6[C1.length]? = some D := pre_get (g5.trans g6).pre hD2
                          obtain ⟨vs6, h8, h9⟩ := S6.cell C1.length D _ hD6 e7
                          refine ⟨vs6, h8, by rw [← h9.length]; exact hl, A6, _, Sat.cellSet (back S6 (g5.trans g6)) hD6 e7 ?_, h3⟩
                          exact ⟨_, upd_same, repEs_go (goSet hD6 e7) (h9.append (.cons rv .nil))⟩
                        · cases h3
                      | _ => rw [e7] at h3; cases h3
    · cases h3
  · have e : i = items.length := by omega
    subst e
    rw [List.drop_length] at h3
    unfold lcF at h3
    split at h3
    · rename_i hw
      cases h3
      refine .inl ⟨wk.stop _ _ _ _ _ _ S2 go2 hw, ?_⟩
      unfold lcEnd at h2
      split at h2
      · cases h2
        exact q _ _ rfl _ A2 H2 (SD.back S2 |> fun z => S1.back (show Sat X.K (Bs.now A1 C1 H1) A2 G C2 s H2 from ⟨S2.len, S2.nd, gD.ex.trans S2.ex, gD.pre.trans S2.pre, S2.cell, S2.slot⟩)) ⟨D, hD2, rfl⟩
      · split at h2
        · rename_i hd
          split at h2
          · rename_i r hr
            cases h2
            have T : Sat X.K (Bs.now A1 C1 H1) A2 G C2 s H2 := ⟨S2.len, S2.nd, gD.ex.trans S2.ex, gD.pre.trans S2.pre, S2.cell, S2.slot⟩
            exact q _ _ rfl _ _ H2 (S1.drop T hd) (closeV_ok T hr ⟨D, hD2, rfl⟩)
          · cases h2
        · cases h2
    · cases h3
theorem im_lc (own : List (Str × Nat)) (cell : Bool) {gf : FG} {it : FI} {tst : FT} {ef : FE} (hi : ImI X tg iter it) (hg : Blk X scope fun Y => ImG Y tg ns gf) (ht : Blk X scope fun Y => ImTs Y ifs tst) (he : Blk X scope fun Y => ImE Y elt ef)
    (hc : X.calm = true) (hN : X.N.Nodup) (ok : BlkOk X.N X.env.scope scope own) (hn : ∀ i ∈ ns, i ∈ own.map (·.2) := by decide) (hs : ∀ x, foldedSetIterable iter X.env x = pure x := by intro _; rfl) :
    ImE X (.ListComp elt [⟨tg, iter, ifs, 0⟩] scope p) (eLc cell (own.map (·.2)) gf it tst ef) := fun b A G C s H W S tk o h k q => by
  refine ⟨_, pe_lc hc hN wI_ok ok (g := bG X scope tg) (tt := bT X scope ifs) (te := bE X scope elt) (fun s' H' c cl fp => ⟨fun pins s2 σ H2 v u Q I r h => wG_ok.run pins s2 σ H2 v u Q I r (h s' H' c cl fp)⟩)
      (fun s' H' c cl fp => ⟨fun pins s2 σ H2 Q I h => wTs_ok.run pins s2 σ H2 Q I (h s' H' c cl fp)⟩) (fun s' H' c cl fp => ⟨fun pins s2 σ H2 Q I h => wE_ok.run pins s2 σ H2 Q I (h s' H' c cl fp)⟩) hs, ?_⟩
  rcases bind_inv h with ⟨x, C1, h1, rfl⟩ | ⟨r, C1, h1, h⟩
  · exact hi.er S tk h1 q _
  · split at h
    · rename_i C2 e2
      exact hi.ok S tk h1 fun J A1 H1 S1 g1 wk => lc_core2 S1 wk e2 h hg ht he hn q.ok
    · cases h
/-- y = [..] -/
noncomputable def sLc (i : Nat) (f : FE) : FS := fun G C => sBind (f G C) G fun r C => some (.nx, G.set i (some r), C)
end
end R
namespace R
open PySem L2

/-! ### defs -/
abbrev Fn := List El → Cs → Mr El
open Classical in
/-- what a body's end hands on; keep: how many of its own cells -/
noncomputable def closeR (keep : Nat) (C : Cs) : Option (Fl × Gs × Cs) → Mr El
  | some (.rt r, _, C1) => if okDrop C C1 (C.length + keep) then match closeV (C.length + keep) C1 r with
    | some r' => some (.ok r', C1.take (C.length + keep))
    | none => none
    else none
  | some (.nx, _, C1) => if okDrop C C1 (C.length + keep) then some (.ok (.v .non), C1.take (C.length + keep)) else none
  | some (.er x, _, C1) => if okDrop C C1 C.length then some (.er x, C1.take C.length) else none
  | _ => none
/-- a def of np parameters and n slots -/
noncomputable def mkFn (np n keep : Nat) (fb : FS) : Fn := fun rs C => if rs.length = np then closeR keep C (fb (rs.map some ++ List.replicate (n - np) none) C) else none
/-- the promise: it does what m does -/
def spM (K : Fg) (m : Fn) : Sp := fun vs H Q E => ∃ (A : List Addr) (C : Cs) (rs : List El), Sat K (Bs.now A C H) A [] C [] H ∧ All2 (RepE K A C H) rs vs ∧
  ∃ o, m rs C = some o ∧ Po K (Bs.now A C H) [] [] (fun c d _ H' => E c d H') (RepE K) Q o
section
variable {K : Fg} {A : List Addr} {C : Cs} {H : Hp}
theorem slots_rest : ∀ n : Nat, All2 (SlotE K A C H) (List.replicate n none) (List.replicate n none)
  | 0 => .nil
  | n + 1 => .cons (fun _ h => by cases h) (slots_rest n)
theorem slots_of : ∀ {rs : List El} {vs : List V}, All2 (RepE K A C H) rs vs → All2 (SlotE K A C H) (rs.map some) (vs.map some)
  | _, _, .nil => .nil
  | _, _, .cons h t => .cons (fun e he => ⟨_, rfl, by cases he; exact h⟩) (slots_of t)
end
section
variable {P : Program} {w : World} {K : Fg} {mg : Str → Option Value} {base : Heap} {x qual : Str} {params : Arguments} {body : List Stmt} {scope : Scope} {dvs : List V} {kws : List (Str × V)} {f : Addr} {fd : FuncData}
/-- a body that does fb makes a def that does mkFn .. fb (cdv: its code object) -/
theorem fn_Mc {N ps : List Str} {k keep : Nat} {fb : FS} (F : FunD K x qual params body scope dvs kws f fd) (Sc : FnScope N ps scope)
    (h : ∀ (cdv : Value), fd.code = cdv → ∀ (A : Around) (outer : List Env) (s : Shared) (H : Hp) (E : XK), Room k (A.deeper (PyProof.Rows.envOfC qual scope s.heap.objs.size f cdv)) → ImB (cxOf (L2N.CX P w) P w K mg base N qual scope f cdv A outer s H E) body fb) :
    FnOk P w K mg base (L2N.CX P w) (k + 1) f fd ps (spM K (mkFn ps.length N.length keep fb)) := by
  obtain ⟨oc, od, dV, kV, doc, pm, an, cdv, ct, osl, rfl, lk, hcd, _, _⟩ := F.ex
  refine fn_of lk hcd Sc (fun vs H Q E ⟨A, C, rs, _, r, o, ho, _⟩ => by
    unfold mkFn at ho
    split at ho
    · rename_i hl
      rw [← r.length]
      exact hl
    · cases ho) fun A outer s H vs q E hr ⟨A1, C, rs, S, r, o, ho, po⟩ => ?_
  · replace h := h cdv rfl
    unfold mkFn at ho
    split at ho
    · rename_i hl
      have tk : Takes (cxOf (L2N.CX P w) P w K mg base N qual scope f cdv A outer s H E) (fun cls d _ H => E cls d H) := L2N.takes_of rfl rfl rfl rfl
      have hs : All2 (SlotE K A1 C H) (rs.map some ++ List.replicate (N.length - ps.length) none) (L2.start N vs) := by
        unfold L2.start
        rw [← r.length, hl]
        exact (slots_of r).append (slots_rest _)
      have S0 : Sat K (Bs.now A1 C H) A1 (rs.map some ++ List.replicate (N.length - ps.length) none) C (L2.start N vs) H := S.slots hs
      cases e : fb (rs.map some ++ List.replicate (N.length - ps.length) none) C with
      | none => rw [e] at ho; cases ho
      | some o1 =>
        obtain ⟨fl, G1, C1⟩ := o1
        rw [e] at ho
        refine h A outer s H E hr _ A1 _ C _ H _ S0 tk _ e _ ?_
        have emp : ∀ {A2 G2 s2 H2 C2 n}, Sat K (Bs.now A1 C H) A2 G2 C2 s2 H2 → okDrop C C2 n → Sat K (Bs.now A1 C H) (A2.take n) [] (C2.take n) [] H2 := fun T hd => Sat.drop S T hd
        cases fl with
        | rt r1 =>
          unfold closeR at ho
          dsimp only at ho
          split at ho
          · rename_i hd
            split at ho
            · rename_i r' hc
              cases ho
              exact fun v A2 s2 H2 T rv => po.ok _ _ rfl v _ H2 (emp T hd) (closeV_ok T hc rv)
            · cases ho
          · cases ho
        | nx =>
          unfold closeR at ho
          dsimp only at ho
          split at ho
          · rename_i hd
            cases ho
            exact fun A2 s2 H2 T => po.ok _ _ rfl .non _ H2 (emp T hd) rfl
          · cases ho
        | er x =>
          unfold closeR at ho
          dsimp only at ho
          split at ho
          · rename_i hd
            cases ho
            exact fun c d A2 s2 H2 T rx => po.er _ _ rfl c d _ H2 (emp T hd) rx.take
          · cases ho
        | bk => cases ho
        | ct => cases ho
    · cases ho
theorem fn_M {N ps : List Str} {k keep : Nat} {fb : FS} (F : FunD K x qual params body scope dvs kws f fd) (Sc : FnScope N ps scope)
    (h : ∀ (cdv : Value) (A : Around) (outer : List Env) (s : Shared) (H : Hp) (E : XK), Room k (A.deeper (PyProof.Rows.envOfC qual scope s.heap.objs.size f cdv)) → ImB (cxOf (L2N.CX P w) P w K mg base N qual scope f cdv A outer s H E) body fb) :
    FnOk P w K mg base (L2N.CX P w) (k + 1) f fd ps (spM K (mkFn ps.length N.length keep fb)) := fn_Mc F Sc fun cdv _ => h cdv
end
/-- a def by its name, dd its last defaults -/
structure Gf (P : Program) (w : World) (K : Fg) (mg : Str → Option Value) (base : Heap) (x : Str) (k : Nat) (dd : List D) (sp : Sp) : Prop where
  ex : ∃ (f : Addr) (fd : FuncData) (ps : List Str) (ds : List Value) (dvs : List V), FnOk P w K mg base (L2N.CX P w) k f fd ps sp ∧ mg x = some (.ref f) ∧ PySem.W.keepIn K (.ref f) = true ∧ Binds K fd ps ds ∧ Vals dvs ds ∧ ∀ H, RepL K H dd dvs
structure Gm (P : Program) (w : World) (K : Fg) (mg : Str → Option Value) (base : Heap) (c : Addr) (m : Str) (k : Nat) (dd : List D) (sp : Sp) : Prop where
  cl : Cls K c
  ex : ∃ (f : Addr) (fd : FuncData) (ps : List Str) (ds : List Value) (dvs : List V), FnOk P w K mg base (L2N.CX P w) k f fd ps sp ∧ Meth K c m f ∧ Binds K fd ps ds ∧ Vals dvs ds ∧ ∀ H, RepL K H dd dvs
structure Gc (P : Program) (w : World) (K : Fg) (mg : Str → Option Value) (base : Heap) (x : Str) (k : Nat) (dd : List D) (sp : Sp) : Prop where
  ex : ∃ (f : Addr) (fd : FuncData) (ps : List Str) (ds : List Value) (dvs : List V), FnOk P w K mg base (L2N.CX P w) k f fd ps sp ∧ Mk K (He.ga K x) f ∧ mg x = some (.ref (He.ga K x)) ∧ Binds K fd ps ds ∧ Vals dvs ds ∧ ∀ H, RepL K H dd dvs
theorem Gf.mono {P : Program} {w : World} {K : Fg} {mg : Str → Option Value} {base : Heap} {x : Str} {j k : Nat} {dd : List D} {sp : Sp} (g : Gf P w K mg base x j dd sp) (h : j ≤ k) : Gf P w K mg base x k dd sp := by
  obtain ⟨f, fd, ps, ds, dvs, F, r⟩ := g.ex
  exact ⟨f, fd, ps, ds, dvs, F.mono h, r⟩
theorem Gm.mono {P : Program} {w : World} {K : Fg} {mg : Str → Option Value} {base : Heap} {c : Addr} {x : Str} {j k : Nat} {dd : List D} {sp : Sp} (g : Gm P w K mg base c x j dd sp) (h : j ≤ k) : Gm P w K mg base c x k dd sp := by
  obtain ⟨f, fd, ps, ds, dvs, F, r⟩ := g.ex
  exact ⟨g.cl, f, fd, ps, ds, dvs, F.mono h, r⟩
/-- a class called: sp its __init__'s promise -/
def spMake (c : Addr) (spi : Sp) : Sp := fun vs H k E => ∀ x dx, H x = none → H dx = none → dx ≠ x → spi (.ref x :: vs) (upd (upd H dx (.own x)) x (.ins c dx [])) (fun v H2 => v = .non ∧ k (.ref x) H2) E
section
variable {X : Cx} {e o : Expr} {es : List Expr} {apos : Pos} {m : Str}
theorem pe_methSD {pl : Sem Bool} {CX : CXT} {k : Nat} {f C : Addr} {fd : FuncData} {ps : List Str} {sp : Sp} {dvs : List V} {ds : List Value} {E : St → XK} {ta : TE} {t : TA} {pos : Pos} (he : PE X o ta) (c : Cls X.K C) (hm : Meth X.K C m f) (F : FnOk X.prog X.w X.K X.mg X.base CX k f fd ps sp) (hr : Room k X.A) (hb : Binds X.K fd ps ds) (hd : Vals dvs ds) (hx : ∀ σ, PassesAt CX X σ (E σ)) (ha : PA X (e :: es) t)
    (hst : starEach (e :: es) X.env = (false, eval e X.env) :: starEach es X.env := by rfl) (hpl : (backTo pos (starEach es X.env)).any (·.1) = false := by rfl)
    (ht : eval (.Call (.Attribute o m apos) (e :: es) [] pos) X.env = (do
      let ov ← eval o X.env
      standAt apos.atName
      let (f, first) ← holding [ov] (getMethod ov m pl)
      callWith pos f first (backTo pos (starEach (e :: es) X.env)) (backToKw pos (keywordEach [] X.env))) := by rfl) :
    PE X (.Call (.Attribute o m apos) (e :: es) [] pos) (fun σ H Q => ta σ H fun x H1 => ∃ a dx fs, x = .ref a ∧ H1 a = some (.ins C dx fs) ∧ fs.lookup m = none ∧ t σ H1 fun vs H2 => sp (x :: (vs ++ dvs)) H2 Q (E σ)) := by
  refine ⟨fun pins s σ H Q I h => ?_⟩
  refine PySem.W.methodCall_KW (pl := pl) (thn (he.run pins s σ H _ I h) fun u s1 ⟨x, H1, I1, rx, a, dx, fs, ex, ea, l, q⟩ => ?_) ht
  subst ex
  obtain rfl : u = Value.ref a := rx
  refine getmeth_ok I1 ea c hm l ?_
  refine PySem.W.callWith_K (first := [.ref a]) (h₀ := X.base) I.ok.mod.kin hm.kp (thn (ha.run pos pins s1 σ H1 _ I1 q) fun us s2 ⟨vs, H2, I2, r, q2⟩ => ⟨I2.kIn, ?_⟩) hst hpl
  exact run_fnSD (us := .ref a :: us) (vs := .ref a :: vs) F hr hb hd (hx σ) I2 (.cons rfl r) q2
theorem pe_methSD0 {pl : Sem Bool} {CX : CXT} {k : Nat} {f C : Addr} {fd : FuncData} {ps : List Str} {sp : Sp} {dvs : List V} {ds : List Value} {E : St → XK} {ta : TE} {pos : Pos} (he : PE X o ta) (c : Cls X.K C) (hm : Meth X.K C m f) (F : FnOk X.prog X.w X.K X.mg X.base CX k f fd ps sp) (hr : Room k X.A) (hb : Binds X.K fd ps ds) (hd : Vals dvs ds) (hx : ∀ σ, PassesAt CX X σ (E σ))
    (ht : eval (.Call (.Attribute o m apos) [] [] pos) X.env = (do
      let ov ← eval o X.env
      standAt apos.atName
      let (f, first) ← holding [ov] (getMethod ov m pl)
      callWith pos f first (backTo pos (starEach [] X.env)) (backToKw pos (keywordEach [] X.env))) := by rfl) :
    PE X (.Call (.Attribute o m apos) [] [] pos) (fun σ H Q => ta σ H fun x H1 => ∃ a dx fs, x = .ref a ∧ H1 a = some (.ins C dx fs) ∧ fs.lookup m = none ∧ sp (x :: dvs) H1 Q (E σ)) := by
  refine ⟨fun pins s σ H Q I h => ?_⟩
  refine PySem.W.methodCall_KW (pl := pl) (thn (he.run pins s σ H _ I h) fun u s1 ⟨x, H1, I1, rx, a, dx, fs, ex, ea, l, q⟩ => ?_) ht
  subst ex
  obtain rfl : u = Value.ref a := rx
  refine getmeth_ok I1 ea c hm l ?_
  exact PySem.W.callWith_K0 (first := [.ref a]) I1.kIn hm.kp (run_fnSD (us := [.ref a]) (vs := [.ref a]) F hr hb hd (hx σ) I1 (.cons rfl .nil) q)
theorem run_makeSD {CX : CXT} {k : Nat} {f C : Addr} {fd : FuncData} {ps : List Str} {sp : Sp} {dvs : List V} {ds : List Value} {E : St → XK} {pins : List (Addr × Obj)} {σ : St} {H : Hp} {s : Shared} {Q : VK} {us : List Value} {vs : List V} (M : Mk X.K C f) (F : FnOk X.prog X.w X.K X.mg X.base CX k f fd ps sp) (hr : Room (k + 1) X.A) (hb : Binds X.K fd ps ds) (hd : Vals dvs ds)
    (hx : ∀ σ, PassesAt CX X σ (E σ)) (I : Inv X pins σ H s) (r : Vals vs us)
    (h : spMake C sp (vs ++ dvs) H Q (E σ)) :
    wpAny (model X.prog X.w) X.A (call (.ref C) us) (L2.EP X pins σ Q) X.xe s := by
  have hq := h (s.heap.objs.size + 1) s.heap.objs.size (I.hok.fresh (Nat.le_succ _)) (I.hok.fresh (Nat.le_refl _)) (Nat.ne_of_lt (Nat.lt_succ_self _))
  have I2 := Inv.made (C := C) I
  have r2 : Vals (V.ref (s.heap.objs.size + 1) :: (vs ++ dvs)) (Value.ref (s.heap.objs.size + 1) :: (us ++ ds)) := .cons rfl (r.append hd)
  have hl : (Value.ref (s.heap.objs.size + 1) :: us ++ ds).length = ps.length := by
    have e := r2.length
    rw [F.len _ _ _ _ hq] at e
    exact e.symm
  refine wpAny_call (make_map (f := f) I.kIn M.makes M.init (beq_iff_eq.mp M.fn) (codeAny_mono (F.run _ X.stack _ _ ⟨Value.ref (s.heap.objs.size + 1) :: us, []⟩ (Value.ref (s.heap.objs.size + 1) :: (us ++ ds)) _ _ (E σ) (hr.make C us [])
    (I2.env0.make C us []) (hb _ (Value.ref (s.heap.objs.size + 1) :: us) I2.kIn hl) r2 hq) fun r s' hq' => ?_))
  cases r with
  | error e => exact hx σ pins _ _ e s' I2 hq'
  | ok fl =>
    cases fl with
    | ret u =>
      obtain ⟨v, H', I3, rv, ev, q3⟩ := I2.after hq'
      subst ev
      exact ⟨rv, ⟨V.ref (s.heap.objs.size + 1), H', I3, rfl, q3⟩⟩
    | next => exact False.elim hq'
    | brk => exact False.elim hq'
    | cont => exact False.elim hq'
end
section
variable {X : Cx} {W : WX} {e o : Expr} {es : List Expr} {p apos p2 : Pos} {k : Nat} {dd : List D} {x : Str} {m : Fn}
theorem repD {K : Fg} {A : List Addr} {C : Cs} {H : Hp} {dd : List D} {dvs : List V} (h : ∀ H, RepL K H dd dvs) : All2 (RepE K A C H) (dd.map El.v) dvs := All2.map_l.mpr (repL_iff.mp (h _))
/-- what stood, behind a call -/
theorem Sat.after {K : Fg} {b : Bs} {A A1 : List Addr} {G : Gs} {C C1 : Cs} {s : St} {H H1 : Hp} (S : Sat K b A G C s H) (T : Sat K (Bs.now A C H) A1 [] C1 [] H1) : Sat K b A1 G C1 s H1 := S.back (T.slots (S.slot.imp fun _ _ r => r.go T.go))
theorem sp_use {K : Fg} {b : Bs} {A : List Addr} {G : Gs} {C : Cs} {s : St} {H : Hp} {rs : List El} {vs : List V} {o : Rz El × Cs} {q : VK} (S : Sat K b A G C s H) (r : All2 (RepE K A C H) rs vs) (h : m rs C = some o) (po : Po K b G s W (RepE K) q o) : spM K m vs H q (WE W s) :=
  ⟨A, C, rs, S.now.slots .nil, r, o, h, (fun r C' e v A' H' T rv => po.ok r C' e v A' H' (S.after T) rv), (fun x C' e c d A' H' T rx => po.er x C' e c d A' H' (S.after T) rx)⟩
def eCall (m : Fn) (dd : List D) (fa : FA) : FE := fun G C => (fa G C).bind fun rs C => m (rs ++ dd.map El.v) C
theorem im_call {fa : FA} (F : Gf X.prog X.w X.K X.mg X.base x k dd (spM X.K m)) (ha : ImA X (e :: es) fa) (hr : Room k X.A) (hg : Gl X x)
    (hdb : (x == ("__debug__" : Str)) = false := by decide) (he : starEach (e :: es) X.env = (false, eval e X.env) :: starEach es X.env := by rfl) (hpl : (backTo p (starEach es X.env)).any (·.1) = false := by rfl) : ImE X (.Call (.Name x p2) (e :: es) [] p) (eCall m dd fa) := fun bb A G C s H W S tk o h k q => by
  obtain ⟨f, fd, ps, ds, dvs, F, hm, hk, hb, hd, hD⟩ := F.ex
  refine ⟨_, pe_callSD F hr hg hm hk hb hd (L2N.passAt tk) wA_ok hdb he hpl, ?_⟩
  rcases bind_inv h with ⟨x, C1, h1, rfl⟩ | ⟨rs, C1, h1, h⟩
  · exact ha.er S tk h1 q _
  · exact ha.ok S tk h1 fun vs A1 H1 S1 g1 rx => sp_use S1 (rx.append (repD hD)) h q
def eCall0 (m : Fn) (dd : List D) : FE := fun G C => m (dd.map El.v) C
/-! ### classes called -/
open Classical in
/-- C(..), its __init__ m; own: the instance a cell -/
noncomputable def mkIns (n : Str) (m : Fn) (own : Bool) (rs : List El) (C : Cs) : Mr El := match m (.at C.length :: rs) (C ++ [some (.ins n [])]) with
  | some (.ok (.v .non), C1) => if own = true then some (.ok (.at C.length), C1) else if okDrop C C1 C.length then match closeV C.length C1 (.at C.length) with
    | some r => some (.ok r, C1.take C.length)
    | none => none
    else none
  | some (.er x, C1) => if okDrop C C1 C.length then some (.er x, C1.take C.length) else none
  | _ => none
noncomputable def eMake (n : Str) (m : Fn) (dd : List D) (own : Bool) (fa : FA) : FE := fun G C => (fa G C).bind fun rs C => mkIns n m own (rs ++ dd.map El.v) C
noncomputable def eMake0 (n : Str) (m : Fn) (dd : List D) (own : Bool) : FE := fun G C => mkIns n m own (dd.map El.v) C
theorem mk_use {K : Fg} {own : Bool} {b : Bs} {A : List Addr} {G : Gs} {C : Cs} {s : St} {H : Hp} {rs : List El} {vs : List V} {o : Rz El × Cs} {q : VK} {n : Str} (S : Sat K b A G C s H) (r : All2 (RepE K A C H) rs vs) (h : mkIns n m own rs C = some o) (po : Po K b G s W (RepE K) q o) :
    spMake (He.ga K n) (spM K m) vs H q (WE W s) := by
  intro y dx hy hd ne
  have S1 := S.ext (Evl.Ex.new (o := .own y) hd)
  have hy1 : upd H dx (.own y) y = none := by rw [upd_ne (Ne.symm ne)]; exact hy
  have S2 := S1.cellNew (o := .ins n []) (ho := .ins (He.ga K n) dx []) hy1 ⟨dx, [], upd_same, .nil⟩
  have g : Go A C H (A ++ [y]) (C ++ [some (.ins n [])]) (upd (upd H dx (.own y)) y (.ins (He.ga K n) dx [])) := (Go.of (Evl.Ex.new hd)).trans (S1.goNew hy1)
  unfold mkIns at h
  cases e : m (.at C.length :: rs) (C ++ [some (.ins n [])]) with
  | none => rw [e] at h; cases h
  | some o1 =>
    refine ⟨A ++ [y], C ++ [some (.ins n [])], .at C.length :: rs, S2.now.slots .nil, .cons S1.atNew (repEs_go g r), o1, e, ?_⟩
    obtain ⟨r1, C1⟩ := o1
    have up : ∀ {A' H'}, Sat K (Bs.now (A ++ [y]) (C ++ [some (.ins n [])]) (upd (upd H dx (.own y)) y (.ins (He.ga K n) dx []))) A' [] C1 [] H' → Sat K (Bs.now A C H) A' [] C1 [] H' := fun T => ⟨T.len, T.nd, g.ex.trans T.ex, g.pre.trans T.pre, T.cell, T.slot⟩
    have at' : ∀ {A' H'}, Sat K (Bs.now (A ++ [y]) (C ++ [some (.ins n [])]) (upd (upd H dx (.own y)) y (.ins (He.ga K n) dx []))) A' [] C1 [] H' → RepE K A' C1 H' (.at C.length) (.ref y) := fun T => ⟨y, pre_get (l := A ++ [y]) T.pre (by rw [← S.len]; simp), rfl⟩
    cases r1 with
    | er x =>
      rw [e] at h
      dsimp only at h
      split at h
      · rename_i hd
        cases h
        exact ⟨(fun _ _ z => by cases z), (fun x' C' z c d A' H' T rx => by
          cases z
          have T1 := (S.now.slots (G' := []) (s' := []) .nil).drop (up T) hd
          exact po.er _ _ rfl c d _ H' (S.after ((S.now.slots (G' := []) (s' := []) .nil).drop (up T) hd)) rx.take)⟩
      · cases h
    | ok r0 =>
      rw [e] at h
      split at h
      · rename_i C2 z
        cases z
        refine ⟨(fun r' C' z v A' H' T rv => ?_), (fun _ _ z => by cases z)⟩
        cases z
        refine ⟨rv, ?_⟩
        split at h
        · cases h
          exact po.ok _ _ rfl _ A' H' (S.after (up T)) (at' T)
        · split at h
          · rename_i hd
            split at h
            · rename_i r' hc
              cases h
              exact po.ok _ _ rfl _ _ H' (S.after ((S.now.slots (G' := []) (s' := []) .nil).drop (up T) hd)) (closeV_ok T hc (at' T))
            · cases h
          · cases h
      · rename_i z
        cases z
      · cases h
theorem im_make {fa : FA} {own : Bool} (F : Gc X.prog X.w X.K X.mg X.base x k dd (spM X.K m)) (ha : ImA X (e :: es) fa) (hr : Room (k + 1) X.A) (hg : Gl X x)
    (hdb : (x == ("__debug__" : Str)) = false := by decide) (he : starEach (e :: es) X.env = (false, eval e X.env) :: starEach es X.env := by rfl) (hpl : (backTo p (starEach es X.env)).any (·.1) = false := by rfl) : ImE X (.Call (.Name x p2) (e :: es) [] p) (eMake x m dd own fa) := fun bb A G C s H W S tk o h k q => by
  obtain ⟨f, fd, ps, ds, dvs, F, M, hm, hb, hd, hD⟩ := F.ex
  have pe : PE X (.Call (.Name x p2) (e :: es) [] p) (fun s H q => wA X (e :: es) s H fun vs H1 => spMake (He.ga X.K x) (spM X.K m) (vs ++ dvs) H1 q (WE W s)) := by
    refine ⟨fun pins s σ H Q I h => ?_⟩
    refine wpAny_Call_Name_kw (ld_glob I hg hm ?_ hdb)
    refine PySem.W.callWith_K (h₀ := X.base) I.ok.mod.kin M.kp (thn (wA_ok.run p pins s σ H _ I h) fun us s1 ⟨vs, H1, I1, r, q⟩ => ⟨I1.kIn, ?_⟩) he hpl
    exact run_makeSD M F hr hb hd (L2N.passAt tk) I1 r q
  refine ⟨_, pe, ?_⟩
  rcases bind_inv h with ⟨x, C1, h1, rfl⟩ | ⟨rs, C1, h1, h⟩
  · exact ha.er S tk h1 q _
  · exact ha.ok S tk h1 fun vs A1 H1 S1 g1 rx => mk_use S1 (rx.append (repD hD)) h q
theorem im_make0 {own : Bool} (F : Gc X.prog X.w X.K X.mg X.base x k dd (spM X.K m)) (hr : Room (k + 1) X.A) (hg : Gl X x) (hdb : (x == ("__debug__" : Str)) = false := by decide) : ImE X (.Call (.Name x p2) [] [] p) (eMake0 x m dd own) := fun bb A G C s H W S tk o h k q => by
  obtain ⟨f, fd, ps, ds, dvs, F, M, hm, hb, hd, hD⟩ := F.ex
  have pe : PE X (.Call (.Name x p2) [] [] p) (fun s H q => spMake (He.ga X.K x) (spM X.K m) dvs H q (WE W s)) := by
    refine ⟨fun pins s σ H Q I h => ?_⟩
    refine wpAny_Call_Name_kw (ld_glob I hg hm ?_ hdb)
    exact PySem.W.callWith_K0 I.kIn M.kp (run_makeSD (us := []) (vs := []) M F hr hb hd (L2N.passAt tk) I .nil h)
  exact ⟨_, pe, mk_use S (repD hD) h q⟩

/-! ### methods -/
abbrev MTab := List (Str × Fn × List D)
def mtab (t : MTab) (n : Str) : Option (Fn × List D) := match t with
  | [] => none
  | (a, x) :: r => if a = n then some x else mtab r n
/-- o.m(..), by the receiver's class -/
def eMeth (mn : Str) (t : MTab) (fo : FE) (fa : FA) : FE := fun G C => (fo G C).bind fun r C => match viewI C r with
  | some (n, fs) => if (lookE mn fs).isNone = true then match mtab t n with
    | some (m, dd) => (fa G C).bind fun rs C => m (r :: (rs ++ dd.map El.v)) C
    | none => none
    else none
  | none => none
theorem look_none {R : El → V → Prop} {f : Str} : ∀ {fs : List (Str × El)} {gs : List (Str × V)}, All2 (fun p q => p.1 = q.1 ∧ R p.2 q.2) fs gs → (lookE f fs).isNone = true → gs.lookup f = none
  | _, _, .nil, _ => rfl
  | (g, x) :: fs, (g', y) :: gs, .cons ⟨e, q⟩ t, h => by
    have e' : g = g' := e
    subst e'
    unfold lookE at h
    split at h
    · cases h
    · rename_i hc
      have hc' : (f == g) = false := by simpa using hc
      rw [List.lookup_cons, hc']
      exact look_none t h
def MOk (X : Cx) (mn : Str) (k : Nat) (t : MTab) : Prop := ∀ n m dd, mtab t n = some (m, dd) → Gm X.prog X.w X.K X.mg X.base (He.ga X.K n) mn k dd (spM X.K m)
theorem MOk.nil {mn : Str} : MOk X mn k [] := fun _ _ _ h => by cases h
theorem MOk.cons {mn n : Str} {t : MTab} (g : Gm X.prog X.w X.K X.mg X.base (He.ga X.K n) mn k dd (spM X.K m)) (h : MOk X mn k t) : MOk X mn k ((n, m, dd) :: t) := fun n' m' dd' e => by
  unfold mtab at e
  split at e
  · rename_i hn
    cases e
    subst hn
    exact g
  · exact h n' m' dd' e
theorem im_meth {mn n0 : Str} {t : MTab} {fo : FE} {fa : FA} {pl : Sem Bool} (hT : MOk X mn k ((n0, m, dd) :: t)) (ho : ImE X o fo) (ha : ImA X (e :: es) fa) (hr : Room k X.A)
    (hst : starEach (e :: es) X.env = (false, eval e X.env) :: starEach es X.env := by rfl) (hpl : (backTo p (starEach es X.env)).any (·.1) = false := by rfl)
    (ht : eval (.Call (.Attribute o mn apos) (e :: es) [] p) X.env = (do
      let ov ← eval o X.env
      standAt apos.atName
      let (f, first) ← holding [ov] (getMethod ov mn pl)
      callWith p f first (backTo p (starEach (e :: es) X.env)) (backToKw p (keywordEach [] X.env))) := by rfl) : ImE X (.Call (.Attribute o mn apos) (e :: es) [] p) (eMeth mn ((n0, m, dd) :: t) fo fa) := fun bb A G C s H W S tk o' h q' q => by
  rcases bind_inv h with ⟨x, C1, h1, rfl⟩ | ⟨r, C1, h1, h⟩
  · obtain ⟨f, fd, ps, ds, dvs, F', hm, hb, hd, hD⟩ := (hT n0 m dd (by unfold mtab; rw [if_pos rfl])).ex
    exact ⟨_, pe_methSD (pl := pl) wE_ok (hT n0 m dd (by unfold mtab; rw [if_pos rfl])).cl hm F' hr hb hd (L2N.passAt tk) wA_ok hst hpl ht, ho.er S tk h1 q _⟩
  · split at h
    · rename_i n fs e1
      split at h
      · rename_i hn
        split at h
        · rename_i m' dd' e2
          have G1 := hT n m' dd' e2
          obtain ⟨f, fd, ps, ds, dvs, F', hm, hb, hd, hD⟩ := G1.ex
          refine ⟨_, pe_methSD (pl := pl) wE_ok G1.cl hm F' hr hb hd (L2N.passAt tk) wA_ok hst hpl ht, ho.ok S tk h1 fun v A1 H1 S1 g1 r1 => ?_⟩
          obtain ⟨a, dx, vs, ev, h3, h4⟩ := viewI_ok S1 e1 r1
          refine ⟨a, dx, vs, ev, h3, look_none (R := RepE X.K A1 C1 H1) h4 hn, ?_⟩
          rcases bind_inv h with ⟨x, C2, h5, rfl⟩ | ⟨rs, C2, h5, h⟩
          · exact ha.er S1 tk h5 q _
          · exact ha.ok S1 tk h5 fun ws A2 H2 S2 g2 rx => sp_use S2 (.cons (r1.go g2) (rx.append (repD hD))) h q
        · cases h
      · cases h
    · cases h
def eMeth0 (mn : Str) (t : MTab) (fo : FE) : FE := fun G C => (fo G C).bind fun r C => match viewI C r with
  | some (n, fs) => if (lookE mn fs).isNone = true then match mtab t n with
    | some (m, dd) => m (r :: dd.map El.v) C
    | none => none
    else none
  | none => none
theorem im_meth0 {mn n0 : Str} {t : MTab} {fo : FE} {pl : Sem Bool} (hT : MOk X mn k ((n0, m, dd) :: t)) (ho : ImE X o fo) (hr : Room k X.A)
    (ht : eval (.Call (.Attribute o mn apos) [] [] p) X.env = (do
      let ov ← eval o X.env
      standAt apos.atName
      let (f, first) ← holding [ov] (getMethod ov mn pl)
      callWith p f first (backTo p (starEach [] X.env)) (backToKw p (keywordEach [] X.env))) := by rfl) : ImE X (.Call (.Attribute o mn apos) [] [] p) (eMeth0 mn ((n0, m, dd) :: t) fo) := fun bb A G C s H W S tk o' h q' q => by
  rcases bind_inv h with ⟨x, C1, h1, rfl⟩ | ⟨r, C1, h1, h⟩
  · obtain ⟨f, fd, ps, ds, dvs, F', hm, hb, hd, hD⟩ := (hT n0 m dd (by unfold mtab; rw [if_pos rfl])).ex
    exact ⟨_, pe_methSD0 (pl := pl) wE_ok (hT n0 m dd (by unfold mtab; rw [if_pos rfl])).cl hm F' hr hb hd (L2N.passAt tk) ht, ho.er S tk h1 q _⟩
  · split at h
    · rename_i n fs e1
      split at h
      · rename_i hn
        split at h
        · rename_i m' dd' e2
          have G1 := hT n m' dd' e2
          obtain ⟨f, fd, ps, ds, dvs, F', hm, hb, hd, hD⟩ := G1.ex
          refine ⟨_, pe_methSD0 (pl := pl) wE_ok G1.cl hm F' hr hb hd (L2N.passAt tk) ht, ho.ok S tk h1 fun v A1 H1 S1 g1 r1 => ?_⟩
          obtain ⟨a, dx, vs, ev, h3, h4⟩ := viewI_ok S1 e1 r1
          exact ⟨a, dx, vs, ev, h3, look_none (R := RepE X.K A1 C1 H1) h4 hn, sp_use S1 (.cons r1 (repD hD)) h q⟩
        · cases h
      · cases h
    · cases h
end
end R
namespace R
open PySem L2

/-! ### raise -/
/-- an error class of one's own without an __init__ -/
structure Xc (K : Fg) (mg : Str → Option Value) (x : Str) : Prop where
  g : mg x = some (.ref (He.ga K x))
  e : PySem.W.excIn K (He.ga K x) He.veBase "ValueError.__new__" = true
  kp : PySem.W.keepIn K (.ref (He.ga K x)) = true
  sb : PySem.W.subIn K (.ref (He.ga K x)) (.type "BaseException") = some true
  ty : PySem.W.typeIn K (.ref (He.ga K x)) = some (.type "type")
section
variable {X : Cx} {p p2 p3 p4 : Pos} {x m : Str} {j : Nat}
def sRaise (x : Str) : FS := fun G C => some (.er ⟨x, none⟩, G, C)
theorem is_raise (E : Xc X.K X.mg x) (hg : Gl X x) (hc : X.calm = true) (hdb : (x == ("__debug__" : Str)) = false := by decide) : ImS X (.Raise (some (.Call (.Name x p) [.Constant (.str m) j p2] [] p3)) none p4) (sRaise x) := fun b A G C s H W S tk o h D q => by
  cases h
  exact ⟨_, L2N.ps_raise hc tk (L2N.pmk_own PySem.F.excBase_ValueError E.e E.g E.kp (raises_own E.sb E.ty) hg hdb), q _ _ A s H S ⟨rfl, rfl⟩⟩
/-- what is never reached -/
def sStop : FS := fun _ _ => none
def eStop : FE := fun _ _ => none
/-- a block from which nothing is raised: within an except suite -/
def sNoX (f : FS) : FS := fun G C => match f G C with
  | some (.er _, _, _) => none
  | o => o
end
/-! ### try, its clauses one after the other -/
open Classical in
noncomputable def allA {β : Type} (f : Addr → Option β) : Option β := if h : ∃ r, ∀ a, f a = some r then some h.choose else none
theorem allA_of {β : Type} {f : Addr → Option β} {r : β} (h : ∀ a, f a = some r) : allA f = some r := by
  unfold allA
  have h' : ∃ r, ∀ a, f a = some r := ⟨r, h⟩
  rw [dif_pos h']
  have := h'.choose_spec 0
  rw [h 0] at this
  exact this.symm
theorem of_allA {β : Type} {f : Addr → Option β} {r : β} (h : allA f = some r) (a : Addr) : f a = some r := by
  unfold allA at h
  split at h
  · rename_i h'
    rw [h'.choose_spec a]
    exact h
  · cases h
/-- the ends of a suite whose name goes -/
def goneD (i : Nat) (D : Ends) : Ends := { nx := fun σ' H' => D.nx (σ'.set i none) H', rt := D.rt, bk := fun σ' H' => D.bk (σ'.set i none) H', ct := fun σ' H' => D.ct (σ'.set i none) H' }
abbrev ClS := Value × Option Nat × (Addr → Value → Option Addr → TS)
def clDo (nm : Option Nat) (ts : Addr → Value → Option Addr → TS) (a : Addr) (cls : Value) (d : Option Addr) (D : Ends) (σ : St) (H : Hp) : Prop := match nm with
  | none => ts a cls d D σ H
  | some i => ts a cls d (goneD i D) (σ.set i (some (.ref a))) H
/-- what the clauses wish of an exception of the body -/
def wX (K : Fg) (Wout : WX) (D : Ends) : List ClS → WX
  | [] => Wout
  | (c, nm, ts) :: r => fun cls d σ H => ∃ b, PySem.W.exmOne K cls c = some b ∧ (b = true → ∀ a, H a = none → clDo nm ts a cls d D σ H) ∧ (b = false → wX K Wout D r cls d σ H)
inductive HdX (X : Cx) : List ExceptHandler → List ClS → Prop
  | nil : HdX X [] []
  | bare {x : Str} {c : Value} {ts : Addr → Value → Option Addr → TS} {b₀ : Stmt} {suite : List Stmt} {np pos' : Pos} {hds : List ExceptHandler} {l : List ClS} (hc : Names X x c)
      (hsu : ∀ (a : Addr) (oe : Obj) (cls : Value) (d : Option Addr) (pn : List (Addr × Obj)), Zc cls d oe → (∃ vs, oe.data = .fields vs) → PSs (X.suite a ((a, oe) :: pn)) (b₀ :: suite) (ts a cls d)) (r : HdX X hds l) :
      HdX X (.ExceptHandler (some (.Name x np)) none (b₀ :: suite) pos' :: hds) ((c, none, ts) :: l)
  | as {x n : Str} {i : Nat} {c : Value} {ts : Addr → Value → Option Addr → TS} {b₀ : Stmt} {suite : List Stmt} {np pos' : Pos} {hds : List ExceptHandler} {l : List ClS} (hN : X.N.Nodup) (hi : X.N[i]? = some n) (hln : X.env.kindOf n = some .local) (hc : Names X x c)
      (hsu : ∀ (a : Addr) (oe : Obj) (cls : Value) (d : Option Addr) (pn : List (Addr × Obj)), Zc cls d oe → (∃ vs, oe.data = .fields vs) → PSs (X.suite a ((a, oe) :: pn)) (b₀ :: suite) (ts a cls d)) (r : HdX X hds l) :
      HdX X (.ExceptHandler (some (.Name x np)) (some n) (b₀ :: suite) pos' :: hds) ((c, some i, ts) :: l)
section
open PySem.Spec PyProof.Rows
variable {X : Cx} {body : List Stmt} {h₀ : ExceptHandler} {hds : List ExceptHandler} {l : List ClS} {pos : Pos} {tb : WX → TS} {Wout : WX}
theorem ps_try_x (hs : X.stack = X.env :: X.outer) (hf : X.env.frame = some X.env.locals) (tk : Takes X Wout)
    (hb : ∀ (W : WX) (pn : List (Addr × Obj)) (xe : Value → Shared → Prop), Takes (X.tr pn xe) W → PassesOwn (model X.prog X.w) X.A X.env xe → PSs (X.tr pn xe) body (tb W))
    (hh : HdX X (h₀ :: hds) l) : PS X (.Try body (h₀ :: hds) [] [] pos) (fun D σ H => tb (wX X.K Wout D l) D σ H) := by
  refine ⟨fun pins s σ H D I h => ?_⟩
  have ok := I.ok
  have hfr : X.A.frames = some (X.env :: X.outer) := by rw [ok.frames, hs]
  refine wpAny_Try_except ?_
  refine wpAny_mono ((hb (wX X.K Wout D l) (X.pn ++ pins) (fun e s₁ => wpAny (model X.prog X.w) X.A (noteFrame e X.env) (fun _ s₂ => wpAny (model X.prog X.w) X.A (setFlight e none) (fun _ s₃ =>
    wpAny (model X.prog X.w) X.A (handleBy e X.env (h₀ :: hds)) (SP X pins D) X.xe s₃) X.xe s₂) X.xe s₁) (fun u s' xx => ?_) PassesOwn.looking).run [] s σ H D (I.toTry _) h) (fun f s1 hsp => ?_) (fun e s1 he => he)
  · -- the catch
    obtain ⟨a, B, sI, pins', σ', H', cls, d, rfl, J', nb, up, sky, na, os, ag, w⟩ := xx
    have J : Inv X pins σ' H' sI := J'.ofTry ok
    have sky' : Sky B (X.env :: X.outer) a (Zc cls d) X.env.locals s'.heap := by rw [← hs]; exact sky
    show wpAny (model X.prog X.w) X.A (noteFrame (.ref a) X.env) _ _ _
    refine L2N.Sky.land L2N.Zn.steady hfr hf sky' fun h3 fl3 up3 => ?_
    have J3 : Inv X pins σ' H' { s' with heap := h3 } := J.landed nb fl3.1 (up.trans up3) os ag
    obtain ⟨oe3, vs3, he3, hz3, hd3⟩ := fl3.there
    have notFr : ∀ {h : Heap} {o : Obj} {vs : Array Value}, h.FunFrames B (X.env :: X.outer) → h.get? a = some o → o.data = .fields vs → a ∉ frs (X.env :: X.outer) := fun {h o vs} ff e dd hm => by
      obtain ⟨_, o', e', hnf⟩ := ff.mem hm
      rw [e] at e'; cases e'
      exact hnf _ dd
    have nfr := notFr fl3.2.2.1 he3 hd3
    have nL : a ≠ X.env.locals := fun z => nfr (List.mem_filterMap.mpr ⟨X.env, List.mem_cons_self, by rw [hf, z]⟩)
    have nF : a ∉ X.fs := fun hm => by
      obtain ⟨e, he, q⟩ := List.mem_filterMap.mp hm
      exact nfr (List.mem_filterMap.mpr ⟨e, List.mem_cons_of_mem _ he, q⟩)
    have S3 := J3.suite he3 hd3 na nL nF
    have test : ∀ {x : Str} {c : Value} {np : Pos} {Q : Value → Shared → Prop} {E : Value → Shared → Prop}, Names X x c → Q c { s' with heap := h3 } → wpAny (model X.prog X.w) (X.A.mark (some (.ref a))) (eval (.Name x np) X.env) Q E { s' with heap := h3 } := fun {x c np Q E} hc q => by
      obtain ⟨hg, hdbg, hm | ⟨hm, hv, hnn⟩⟩ := hc
      · exact ld_glob (X := X.suite a ((a, oe3) :: (X.pn ++ pins))) S3 hg hm q hdbg
      · exact ld_blt (X := X.suite a ((a, oe3) :: (X.pn ++ pins))) S3 hg hm hv q hnn hdbg
    have go : ∀ {hds' : List ExceptHandler} {l' : List ClS}, HdX X hds' l' → wX X.K Wout D l' cls d σ' H' →
        wpAny (model X.prog X.w) X.A (handleBy (.ref a) X.env hds') (SP X pins D) X.xe { s' with heap := h3 } := by
      intro hds' l' hk
      induction hk with
      | nil =>
        intro w
        refine wpAny_handleBy_nil ?_
        obtain ⟨k1, k2, k3, oe, vs, T, oT, ts', he, hz, hd, h1, hr⟩ := id fl3
        unfold PySem.passOn
        refine wpAny_bind (wpAny_field he hd h1 ?_)
        rw [if_neg (show ¬ ((Value.ref T == Value.none) = true) from by simp)]
        have fin : wpAny (model X.prog X.w) X.A (setFlight (.ref a) X.env.frame) (fun _ s4 => wpAny (model X.prog X.w) X.A (throw (.ref a) : Sem Flow) (SP X pins D) X.xe s4) X.xe { s' with heap := h3 } := by
          rw [hf]
          refine HandSPX.setFlight_upZ fl3 fun h4 hh4 up4 => wpAny_throw (tk _ _ ?_)
          exact ⟨a, B, sI, pins, σ', H', cls, d, rfl, J, nb, (up.trans up3).trans up4, .inr (.inr (by rw [hs]; exact hh4)), na, os, ag, w⟩
        first
          | exact wpAny_bind (wpAny_pure (wpAny_bind fin))
          | exact wpAny_bind fin
      | @bare x c ts b₀ suite np pos' hds2 l2 hc hsu r ih =>
        intro w
        obtain ⟨b, hb1, hyes, hno⟩ := w
        refine wpAny_handleBy_cons (codeAny_handlers_test ?_) (by intro q; cases q)
        have LT : PySem.W.Looks (model X.prog X.w) h3 (typeOf (.ref a)) cls := fun A Q E s k q => wpAny_typeOf_ref (k _ _ he3) (by rw [hz3.1]; exact q)
        have LM := PySem.W.exm_one (M := model X.prog X.w) (J3.kIn) LT hb1
        refine test hc (LM.here ?_)
        cases b with
        | true =>
          refine codeAny_handlers_suite ?_
          refine HandSPX.lands_againZ fl3 fun h4 fl4 up4 => ?_
          have J4 : Inv X pins σ' H' { s' with heap := h4 } := J.landed nb fl4.1 ((up.trans up3).trans up4) os ag
          obtain ⟨oe4, vs4, he4, hz4, hd4⟩ := fl4.there
          have S4 := J4.suite he4 hd4 na nL nF
          refine wpAny_mono ((hsu a oe4 cls d (X.pn ++ pins) hz4 ⟨_, hd4⟩).run [] _ _ H' _ S4 (hyes rfl a na)) (fun f s6 hsp => ?_) (fun _ _ z => False.elim z)
          cases f with
          | next =>
            obtain ⟨σ6, H6, S6, q6⟩ := hsp
            exact ⟨_, _, S6.unsuite ok, q6⟩
          | brk =>
            obtain ⟨σ6, H6, S6, q6⟩ := hsp
            exact ⟨_, _, S6.unsuite ok, q6⟩
          | cont =>
            obtain ⟨σ6, H6, S6, q6⟩ := hsp
            exact ⟨_, _, S6.unsuite ok, q6⟩
          | ret u =>
            obtain ⟨v6, σ6, H6, S6, r6, q6⟩ := hsp
            exact ⟨_, _, _, S6.unsuite ok, r6, q6⟩
        | false =>
          show wpAny _ X.A (handleBy (.ref a) X.env hds2) _ _ _
          exact ih (hno rfl)
      | @as x n i c ts b₀ suite np pos' hds2 l2 hN hi hln hc hsu r ih =>
        intro w
        obtain ⟨b, hb1, hyes, hno⟩ := w
        refine wpAny_handleBy_cons (codeAny_handlers_test ?_) (by intro q; cases q)
        have LT : PySem.W.Looks (model X.prog X.w) h3 (typeOf (.ref a)) cls := fun A Q E s k q => wpAny_typeOf_ref (k _ _ he3) (by rw [hz3.1]; exact q)
        have LM := PySem.W.exm_one (M := model X.prog X.w) (J3.kIn) LT hb1
        refine test hc (LM.here ?_)
        cases b with
        | true =>
          refine codeAny_handlers_suite_as ?_
          refine HandSPX.lands_againZ fl3 fun h4 fl4 up4 => ?_
          have J4 : Inv X pins σ' H' { s' with heap := h4 } := J.landed nb fl4.1 ((up.trans up3).trans up4) os ag
          obtain ⟨oe4, vs4, he4, hz4, hd4⟩ := fl4.there
          have S4 := J4.suite he4 hd4 na nL nF
          refine store_ok (X := X.suite a ((a, oe4) :: (X.pn ++ pins))) (v := .ref a) S4 hN hi (.inl hln) rfl (fun s5 S5 => ?_) (.inr hln)
          refine wpAny_mono ((hsu a oe4 cls d (X.pn ++ pins) hz4 ⟨_, hd4⟩).run [] s5 _ H' _ S5 (hyes rfl a na)) (fun f s6 hsp => ?_) (fun _ _ z => False.elim z)
          have end_ : ∀ {σ6 : L2.St} {H6 : Hp} {Q : Shared → Prop}, Inv (X.suite a ((a, oe4) :: (X.pn ++ pins))) [] σ6 H6 s6 → (∀ s7, Inv X pins (σ6.set i none) H6 s7 → Q s7) →
              wpAny (model X.prog X.w) X.A (do bindName X.env n .none; unbindBehindTheSuite X.env n pos') (fun _ s7 => Q s7) X.xe s6 := fun {σ6 H6 Q} S6 hq => gone_ok (S6.unsuite ok) hN hi hln hq
          cases f with
          | next =>
            obtain ⟨σ6, H6, S6, q6⟩ := hsp
            exact end_ S6 fun s7 J7 => ⟨_, _, J7, q6⟩
          | brk =>
            obtain ⟨σ6, H6, S6, q6⟩ := hsp
            exact end_ S6 fun s7 J7 => ⟨_, _, J7, q6⟩
          | cont =>
            obtain ⟨σ6, H6, S6, q6⟩ := hsp
            exact end_ S6 fun s7 J7 => ⟨_, _, J7, q6⟩
          | ret u =>
            obtain ⟨v6, σ6, H6, S6, r6, q6⟩ := hsp
            exact end_ S6 fun s7 J7 => ⟨_, _, _, J7, r6, q6⟩
        | false =>
          show wpAny _ X.A (handleBy (.ref a) X.env hds2) _ _ _
          exact ih (hno rfl)
    exact go hh w
  · cases f with
    | next =>
      obtain ⟨σ', H', J', q⟩ := hsp
      exact wpAny_execs_nil ⟨σ', H', J'.ofTry ok, q⟩
    | brk =>
      obtain ⟨σ', H', J', q⟩ := hsp
      exact ⟨σ', H', J'.ofTry ok, q⟩
    | cont =>
      obtain ⟨σ', H', J', q⟩ := hsp
      exact ⟨σ', H', J'.ofTry ok, q⟩
    | ret u =>
      obtain ⟨v, σ', H', J', r, q⟩ := hsp
      exact ⟨v, σ', H', J'.ofTry ok, r, q⟩
end
/-- a caught exception as a value: its address, its dict's -/
def exE (a d : Addr) (x : Exn) : El := match x.fs with
  | none => .v (.adr a)
  | some fs => .v (.exf a d fs)
/-- what is known of it: x at a -/
structure Cau (a d : Addr) (oe : Obj) (K : Fg) (x : Exn) : Prop where
  z : Zc (.ref (He.ga K x.cls)) (x.fs.map fun _ => d) oe
  f : ∃ vs, oe.data = .fields vs
theorem exE_rep {K : Fg} {A : List Addr} {C : Cs} {H : Hp} {x : Exn} {c : Value} {d : Option Addr} (h : XRep K A C H x c d) (a : Addr) : c = .ref (He.ga K x.cls) ∧ ∃ dd, d = x.fs.map (fun _ => dd) ∧ RepE K A C H (exE a dd x) (.ref a) := by
  obtain ⟨h1, h2⟩ := h
  refine ⟨h1, ?_⟩
  unfold exE
  revert h2
  cases x.fs with
  | none => exact fun h2 => ⟨0, h2, rfl⟩
  | some fs => exact fun ⟨dd, fvs, e, h3, h4⟩ => ⟨dd, e, rfl, fvs, h3, h4⟩
/-- a clause: whom it takes, its name's slot, its suite -/
structure Cl where
  hit : Str → Option Bool
  nm : Option Nat
  su : Addr → Addr → Exn → FS
theorem all2_forget {K : Fg} {A : List Addr} {C : Cs} {H : Hp} : ∀ {G : Gs} {s : L2.St}, All2 (SlotE K A C H) G s → ∀ i : Nat, All2 (SlotE K A C H) (G.set i none) s
  | _, _, .nil, _ => .nil
  | _, _, .cons _ t, 0 => .cons (fun e he => by cases he) t
  | _, _, .cons r t, i + 1 => .cons r (all2_forget t i)
theorem Sat.forget {K : Fg} {b : Bs} {A : List Addr} {G : Gs} {C : Cs} {s : L2.St} {H : Hp} (S : Sat K b A G C s H) (i : Nat) : Sat K b A (G.set i none) C s H := S.slots (all2_forget S.slot i)
/-- behind the suite: its name is gone -/
def unName (i : Nat) : Option (Fl × Gs × Cs) → Option (Fl × Gs × Cs)
  | some (.er _, _, _) => none
  | some (.rt r, G, C) => some (.rt r, G.set i none, C)
  | some (fl, G, C) => some (fl, G.set i none, C)
  | none => none
def noName : Option (Fl × Gs × Cs) → Option (Fl × Gs × Cs)
  | some (.er _, _, _) => none
  | o => o
noncomputable def clOne (nm : Option Nat) (su : Addr → Addr → Exn → FS) (x : Exn) (G : Gs) (C : Cs) : Option (Fl × Gs × Cs) := match nm with
  | some i => allA fun a => allA fun d => unName i (su a d x (G.set i (some (exE a d x))) C)
  | none => allA fun a => allA fun d => noName (su a d x G C)
noncomputable def clRun : List Cl → Exn → Gs → Cs → Option (Fl × Gs × Cs)
  | [], x, G, C => some (.er x, G, C)
  | c :: r, x, G, C => match c.hit x.cls with
    | some true => clOne c.nm c.su x G C
    | some false => clRun r x G C
    | none => none
noncomputable def sTry (cl : List Cl) (fb : FS) : FS := fun G C => match fb G C with
  | some (.er x, G1, C1) => clRun cl x G1 C1
  | o => o
inductive HdI (X : Cx) : List ExceptHandler → List Cl → Prop
  | nil : HdI X [] []
  | bare {x : Str} {hit : Str → Option Bool} {su : Addr → Addr → Exn → FS} {b₀ : Stmt} {suite : List Stmt} {np pos' : Pos} {hds : List ExceptHandler} {l : List Cl} (hc : Names X x (.ref (He.ga X.K x)))
      (hh : ∀ y b, hit y = some b → PySem.W.exmOne X.K (.ref (He.ga X.K y)) (.ref (He.ga X.K x)) = some b)
      (hsu : ∀ (a d : Addr) (oe : Obj) (pn : List (Addr × Obj)) (y : Exn), Cau a d oe X.K y → ImB (X.suite a ((a, oe) :: pn)) (b₀ :: suite) (su a d y)) (r : HdI X hds l) :
      HdI X (.ExceptHandler (some (.Name x np)) none (b₀ :: suite) pos' :: hds) (⟨hit, none, su⟩ :: l)
  | as {x n : Str} {i : Nat} {hit : Str → Option Bool} {su : Addr → Addr → Exn → FS} {b₀ : Stmt} {suite : List Stmt} {np pos' : Pos} {hds : List ExceptHandler} {l : List Cl} (hN : X.N.Nodup) (hi : X.N[i]? = some n) (hln : X.env.kindOf n = some .local) (hc : Names X x (.ref (He.ga X.K x)))
      (hh : ∀ y b, hit y = some b → PySem.W.exmOne X.K (.ref (He.ga X.K y)) (.ref (He.ga X.K x)) = some b)
      (hsu : ∀ (a d : Addr) (oe : Obj) (pn : List (Addr × Obj)) (y : Exn), Cau a d oe X.K y → ImB (X.suite a ((a, oe) :: pn)) (b₀ :: suite) (su a d y)) (r : HdI X hds l) :
      HdI X (.ExceptHandler (some (.Name x np)) (some n) (b₀ :: suite) pos' :: hds) (⟨hit, some i, su⟩ :: l)
section
variable {X : Cx} {body : List Stmt} {h₀ : ExceptHandler} {hds : List ExceptHandler} {cl : List Cl} {pos : Pos} {fb : FS}
abbrev suW (X : Cx) (st : List Stmt) : Addr → Value → Option Addr → TS := fun a cls d D s H => ∀ oe pn, Zc cls d oe → (∃ vs, oe.data = .fields vs) → wB (X.suite a ((a, oe) :: pn)) st D s H
theorem suW_ok {st : List Stmt} (a : Addr) (oe : Obj) (cls : Value) (d : Option Addr) (pn : List (Addr × Obj)) (hz : Zc cls d oe) (hv : ∃ vs, oe.data = .fields vs) : PSs (X.suite a ((a, oe) :: pn)) st (suW X st a cls d) :=
  ⟨fun pins s2 q H2 D I h => wB_ok.run pins s2 q H2 D I (h oe pn hz hv)⟩
theorem hdI_ok (h : HdI X hds cl) : ∃ l : List ClS, HdX X hds l ∧ ∀ (b : Bs) (A : List Addr) (G : Gs) (C : Cs) (s : St) (H : Hp) (D : Ends) (W : WX) (y : Exn) (c : Value) (d : Option Addr) (o : Fl × Gs × Cs), Sat X.K b A G C s H → XRep X.K A C H y c d → clRun cl y G C = some o → PoS X.K b D W o → wX X.K W D l c d s H := by
  induction h with
  | nil =>
    refine ⟨[], .nil, fun b A G C s H D W y c d o S hx h q => ?_⟩
    cases h
    exact q c d A s H S hx
  | @bare x hit su b₀ suite np pos' hds l hc hh hsu r ih =>
    obtain ⟨l', h1, h2⟩ := ih
    refine ⟨(.ref (He.ga X.K x), none, suW X (b₀ :: suite)) :: l', .bare hc suW_ok h1, fun b A G C s H D W y c d o S hx h q => ?_⟩
    unfold clRun at h
    dsimp only at h
    have ec := hx.1
    cases e2 : hit y.cls with
    | none => rw [e2] at h; cases h
    | some k =>
      rw [e2] at h
      refine ⟨k, by rw [ec]; exact hh y.cls k e2, fun hk a ha oe pn2 hz hv => ?_, fun hk => ?_⟩
      · subst hk
        dsimp only [clOne] at h
        obtain ⟨_, dd, ed, rd⟩ := exE_rep hx a
        have e3 := of_allA (of_allA h a) dd
        have ca : Cau a dd oe X.K y := ⟨by rw [← ec, ← ed]; exact hz, hv⟩
        cases e4 : su a dd y G C with
        | none => rw [e4] at e3; cases e3
        | some o4 =>
          rw [e4] at e3
          refine hsu a dd oe pn2 y ca b A G C s H (fun _ _ _ _ => False) S takes_false _ e4 _ ?_
          obtain ⟨fl4, G4, C4⟩ := o4
          cases fl4 with
          | er z => cases e3
          | nx => cases e3; exact q
          | bk => cases e3; exact q
          | ct => cases e3; exact q
          | rt r => cases e3; exact q
      · subst hk
        exact h2 b A G C s H D W y c d o S hx h q
  | @as x n i hit su b₀ suite np pos' hds l hN hi hln hc hh hsu r ih =>
    obtain ⟨l', h1, h2⟩ := ih
    refine ⟨(.ref (He.ga X.K x), some i, suW X (b₀ :: suite)) :: l', .as hN hi hln hc suW_ok h1, fun b A G C s H D W y c d o S hx h q => ?_⟩
    unfold clRun at h
    dsimp only at h
    have ec := hx.1
    cases e2 : hit y.cls with
    | none => rw [e2] at h; cases h
    | some k =>
      rw [e2] at h
      refine ⟨k, by rw [ec]; exact hh y.cls k e2, fun hk a ha oe pn2 hz hv => ?_, fun hk => ?_⟩
      · subst hk
        dsimp only [clOne] at h
        obtain ⟨_, dd, ed, rd⟩ := exE_rep hx a
        have e3 := of_allA (of_allA h a) dd
        have ca : Cau a dd oe X.K y := ⟨by rw [← ec, ← ed]; exact hz, hv⟩
        cases e4 : su a dd y (G.set i (some (exE a dd y))) C with
        | none => rw [e4] at e3; cases e3
        | some o4 =>
          rw [e4] at e3
          refine hsu a dd oe pn2 y ca b A _ C _ H (fun _ _ _ _ => False) (S.put rd) takes_false _ e4 _ ?_
          obtain ⟨fl4, G4, C4⟩ := o4
          cases fl4 with
          | nx => cases e3; exact fun A5 s5 H5 S5 => q A5 _ H5 (S5.gone i)
          | bk => cases e3; exact fun A5 s5 H5 S5 => q A5 _ H5 (S5.gone i)
          | ct => cases e3; exact fun A5 s5 H5 S5 => q A5 _ H5 (S5.gone i)
          | rt r => cases e3; exact fun v A5 s5 H5 S5 rv => q v A5 s5 H5 (S5.forget i) rv
          | er z => cases e3
      · subst hk
        exact h2 b A G C s H D W y c d o S hx h q
theorem is_try (hs : X.stack = X.env :: X.outer) (hf : X.env.frame = some X.env.locals)
    (hb : ∀ (pn : List (Addr × Obj)) (xe : Value → Shared → Prop), PassesOwn (model X.prog X.w) X.A X.env xe → ImB (X.tr pn xe) body fb)
    (hd : HdI X (h₀ :: hds) cl) : ImS X (.Try body (h₀ :: hds) [] [] pos) (sTry cl fb) := fun b A G C s H W S tk o h D q => by
  obtain ⟨l, hl, hw⟩ := hdI_ok hd
  refine ⟨_, ps_try_x (tb := fun W' D s H => ∀ pn xe, Takes (X.tr pn xe) W' → PassesOwn (model X.prog X.w) X.A X.env xe → wB (X.tr pn xe) body D s H) hs hf tk
    (fun W' pn xe t1 p1 => ⟨fun pins s2 q H2 D I h => wB_ok.run pins s2 q H2 D I (h pn xe t1 p1)⟩) hl, fun pn xe t1 p1 => ?_⟩
  unfold sTry at h
  cases e1 : fb G C with
  | none => rw [e1] at h; cases h
  | some o1 =>
    obtain ⟨fl, G1, C1⟩ := o1
    rw [e1] at h
    refine hb pn xe p1 b A G C s H _ S t1 _ e1 D ?_
    cases fl with
    | nx => cases h; exact q
    | rt r => cases h; exact q
    | bk => cases h; exact q
    | ct => cases h; exact q
    | er y => exact fun c d A' s' H' S' hx => hw b A' G1 C1 s' H' D W y c d o S' hx h q
end
/-! ### e.f of a caught exception -/
/-- ad, dd: the caught one's, its dict's address; ok: whether its class tells such a field -/
def eXf (ad dd : Addr) (x : Exn) (ok : Str → Bool) (n : Str) (fe : FE) : FE := fun G C => if ok x.cls = true then (fe G C).bind fun r C => match r with
  | .v (.exf a d fs) => if a = ad ∧ d = dd ∧ x.fs.isSome = true then match fs.lookup n with
    | some v => some (.ok (.v v), C)
    | none => none
    else none
  | _ => none
  else none
/-- the table of classes tells the truth -/
def XfOk (K : Fg) (n : Str) (ok : Str → Bool) : Prop := ∀ y, ok y = true → XfC K (He.ga K y) ∧ PySem.W.findIn K (.ref (He.ga K y)) n = some none
/-! ### isinstance -/
/-- the built-in type of a value -/
def tyE (C : Cs) : El → Option String
  | .v .non => some "NoneType"
  | .v (.bl _) => some "bool"
  | .v (.int _) => some "int"
  | .v (.str _) => some "str"
  | .v (.lst _) => some "list"
  | .v (.tup _) => some "tuple"
  | .v (.dk _) => some "dict"
  | .tp _ => some "tuple"
  | .at n => match C[n]? with
    | some (some (.lst _)) => some "list"
    | some (some (.dk none _)) => some "dict"
    | some (some (.dt none _)) => some "dict"
    | _ => none
  | _ => none
theorem tyE_ok {K : Fg} {b : Bs} {A : List Addr} {G : Gs} {C : Cs} {s : St} {H : Hp} {x : El} {v : V} {T : String} (S : Sat K b A G C s H) (h : tyE C x = some T) (r : RepE K A C H x v) : TyX K H v (.type T) := by
  unfold tyE at h
  split at h
  · cases h; rw [show v = .non from r]; exact .base .non
  · cases h; rw [show v = .bl _ from r]; exact .base (.bl _)
  · cases h; rw [show v = .int _ from r]; exact .base (.int _)
  · cases h; rw [show v = .str _ from r]; exact .base (.str _)
  · cases h; obtain ⟨a, vs, rfl, rd, _⟩ := r; exact .base (.lst (mk_of rd))
  · cases h; obtain ⟨a, vs, rfl, rd, _⟩ := r; exact .base (.tup (mk_of rd))
  · cases h; obtain ⟨a, vs, rfl, rd, _⟩ := r; exact (rd_of rd).elim (fun e => .base (.dK e)) fun ⟨_, e⟩ => .fDict e
  · cases h; obtain ⟨a, vs, rfl, rd, _⟩ := r; exact .base (.tup (mk_of rd))
  · obtain ⟨a, ea, rfl⟩ := r
    split at h
    · rename_i e
      cases h
      obtain ⟨vs, h1, _⟩ := S.cell _ a _ ea e
      exact .base (.lst h1)
    · rename_i e
      cases h
      obtain ⟨vs, h1, _⟩ := S.cell _ a _ ea e
      exact .base (.dK h1)
    · rename_i e
      cases h
      obtain ⟨vs, h1, _⟩ := S.cell _ a _ ea e
      exact .base (.dT h1)
    · cases h
  · cases h
/-- isinstance of a value, a built-in type -/
def fIsB : ON := fun xs C => match xs with
  | [x, .v (.ty T2)] => match tyE C x with
    | some T => (kitB T T2).map fun k => (.v (.bl k), C)
    | none => none
  | _ => none
section
variable {X : Cx} {a b e : Expr} {p p2 : Pos}
theorem ok_isB : OkCall X (.builtin "isinstance") fIsB := fun xs C r C' h => by
  unfold fIsB at h
  split at h
  · rename_i x T2
    split at h
    · rename_i T e1
      cases e2 : kitB T T2 with
      | none => rw [e2] at h; cases h
      | some k =>
        rw [e2] at h
        cases h
        refine ⟨_, call_isi, fun b A G s H vs S ra q hq => ?_⟩
        obtain ⟨v, w, rfl, r1, r2⟩ := two_ ra
        have e3 : w = .ty T2 := r2
        subst e3
        exact ⟨v, .ty T2, .type T, .type T2, k, rfl, .ty T2, tyE_ok S e1 r1, kit_ty e2, hq _ A H S rfl⟩
    · cases h
  · cases h
def clsV (K : Fg) : D → Option Value
  | .cls n => some (.ref (He.ga K n))
  | .ty n => some (.type n)
  | _ => none
/-- isinstance of the caught exception x: a class, a tuple of classes; isx tells -/
def isX1 (tab : Str → D → Option Bool) (y : Str) : D → Option Bool
  | .tup [] => none
  | .tup l => l.foldr (fun d r => match tab y d, r with
    | some b, some r => some (b || r)
    | _, _ => none) (some false)
  | d => tab y d
def fIsE (a dd : Addr) (x : Exn) (tab : Str → D → Option Bool) : ON := fun xs C => match xs with
  | [.v (.adr a'), .v d] => if a' = a ∧ x.fs = none then (isX1 tab x.cls d).map fun k => (.v (.bl k), C) else none
  | [.v (.exf a' d' _), .v d] => if a' = a ∧ d' = dd ∧ x.fs.isSome = true then (isX1 tab x.cls d).map fun k => (.v (.bl k), C) else none
  | _ => none
/-- the table tells the truth -/
def TabOk (K : Fg) (tab : Str → D → Option Bool) : Prop := ∀ y d b, tab y d = some b → ExcC K (He.ga K y) ∧ ∃ u, clsV K d = some u ∧ PySem.W.kitOne K (.ref (He.ga K y)) u = some b
section
open PySem.W PySem.Spec PyProof.Rows PySem.Calls
theorem findObj_dataX {K : Fg} {C : Addr} {name : Str} {a g : Value} {od : Option Obj} (hc : (clsIn K C).isSome = true) (ha : findIn K (.ref C) name = some (some a)) (hg : specialIn K a "__get__" = some (some g)) (ht : takesIn K a = some true) : findObj K C od name = some (.bind g a) := by
  obtain ⟨cd, hc⟩ := Option.isSome_iff_exists.mp hc
  unfold findObj
  rw [hc, Option.bind_some, ha, Option.bind_some]
  simp [hg, ht]
theorem kin_classX {prog : Program} {w : World} {A : Around} {E : Value → Shared → Prop} {s : Shared} {K : Fg} {x D : Addr} {ox : Obj} {od : Option Obj} {Q : Option Value → Shared → Prop} (hga : findIn K (.ref D) "__getattribute__" = some (some (.builtin "BaseException.__getattribute__"))) (hgt : findIn K (.ref D) "__getattr__" = some none) (hsub : subIn K (.ref D) (.type "BaseException") = some true)
    (hdct : hasDictIn K D = true) (ha : findIn K (.ref D) "__class__" = some (some (.builtin "object.__class__")))
    (hn : specialIn K (.builtin "object.__class__") "__get__" = some (some (.builtin "getset_descriptor.__get__"))) (htk : takesIn K (.builtin "object.__class__") = some true) (hm : mroIn K D (.type "object") = some true)
    (X : K.In s.heap) (I : InstAt s.heap x ox D od) (h : Q (some (.ref D)) { s with toks := s.toks + 1 }) : wpAny (model prog w) A (getAttr? (.ref x) "__class__") Q E s := by
  have hf : findObj K D od "__class__" = some (.bind (.builtin "getset_descriptor.__get__") (.builtin "object.__class__")) := findObj_dataX (by obtain ⟨cd, hc, _⟩ := any_some hdct; rw [hc]; rfl) ha hn htk
  obtain ⟨hp, g, d, t, os⟩ := s
  have L0 := I.type (M := model prog w)
  have L1 := looks_findIn (M := model prog w) X hga
  have L2 := looks_findIn (M := model prog w) X hgt
  have L3 := looks_find (M := model prog w) X I hf
  have sub : Looks (model prog w) hp (isInstance (.ref x) (.type "BaseException")) true := L0.andThen (looks_subIn X hsub)
  have hx0 : (false && onTheHeap (Value.builtin "BaseException.__getattribute__")) = false := rfl
  have hx2 : (Value.builtin "BaseException.__getattribute__" == Value.builtin "object.__getattribute__") = false := by decide +kernel
  have hx1 : (onTheHeap (Value.ref D) && Value.builtin "BaseException.__getattribute__" == Value.builtin "object.__getattribute__") = false := by rw [hx2]; rfl
  unfold getAttr? getAttrBy? getAttrBy
  refine wpAny_bind (wpAny_mkText (wpAny_bind (wpAny_attempt (wpAny_holding (wpAny_bind (L0.at (wpAny_bind (L1.at ?_))))))))
  show wpAny _ _ (if (onTheHeap (Value.ref D) && Value.builtin "BaseException.__getattribute__" == Value.builtin "object.__getattribute__") = true then _ else _) _ _ _
  rw [hx1, if_neg Bool.false_ne_true]
  unfold getAttrByItsOwn hookBefore
  refine wpAny_bind ?_
  rw [if_pos (show onTheHeap (Value.ref D) = true from rfl)]
  refine L2.at ?_
  refine wpAny_bind (wpAny_attempt (wpAny_holding ?_))
  unfold callGetattribute
  rw [hx0, if_neg Bool.false_ne_true]
  unfold boundAndCalled
  rw [PySem.F.excAttr_ValueError.ga.bind (.ref x)]
  refine wpAny_bind (wpAny_pure ?_)
  show wpAny _ _ (call (.builtin "BaseException.__getattribute__") [.ref x, .str "__class__" t]) _ _ _
  refine wpAny_call (codeAny_call_builtin PySem.F.excAttr_ValueError.ga.plain PySem.F.entry_bexc_ga ?_)
  refine @check_slot (model prog w) _ _ ⟨hp, g, d, t + 1, os⟩ "BaseException.__getattribute__" "BaseException" "__getattribute__" (.ref x) [.str "__class__" t] [] _ (by decide +kernel) (by decide +kernel) sub (PySem.F.args_bexc_ga (.ref x) (.str "__class__" t)) ?_
  unfold Builtin.«object.__getattribute__»
  refine wpAny_bind (wpAny_of_eq (a := ((Value.ref x : Value), [Value.str "__class__" t])) (by first | rfl | (simp only [slotArgs]; rfl)) ?_)
  refine wpAny_bind (wpAny_pure (wpAny_bind (L0.at (wpAny_bind (L3.at ?_)))))
  show wpAny _ _ (holding [Value.builtin "object.__class__"] (call (.builtin "getset_descriptor.__get__") [.builtin "object.__class__", .ref x, .ref D]) >>= ret) _ _ _
  refine wpAny_bind (wpAny_holding (wpAny_call (class_get (s := ⟨hp, g, d, t + 1, os⟩) (ox := ox) (od := od) X I hm ?_)))
  refine wpAny_pure ?_
  show wpAny _ _ (handedOut (.ref D)) _ _ _
  rw [handedOut_of (v := .ref D) rfl]
  first
    | exact wpAny_pure (wpAny_pure h)
    | exact wpAny_pure h
    | exact wpAny_pure (wpAny_bind (wpAny_pure (wpAny_pure h)))
theorem kitx_excX {K : Fg} {x D : Addr} {ox : Obj} {od : Option Obj} (hga : findIn K (.ref D) "__getattribute__" = some (some (.builtin "BaseException.__getattribute__"))) (hgt : findIn K (.ref D) "__getattr__" = some none) (hsub : subIn K (.ref D) (.type "BaseException") = some true) (hdct : hasDictIn K D = true) (ha : findIn K (.ref D) "__class__" = some (some (.builtin "object.__class__")))
    (hn : specialIn K (.builtin "object.__class__") "__get__" = some (some (.builtin "getset_descriptor.__get__"))) (htk : takesIn K (.builtin "object.__class__") = some true) (hm : mroIn K D (.type "object") = some true) :
    KitX K (.ref x) (.ref D) (fun h => InstAt h x ox D od) where
  ty := fun _ _ _ I => I.type
  it := fun _ _ X _ => by
    obtain ⟨cdD, hcD, _⟩ := any_some hdct
    unfold clsIn at hcD
    split at hcD
    · rename_i c' d' cd' sl' ho
      intro A' Q' E' s' k q
      unfold isType loadHead
      exact wpAny_bind (wpAny_loadPart (k _ _ (X _ _ ho)) (wpAny_pure q))
    · cases hcD
  ne := fun h tp dd its n sl X htp => by
    obtain ⟨cdD, hcD, _⟩ := any_some hdct
    refine Bool.eq_false_iff.mpr fun q => ?_
    have e : D = tp := Value.ref.inj (beq_iff_eq.mp q)
    subst e
    unfold clsIn at hcD
    split at hcD
    · rename_i c' d' cd' sl' ho
      have z := (X _ _ ho).symm.trans htp
      cases z
    · cases hcD
  ca := fun X I k => kin_classX hga hgt hsub hdct ha hn htk hm X I k
end
/-- the exception's object, as isinstance asks it -/
theorem instX {X : Cx} {a D : Addr} {oe : Obj} {d : Option Addr} {H : Hp} {s : Shared} (hget : s.heap.get? a = some oe) (hz : L2.Zc (.ref D) d oe) (hf : ∃ vs, oe.data = .fields vs) (hok : HOk X.prog X.w H s.heap) (hd : d = none ∨ ∃ dd fvs, d = some dd ∧ H dd = some (.xd fvs)) : ∃ od, PySem.W.InstAt s.heap a oe D od := by
  obtain ⟨vs, hv⟩ := hf
  rcases hd with rfl | ⟨dd, fvs, rfl, h2⟩
  · refine ⟨none, ?_⟩
    obtain ⟨oc, od, oda, osl⟩ := oe
    obtain ⟨h1, h2⟩ := hz
    dsimp only at h1 h2 hv
    subst h1 h2 hv
    exact ⟨hget, rfl, rfl, trivial⟩
  · have hx : ObjOk X.prog X.w H s.heap dd (.xd fvs) := hok dd _ h2
    obtain ⟨mA, hns, hr⟩ := hx
    obtain ⟨od, ho, hl⟩ := lookIn_ns hns
    exact ⟨some od, hget, hz.1, by unfold PySem.W.notCls; rw [hv] <;> rfl, by rw [hz.2]; exact ho⟩
def dOk (d : Option Addr) (H : Hp) : Prop := d = none ∨ ∃ dd fvs, d = some dd ∧ H dd = some (.xd fvs)
def rIsEX (K : Fg) (D a : Addr) (d : Option Addr) : List V → Hp → VK → Prop := fun xs H Q => dOk d H ∧ ∃ (c : V) (cv : Value) (b : Bool), xs = [.ref a, c] ∧ (∀ u, RelV c u → u = cv) ∧ PySem.W.kitOne K (.ref D) cv = some b ∧ Q (.bl b) H
def rIsET (K : Fg) (D a : Addr) (d : Option Addr) : List V → Hp → VK → Prop := fun xs H Q => dOk d H ∧ ∃ (tp : Addr) (cs : List V) (us : List Value) (b : Bool), xs = [.ref a, .ref tp] ∧ H tp = some (.tup cs) ∧ Paired ClsV cs us ∧ PySem.W.kitAny K (.ref D) us = some b ∧ Q (.bl b) H
theorem kitAny_or {K : Fg} {t c : Value} {cs : List Value} {b r : Bool} (h : PySem.W.kitOne K t c = some b) (hr : PySem.W.kitAny K t cs = some r) : PySem.W.kitAny K t (c :: cs) = some (b || r) := by
  cases b with
  | true => exact kitAny_cons h (fun z => by cases z) fun _ => rfl
  | false => exact kitAny_cons h (fun _ => hr) fun z => by cases z
end
end R
namespace R
open PySem L2

/-! ### methods of the built-in types -/
def tyOk (T : String) (C : Cs) (x : El) : Bool := if T = "list" then (viewS C x).isSome else if T = "str" then (match x with
  | .v (.str _) => true
  | _ => false) else false
theorem tyOk_ok {K : Fg} {b : Bs} {A : List Addr} {G : Gs} {C : Cs} {s : St} {H : Hp} {T : String} {x : El} {v : V} (S : Sat K b A G C s H) (h : tyOk T C x = true) (r : RepE K A C H x v) : tyV K T v H := by
  unfold tyOk at h
  split at h
  · rename_i e
    subst e
    cases e1 : viewS C x with
    | none => rw [e1] at h; cases h
    | some l =>
      obtain ⟨a, vs, ev, hq, _⟩ := viewS_ok S e1 r
      rw [ev]
      exact .inl ⟨rfl, vs, hq⟩
  · split at h
    · rename_i e
      subst e
      split at h
      · rw [show v = .str _ from r]
        exact rfl
      · cases h
    · cases h
abbrev OM := El → List El → Cs → Option (El × Cs)
def OkMt (X : Cx) (id : String) (f : OM) : Prop := ∀ x xs C r C', f x xs C = some (r, C') → ∃ R, MtR X id R ∧ ∀ (b : Bs) (A : List Addr) (G : Gs) (s : St) (H : Hp) (v : V) (vs : List V), Sat X.K b A G C s H → RepE X.K A C H x v → All2 (RepE X.K A C H) xs vs →
  ∀ k : VK, (∀ v A' H', Sat X.K b A' G C' s H' → RepE X.K A' C' H' r v → k v H') → R v vs H k
theorem mtR_false {X : Cx} {id : String} : MtR X id (fun _ _ _ _ => False) := fun _ _ _ _ _ _ _ _ _ _ _ _ h => h.elim
def eBm (T : String) (f : OM) (fo : FE) (fa : FA) : FE := fun G C => (fo G C).bind fun x C => if tyOk T C x = true then (fa G C).bind fun xs C => (f x xs C).map fun r => (.ok r.1, r.2) else none
def eBm0 (T : String) (f : OM) (fo : FE) : FE := fun G C => (fo G C).bind fun x C => if tyOk T C x = true then (f x [] C).map fun r => (.ok r.1, r.2) else none
section
variable {X : Cx} {o e : Expr} {es : List Expr} {mn : Str} {apos p : Pos} {T id : String}
theorem im_bm {f : OM} {fo : FE} {fa : FA} (pa : PlainAttrs T) (slot : Slot T mn id) (hty : typeOf (.builtin id) = pure (.type "method_descriptor")) (hf : OkMt X id f) (ho : ImE X o fo) (ha : ImA X (e :: es) fa)
    (hbase : attributeBase o mn X.env (eval o X.env) = eval o X.env := by rfl)
    (hfew : ((backTo p (starEach (e :: es) X.env)).all (fun x => !x.1) && (backToKw p (keywordEach [] X.env)).all (fun x => x.1.isSome)
      && decide ((e :: es).length + ([] : List Keyword).length + (if ([] : List Keyword).isEmpty then 0 else 1) < 30)) = true := by rfl)
    (hline : (apos.endLine == p.line) = true := by rfl) (hs : starEach (e :: es) X.env = (false, eval e X.env) :: starEach es X.env := by rfl) (hplain : (backTo p (starEach es X.env)).any (·.1) = false := by rfl) :
    ImE X (.Call (.Attribute o mn apos) (e :: es) [] p) (eBm T f fo fa) := fun bb A G C s H W S tk o' h k q => by
  rcases bind_inv h with ⟨x, C1, h1, rfl⟩ | ⟨x, C1, h1, h⟩
  · exact ⟨_, pe_bm pa slot hty mtR_false wE_ok wA_ok hbase hfew hline hs hplain, ho.er S tk h1 q _⟩
  split at h
  · rename_i ht
    rcases bind_inv h with ⟨y, C2, h2, rfl⟩ | ⟨xs, C2, h2, h⟩
    · exact ⟨_, pe_bm pa slot hty mtR_false wE_ok wA_ok hbase hfew hline hs hplain, ho.ok S tk h1 fun v A1 H1 S1 g1 r1 => ⟨tyOk_ok S1 ht r1, ha.er S1 tk h2 q _⟩⟩
    cases h3 : f x xs C2 with
    | none => rw [h3] at h; cases h
    | some r =>
      obtain ⟨r, C'⟩ := r
      rw [h3] at h
      cases h
      obtain ⟨R, hR, hq⟩ := hf x xs C2 r C' h3
      exact ⟨_, pe_bm pa slot hty hR wE_ok wA_ok hbase hfew hline hs hplain, ho.ok S tk h1 fun v A1 H1 S1 g1 r1 => ⟨tyOk_ok S1 ht r1, ha.ok S1 tk h2 fun vs A2 H2 S2 g2 r2 => hq bb A2 G s H2 v vs S2 (r1.go g2) r2 k fun v A' H' S' rv => q.ok _ _ rfl v A' H' S' rv⟩⟩
  · cases h
theorem im_bm0 {f : OM} {fo : FE} (pa : PlainAttrs T) (slot : Slot T mn id) (hty : typeOf (.builtin id) = pure (.type "method_descriptor")) (hf : OkMt X id f) (ho : ImE X o fo)
    (hpe : ∀ (R : V → List V → Hp → VK → Prop), MtR X id R → PE X (.Call (.Attribute o mn apos) [] [] p) (tBM0 X.K T R (wE X o)) := by exact fun R hR => pe_bm0 (by assumption) (by assumption) (by assumption) hR wE_ok) :
    ImE X (.Call (.Attribute o mn apos) [] [] p) (eBm0 T f fo) := fun bb A G C s H W S tk o' h k q => by
  rcases bind_inv h with ⟨x, C1, h1, rfl⟩ | ⟨x, C1, h1, h⟩
  · exact ⟨_, hpe _ mtR_false, ho.er S tk h1 q _⟩
  split at h
  · rename_i ht
    cases h3 : f x [] C1 with
    | none => rw [h3] at h; cases h
    | some r =>
      obtain ⟨r, C'⟩ := r
      rw [h3] at h
      cases h
      obtain ⟨R, hR, hq⟩ := hf x [] C1 r C' h3
      exact ⟨_, hpe _ hR, ho.ok S tk h1 fun v A1 H1 S1 g1 r1 => ⟨tyOk_ok S1 ht r1, hq bb A1 G s H1 v [] S1 r1 .nil k fun v A' H' S' rv => q.ok _ _ rfl v A' H' S' rv⟩⟩
  · cases h
/-- the n-th cell is a list -/
def cellL (C : Cs) : El → Option (Nat × List El)
  | .at n => match C[n]? with
    | some (some (.lst l)) => some (n, l)
    | _ => none
  | _ => none
theorem cellL_ok {K : Fg} {b : Bs} {A : List Addr} {G : Gs} {C : Cs} {s : St} {H : Hp} {x : El} {v : V} {n : Nat} {l : List El} (S : Sat K b A G C s H) (h : cellL C x = some (n, l)) (r : RepE K A C H x v) : C[n]? = some (some (.lst l)) ∧ ∃ a vs, v = .ref a ∧ A[n]? = some a ∧ H a = some (.lst vs) ∧ All2 (RepE K A C H) l vs := by
  unfold cellL at h
  split at h
  · split at h
    · rename_i e
      cases h
      obtain ⟨a, ea, ev⟩ := r
      obtain ⟨vs, h1, h2⟩ := S.cell _ a _ ea e
      exact ⟨e, a, vs, ev, ea, h1, h2⟩
    · cases h
  · cases h
theorem Sat.setL {K : Fg} {b : Bs} {A : List Addr} {G : Gs} {C : Cs} {s : St} {H : Hp} {n : Nat} {a : Addr} {o : Ob} {l' : List El} {ws : List V} (S : Sat K b A G C s H) (hA : A[n]? = some a) (hC : C[n]? = some (some o)) (h : All2 (RepE K A C H) l' ws) : Sat K b A G (C.set n (some (.lst l'))) s (upd H a (.lst ws)) :=
  S.cellSet hA hC ⟨ws, upd_same, repEs_go (goSet hA hC) h⟩
def mAppend : OM := fun x xs C => match cellL C x, xs with
  | some (n, l), [y] => if l.length < sizeLine then some (.v .non, C.set n (some (.lst (l ++ [y])))) else none
  | _, _ => none
theorem ok_append : OkMt X "list.append" mAppend := fun x xs C r C' h => by
  unfold mAppend at h
  split at h
  · rename_i n l y e1
    split at h
    · rename_i hl
      cases h
      refine ⟨_, mt_append, fun b A G s H v vs S r1 r2 k q => ?_⟩
      obtain ⟨hC, a, ws, ev, ea, h1, h2⟩ := cellL_ok S e1 r1
      obtain ⟨w, rfl, rw'⟩ := one_ r2
      exact ⟨a, ws, w, ev, rfl, h1, by rw [← h2.length]; exact hl, q .non A _ (S.setL ea hC (h2.append (.cons rw' .nil))) rfl⟩
    · cases h
  · cases h
def mExtend : OM := fun x xs C => match cellL C x, xs with
  | some (n, l), [y] => match viewL C y with
    | some m => if l.length + m.length ≤ sizeLine then some (.v .non, C.set n (some (.lst (l ++ m)))) else none
    | none => none
  | _, _ => none
def mPop : OM := fun x xs C => match cellL C x, xs with
  | some (n, l), [] => match l[l.length - 1]? with
    | some y => some (y, C.set n (some (.lst l.dropLast)))
    | none => none
  | some (n, l), [.v (.int i)] => if -(2 ^ 63) ≤ i ∧ i < 2 ^ 63 then match seqIndex? i l.length with
    | some k => match l[k]? with
      | some y => some (y, C.set n (some (.lst (l.eraseIdx k))))
      | none => none
    | none => none
    else none
  | _, _ => none
theorem All2.dropLast {α β : Type} {R : α → β → Prop} {l : List α} {r : List β} (h : All2 R l r) : All2 R l.dropLast r.dropLast := by
  rw [List.dropLast_eq_take, List.dropLast_eq_take, h.length]
  exact h.take _
theorem All2.eraseIdx {α β : Type} {R : α → β → Prop} : ∀ {l : List α} {r : List β} (k : Nat), All2 R l r → All2 R (l.eraseIdx k) (r.eraseIdx k)
  | _, _, _, .nil => .nil
  | _, _, 0, .cons _ t => t
  | _, _, k + 1, .cons q t => .cons q (t.eraseIdx k)
def mClear : OM := fun x xs C => match cellL C x, xs with
  | some (n, l), [] => some (.v .non, C.set n (some (.lst [])))
  | _, _ => none
theorem ok_clear : OkMt X "list.clear" mClear := fun x xs C r C' h => by
  unfold mClear at h
  split at h
  · rename_i n l e1
    cases h
    refine ⟨_, mt_clear, fun b A G s H v vs S r1 r2 k q => ?_⟩
    obtain ⟨hC, a, ws, ev, ea, h1, h2⟩ := cellL_ok S e1 r1
    cases r2
    exact ⟨a, ws, ev, rfl, h1, q .non A _ (S.setL ea hC .nil) rfl⟩
  · cases h

/-! ### list, tuple, dict, sorted -/
/-- a new list as a cell, or as plain data -/
def newL (own : Bool) (l : List El) (C : Cs) : Option (El × Cs) := if own = true then some (.at C.length, C ++ [some (.lst l)]) else match unV l with
  | some ds => some (.v (.lst ds), C)
  | none => none
theorem newL_ok {K : Fg} {own : Bool} {b : Bs} {A : List Addr} {G : Gs} {C C' : Cs} {s : St} {H : Hp} {l : List El} {ws : List V} {r : El} (S : Sat K b A G C s H) (h : newL own l C = some (r, C')) (hv : All2 (RepE K A C H) l ws) {q : VK}
    (hq : ∀ v A' H', Sat K b A' G C' s H' → RepE K A' C' H' r v → q v H') {w : Addr} (hw : H w = none) : q (.ref w) (upd H w (.lst ws)) := by
  unfold newL at h
  split at h
  · cases h
    exact hq _ _ _ (S.cellNew hw ⟨_, upd_same, repEs_go (S.goNew hw) hv⟩) S.atNew
  · split at h
    · rename_i ds e2
      cases h
      rw [unV_some e2] at hv
      exact hq _ A _ (S.ext (Evl.Ex.new hw)) (S.newL hw hv)
    · cases h
def kEl : Key → El
  | .inl i => .v (.int i)
  | .inr s => .v (.str s)
theorem keys_rep {K : Fg} {A : List Addr} {C : Cs} {H : Hp} : ∀ {l : List (Key × El)} {vs : List (Key × V)}, All2 (PairE K A C H) l vs → All2 (RepE K A C H) (l.map fun p => kEl p.1) (vs.map fun p => kV p.1)
  | _, _, .nil => .nil
  | p :: _, _, .cons q t => .cons (by dsimp only; rw [← q.1]; cases p.1 <;> exact rfl) (keys_rep t)
def kD : Key → D
  | .inl i => .int i
  | .inr s => .str s
def tkD (k : List Key) : D := .tup (k.map kD)
def fList (own : Bool) : ON := fun xs C => match xs with
  | [x] => match viewS C x with
    | some l => newL own l C
    | none => match viewT C x with
      | some l => newL own l C
      | none => match viewK C x with
        | some l => newL own (l.map fun p => kEl p.1) C
        | none => match viewTK C x with
          | some l => newL own (l.map fun p => El.v (tkD p.1)) C
          | none => none
  | _ => none
theorem kV_live {K : Fg} {b : Bs} {A : List Addr} {G : Gs} {C : Cs} {s : St} {H : Hp} {a : Addr} {xs : List V} (S : Sat K b A G C s H) (h : H a = some (.tup xs)) : fz A C H a = some (.tup xs) := by
  rw [mk_at fun hm => ?_]
  · exact h
  · obtain ⟨i, o, h1, h2⟩ := live_mem.mp hm
    have z := S.cell i a o h1 h2
    unfold CellOk at z
    split at z
    · obtain ⟨_, z, _⟩ := z; rw [h] at z; cases z
    · obtain ⟨_, z, _⟩ := z; rw [h] at z; cases z
    · obtain ⟨_, _, e, z, _⟩ := z; rw [h, e] at z; cases z
    · obtain ⟨_, z, _⟩ := z; rw [h] at z; cases z
    · obtain ⟨_, _, e, z, _⟩ := z; rw [h, e] at z; cases z
    · obtain ⟨_, _, z, _⟩ := z; rw [h] at z; cases z
    · obtain ⟨_, _, z, _⟩ := z; rw [h] at z; cases z
theorem kD_rep {K : Fg} {M : Hp} : ∀ {l : List Key}, RepL K M (l.map kD) (l.map kV)
  | [] => rfl
  | .inl i :: l => ⟨_, _, rfl, rfl, kD_rep⟩
  | .inr i :: l => ⟨_, _, rfl, rfl, kD_rep⟩
theorem tkeys_rep {K : Fg} {b : Bs} {A : List Addr} {G : Gs} {C : Cs} {s : St} {H : Hp} (S : Sat K b A G C s H) : ∀ {l : List (List Key × El)} {vs : List (List Key × V)} {bs : List Addr}, All2 (PairE K A C H) l vs → IsKeys H vs bs → All2 (RepE K A C H) (l.map fun p => El.v (tkD p.1)) (bs.map V.ref)
  | _, _, _, .nil, .nil => .nil
  | p :: _, _, _, .cons q t, .cons h t2 => .cons ⟨_, _, rfl, kV_live S h, by rw [← q.1]; exact kD_rep⟩ (tkeys_rep S t t2)
theorem ok_list (own : Bool) (hc : X.calm = true) : OkCall X (.type "list") (fList own) := fun xs C r C' h => by
  unfold fList at h
  split at h
  · rename_i x
    split at h
    · rename_i l e1
      refine ⟨_, call_list_of, fun b A G s H vs S ra k q => ?_⟩
      obtain ⟨v, rfl, rb⟩ := one_ ra
      obtain ⟨a, ws, ev, h1, h2⟩ := viewS_ok S e1 rb
      subst ev
      exact ⟨a, ws, rfl, .inl h1, fun w hw => newL_ok S h h2 q hw⟩
    · split at h
      · rename_i l e1
        refine ⟨_, call_list_of, fun b A G s H vs S ra k q => ?_⟩
        obtain ⟨v, rfl, rb⟩ := one_ ra
        obtain ⟨a, ws, ev, h1, h2⟩ := viewT_ok S e1 rb
        subst ev
        exact ⟨a, ws, rfl, .inr (.inl (.inl h1)), fun w hw => newL_ok S h h2 q hw⟩
      · split at h
        · rename_i l e1
          refine ⟨_, call_listD hc, fun b A G s H vs S ra k q => ?_⟩
          obtain ⟨v, rfl, rb⟩ := one_ ra
          obtain ⟨a, ws, ev, h1, h2⟩ := viewK_ok S e1 rb
          subst ev
          exact ⟨a, ws, rfl, h1, fun w hw => newL_ok S h (keys_rep h2) q hw⟩
        · split at h
          · rename_i l e1
            refine ⟨_, call_list_dT hc, fun b A G s H vs S ra k q => ?_⟩
            obtain ⟨v, rfl, rb⟩ := one_ ra
            obtain ⟨a, ws, ev, h1, h2⟩ := viewTK_ok S e1 rb
            subst ev
            exact ⟨a, ws, rfl, h1, fun w bs hw hk => newL_ok S h (tkeys_rep S h2 hk) q hw⟩
          · cases h
  · cases h
def fTuple : ON := fun xs C => match xs with
  | [x] => match viewS C x with
    | some l => some (mkTup l, C)
    | none => none
  | _ => none
/-- a dict anew, as a cell -/
def fDict : ON := fun xs C => match xs with
  | [x] => match viewK C x with
    | some l => some (.at C.length, C ++ [some (.dk none l)])
    | none => none
  | _ => none
/-- ints in order -/
def sortI (l : List Int) : List Int := l.mergeSort fun a b => decide (a ≤ b)
theorem sortI_perm (l : List Int) : (sortI l).Perm l := List.mergeSort_perm l _
theorem sortI_sorted (l : List Int) : (sortI l).Pairwise (· ≤ ·) := by
  have := List.pairwise_mergeSort (le := fun (a b : Int) => decide (a ≤ b)) (fun a b c h1 h2 => by simp at *; omega) (fun a b => by simp; omega) l
  exact this.imp fun h => by simpa using h
theorem sortI_of {l m : List Int} (hp : m.Perm l) (hs : m.Pairwise (· ≤ ·)) : m = sortI l := PySem.W.ksm_same (hp.trans (sortI_perm l).symm) hs (sortI_sorted l)
def intKeys : List (Key × El) → Option (List Int)
  | [] => some []
  | (.inl i, _) :: l => (intKeys l).map (i :: ·)
  | (.inr _, _) :: _ => none
theorem intKeys_ok : ∀ {l : List (Key × El)} {ns : List Int} {κ : Type} {vs : List (Key × V)}, intKeys l = some ns → All2 (fun (p : Key × El) (q : Key × V) => p.1 = q.1) l vs → vs.map (·.1) = ns.map Sum.inl
  | [], ns, _, vs, h, r => by cases h; cases r; rfl
  | (.inl i, e) :: l, ns, κ, vs, h, r => by
    cases r with
    | cons r1 r2 =>
      unfold intKeys at h
      cases e1 : intKeys l with
      | none => rw [e1] at h; cases h
      | some m =>
        rw [e1] at h
        cases h
        rw [List.map_cons, List.map_cons, intKeys_ok (κ := κ) e1 r2, ← r1]
  | (.inr _, _) :: _, _, _, _, h, _ => by cases h
def fSorted (own : Bool) : ON := fun xs C => match xs with
  | [x] => match viewS C x with
    | some l => match intsE l with
      | some ns => newL own ((sortI ns).map fun i => .v (.int i)) C
      | none => none
    | none => match viewK C x with
      | some l => match intKeys l with
        | some ns => if ns.length < 64 then newL own ((sortI ns).map fun i => .v (.int i)) C else none
        | none => none
      | none => none
  | _ => none
theorem reps_ints {K : Fg} {A : List Addr} {C : Cs} {H : Hp} : ∀ {l : List Int}, All2 (RepE K A C H) (l.map fun i => El.v (.int i)) (l.map V.int)
  | [] => .nil
  | _ :: _ => .cons rfl reps_ints
theorem ok_sorted (own : Bool) (hc : X.calm = true) : OkCall X (.builtin "sorted") (fSorted own) := fun xs C r C' h => by
  unfold fSorted at h
  split at h
  · rename_i x
    split at h
    · rename_i l e1
      split at h
      · rename_i ns e2
        refine ⟨_, cr_sortedI, fun b A G s H vs S ra k q => ?_⟩
        obtain ⟨v, rfl, rb⟩ := one_ ra
        obtain ⟨a, ws, ev, h1, h2⟩ := viewS_ok S e1 rb
        subst ev
        rw [intsE_ok e2 h2] at h1
        refine ⟨a, ns, rfl, h1, fun ns' w hp hs hw => ?_⟩
        rw [sortI_of hp hs]
        exact newL_ok S h reps_ints q hw
      · cases h
    · split at h
      · rename_i l e1
        split at h
        · rename_i ns e2
          split at h
          · rename_i hl
            refine ⟨_, call_sortedDI hc, fun b A G s H vs S ra k q => ?_⟩
            obtain ⟨v, rfl, rb⟩ := one_ ra
            obtain ⟨a, ws, ev, h1, h2⟩ := viewK_ok S e1 rb
            subst ev
            refine ⟨a, ws, ns, rfl, h1, intKeys_ok (κ := Key) e2 (h2.imp fun _ _ z => z.1), hl, fun ns' w hp hs hw => ?_⟩
            rw [sortI_of hp hs]
            exact newL_ok S h reps_ints q hw
          · cases h
        · cases h
      · cases h
  · cases h
/-! ### d.pop(k) -/
def dropKE {κ : Type} [DecidableEq κ] (l : List (κ × El)) (k : κ) : List (κ × El) := l.filter fun kv => decide (kv.1 ≠ k)
def cellK (C : Cs) : El → Option (Nat × List (Key × El))
  | .at n => match C[n]? with
    | some (some (.dk none l)) => some (n, l)
    | _ => none
  | _ => none
/-- x.pop(y): of a dict, of a list -/
def ePop1 (fo fe : FE) : FE := fun G C => (fo G C).bind fun x C => match cellK C x with
  | some (n, _) => (fe G C).bind fun y C => match cellK C x, keyE y with
    | some (n, l), some k => match val l k with
      | some r => some (.ok r, C.set n (some (.dk none (dropKE l k))))
      | none => none
    | _, _ => none
  | none => if tyOk "list" C x = true then (fe G C).bind fun y C => (mPop x [y] C).map fun r => (.ok r.1, r.2) else none
end
end R
namespace R
open PySem L2

/-- the built-ins' names are free -/
structure Bl (mg : Str → Option Value) : Prop where
  len : mg "len" = none
  range : mg "range" = none
  zip : mg "zip" = none
  enumerate : mg "enumerate" = none
  reversed : mg "reversed" = none
  int : mg "int" = none
  str : mg "str" = none
  bool : mg "bool" = none
  list : mg "list" = none
  tuple : mg "tuple" = none
  dict : mg "dict" = none
  set : mg "set" = none
  sorted : mg "sorted" = none
  min : mg "min" = none
  max : mg "max" = none
  sum : mg "sum" = none
  all : mg "all" = none
  any : mg "any" = none
  isinstance : mg "isinstance" = none
  divmod : mg "divmod" = none
  verr : mg "ValueError" = none

/-! ### tables -/
def tabX (l : List (Str × Str × Bool)) (x y : Str) : Option Bool := match l with
  | [] => none
  | (a, b, k) :: r => if a = x ∧ b = y then some k else tabX r x y
theorem tabX_ok {Q : Str → Str → Bool → Prop} : ∀ {l : List (Str × Str × Bool)} {x y : Str} {b : Bool}, (∀ t ∈ l, Q t.1 t.2.1 t.2.2) → tabX l x y = some b → Q x y b
  | [], _, _, _, _, h => by cases h
  | (a, b, k) :: r, x, y, z, hq, h => by
    unfold tabX at h
    split at h
    · rename_i e
      obtain ⟨rfl, rfl⟩ := e
      cases h
      exact hq _ List.mem_cons_self
    · exact tabX_ok (fun t ht => hq t (List.mem_cons_of_mem _ ht)) h
def tagT : D → Option (Bool × Str)
  | .cls n => some (true, n)
  | .ty n => some (false, n)
  | _ => none
def sameD : D → D → Bool
  | .cls n, .cls m => decide (n = m)
  | .ty n, .ty m => decide (n = m)
  | _, _ => false
theorem sameD_eq {a b : D} (h : sameD a b = true) : a = b := by
  unfold sameD at h
  split at h
  · rw [of_decide_eq_true h]
  · rw [of_decide_eq_true h]
  · cases h
def tabT (l : List (Str × D × Bool)) (y : Str) (d : D) : Option Bool := match l with
  | [] => none
  | (a, b, k) :: r => if a = y ∧ sameD b d = true then some k else tabT r y d
theorem tabT_ok {Q : Str → D → Bool → Prop} : ∀ {l : List (Str × D × Bool)} {y : Str} {d : D} {b : Bool}, (∀ t ∈ l, Q t.1 t.2.1 t.2.2) → tabT l y d = some b → Q y d b
  | [], _, _, _, _, h => by cases h
  | (a, b, k) :: r, x, y, z, hq, h => by
    unfold tabT at h
    split at h
    · rename_i e
      obtain ⟨rfl, e2⟩ := e
      cases h
      rw [← sameD_eq e2]
      exact hq _ List.mem_cons_self
    · exact tabT_ok (fun t ht => hq t (List.mem_cons_of_mem _ ht)) h
/-- what isinstance looks at in an error class -/
theorem excB_ok {K : PySem.W.Frag} {D : Addr} (h : excB K D = true) : ExcC K D := by
  unfold excB at h
  obtain ⟨h1, h⟩ := Bool.and_eq_true_iff.mp h
  obtain ⟨h2, h⟩ := Bool.and_eq_true_iff.mp h
  obtain ⟨h3, h⟩ := Bool.and_eq_true_iff.mp h
  obtain ⟨h4, h⟩ := Bool.and_eq_true_iff.mp h
  obtain ⟨h5, h⟩ := Bool.and_eq_true_iff.mp h
  obtain ⟨h6, h⟩ := Bool.and_eq_true_iff.mp h
  obtain ⟨h7, h8⟩ := Bool.and_eq_true_iff.mp h
  exact ⟨of_decide_eq_true h1, of_decide_eq_true h2, of_decide_eq_true h3, h4, of_decide_eq_true h5, of_decide_eq_true h6, of_decide_eq_true h7, of_decide_eq_true h8⟩

theorem _root_.L2.Room.u64 {k : Nat} {A : Around} (r : Room k A) : A.units + 64 < cLine := by have := r.un; omega
theorem _root_.L2.Room.u65 {k : Nat} {A : Around} (r : Room k A) : A.units + 65 < cLine := by have := r.un; omega
theorem _root_.L2.Room.u1 {k : Nat} {A : Around} (r : Room k A) : A.units + 1 < cLine := by have := r.un; omega
/-! ### the law itself -/
theorem walk_ofW {l : PySem.W.OpenLaw} {n k : Nat} {q : Program} {loose : List Str} {XP : (Str → Option Value) → Heap → Prop} {YP : World → Heap → Prop} {d : DefRec} {CX : World → CXT} {x : Str}
    (hn : l.most = some n) (hn2 : n ≤ sizeLine) (hdf : d.params.defaults = []) (hr : Room k PySem.callerA)
    (F : ∀ (w : World) (mg : Str → Option Value) (fa : Addr) (h : Heap), YP w h → h.Ns mainGlobals mg → mg d.name = some (.ref fa) →
      ∃ (K : PySem.W.Frag) (fd : FuncData) (sp : Sp), K.In h ∧ (∀ (s : Shared) (u : Value), BindsTo s fd ⟨[u], []⟩ [(x, u)]) ∧
        (∀ (H : Hp) (a : Addr) (ns : List Int), ns.length ≤ n → Only H → SqL K H a (ns.map V.int) → sp [.ref a] H (fun v _ => v = .bl true) fun _ _ _ => False) ∧
        ∀ base : Heap, K.In base → base.Ns mainGlobals mg → FnOk l.prog w K mg base (CX w) k fa fd [x] sp)
    (hCX : ∀ (w : World) (H : Hp) (s : Shared) (e : Value) (s' : Shared), CX w [] H s (fun _ _ _ => False) e s' → False) :
    PySem.W.WalkO q loose XP YP l.row.toRowW d [] (fun f vs => PySem.call f vs) := by
  refine Att.attach_call hn hdf fun w s₀ s₁ mg mb fa o pm cd doc a vs ns G Y ho hd hcd hmg hobj hints hlen hg => ?_
  obtain ⟨K, fd, sp, KX, hb, hsp, hF⟩ := F w mg fa _ Y G.T.g hmg
  exact law_call KX G.T.g G.T.b G.T.builtins G.T.nolimit hg hobj hints (Nat.le_trans hlen hn2) hr hF hb (fun H hO hS => hsp H a ns hlen hO hS) fun H e s' => hCX w H s₁ e s'
theorem sp_law {K : Fg} {m : Fn} {H : Hp} {a : Addr} {ns : List Int} (h : ∃ C, m [.v (.scr ns)] [] = some (.ok (.v (.bl true)), C)) (hS : SqL K H a (ns.map V.int)) : spM K m [.ref a] H (fun v _ => v = .bl true) fun _ _ _ => False := by
  obtain ⟨C, h⟩ := h
  have S : Sat K (Bs.now [] [] H) [] [] [] [] H := ⟨rfl, List.Pairwise.nil, Evl.Ex.refl _, List.prefix_rfl, fun i a o h1 h2 => (by cases h1), .nil⟩
  refine ⟨[], [], [.v (.scr ns)], S, .cons ⟨a, rfl, ?_⟩ .nil, _, h, ?_⟩
  · have e : fz [] [] H = H := funext fun x => mk_at (A := []) (C := []) (H := H) (by unfold live; exact List.not_mem_nil)
    rw [e]
    rcases hS with hS | hS
    · exact .inl hS
    · exact .inr (.inr hS)
  · exact ⟨(fun r C' z v A' H' T rv => by cases z; exact rv), (fun x C' z => by cases z)⟩
end R
namespace R
open PySem L2

/-! ### what mirrors yield: by the ends wanted -/
def wp {α : Type} (m : Mr α) (Q : α → Cs → Prop) (E : Exn → Cs → Prop) : Prop := match m with
  | some (.ok a, C) => Q a C
  | some (.er x, C) => E x C
  | none => False
def wps (o : Option (Fl × Gs × Cs)) (Q : Fl → Gs → Cs → Prop) : Prop := match o with
  | some (fl, G, C) => Q fl G C
  | none => False
section
variable {α β : Type} {a : α} {x : Exn} {C C' : Cs} {Q : α → Cs → Prop} {E : Exn → Cs → Prop} {G : Gs} {g : Option El} {T : Fl → Gs → Cs → Prop}
theorem w_ok : wp (some (.ok a, C)) Q E = Q a C := id rfl
theorem w_er : wp (some (.er x, C)) Q E = E x C := id rfl
theorem w_none : wp (none : Mr α) Q E = False := id rfl
theorem w_bind {m : Mr β} {k : β → Cs → Mr α} : wp (m.bind k) Q E = wp m (fun b C => wp (k b C) Q E) E := by
  rcases m with _ | ⟨_ | _, _⟩ <;> rfl
theorem ws_some {fl : Fl} : wps (some (fl, G, C)) T = T fl G C := id rfl
theorem ws_none : wps none T = False := id rfl
theorem ws_bind {m : Mr β} {k : β → Cs → Option (Fl × Gs × Cs)} : wps (sBind m G k) T = wp m (fun b C => wps (k b C) T) (fun x C => T (.er x) G C) := by
  rcases m with _ | ⟨_ | _, _⟩ <;> rfl
theorem of_wp {m : Mr α} (h : wp m (fun b C1 => b = a ∧ C1 = C) (fun _ _ => False)) : m = some (.ok a, C) := by
  rcases m with _ | ⟨_ | _, _⟩
  · exact h.elim
  · obtain ⟨h1, h2⟩ := h; subst h1 h2; rfl
  · exact h.elim
theorem of_wp_er {m : Mr α} (h : wp m (fun _ _ => False) (fun y C1 => y = x ∧ C1 = C)) : m = some (.er x, C) := by
  rcases m with _ | ⟨_ | _, _⟩
  · exact h.elim
  · exact h.elim
  · obtain ⟨h1, h2⟩ := h; subst h1 h2; rfl
theorem wp_mono {m : Mr α} {Q' : α → Cs → Prop} {E' : Exn → Cs → Prop} (h : wp m Q E) (hq : ∀ a C, Q a C → Q' a C) (he : ∀ a C, E a C → E' a C) : wp m Q' E' := by
  rcases m with _ | ⟨_ | _, _⟩
  · exact h
  · exact hq _ _ h
  · exact he _ _ h
theorem wps_mono {o : Option (Fl × Gs × Cs)} {T' : Fl → Gs → Cs → Prop} (h : wps o T) (hq : ∀ fl G C, T fl G C → T' fl G C) : wps o T' := by
  rcases o with _ | ⟨_, _, _⟩
  · exact h
  · exact hq _ _ _ h
/-- an option's value -/
def wo (o : Option α) (Q : α → Prop) : Prop := match o with
  | some a => Q a
  | none => False
theorem wo_some {Q : α → Prop} : wo (some a) Q = Q a := id rfl
theorem wo_none {Q : α → Prop} : wo none Q = False := id rfl
theorem wo_map {o : Option β} {f : β → α} {Q : α → Prop} : wo (o.map f) Q = wo o fun b => Q (f b) := by cases o <;> rfl
theorem w_map {o : Option β} {f : β → Rz α × Cs} : wp (o.map f) Q E = wo o fun b => wp (some (f b)) Q E := by cases o <;> rfl
theorem ws_map {o : Option β} {f : β → Fl × Gs × Cs} : wps (o.map f) T = wo o fun b => T (f b).1 (f b).2.1 (f b).2.2 := by cases o <;> rfl
end
section
variable {Q : El → Cs → Prop} {QB : Bool → Cs → Prop} {QA : List El → Cs → Prop} {QO : Option Int → Cs → Prop} {E : Exn → Cs → Prop} {g : Option El} {G : Gs} {C : Cs} {T : Fl → Gs → Cs → Prop} {r : El}
/-! ### expressions -/
theorem w_C {d : D} : wp (eC d (g :: G) C) Q E = Q (.v d) C := id rfl
theorem w_bin {o : O2} {fa fb : FE} : wp (eBin o fa fb (g :: G) C) Q E = wp (fa (g :: G) C) (fun x C => wp (fb (g :: G) C) (fun y C => wo (o x y C) fun r => Q r.1 r.2) E) E := by
  unfold eBin
  rw [w_bind]
  simp only [w_bind, w_map, w_ok]
theorem w_cmp {o : B2} {fa fb : FE} : wp (eCmp o fa fb (g :: G) C) QB E = wp (fa (g :: G) C) (fun x C => wp (fb (g :: G) C) (fun y C => wo (o x y C) fun c => QB c C) E) E := by
  unfold eCmp
  simp only [w_bind, w_map, w_ok]
theorem w_B {f : FT} : wp (eB f (g :: G) C) Q E = wp (f (g :: G) C) (fun c C => Q (.v (.bl c)) C) E := by
  unfold eB
  simp only [w_bind, w_ok]
theorem w_ch {o o' : B2} {fa fb fc : FE} : wp (eCh o o' fa fb fc (g :: G) C) QB E = wp (fa (g :: G) C) (fun x C => wp (fb (g :: G) C) (fun y C => wo (o x y C) fun c => (c = false → QB false C) ∧ (c = true → wp (fc (g :: G) C) (fun z C => wo (o' y z C) fun c => QB c C) E)) E) E := by
  unfold eCh
  simp only [w_bind]
  congr 1
  funext x C
  congr 1
  funext y C
  cases o x y C with
  | none => rfl
  | some c =>
    cases c
    · simp [wo, w_ok]
    · simp [wo, w_bind, w_map, w_ok]
def asB (r : El) (Q : Bool → Prop) : Prop := match r with
  | .v (.bl c) => Q c
  | _ => False
theorem asB_bl {c : Bool} {Q : Bool → Prop} : asB (.v (.bl c)) Q = Q c := rfl
theorem w_V {f : FE} : wp (tV f (g :: G) C) QB E = wp (f (g :: G) C) (fun r C => asB r fun c => QB c C) E := by
  unfold tV
  simp only [w_bind]
  congr 1
  funext r C
  rcases r with d | n | l
  · cases d <;> rfl
  · rfl
  · rfl
theorem w_not {f : FE} : wp (eNot f (g :: G) C) Q E = wp (f (g :: G) C) (fun r C => asB r fun c => Q (.v (.bl !c)) C) E := by
  unfold eNot
  simp only [w_bind]
  congr 1
  funext r C
  rcases r with d | n | l
  · cases d <;> rfl
  · rfl
  · rfl
theorem w_tnot {f : FT} : wp (tNot f (g :: G) C) QB E = wp (f (g :: G) C) (fun c C => QB (!c) C) E := by
  unfold tNot
  simp only [w_bind, w_ok]
theorem w_and {f h : FE} : wp (eAnd f h (g :: G) C) Q E = wp (f (g :: G) C) (fun r C => asB r fun c => (c = true → wp (h (g :: G) C) Q E) ∧ (c = false → Q (.v (.bl false)) C)) E := by
  unfold eAnd
  simp only [w_bind]
  congr 1
  funext r C
  unfold asB
  split
  · simp
  · simp [w_ok]
  · rename_i h1 h2
    split
    · rename_i c
      cases c <;> simp_all
    · rfl
theorem w_or {f h : FE} : wp (eOr f h (g :: G) C) Q E = wp (f (g :: G) C) (fun r C => asB r fun c => (c = false → wp (h (g :: G) C) Q E) ∧ (c = true → Q (.v (.bl true)) C)) E := by
  unfold eOr
  simp only [w_bind]
  congr 1
  funext r C
  unfold asB
  split
  · simp
  · simp [w_ok]
  · rename_i h1 h2
    split
    · rename_i c
      cases c <;> simp_all
    · rfl
theorem w_ite {α : Type} {c : Bool} {m n : Mr α} {Q : α → Cs → Prop} : wp (if c = true then m else n) Q E = ((c = true → wp m Q E) ∧ (c = false → wp n Q E)) := by cases c <;> simp
theorem ws_ite {c : Bool} {m n : Option (Fl × Gs × Cs)} : wps (if c = true then m else n) T = ((c = true → wps m T) ∧ (c = false → wps n T)) := by cases c <;> simp
theorem w_tand {f h : FT} : wp (tAnd f h (g :: G) C) QB E = wp (f (g :: G) C) (fun c C => (c = true → wp (h (g :: G) C) QB E) ∧ (c = false → QB false C)) E := by
  unfold tAnd
  simp only [w_bind, w_ite, w_ok]
theorem w_tor {f h : FT} : wp (tOr f h (g :: G) C) QB E = wp (f (g :: G) C) (fun c C => (c = true → QB true C) ∧ (c = false → wp (h (g :: G) C) QB E)) E := by
  unfold tOr
  simp only [w_bind, w_ite, w_ok]
theorem w_if {t : FT} {f h : FE} : wp (eIf t f h (g :: G) C) Q E = wp (t (g :: G) C) (fun c C => (c = true → wp (f (g :: G) C) Q E) ∧ (c = false → wp (h (g :: G) C) Q E)) E := by
  unfold eIf
  simp only [w_bind, w_ite]
def asI (r : El) (Q : Int → Prop) : Prop := match r with
  | .v (.int c) => Q c
  | _ => False
theorem asI_int {c : Int} {Q : Int → Prop} : asI (.v (.int c)) Q = Q c := rfl
theorem w_neg {f : FE} : wp (eNeg f (g :: G) C) Q E = wp (f (g :: G) C) (fun r C => asI r fun i => Q (.v (.int (-i))) C) E := by
  unfold eNeg
  simp only [w_bind]
  congr 1
  funext r C
  rcases r with d | n | l
  · cases d <;> rfl
  · rfl
  · rfl
theorem w_anil : wp (aNil (g :: G) C) QA E = QA [] C := id rfl
theorem w_acons {f : FE} {h : FA} : wp (aCons f h (g :: G) C) QA E = wp (f (g :: G) C) (fun r C => wp (h (g :: G) C) (fun rs C => QA (r :: rs) C) E) E := by
  unfold aCons
  simp only [w_bind, w_ok]
theorem w_lst {h : FA} : wp (eLst h (g :: G) C) Q E = wp (h (g :: G) C) (fun rs C => wo (unV rs) fun ds => ds.length ≤ sizeLine ∧ Q (.v (.lst ds)) C) E := by
  unfold eLst
  simp only [w_bind]
  congr 1
  funext r C
  cases unV r with
  | none => rfl
  | some ds =>
    simp only [wo]
    split
    · simp_all [w_ok]
    · rename_i h
      exact (eq_false fun z => h z.1).symm
theorem w_tup {h : FA} : wp (eTup h (g :: G) C) Q E = wp (h (g :: G) C) (fun rs C => rs.length ≤ sizeLine ∧ Q (mkTup rs) C) E := by
  unfold eTup
  simp only [w_bind]
  congr 1
  funext r C
  split
  · simp_all [w_ok]
  · rename_i h
    exact (eq_false fun z => h z.1).symm
theorem w_lstC {h : FA} : wp (eLstC h (g :: G) C) Q E = wp (h (g :: G) C) (fun rs C => rs.length ≤ sizeLine ∧ Q (.at C.length) (C ++ [some (.lst rs)])) E := by
  unfold eLstC
  simp only [w_bind]
  congr 1
  funext r C
  split
  · simp_all [w_ok]
  · rename_i h
    exact (eq_false fun z => h z.1).symm
theorem w_dict : wp (eDict (g :: G) C) Q E = Q (.at C.length) (C ++ [some (.dk none [])]) := id rfl
theorem w_dictT : wp (eDictT (g :: G) C) Q E = Q (.at C.length) (C ++ [some (.dt none [])]) := id rfl
theorem w_ix {fa fb : FE} : wp (eIx fa fb (g :: G) C) Q E = wp (fa (g :: G) C) (fun x C => wp (fb (g :: G) C) (fun y C => wo (oIx C x y) fun r => Q r C) E) E := by
  unfold eIx
  simp only [w_bind, w_map, w_ok]
theorem w_pNone : wp (pNone (g :: G) C) QO E = QO none C := id rfl
theorem w_pSome {f : FE} : wp (pSome f (g :: G) C) QO E = wp (f (g :: G) C) (fun r C => asI r fun i => QO (some i) C) E := by
  unfold pSome
  simp only [w_bind]
  congr 1
  funext r C
  rcases r with d | n | l
  · cases d <;> rfl
  · rfl
  · rfl
theorem w_cut {own : Bool} {fa : FE} {fl fh : FO} : wp (eCut own fa fl fh (g :: G) C) Q E = wp (fa (g :: G) C) (fun a C => wp (fl (g :: G) C) (fun x C => wp (fh (g :: G) C) (fun y C => wo (oCut own C a x y) fun r => Q r.1 r.2) E) E) E := by
  unfold eCut
  simp only [w_bind, w_map, w_ok]
theorem w_fn {f : ON} {fa : FA} : wp (eFn f fa (g :: G) C) Q E = wp (fa (g :: G) C) (fun xs C => wo (f xs C) fun r => Q r.1 r.2) E := by
  unfold eFn
  simp only [w_bind, w_map, w_ok]
theorem w_fld {f : Str} {cs : List Str} {fo : FE} : wp (eFld f cs fo (g :: G) C) Q E = wp (fo (g :: G) C) (fun r C => wo (viewI C r) fun nf => cs.contains nf.1 = true ∧ wo (lookE f nf.2) fun r => Q r C) E := by
  unfold eFld
  simp only [w_bind]
  congr 1
  funext r C
  cases viewI C r with
  | none => rfl
  | some nf =>
    simp only [wo]
    split
    · simp_all [w_map, w_ok, wo]
    · simp_all [w_none]
theorem w_call {m : Fn} {dd : List D} {fa : FA} : wp (eCall m dd fa (g :: G) C) Q E = wp (fa (g :: G) C) (fun rs C => wp (m (rs ++ dd.map El.v) C) Q E) E := by
  unfold eCall
  simp only [w_bind]
theorem w_call0 {m : Fn} {dd : List D} : wp (eCall0 m dd (g :: G) C) Q E = wp (m (dd.map El.v) C) Q E := id rfl
theorem w_make {n : Str} {m : Fn} {dd : List D} {own : Bool} {fa : FA} : wp (eMake n m dd own fa (g :: G) C) Q E = wp (fa (g :: G) C) (fun rs C => wp (mkIns n m own (rs ++ dd.map El.v) C) Q E) E := by
  unfold eMake
  simp only [w_bind]
theorem w_make0 {n : Str} {m : Fn} {dd : List D} {own : Bool} : wp (eMake0 n m dd own (g :: G) C) Q E = wp (mkIns n m own (dd.map El.v) C) Q E := id rfl
theorem w_meth {mn : Str} {t : MTab} {fo : FE} {fa : FA} : wp (eMeth mn t fo fa (g :: G) C) Q E = wp (fo (g :: G) C) (fun r C => wo (viewI C r) fun nf => (lookE mn nf.2).isNone = true ∧ wo (mtab t nf.1) fun md => wp (fa (g :: G) C) (fun rs C => wp (md.1 (r :: (rs ++ md.2.map El.v)) C) Q E) E) E := by
  unfold eMeth
  simp only [w_bind]
  congr 1
  funext r C
  cases viewI C r with
  | none => rfl
  | some nf =>
    obtain ⟨n, fs⟩ := nf
    simp only [wo]
    split
    · rename_i h
      simp only [h, true_and]
      cases mtab t n with
      | none => rfl
      | some md => simp only [w_bind]
    · simp_all [w_none]
theorem w_meth0 {mn : Str} {t : MTab} {fo : FE} : wp (eMeth0 mn t fo (g :: G) C) Q E = wp (fo (g :: G) C) (fun r C => wo (viewI C r) fun nf => (lookE mn nf.2).isNone = true ∧ wo (mtab t nf.1) fun md => wp (md.1 (r :: md.2.map El.v) C) Q E) E := by
  unfold eMeth0
  simp only [w_bind]
  congr 1
  funext r C
  cases viewI C r with
  | none => rfl
  | some nf =>
    obtain ⟨n, fs⟩ := nf
    simp only [wo]
    split
    · rename_i h
      simp only [h, true_and]
      cases mtab t n with
      | none => rfl
      | some md => rfl
    · simp_all [w_none]
theorem w_bm {ty : String} {f : OM} {fo : FE} {fa : FA} : wp (eBm ty f fo fa (g :: G) C) Q E = wp (fo (g :: G) C) (fun x C => tyOk ty C x = true ∧ wp (fa (g :: G) C) (fun xs C => wo (f x xs C) fun r => Q r.1 r.2) E) E := by
  unfold eBm
  simp only [w_bind]
  congr 1
  funext r C
  split
  · simp_all [w_bind, w_map, w_ok]
  · simp_all [w_none]
theorem w_bm0 {ty : String} {f : OM} {fo : FE} : wp (eBm0 ty f fo (g :: G) C) Q E = wp (fo (g :: G) C) (fun x C => tyOk ty C x = true ∧ wo (f x [] C) fun r => Q r.1 r.2) E := by
  unfold eBm0
  simp only [w_bind]
  congr 1
  funext r C
  split
  · simp_all [w_map, w_ok]
  · simp_all [w_none]
/-! ### statements -/
theorem ws_nil : wps (sNil (g :: G) C) T = T .nx (g :: G) C := id rfl
theorem ws_pass : wps (sPass (g :: G) C) T = T .nx (g :: G) C := id rfl
theorem ws_brk : wps (sBrk (g :: G) C) T = T .bk (g :: G) C := id rfl
theorem ws_cnt : wps (sCnt (g :: G) C) T = T .ct (g :: G) C := id rfl
theorem ws_retN : wps (sRetN (g :: G) C) T = T (.rt (.v .non)) (g :: G) C := id rfl
theorem ws_raise {x : Str} : wps (sRaise x (g :: G) C) T = T (.er ⟨x, none⟩) (g :: G) C := id rfl
def thenS (h : FS) (T : Fl → Gs → Cs → Prop) : Fl → Gs → Cs → Prop := fun fl G C => match fl with
  | .nx => wps (h G C) T
  | fl => T fl G C
theorem thenS_nx {h : FS} {G : Gs} : thenS h T .nx G C = wps (h G C) T := id rfl
theorem thenS_rt {h : FS} {G : Gs} : thenS h T (.rt r) G C = T (.rt r) G C := id rfl
theorem thenS_bk {h : FS} {G : Gs} : thenS h T .bk G C = T .bk G C := id rfl
theorem thenS_ct {h : FS} {G : Gs} : thenS h T .ct G C = T .ct G C := id rfl
theorem thenS_er {h : FS} {G : Gs} {x : Exn} : thenS h T (.er x) G C = T (.er x) G C := id rfl
theorem ws_cons {f h : FS} : wps (sCons f h (g :: G) C) T = wps (f (g :: G) C) (thenS h T) := by
  unfold sCons
  rcases f (g :: G) C with _ | ⟨_ | _ | _ | _ | _, _, _⟩ <;> rfl
theorem ws_exp {fe : FE} : wps (sExp fe (g :: G) C) T = wp (fe (g :: G) C) (fun _ C => T .nx (g :: G) C) (fun x C => T (.er x) (g :: G) C) := by
  unfold sExp
  simp only [ws_bind, ws_some]
theorem ws_ret {fe : FE} : wps (sRet fe (g :: G) C) T = wp (fe (g :: G) C) (fun r C => T (.rt r) (g :: G) C) (fun x C => T (.er x) (g :: G) C) := by
  unfold sRet
  simp only [ws_bind, ws_some]
theorem ws_if {t : FT} {f h : FS} : wps (sIf t f h (g :: G) C) T = wp (t (g :: G) C) (fun c C => (c = true → wps (f (g :: G) C) T) ∧ (c = false → wps (h (g :: G) C) T)) (fun x C => T (.er x) (g :: G) C) := by
  unfold sIf
  simp only [ws_bind, ws_ite]
theorem ws_to {tg : FG} {fe : FE} : wps (sTo tg fe (g :: G) C) T = wp (fe (g :: G) C) (fun r C => wo (tg r (g :: G) C) fun G => T .nx G C) (fun x C => T (.er x) (g :: G) C) := by
  unfold sTo
  simp only [ws_bind, ws_map]
theorem ws_put {fe fo fi : FE} : wps (sPut fe fo fi (g :: G) C) T = wp (fe (g :: G) C) (fun y C => wp (fo (g :: G) C) (fun r C => wp (fi (g :: G) C) (fun i C => wo (oPut C r i y) fun C => T .nx (g :: G) C) (fun x C => T (.er x) (g :: G) C)) (fun x C => T (.er x) (g :: G) C)) (fun x C => T (.er x) (g :: G) C) := by
  unfold sPut
  simp only [ws_bind, ws_map]
def fldP (f : Str) (cs : List Str) (y r : El) (C : Cs) (Q : Cs → Prop) : Prop := match r with
  | .at m => match C[m]? with
    | some (some (.ins n fs)) => cs.contains n = true ∧ fs.length < 1000 ∧ Q (C.set m (some (.ins n (putE f y fs))))
    | _ => False
  | _ => False
theorem ws_fld {f : Str} {cs : List Str} {fe fo : FE} : wps (sFld f cs fe fo (g :: G) C) T = wp (fe (g :: G) C) (fun y C => wp (fo (g :: G) C) (fun r C => fldP f cs y r C fun C => T .nx (g :: G) C) (fun x C => T (.er x) (g :: G) C)) (fun x C => T (.er x) (g :: G) C) := by
  unfold sFld
  simp only [ws_bind]
  congr 1
  funext y C
  congr 1
  funext r C
  unfold fldP
  cases r with
  | «at» m =>
    dsimp only
    rcases C[m]? with _ | _ | _ | _ | _ | _
    case some.some.ins =>
      dsimp only
      split
      · simp_all [ws_some]
      · rename_i h
        exact (eq_false fun h2 => h ⟨h2.1, h2.2.1⟩).symm
    all_goals rfl
  | v d => rfl
  | tp l => rfl
/-! ### loops -/
noncomputable def wl (tg : FG) (body : FS) (w : Cs → Prop) (l : List El) (G : Gs) (C : Cs) (T : Fl → Gs → Cs → Prop) : Prop := wps (loopF tg body w l G C) T
theorem ws_for {tg : FG} {it : FI} {body : FS} : wps (sFor tg it body (g :: G) C) T = wp (it (g :: G) C) (fun r C => wl tg body r.2 r.1 (g :: G) C T) (fun x C => T (.er x) (g :: G) C) := by
  unfold sFor wl
  simp only [ws_bind]
def forS (k : Gs → Cs → Prop) (T : Fl → Gs → Cs → Prop) : Fl → Gs → Cs → Prop := fun fl G C => match fl with
  | .nx => k G C
  | .ct => k G C
  | .bk => T .nx G C
  | fl => T fl G C
theorem forS_nx {k : Gs → Cs → Prop} {G : Gs} : forS k T .nx G C = k G C := id rfl
theorem forS_ct {k : Gs → Cs → Prop} {G : Gs} : forS k T .ct G C = k G C := id rfl
theorem forS_bk {k : Gs → Cs → Prop} {G : Gs} : forS k T .bk G C = T .nx G C := id rfl
theorem forS_rt {k : Gs → Cs → Prop} {G : Gs} : forS k T (.rt r) G C = T (.rt r) G C := id rfl
theorem forS_er {k : Gs → Cs → Prop} {G : Gs} {x : Exn} : forS k T (.er x) G C = T (.er x) G C := id rfl
theorem wl_nil {tg : FG} {body : FS} {w : Cs → Prop} {G : Gs} : wl tg body w [] G C T = (w C ∧ T .nx G C) := by
  unfold wl loopF
  split
  · simp_all [ws_some]
  · simp_all [ws_none]
theorem wl_cons {tg : FG} {body : FS} {w : Cs → Prop} {G : Gs} {x : El} {l : List El} : wl tg body w (x :: l) G C T = (w C ∧ wo (tg x G C) fun G => wps (body G C) (forS (fun G C => wl tg body w l G C T) T)) := by
  unfold wl
  rw [loopF]
  split
  · rename_i h
    cases e : tg x G C with
    | none => simp [wo, ws_none]
    | some G1 =>
      dsimp only
      simp only [wo, h, true_and]
      rcases body G1 C with _ | ⟨_ | _ | _ | _ | _, _, _⟩ <;> rfl
  · simp_all [ws_none]
/-- a walk by what holds ahead of each round -/
theorem wl_inv {tg : FG} {body : FS} {w : Cs → Prop} (I : Nat → Gs → Cs → Prop) : ∀ (l : List El) (k : Nat) (G : Gs) (C : Cs), I k G C →
    (∀ i x G C, l[i]? = some x → I (k + i) G C → w C ∧ wo (tg x G C) fun G => wps (body G C) (forS (I (k + i + 1)) T)) → (∀ G C, I (k + l.length) G C → w C ∧ T .nx G C) → wl tg body w l G C T
  | [], k, G, C, h0, _, h2 => by
    rw [wl_nil]
    exact h2 G C h0
  | x :: l, k, G, C, h0, h1, h2 => by
    rw [wl_cons]
    obtain ⟨a, b⟩ := h1 0 x G C rfl h0
    refine ⟨a, ?_⟩
    cases e : tg x G C with
    | none => rw [e] at b; exact b
    | some G1 =>
      rw [e] at b
      refine wps_mono b fun fl G C h => ?_
      have recu := fun h => wl_inv I l (k + 1) G C h (fun i y G C hy hI => by
        have e2 : k + 1 + i = k + (i + 1) := by omega
        rw [e2] at hI ⊢
        exact h1 (i + 1) y G C hy hI) (fun G C hI => h2 G C (by
        have e2 : k + 1 + l.length = k + (l.length + 1) := by omega
        rw [e2] at hI
        exact hI))
      cases fl with
      | nx => exact recu h
      | ct => exact recu h
      | bk => exact h
      | rt r => exact h
      | er x => exact h
/-! ### what is walked -/
abbrev QW := Wt → Cs → Prop
theorem w_iLst {fe : FE} {QI : QW} : wp (iLst fe (g :: G) C) QI E = wp (fe (g :: G) C) (fun r C => wo (viewS C r) fun l => QI (l, fun C' => viewS C' r = some l) C) E := by
  unfold iLst
  simp only [w_bind]
  congr 1
  funext r C
  cases viewS C r <;> rfl
theorem w_iTup {fe : FE} {QI : QW} : wp (iTup fe (g :: G) C) QI E = wp (fe (g :: G) C) (fun r C => wo (viewT C r) fun l => QI (l, fun C' => True) C) E := by
  unfold iTup
  simp only [w_bind]
  congr 1
  funext r C
  cases viewT C r <;> rfl
def rng1P (xs : List El) (C : Cs) (Q : QW) : Prop := match xs with
  | [.v (.int n)] => (-(2 ^ 62) ≤ n ∧ n < 2 ^ 62) ∧ Q (rngE 0 n.toNat, fun _ => True) C
  | _ => False
theorem rng1P_i {n : Int} {Q : QW} : rng1P [.v (.int n)] C Q = ((-(2 ^ 62) ≤ n ∧ n < 2 ^ 62) ∧ Q (rngE 0 n.toNat, fun _ => True) C) := rfl
theorem w_iRng1 {fa : FA} {QI : QW} : wp (iRng1 fa (g :: G) C) QI E = wp (fa (g :: G) C) (fun xs C => rng1P xs C QI) E := by
  unfold iRng1
  simp only [w_bind]
  congr 1
  funext xs C
  rcases xs with _ | ⟨x, _ | ⟨y, l⟩⟩
  · rfl
  · rcases x with d | n | l
    · cases d
      case int n =>
        dsimp only [rng1P]
        split
        · simp_all [w_ok]
        · rename_i h
          exact (eq_false fun z => h z.1).symm
      all_goals rfl
    · rfl
    · rfl
  · rcases x with d | n | l
    · cases d <;> rfl
    · rfl
    · rfl
def rng2P (xs : List El) (C : Cs) (Q : QW) : Prop := match xs with
  | [.v (.int m), .v (.int n)] => (-(2 ^ 62) ≤ m ∧ m < 2 ^ 62 ∧ -(2 ^ 62) ≤ n ∧ n < 2 ^ 62) ∧ Q (rngE m (n - m).toNat, fun _ => True) C
  | _ => False
theorem rng2P_i {m n : Int} {Q : QW} : rng2P [.v (.int m), .v (.int n)] C Q = ((-(2 ^ 62) ≤ m ∧ m < 2 ^ 62 ∧ -(2 ^ 62) ≤ n ∧ n < 2 ^ 62) ∧ Q (rngE m (n - m).toNat, fun _ => True) C) := rfl
theorem w_iRng2 {fa : FA} {QI : QW} : wp (iRng2 fa (g :: G) C) QI E = wp (fa (g :: G) C) (fun xs C => rng2P xs C QI) E := by
  unfold iRng2
  simp only [w_bind]
  congr 1
  funext xs C
  unfold rng2P
  split
  · try dsimp only
    split
    · simp_all [w_ok]
    · rename_i h
      exact (eq_false fun z => h z.1).symm
  · rename_i h
    first
      | rfl
      | (split
         · rename_i m n
           exact absurd rfl (h m n)
         · rfl)
def enumP (xs : List El) (C : Cs) (Q : QW) : Prop := match xs with
  | [r] => wo (viewS C r) fun l => Q (enumE l, fun C' => viewS C' r = some l) C
  | _ => False
theorem enumP_i {r : El} {Q : QW} : enumP [r] C Q = wo (viewS C r) fun l => Q (enumE l, fun C' => viewS C' r = some l) C := rfl
theorem w_iEnum {fa : FA} {QI : QW} : wp (iEnum fa (g :: G) C) QI E = wp (fa (g :: G) C) (fun xs C => enumP xs C QI) E := by
  unfold iEnum
  simp only [w_bind]
  congr 1
  funext xs C
  rcases xs with _ | ⟨x, _ | ⟨y, l⟩⟩
  · rfl
  · show wp (match viewS C x with | some l => _ | none => _) _ _ = wo (viewS C x) _
    cases viewS C x <;> rfl
  · rfl
def zipP (xs : List El) (C : Cs) (Q : QW) : Prop := match xs with
  | [r, r2] => wo (viewS C r) fun l => wo (viewS C r2) fun l2 => Q (List.zipWith (fun x y => mkTup [x, y]) l l2, fun C' => viewS C' r = some l ∧ viewS C' r2 = some l2) C
  | _ => False
theorem zipP_i {r r2 : El} {Q : QW} : zipP [r, r2] C Q = wo (viewS C r) fun l => wo (viewS C r2) fun l2 => Q (List.zipWith (fun x y => mkTup [x, y]) l l2, fun C' => viewS C' r = some l ∧ viewS C' r2 = some l2) C := rfl
theorem w_iZip {fa : FA} {QI : QW} : wp (iZip fa (g :: G) C) QI E = wp (fa (g :: G) C) (fun xs C => zipP xs C QI) E := by
  unfold iZip
  simp only [w_bind]
  congr 1
  funext xs C
  rcases xs with _ | ⟨x, _ | ⟨y, _ | ⟨z, l⟩⟩⟩
  · rfl
  · rfl
  · show wp (match viewS C x, viewS C y with | some l, some l2 => _ | _, _ => _) _ _ = wo (viewS C x) _
    cases viewS C x <;> cases viewS C y <;> rfl
  · rfl
/-! ### assigning by place -/
theorem w_var0 : wp (eVar 0 (some r :: G) C) Q E = Q r C := id rfl
theorem ws_asg0 {g0 : Option El} {fe : FE} : wps (sAsg 0 fe (g0 :: G) C) T = wp (fe (g0 :: G) C) (fun r C => T .nx (some r :: G) C) (fun x C => T (.er x) (g0 :: G) C) := by
  unfold sAsg
  simp only [ws_bind]
  rfl
theorem ws_slc0 {g0 : Option El} {fe : FE} : wps (sLc 0 fe (g0 :: G) C) T = wp (fe (g0 :: G) C) (fun r C => T .nx (some r :: G) C) (fun x C => T (.er x) (g0 :: G) C) := by
  unfold sLc
  simp only [ws_bind]
  rfl
theorem wo_gN0 {g0 : Option El} {q : Gs → Prop} : wo (gN 0 r (g0 :: G) C) q = q (some r :: G) := id rfl
theorem ws_aug0 {a : Int} {f : Int → Int → Int} {fe : FE} : wps (sAug 0 f fe (some (.v (.int a)) :: G) C) T = wp (fe (some (.v (.int a)) :: G) C) (fun r C => asI r fun b => T .nx (some (.v (.int (f a b))) :: G) C) (fun x C => T (.er x) (some (.v (.int a)) :: G) C) := by
  show wps (sBind _ _ _) _ = _
  simp only [ws_bind]
  congr 1
  funext r C
  rcases r with d | n | l
  · cases d <;> rfl
  · rfl
  · rfl
theorem w_var1 {g0 : Option El} : wp (eVar 1 (g0 :: some r :: G) C) Q E = Q r C := id rfl
theorem ws_asg1 {g0 g1 : Option El} {fe : FE} : wps (sAsg 1 fe (g0 :: g1 :: G) C) T = wp (fe (g0 :: g1 :: G) C) (fun r C => T .nx (g0 :: some r :: G) C) (fun x C => T (.er x) (g0 :: g1 :: G) C) := by
  unfold sAsg
  simp only [ws_bind]
  rfl
theorem ws_slc1 {g0 g1 : Option El} {fe : FE} : wps (sLc 1 fe (g0 :: g1 :: G) C) T = wp (fe (g0 :: g1 :: G) C) (fun r C => T .nx (g0 :: some r :: G) C) (fun x C => T (.er x) (g0 :: g1 :: G) C) := by
  unfold sLc
  simp only [ws_bind]
  rfl
theorem wo_gN1 {g0 g1 : Option El} {q : Gs → Prop} : wo (gN 1 r (g0 :: g1 :: G) C) q = q (g0 :: some r :: G) := id rfl
theorem ws_aug1 {g0 : Option El} {a : Int} {f : Int → Int → Int} {fe : FE} : wps (sAug 1 f fe (g0 :: some (.v (.int a)) :: G) C) T = wp (fe (g0 :: some (.v (.int a)) :: G) C) (fun r C => asI r fun b => T .nx (g0 :: some (.v (.int (f a b))) :: G) C) (fun x C => T (.er x) (g0 :: some (.v (.int a)) :: G) C) := by
  show wps (sBind _ _ _) _ = _
  simp only [ws_bind]
  congr 1
  funext r C
  rcases r with d | n | l
  · cases d <;> rfl
  · rfl
  · rfl
theorem w_var2 {g0 g1 : Option El} : wp (eVar 2 (g0 :: g1 :: some r :: G) C) Q E = Q r C := id rfl
theorem ws_asg2 {g0 g1 g2 : Option El} {fe : FE} : wps (sAsg 2 fe (g0 :: g1 :: g2 :: G) C) T = wp (fe (g0 :: g1 :: g2 :: G) C) (fun r C => T .nx (g0 :: g1 :: some r :: G) C) (fun x C => T (.er x) (g0 :: g1 :: g2 :: G) C) := by
  unfold sAsg
  simp only [ws_bind]
  rfl
theorem ws_slc2 {g0 g1 g2 : Option El} {fe : FE} : wps (sLc 2 fe (g0 :: g1 :: g2 :: G) C) T = wp (fe (g0 :: g1 :: g2 :: G) C) (fun r C => T .nx (g0 :: g1 :: some r :: G) C) (fun x C => T (.er x) (g0 :: g1 :: g2 :: G) C) := by
  unfold sLc
  simp only [ws_bind]
  rfl
theorem wo_gN2 {g0 g1 g2 : Option El} {q : Gs → Prop} : wo (gN 2 r (g0 :: g1 :: g2 :: G) C) q = q (g0 :: g1 :: some r :: G) := id rfl
theorem ws_aug2 {g0 g1 : Option El} {a : Int} {f : Int → Int → Int} {fe : FE} : wps (sAug 2 f fe (g0 :: g1 :: some (.v (.int a)) :: G) C) T = wp (fe (g0 :: g1 :: some (.v (.int a)) :: G) C) (fun r C => asI r fun b => T .nx (g0 :: g1 :: some (.v (.int (f a b))) :: G) C) (fun x C => T (.er x) (g0 :: g1 :: some (.v (.int a)) :: G) C) := by
  show wps (sBind _ _ _) _ = _
  simp only [ws_bind]
  congr 1
  funext r C
  rcases r with d | n | l
  · cases d <;> rfl
  · rfl
  · rfl
theorem w_var3 {g0 g1 g2 : Option El} : wp (eVar 3 (g0 :: g1 :: g2 :: some r :: G) C) Q E = Q r C := id rfl
theorem ws_asg3 {g0 g1 g2 g3 : Option El} {fe : FE} : wps (sAsg 3 fe (g0 :: g1 :: g2 :: g3 :: G) C) T = wp (fe (g0 :: g1 :: g2 :: g3 :: G) C) (fun r C => T .nx (g0 :: g1 :: g2 :: some r :: G) C) (fun x C => T (.er x) (g0 :: g1 :: g2 :: g3 :: G) C) := by
  unfold sAsg
  simp only [ws_bind]
  rfl
theorem ws_slc3 {g0 g1 g2 g3 : Option El} {fe : FE} : wps (sLc 3 fe (g0 :: g1 :: g2 :: g3 :: G) C) T = wp (fe (g0 :: g1 :: g2 :: g3 :: G) C) (fun r C => T .nx (g0 :: g1 :: g2 :: some r :: G) C) (fun x C => T (.er x) (g0 :: g1 :: g2 :: g3 :: G) C) := by
  unfold sLc
  simp only [ws_bind]
  rfl
theorem wo_gN3 {g0 g1 g2 g3 : Option El} {q : Gs → Prop} : wo (gN 3 r (g0 :: g1 :: g2 :: g3 :: G) C) q = q (g0 :: g1 :: g2 :: some r :: G) := id rfl
theorem ws_aug3 {g0 g1 g2 : Option El} {a : Int} {f : Int → Int → Int} {fe : FE} : wps (sAug 3 f fe (g0 :: g1 :: g2 :: some (.v (.int a)) :: G) C) T = wp (fe (g0 :: g1 :: g2 :: some (.v (.int a)) :: G) C) (fun r C => asI r fun b => T .nx (g0 :: g1 :: g2 :: some (.v (.int (f a b))) :: G) C) (fun x C => T (.er x) (g0 :: g1 :: g2 :: some (.v (.int a)) :: G) C) := by
  show wps (sBind _ _ _) _ = _
  simp only [ws_bind]
  congr 1
  funext r C
  rcases r with d | n | l
  · cases d <;> rfl
  · rfl
  · rfl
theorem w_var4 {g0 g1 g2 g3 : Option El} : wp (eVar 4 (g0 :: g1 :: g2 :: g3 :: some r :: G) C) Q E = Q r C := id rfl
theorem ws_asg4 {g0 g1 g2 g3 g4 : Option El} {fe : FE} : wps (sAsg 4 fe (g0 :: g1 :: g2 :: g3 :: g4 :: G) C) T = wp (fe (g0 :: g1 :: g2 :: g3 :: g4 :: G) C) (fun r C => T .nx (g0 :: g1 :: g2 :: g3 :: some r :: G) C) (fun x C => T (.er x) (g0 :: g1 :: g2 :: g3 :: g4 :: G) C) := by
  unfold sAsg
  simp only [ws_bind]
  rfl
theorem ws_slc4 {g0 g1 g2 g3 g4 : Option El} {fe : FE} : wps (sLc 4 fe (g0 :: g1 :: g2 :: g3 :: g4 :: G) C) T = wp (fe (g0 :: g1 :: g2 :: g3 :: g4 :: G) C) (fun r C => T .nx (g0 :: g1 :: g2 :: g3 :: some r :: G) C) (fun x C => T (.er x) (g0 :: g1 :: g2 :: g3 :: g4 :: G) C) := by
  unfold sLc
  simp only [ws_bind]
  rfl
theorem wo_gN4 {g0 g1 g2 g3 g4 : Option El} {q : Gs → Prop} : wo (gN 4 r (g0 :: g1 :: g2 :: g3 :: g4 :: G) C) q = q (g0 :: g1 :: g2 :: g3 :: some r :: G) := id rfl
theorem ws_aug4 {g0 g1 g2 g3 : Option El} {a : Int} {f : Int → Int → Int} {fe : FE} : wps (sAug 4 f fe (g0 :: g1 :: g2 :: g3 :: some (.v (.int a)) :: G) C) T = wp (fe (g0 :: g1 :: g2 :: g3 :: some (.v (.int a)) :: G) C) (fun r C => asI r fun b => T .nx (g0 :: g1 :: g2 :: g3 :: some (.v (.int (f a b))) :: G) C) (fun x C => T (.er x) (g0 :: g1 :: g2 :: g3 :: some (.v (.int a)) :: G) C) := by
  show wps (sBind _ _ _) _ = _
  simp only [ws_bind]
  congr 1
  funext r C
  rcases r with d | n | l
  · cases d <;> rfl
  · rfl
  · rfl
theorem w_var5 {g0 g1 g2 g3 g4 : Option El} : wp (eVar 5 (g0 :: g1 :: g2 :: g3 :: g4 :: some r :: G) C) Q E = Q r C := id rfl
theorem ws_asg5 {g0 g1 g2 g3 g4 g5 : Option El} {fe : FE} : wps (sAsg 5 fe (g0 :: g1 :: g2 :: g3 :: g4 :: g5 :: G) C) T = wp (fe (g0 :: g1 :: g2 :: g3 :: g4 :: g5 :: G) C) (fun r C => T .nx (g0 :: g1 :: g2 :: g3 :: g4 :: some r :: G) C) (fun x C => T (.er x) (g0 :: g1 :: g2 :: g3 :: g4 :: g5 :: G) C) := by
  unfold sAsg
  simp only [ws_bind]
  rfl
theorem ws_slc5 {g0 g1 g2 g3 g4 g5 : Option El} {fe : FE} : wps (sLc 5 fe (g0 :: g1 :: g2 :: g3 :: g4 :: g5 :: G) C) T = wp (fe (g0 :: g1 :: g2 :: g3 :: g4 :: g5 :: G) C) (fun r C => T .nx (g0 :: g1 :: g2 :: g3 :: g4 :: some r :: G) C) (fun x C => T (.er x) (g0 :: g1 :: g2 :: g3 :: g4 :: g5 :: G) C) := by
  unfold sLc
  simp only [ws_bind]
  rfl
theorem wo_gN5 {g0 g1 g2 g3 g4 g5 : Option El} {q : Gs → Prop} : wo (gN 5 r (g0 :: g1 :: g2 :: g3 :: g4 :: g5 :: G) C) q = q (g0 :: g1 :: g2 :: g3 :: g4 :: some r :: G) := id rfl
theorem ws_aug5 {g0 g1 g2 g3 g4 : Option El} {a : Int} {f : Int → Int → Int} {fe : FE} : wps (sAug 5 f fe (g0 :: g1 :: g2 :: g3 :: g4 :: some (.v (.int a)) :: G) C) T = wp (fe (g0 :: g1 :: g2 :: g3 :: g4 :: some (.v (.int a)) :: G) C) (fun r C => asI r fun b => T .nx (g0 :: g1 :: g2 :: g3 :: g4 :: some (.v (.int (f a b))) :: G) C) (fun x C => T (.er x) (g0 :: g1 :: g2 :: g3 :: g4 :: some (.v (.int a)) :: G) C) := by
  show wps (sBind _ _ _) _ = _
  simp only [ws_bind]
  congr 1
  funext r C
  rcases r with d | n | l
  · cases d <;> rfl
  · rfl
  · rfl
theorem w_var6 {g0 g1 g2 g3 g4 g5 : Option El} : wp (eVar 6 (g0 :: g1 :: g2 :: g3 :: g4 :: g5 :: some r :: G) C) Q E = Q r C := id rfl
theorem ws_asg6 {g0 g1 g2 g3 g4 g5 g6 : Option El} {fe : FE} : wps (sAsg 6 fe (g0 :: g1 :: g2 :: g3 :: g4 :: g5 :: g6 :: G) C) T = wp (fe (g0 :: g1 :: g2 :: g3 :: g4 :: g5 :: g6 :: G) C) (fun r C => T .nx (g0 :: g1 :: g2 :: g3 :: g4 :: g5 :: some r :: G) C) (fun x C => T (.er x) (g0 :: g1 :: g2 :: g3 :: g4 :: g5 :: g6 :: G) C) := by
  unfold sAsg
  simp only [ws_bind]
  rfl
theorem ws_slc6 {g0 g1 g2 g3 g4 g5 g6 : Option El} {fe : FE} : wps (sLc 6 fe (g0 :: g1 :: g2 :: g3 :: g4 :: g5 :: g6 :: G) C) T = wp (fe (g0 :: g1 :: g2 :: g3 :: g4 :: g5 :: g6 :: G) C) (fun r C => T .nx (g0 :: g1 :: g2 :: g3 :: g4 :: g5 :: some r :: G) C) (fun x C => T (.er x) (g0 :: g1 :: g2 :: g3 :: g4 :: g5 :: g6 :: G) C) := by
  unfold sLc
  simp only [ws_bind]
  rfl
theorem wo_gN6 {g0 g1 g2 g3 g4 g5 g6 : Option El} {q : Gs → Prop} : wo (gN 6 r (g0 :: g1 :: g2 :: g3 :: g4 :: g5 :: g6 :: G) C) q = q (g0 :: g1 :: g2 :: g3 :: g4 :: g5 :: some r :: G) := id rfl
theorem ws_aug6 {g0 g1 g2 g3 g4 g5 : Option El} {a : Int} {f : Int → Int → Int} {fe : FE} : wps (sAug 6 f fe (g0 :: g1 :: g2 :: g3 :: g4 :: g5 :: some (.v (.int a)) :: G) C) T = wp (fe (g0 :: g1 :: g2 :: g3 :: g4 :: g5 :: some (.v (.int a)) :: G) C) (fun r C => asI r fun b => T .nx (g0 :: g1 :: g2 :: g3 :: g4 :: g5 :: some (.v (.int (f a b))) :: G) C) (fun x C => T (.er x) (g0 :: g1 :: g2 :: g3 :: g4 :: g5 :: some (.v (.int a)) :: G) C) := by
  show wps (sBind _ _ _) _ = _
  simp only [ws_bind]
  congr 1
  funext r C
  rcases r with d | n | l
  · cases d <;> rfl
  · rfl
  · rfl
theorem w_var7 {g0 g1 g2 g3 g4 g5 g6 : Option El} : wp (eVar 7 (g0 :: g1 :: g2 :: g3 :: g4 :: g5 :: g6 :: some r :: G) C) Q E = Q r C := id rfl
theorem ws_asg7 {g0 g1 g2 g3 g4 g5 g6 g7 : Option El} {fe : FE} : wps (sAsg 7 fe (g0 :: g1 :: g2 :: g3 :: g4 :: g5 :: g6 :: g7 :: G) C) T = wp (fe (g0 :: g1 :: g2 :: g3 :: g4 :: g5 :: g6 :: g7 :: G) C) (fun r C => T .nx (g0 :: g1 :: g2 :: g3 :: g4 :: g5 :: g6 :: some r :: G) C) (fun x C => T (.er x) (g0 :: g1 :: g2 :: g3 :: g4 :: g5 :: g6 :: g7 :: G) C) := by
  unfold sAsg
  simp only [ws_bind]
  rfl
theorem ws_slc7 {g0 g1 g2 g3 g4 g5 g6 g7 : Option El} {fe : FE} : wps (sLc 7 fe (g0 :: g1 :: g2 :: g3 :: g4 :: g5 :: g6 :: g7 :: G) C) T = wp (fe (g0 :: g1 :: g2 :: g3 :: g4 :: g5 :: g6 :: g7 :: G) C) (fun r C => T .nx (g0 :: g1 :: g2 :: g3 :: g4 :: g5 :: g6 :: some r :: G) C) (fun x C => T (.er x) (g0 :: g1 :: g2 :: g3 :: g4 :: g5 :: g6 :: g7 :: G) C) := by
  unfold sLc
  simp only [ws_bind]
  rfl
theorem wo_gN7 {g0 g1 g2 g3 g4 g5 g6 g7 : Option El} {q : Gs → Prop} : wo (gN 7 r (g0 :: g1 :: g2 :: g3 :: g4 :: g5 :: g6 :: g7 :: G) C) q = q (g0 :: g1 :: g2 :: g3 :: g4 :: g5 :: g6 :: some r :: G) := id rfl
theorem ws_aug7 {g0 g1 g2 g3 g4 g5 g6 : Option El} {a : Int} {f : Int → Int → Int} {fe : FE} : wps (sAug 7 f fe (g0 :: g1 :: g2 :: g3 :: g4 :: g5 :: g6 :: some (.v (.int a)) :: G) C) T = wp (fe (g0 :: g1 :: g2 :: g3 :: g4 :: g5 :: g6 :: some (.v (.int a)) :: G) C) (fun r C => asI r fun b => T .nx (g0 :: g1 :: g2 :: g3 :: g4 :: g5 :: g6 :: some (.v (.int (f a b))) :: G) C) (fun x C => T (.er x) (g0 :: g1 :: g2 :: g3 :: g4 :: g5 :: g6 :: some (.v (.int a)) :: G) C) := by
  show wps (sBind _ _ _) _ = _
  simp only [ws_bind]
  congr 1
  funext r C
  rcases r with d | n | l
  · cases d <;> rfl
  · rfl
  · rfl
theorem w_var8 {g0 g1 g2 g3 g4 g5 g6 g7 : Option El} : wp (eVar 8 (g0 :: g1 :: g2 :: g3 :: g4 :: g5 :: g6 :: g7 :: some r :: G) C) Q E = Q r C := id rfl
theorem ws_asg8 {g0 g1 g2 g3 g4 g5 g6 g7 g8 : Option El} {fe : FE} : wps (sAsg 8 fe (g0 :: g1 :: g2 :: g3 :: g4 :: g5 :: g6 :: g7 :: g8 :: G) C) T = wp (fe (g0 :: g1 :: g2 :: g3 :: g4 :: g5 :: g6 :: g7 :: g8 :: G) C) (fun r C => T .nx (g0 :: g1 :: g2 :: g3 :: g4 :: g5 :: g6 :: g7 :: some r :: G) C) (fun x C => T (.er x) (g0 :: g1 :: g2 :: g3 :: g4 :: g5 :: g6 :: g7 :: g8 :: G) C) := by
  unfold sAsg
  simp only [ws_bind]
  rfl
theorem ws_slc8 {g0 g1 g2 g3 g4 g5 g6 g7 g8 : Option El} {fe : FE} : wps (sLc 8 fe (g0 :: g1 :: g2 :: g3 :: g4 :: g5 :: g6 :: g7 :: g8 :: G) C) T = wp (fe (g0 :: g1 :: g2 :: g3 :: g4 :: g5 :: g6 :: g7 :: g8 :: G) C) (fun r C => T .nx (g0 :: g1 :: g2 :: g3 :: g4 :: g5 :: g6 :: g7 :: some r :: G) C) (fun x C => T (.er x) (g0 :: g1 :: g2 :: g3 :: g4 :: g5 :: g6 :: g7 :: g8 :: G) C) := by
  unfold sLc
  simp only [ws_bind]
  rfl
theorem wo_gN8 {g0 g1 g2 g3 g4 g5 g6 g7 g8 : Option El} {q : Gs → Prop} : wo (gN 8 r (g0 :: g1 :: g2 :: g3 :: g4 :: g5 :: g6 :: g7 :: g8 :: G) C) q = q (g0 :: g1 :: g2 :: g3 :: g4 :: g5 :: g6 :: g7 :: some r :: G) := id rfl
theorem ws_aug8 {g0 g1 g2 g3 g4 g5 g6 g7 : Option El} {a : Int} {f : Int → Int → Int} {fe : FE} : wps (sAug 8 f fe (g0 :: g1 :: g2 :: g3 :: g4 :: g5 :: g6 :: g7 :: some (.v (.int a)) :: G) C) T = wp (fe (g0 :: g1 :: g2 :: g3 :: g4 :: g5 :: g6 :: g7 :: some (.v (.int a)) :: G) C) (fun r C => asI r fun b => T .nx (g0 :: g1 :: g2 :: g3 :: g4 :: g5 :: g6 :: g7 :: some (.v (.int (f a b))) :: G) C) (fun x C => T (.er x) (g0 :: g1 :: g2 :: g3 :: g4 :: g5 :: g6 :: g7 :: some (.v (.int a)) :: G) C) := by
  show wps (sBind _ _ _) _ = _
  simp only [ws_bind]
  congr 1
  funext r C
  rcases r with d | n | l
  · cases d <;> rfl
  · rfl
  · rfl
theorem w_var9 {g0 g1 g2 g3 g4 g5 g6 g7 g8 : Option El} : wp (eVar 9 (g0 :: g1 :: g2 :: g3 :: g4 :: g5 :: g6 :: g7 :: g8 :: some r :: G) C) Q E = Q r C := id rfl
theorem ws_asg9 {g0 g1 g2 g3 g4 g5 g6 g7 g8 g9 : Option El} {fe : FE} : wps (sAsg 9 fe (g0 :: g1 :: g2 :: g3 :: g4 :: g5 :: g6 :: g7 :: g8 :: g9 :: G) C) T = wp (fe (g0 :: g1 :: g2 :: g3 :: g4 :: g5 :: g6 :: g7 :: g8 :: g9 :: G) C) (fun r C => T .nx (g0 :: g1 :: g2 :: g3 :: g4 :: g5 :: g6 :: g7 :: g8 :: some r :: G) C) (fun x C => T (.er x) (g0 :: g1 :: g2 :: g3 :: g4 :: g5 :: g6 :: g7 :: g8 :: g9 :: G) C) := by
  unfold sAsg
  simp only [ws_bind]
  rfl
theorem ws_slc9 {g0 g1 g2 g3 g4 g5 g6 g7 g8 g9 : Option El} {fe : FE} : wps (sLc 9 fe (g0 :: g1 :: g2 :: g3 :: g4 :: g5 :: g6 :: g7 :: g8 :: g9 :: G) C) T = wp (fe (g0 :: g1 :: g2 :: g3 :: g4 :: g5 :: g6 :: g7 :: g8 :: g9 :: G) C) (fun r C => T .nx (g0 :: g1 :: g2 :: g3 :: g4 :: g5 :: g6 :: g7 :: g8 :: some r :: G) C) (fun x C => T (.er x) (g0 :: g1 :: g2 :: g3 :: g4 :: g5 :: g6 :: g7 :: g8 :: g9 :: G) C) := by
  unfold sLc
  simp only [ws_bind]
  rfl
theorem wo_gN9 {g0 g1 g2 g3 g4 g5 g6 g7 g8 g9 : Option El} {q : Gs → Prop} : wo (gN 9 r (g0 :: g1 :: g2 :: g3 :: g4 :: g5 :: g6 :: g7 :: g8 :: g9 :: G) C) q = q (g0 :: g1 :: g2 :: g3 :: g4 :: g5 :: g6 :: g7 :: g8 :: some r :: G) := id rfl
theorem ws_aug9 {g0 g1 g2 g3 g4 g5 g6 g7 g8 : Option El} {a : Int} {f : Int → Int → Int} {fe : FE} : wps (sAug 9 f fe (g0 :: g1 :: g2 :: g3 :: g4 :: g5 :: g6 :: g7 :: g8 :: some (.v (.int a)) :: G) C) T = wp (fe (g0 :: g1 :: g2 :: g3 :: g4 :: g5 :: g6 :: g7 :: g8 :: some (.v (.int a)) :: G) C) (fun r C => asI r fun b => T .nx (g0 :: g1 :: g2 :: g3 :: g4 :: g5 :: g6 :: g7 :: g8 :: some (.v (.int (f a b))) :: G) C) (fun x C => T (.er x) (g0 :: g1 :: g2 :: g3 :: g4 :: g5 :: g6 :: g7 :: g8 :: some (.v (.int a)) :: G) C) := by
  show wps (sBind _ _ _) _ = _
  simp only [ws_bind]
  congr 1
  funext r C
  rcases r with d | n | l
  · cases d <;> rfl
  · rfl
  · rfl
theorem w_var10 {g0 g1 g2 g3 g4 g5 g6 g7 g8 g9 : Option El} : wp (eVar 10 (g0 :: g1 :: g2 :: g3 :: g4 :: g5 :: g6 :: g7 :: g8 :: g9 :: some r :: G) C) Q E = Q r C := id rfl
theorem ws_asg10 {g0 g1 g2 g3 g4 g5 g6 g7 g8 g9 g10 : Option El} {fe : FE} : wps (sAsg 10 fe (g0 :: g1 :: g2 :: g3 :: g4 :: g5 :: g6 :: g7 :: g8 :: g9 :: g10 :: G) C) T = wp (fe (g0 :: g1 :: g2 :: g3 :: g4 :: g5 :: g6 :: g7 :: g8 :: g9 :: g10 :: G) C) (fun r C => T .nx (g0 :: g1 :: g2 :: g3 :: g4 :: g5 :: g6 :: g7 :: g8 :: g9 :: some r :: G) C) (fun x C => T (.er x) (g0 :: g1 :: g2 :: g3 :: g4 :: g5 :: g6 :: g7 :: g8 :: g9 :: g10 :: G) C) := by
  unfold sAsg
  simp only [ws_bind]
  rfl
theorem ws_slc10 {g0 g1 g2 g3 g4 g5 g6 g7 g8 g9 g10 : Option El} {fe : FE} : wps (sLc 10 fe (g0 :: g1 :: g2 :: g3 :: g4 :: g5 :: g6 :: g7 :: g8 :: g9 :: g10 :: G) C) T = wp (fe (g0 :: g1 :: g2 :: g3 :: g4 :: g5 :: g6 :: g7 :: g8 :: g9 :: g10 :: G) C) (fun r C => T .nx (g0 :: g1 :: g2 :: g3 :: g4 :: g5 :: g6 :: g7 :: g8 :: g9 :: some r :: G) C) (fun x C => T (.er x) (g0 :: g1 :: g2 :: g3 :: g4 :: g5 :: g6 :: g7 :: g8 :: g9 :: g10 :: G) C) := by
  unfold sLc
  simp only [ws_bind]
  rfl
theorem wo_gN10 {g0 g1 g2 g3 g4 g5 g6 g7 g8 g9 g10 : Option El} {q : Gs → Prop} : wo (gN 10 r (g0 :: g1 :: g2 :: g3 :: g4 :: g5 :: g6 :: g7 :: g8 :: g9 :: g10 :: G) C) q = q (g0 :: g1 :: g2 :: g3 :: g4 :: g5 :: g6 :: g7 :: g8 :: g9 :: some r :: G) := id rfl
theorem ws_aug10 {g0 g1 g2 g3 g4 g5 g6 g7 g8 g9 : Option El} {a : Int} {f : Int → Int → Int} {fe : FE} : wps (sAug 10 f fe (g0 :: g1 :: g2 :: g3 :: g4 :: g5 :: g6 :: g7 :: g8 :: g9 :: some (.v (.int a)) :: G) C) T = wp (fe (g0 :: g1 :: g2 :: g3 :: g4 :: g5 :: g6 :: g7 :: g8 :: g9 :: some (.v (.int a)) :: G) C) (fun r C => asI r fun b => T .nx (g0 :: g1 :: g2 :: g3 :: g4 :: g5 :: g6 :: g7 :: g8 :: g9 :: some (.v (.int (f a b))) :: G) C) (fun x C => T (.er x) (g0 :: g1 :: g2 :: g3 :: g4 :: g5 :: g6 :: g7 :: g8 :: g9 :: some (.v (.int a)) :: G) C) := by
  show wps (sBind _ _ _) _ = _
  simp only [ws_bind]
  congr 1
  funext r C
  rcases r with d | n | l
  · cases d <;> rfl
  · rfl
  · rfl
theorem w_var11 {g0 g1 g2 g3 g4 g5 g6 g7 g8 g9 g10 : Option El} : wp (eVar 11 (g0 :: g1 :: g2 :: g3 :: g4 :: g5 :: g6 :: g7 :: g8 :: g9 :: g10 :: some r :: G) C) Q E = Q r C := id rfl
theorem ws_asg11 {g0 g1 g2 g3 g4 g5 g6 g7 g8 g9 g10 g11 : Option El} {fe : FE} : wps (sAsg 11 fe (g0 :: g1 :: g2 :: g3 :: g4 :: g5 :: g6 :: g7 :: g8 :: g9 :: g10 :: g11 :: G) C) T = wp (fe (g0 :: g1 :: g2 :: g3 :: g4 :: g5 :: g6 :: g7 :: g8 :: g9 :: g10 :: g11 :: G) C) (fun r C => T .nx (g0 :: g1 :: g2 :: g3 :: g4 :: g5 :: g6 :: g7 :: g8 :: g9 :: g10 :: some r :: G) C) (fun x C => T (.er x) (g0 :: g1 :: g2 :: g3 :: g4 :: g5 :: g6 :: g7 :: g8 :: g9 :: g10 :: g11 :: G) C) := by
  unfold sAsg
  simp only [ws_bind]
  rfl
theorem ws_slc11 {g0 g1 g2 g3 g4 g5 g6 g7 g8 g9 g10 g11 : Option El} {fe : FE} : wps (sLc 11 fe (g0 :: g1 :: g2 :: g3 :: g4 :: g5 :: g6 :: g7 :: g8 :: g9 :: g10 :: g11 :: G) C) T = wp (fe (g0 :: g1 :: g2 :: g3 :: g4 :: g5 :: g6 :: g7 :: g8 :: g9 :: g10 :: g11 :: G) C) (fun r C => T .nx (g0 :: g1 :: g2 :: g3 :: g4 :: g5 :: g6 :: g7 :: g8 :: g9 :: g10 :: some r :: G) C) (fun x C => T (.er x) (g0 :: g1 :: g2 :: g3 :: g4 :: g5 :: g6 :: g7 :: g8 :: g9 :: g10 :: g11 :: G) C) := by
  unfold sLc
  simp only [ws_bind]
  rfl
theorem wo_gN11 {g0 g1 g2 g3 g4 g5 g6 g7 g8 g9 g10 g11 : Option El} {q : Gs → Prop} : wo (gN 11 r (g0 :: g1 :: g2 :: g3 :: g4 :: g5 :: g6 :: g7 :: g8 :: g9 :: g10 :: g11 :: G) C) q = q (g0 :: g1 :: g2 :: g3 :: g4 :: g5 :: g6 :: g7 :: g8 :: g9 :: g10 :: some r :: G) := id rfl
theorem ws_aug11 {g0 g1 g2 g3 g4 g5 g6 g7 g8 g9 g10 : Option El} {a : Int} {f : Int → Int → Int} {fe : FE} : wps (sAug 11 f fe (g0 :: g1 :: g2 :: g3 :: g4 :: g5 :: g6 :: g7 :: g8 :: g9 :: g10 :: some (.v (.int a)) :: G) C) T = wp (fe (g0 :: g1 :: g2 :: g3 :: g4 :: g5 :: g6 :: g7 :: g8 :: g9 :: g10 :: some (.v (.int a)) :: G) C) (fun r C => asI r fun b => T .nx (g0 :: g1 :: g2 :: g3 :: g4 :: g5 :: g6 :: g7 :: g8 :: g9 :: g10 :: some (.v (.int (f a b))) :: G) C) (fun x C => T (.er x) (g0 :: g1 :: g2 :: g3 :: g4 :: g5 :: g6 :: g7 :: g8 :: g9 :: g10 :: some (.v (.int a)) :: G) C) := by
  show wps (sBind _ _ _) _ = _
  simp only [ws_bind]
  congr 1
  funext r C
  rcases r with d | n | l
  · cases d <;> rfl
  · rfl
  · rfl
theorem w_var12 {g0 g1 g2 g3 g4 g5 g6 g7 g8 g9 g10 g11 : Option El} : wp (eVar 12 (g0 :: g1 :: g2 :: g3 :: g4 :: g5 :: g6 :: g7 :: g8 :: g9 :: g10 :: g11 :: some r :: G) C) Q E = Q r C := id rfl
theorem ws_asg12 {g0 g1 g2 g3 g4 g5 g6 g7 g8 g9 g10 g11 g12 : Option El} {fe : FE} : wps (sAsg 12 fe (g0 :: g1 :: g2 :: g3 :: g4 :: g5 :: g6 :: g7 :: g8 :: g9 :: g10 :: g11 :: g12 :: G) C) T = wp (fe (g0 :: g1 :: g2 :: g3 :: g4 :: g5 :: g6 :: g7 :: g8 :: g9 :: g10 :: g11 :: g12 :: G) C) (fun r C => T .nx (g0 :: g1 :: g2 :: g3 :: g4 :: g5 :: g6 :: g7 :: g8 :: g9 :: g10 :: g11 :: some r :: G) C) (fun x C => T (.er x) (g0 :: g1 :: g2 :: g3 :: g4 :: g5 :: g6 :: g7 :: g8 :: g9 :: g10 :: g11 :: g12 :: G) C) := by
  unfold sAsg
  simp only [ws_bind]
  rfl
theorem ws_slc12 {g0 g1 g2 g3 g4 g5 g6 g7 g8 g9 g10 g11 g12 : Option El} {fe : FE} : wps (sLc 12 fe (g0 :: g1 :: g2 :: g3 :: g4 :: g5 :: g6 :: g7 :: g8 :: g9 :: g10 :: g11 :: g12 :: G) C) T = wp (fe (g0 :: g1 :: g2 :: g3 :: g4 :: g5 :: g6 :: g7 :: g8 :: g9 :: g10 :: g11 :: g12 :: G) C) (fun r C => T .nx (g0 :: g1 :: g2 :: g3 :: g4 :: g5 :: g6 :: g7 :: g8 :: g9 :: g10 :: g11 :: some r :: G) C) (fun x C => T (.er x) (g0 :: g1 :: g2 :: g3 :: g4 :: g5 :: g6 :: g7 :: g8 :: g9 :: g10 :: g11 :: g12 :: G) C) := by
  unfold sLc
  simp only [ws_bind]
  rfl
theorem wo_gN12 {g0 g1 g2 g3 g4 g5 g6 g7 g8 g9 g10 g11 g12 : Option El} {q : Gs → Prop} : wo (gN 12 r (g0 :: g1 :: g2 :: g3 :: g4 :: g5 :: g6 :: g7 :: g8 :: g9 :: g10 :: g11 :: g12 :: G) C) q = q (g0 :: g1 :: g2 :: g3 :: g4 :: g5 :: g6 :: g7 :: g8 :: g9 :: g10 :: g11 :: some r :: G) := id rfl
theorem ws_aug12 {g0 g1 g2 g3 g4 g5 g6 g7 g8 g9 g10 g11 : Option El} {a : Int} {f : Int → Int → Int} {fe : FE} : wps (sAug 12 f fe (g0 :: g1 :: g2 :: g3 :: g4 :: g5 :: g6 :: g7 :: g8 :: g9 :: g10 :: g11 :: some (.v (.int a)) :: G) C) T = wp (fe (g0 :: g1 :: g2 :: g3 :: g4 :: g5 :: g6 :: g7 :: g8 :: g9 :: g10 :: g11 :: some (.v (.int a)) :: G) C) (fun r C => asI r fun b => T .nx (g0 :: g1 :: g2 :: g3 :: g4 :: g5 :: g6 :: g7 :: g8 :: g9 :: g10 :: g11 :: some (.v (.int (f a b))) :: G) C) (fun x C => T (.er x) (g0 :: g1 :: g2 :: g3 :: g4 :: g5 :: g6 :: g7 :: g8 :: g9 :: g10 :: g11 :: some (.v (.int a)) :: G) C) := by
  show wps (sBind _ _ _) _ = _
  simp only [ws_bind]
  congr 1
  funext r C
  rcases r with d | n | l
  · cases d <;> rfl
  · rfl
  · rfl
theorem w_var13 {g0 g1 g2 g3 g4 g5 g6 g7 g8 g9 g10 g11 g12 : Option El} : wp (eVar 13 (g0 :: g1 :: g2 :: g3 :: g4 :: g5 :: g6 :: g7 :: g8 :: g9 :: g10 :: g11 :: g12 :: some r :: G) C) Q E = Q r C := id rfl
theorem ws_asg13 {g0 g1 g2 g3 g4 g5 g6 g7 g8 g9 g10 g11 g12 g13 : Option El} {fe : FE} : wps (sAsg 13 fe (g0 :: g1 :: g2 :: g3 :: g4 :: g5 :: g6 :: g7 :: g8 :: g9 :: g10 :: g11 :: g12 :: g13 :: G) C) T = wp (fe (g0 :: g1 :: g2 :: g3 :: g4 :: g5 :: g6 :: g7 :: g8 :: g9 :: g10 :: g11 :: g12 :: g13 :: G) C) (fun r C => T .nx (g0 :: g1 :: g2 :: g3 :: g4 :: g5 :: g6 :: g7 :: g8 :: g9 :: g10 :: g11 :: g12 :: some r :: G) C) (fun x C => T (.er x) (g0 :: g1 :: g2 :: g3 :: g4 :: g5 :: g6 :: g7 :: g8 :: g9 :: g10 :: g11 :: g12 :: g13 :: G) C) := by
  unfold sAsg
  simp only [ws_bind]
  rfl
theorem ws_slc13 {g0 g1 g2 g3 g4 g5 g6 g7 g8 g9 g10 g11 g12 g13 : Option El} {fe : FE} : wps (sLc 13 fe (g0 :: g1 :: g2 :: g3 :: g4 :: g5 :: g6 :: g7 :: g8 :: g9 :: g10 :: g11 :: g12 :: g13 :: G) C) T = wp (fe (g0 :: g1 :: g2 :: g3 :: g4 :: g5 :: g6 :: g7 :: g8 :: g9 :: g10 :: g11 :: g12 :: g13 :: G) C) (fun r C => T .nx (g0 :: g1 :: g2 :: g3 :: g4 :: g5 :: g6 :: g7 :: g8 :: g9 :: g10 :: g11 :: g12 :: some r :: G) C) (fun x C => T (.er x) (g0 :: g1 :: g2 :: g3 :: g4 :: g5 :: g6 :: g7 :: g8 :: g9 :: g10 :: g11 :: g12 :: g13 :: G) C) := by
  unfold sLc
  simp only [ws_bind]
  rfl
theorem wo_gN13 {g0 g1 g2 g3 g4 g5 g6 g7 g8 g9 g10 g11 g12 g13 : Option El} {q : Gs → Prop} : wo (gN 13 r (g0 :: g1 :: g2 :: g3 :: g4 :: g5 :: g6 :: g7 :: g8 :: g9 :: g10 :: g11 :: g12 :: g13 :: G) C) q = q (g0 :: g1 :: g2 :: g3 :: g4 :: g5 :: g6 :: g7 :: g8 :: g9 :: g10 :: g11 :: g12 :: some r :: G) := id rfl
theorem ws_aug13 {g0 g1 g2 g3 g4 g5 g6 g7 g8 g9 g10 g11 g12 : Option El} {a : Int} {f : Int → Int → Int} {fe : FE} : wps (sAug 13 f fe (g0 :: g1 :: g2 :: g3 :: g4 :: g5 :: g6 :: g7 :: g8 :: g9 :: g10 :: g11 :: g12 :: some (.v (.int a)) :: G) C) T = wp (fe (g0 :: g1 :: g2 :: g3 :: g4 :: g5 :: g6 :: g7 :: g8 :: g9 :: g10 :: g11 :: g12 :: some (.v (.int a)) :: G) C) (fun r C => asI r fun b => T .nx (g0 :: g1 :: g2 :: g3 :: g4 :: g5 :: g6 :: g7 :: g8 :: g9 :: g10 :: g11 :: g12 :: some (.v (.int (f a b))) :: G) C) (fun x C => T (.er x) (g0 :: g1 :: g2 :: g3 :: g4 :: g5 :: g6 :: g7 :: g8 :: g9 :: g10 :: g11 :: g12 :: some (.v (.int a)) :: G) C) := by
  show wps (sBind _ _ _) _ = _
  simp only [ws_bind]
  congr 1
  funext r C
  rcases r with d | n | l
  · cases d <;> rfl
  · rfl
  · rfl
theorem w_var14 {g0 g1 g2 g3 g4 g5 g6 g7 g8 g9 g10 g11 g12 g13 : Option El} : wp (eVar 14 (g0 :: g1 :: g2 :: g3 :: g4 :: g5 :: g6 :: g7 :: g8 :: g9 :: g10 :: g11 :: g12 :: g13 :: some r :: G) C) Q E = Q r C := id rfl
theorem ws_asg14 {g0 g1 g2 g3 g4 g5 g6 g7 g8 g9 g10 g11 g12 g13 g14 : Option El} {fe : FE} : wps (sAsg 14 fe (g0 :: g1 :: g2 :: g3 :: g4 :: g5 :: g6 :: g7 :: g8 :: g9 :: g10 :: g11 :: g12 :: g13 :: g14 :: G) C) T = wp (fe (g0 :: g1 :: g2 :: g3 :: g4 :: g5 :: g6 :: g7 :: g8 :: g9 :: g10 :: g11 :: g12 :: g13 :: g14 :: G) C) (fun r C => T .nx (g0 :: g1 :: g2 :: g3 :: g4 :: g5 :: g6 :: g7 :: g8 :: g9 :: g10 :: g11 :: g12 :: g13 :: some r :: G) C) (fun x C => T (.er x) (g0 :: g1 :: g2 :: g3 :: g4 :: g5 :: g6 :: g7 :: g8 :: g9 :: g10 :: g11 :: g12 :: g13 :: g14 :: G) C) := by
  unfold sAsg
  simp only [ws_bind]
  rfl
theorem ws_slc14 {g0 g1 g2 g3 g4 g5 g6 g7 g8 g9 g10 g11 g12 g13 g14 : Option El} {fe : FE} : wps (sLc 14 fe (g0 :: g1 :: g2 :: g3 :: g4 :: g5 :: g6 :: g7 :: g8 :: g9 :: g10 :: g11 :: g12 :: g13 :: g14 :: G) C) T = wp (fe (g0 :: g1 :: g2 :: g3 :: g4 :: g5 :: g6 :: g7 :: g8 :: g9 :: g10 :: g11 :: g12 :: g13 :: g14 :: G) C) (fun r C => T .nx (g0 :: g1 :: g2 :: g3 :: g4 :: g5 :: g6 :: g7 :: g8 :: g9 :: g10 :: g11 :: g12 :: g13 :: some r :: G) C) (fun x C => T (.er x) (g0 :: g1 :: g2 :: g3 :: g4 :: g5 :: g6 :: g7 :: g8 :: g9 :: g10 :: g11 :: g12 :: g13 :: g14 :: G) C) := by
  unfold sLc
  simp only [ws_bind]
  rfl
theorem wo_gN14 {g0 g1 g2 g3 g4 g5 g6 g7 g8 g9 g10 g11 g12 g13 g14 : Option El} {q : Gs → Prop} : wo (gN 14 r (g0 :: g1 :: g2 :: g3 :: g4 :: g5 :: g6 :: g7 :: g8 :: g9 :: g10 :: g11 :: g12 :: g13 :: g14 :: G) C) q = q (g0 :: g1 :: g2 :: g3 :: g4 :: g5 :: g6 :: g7 :: g8 :: g9 :: g10 :: g11 :: g12 :: g13 :: some r :: G) := id rfl
theorem ws_aug14 {g0 g1 g2 g3 g4 g5 g6 g7 g8 g9 g10 g11 g12 g13 : Option El} {a : Int} {f : Int → Int → Int} {fe : FE} : wps (sAug 14 f fe (g0 :: g1 :: g2 :: g3 :: g4 :: g5 :: g6 :: g7 :: g8 :: g9 :: g10 :: g11 :: g12 :: g13 :: some (.v (.int a)) :: G) C) T = wp (fe (g0 :: g1 :: g2 :: g3 :: g4 :: g5 :: g6 :: g7 :: g8 :: g9 :: g10 :: g11 :: g12 :: g13 :: some (.v (.int a)) :: G) C) (fun r C => asI r fun b => T .nx (g0 :: g1 :: g2 :: g3 :: g4 :: g5 :: g6 :: g7 :: g8 :: g9 :: g10 :: g11 :: g12 :: g13 :: some (.v (.int (f a b))) :: G) C) (fun x C => T (.er x) (g0 :: g1 :: g2 :: g3 :: g4 :: g5 :: g6 :: g7 :: g8 :: g9 :: g10 :: g11 :: g12 :: g13 :: some (.v (.int a)) :: G) C) := by
  show wps (sBind _ _ _) _ = _
  simp only [ws_bind]
  congr 1
  funext r C
  rcases r with d | n | l
  · cases d <;> rfl
  · rfl
  · rfl
theorem w_var15 {g0 g1 g2 g3 g4 g5 g6 g7 g8 g9 g10 g11 g12 g13 g14 : Option El} : wp (eVar 15 (g0 :: g1 :: g2 :: g3 :: g4 :: g5 :: g6 :: g7 :: g8 :: g9 :: g10 :: g11 :: g12 :: g13 :: g14 :: some r :: G) C) Q E = Q r C := id rfl
theorem ws_asg15 {g0 g1 g2 g3 g4 g5 g6 g7 g8 g9 g10 g11 g12 g13 g14 g15 : Option El} {fe : FE} : wps (sAsg 15 fe (g0 :: g1 :: g2 :: g3 :: g4 :: g5 :: g6 :: g7 :: g8 :: g9 :: g10 :: g11 :: g12 :: g13 :: g14 :: g15 :: G) C) T = wp (fe (g0 :: g1 :: g2 :: g3 :: g4 :: g5 :: g6 :: g7 :: g8 :: g9 :: g10 :: g11 :: g12 :: g13 :: g14 :: g15 :: G) C) (fun r C => T .nx (g0 :: g1 :: g2 :: g3 :: g4 :: g5 :: g6 :: g7 :: g8 :: g9 :: g10 :: g11 :: g12 :: g13 :: g14 :: some r :: G) C) (fun x C => T (.er x) (g0 :: g1 :: g2 :: g3 :: g4 :: g5 :: g6 :: g7 :: g8 :: g9 :: g10 :: g11 :: g12 :: g13 :: g14 :: g15 :: G) C) := by
  unfold sAsg
  simp only [ws_bind]
  rfl
theorem ws_slc15 {g0 g1 g2 g3 g4 g5 g6 g7 g8 g9 g10 g11 g12 g13 g14 g15 : Option El} {fe : FE} : wps (sLc 15 fe (g0 :: g1 :: g2 :: g3 :: g4 :: g5 :: g6 :: g7 :: g8 :: g9 :: g10 :: g11 :: g12 :: g13 :: g14 :: g15 :: G) C) T = wp (fe (g0 :: g1 :: g2 :: g3 :: g4 :: g5 :: g6 :: g7 :: g8 :: g9 :: g10 :: g11 :: g12 :: g13 :: g14 :: g15 :: G) C) (fun r C => T .nx (g0 :: g1 :: g2 :: g3 :: g4 :: g5 :: g6 :: g7 :: g8 :: g9 :: g10 :: g11 :: g12 :: g13 :: g14 :: some r :: G) C) (fun x C => T (.er x) (g0 :: g1 :: g2 :: g3 :: g4 :: g5 :: g6 :: g7 :: g8 :: g9 :: g10 :: g11 :: g12 :: g13 :: g14 :: g15 :: G) C) := by
  unfold sLc
  simp only [ws_bind]
  rfl
theorem wo_gN15 {g0 g1 g2 g3 g4 g5 g6 g7 g8 g9 g10 g11 g12 g13 g14 g15 : Option El} {q : Gs → Prop} : wo (gN 15 r (g0 :: g1 :: g2 :: g3 :: g4 :: g5 :: g6 :: g7 :: g8 :: g9 :: g10 :: g11 :: g12 :: g13 :: g14 :: g15 :: G) C) q = q (g0 :: g1 :: g2 :: g3 :: g4 :: g5 :: g6 :: g7 :: g8 :: g9 :: g10 :: g11 :: g12 :: g13 :: g14 :: some r :: G) := id rfl
theorem ws_aug15 {g0 g1 g2 g3 g4 g5 g6 g7 g8 g9 g10 g11 g12 g13 g14 : Option El} {a : Int} {f : Int → Int → Int} {fe : FE} : wps (sAug 15 f fe (g0 :: g1 :: g2 :: g3 :: g4 :: g5 :: g6 :: g7 :: g8 :: g9 :: g10 :: g11 :: g12 :: g13 :: g14 :: some (.v (.int a)) :: G) C) T = wp (fe (g0 :: g1 :: g2 :: g3 :: g4 :: g5 :: g6 :: g7 :: g8 :: g9 :: g10 :: g11 :: g12 :: g13 :: g14 :: some (.v (.int a)) :: G) C) (fun r C => asI r fun b => T .nx (g0 :: g1 :: g2 :: g3 :: g4 :: g5 :: g6 :: g7 :: g8 :: g9 :: g10 :: g11 :: g12 :: g13 :: g14 :: some (.v (.int (f a b))) :: G) C) (fun x C => T (.er x) (g0 :: g1 :: g2 :: g3 :: g4 :: g5 :: g6 :: g7 :: g8 :: g9 :: g10 :: g11 :: g12 :: g13 :: g14 :: some (.v (.int a)) :: G) C) := by
  show wps (sBind _ _ _) _ = _
  simp only [ws_bind]
  congr 1
  funext r C
  rcases r with d | n | l
  · cases d <;> rfl
  · rfl
  · rfl
theorem w_var16 {g0 g1 g2 g3 g4 g5 g6 g7 g8 g9 g10 g11 g12 g13 g14 g15 : Option El} : wp (eVar 16 (g0 :: g1 :: g2 :: g3 :: g4 :: g5 :: g6 :: g7 :: g8 :: g9 :: g10 :: g11 :: g12 :: g13 :: g14 :: g15 :: some r :: G) C) Q E = Q r C := id rfl
theorem ws_asg16 {g0 g1 g2 g3 g4 g5 g6 g7 g8 g9 g10 g11 g12 g13 g14 g15 g16 : Option El} {fe : FE} : wps (sAsg 16 fe (g0 :: g1 :: g2 :: g3 :: g4 :: g5 :: g6 :: g7 :: g8 :: g9 :: g10 :: g11 :: g12 :: g13 :: g14 :: g15 :: g16 :: G) C) T = wp (fe (g0 :: g1 :: g2 :: g3 :: g4 :: g5 :: g6 :: g7 :: g8 :: g9 :: g10 :: g11 :: g12 :: g13 :: g14 :: g15 :: g16 :: G) C) (fun r C => T .nx (g0 :: g1 :: g2 :: g3 :: g4 :: g5 :: g6 :: g7 :: g8 :: g9 :: g10 :: g11 :: g12 :: g13 :: g14 :: g15 :: some r :: G) C) (fun x C => T (.er x) (g0 :: g1 :: g2 :: g3 :: g4 :: g5 :: g6 :: g7 :: g8 :: g9 :: g10 :: g11 :: g12 :: g13 :: g14 :: g15 :: g16 :: G) C) := by
  unfold sAsg
  simp only [ws_bind]
  rfl
theorem ws_slc16 {g0 g1 g2 g3 g4 g5 g6 g7 g8 g9 g10 g11 g12 g13 g14 g15 g16 : Option El} {fe : FE} : wps (sLc 16 fe (g0 :: g1 :: g2 :: g3 :: g4 :: g5 :: g6 :: g7 :: g8 :: g9 :: g10 :: g11 :: g12 :: g13 :: g14 :: g15 :: g16 :: G) C) T = wp (fe (g0 :: g1 :: g2 :: g3 :: g4 :: g5 :: g6 :: g7 :: g8 :: g9 :: g10 :: g11 :: g12 :: g13 :: g14 :: g15 :: g16 :: G) C) (fun r C => T .nx (g0 :: g1 :: g2 :: g3 :: g4 :: g5 :: g6 :: g7 :: g8 :: g9 :: g10 :: g11 :: g12 :: g13 :: g14 :: g15 :: some r :: G) C) (fun x C => T (.er x) (g0 :: g1 :: g2 :: g3 :: g4 :: g5 :: g6 :: g7 :: g8 :: g9 :: g10 :: g11 :: g12 :: g13 :: g14 :: g15 :: g16 :: G) C) := by
  unfold sLc
  simp only [ws_bind]
  rfl
theorem wo_gN16 {g0 g1 g2 g3 g4 g5 g6 g7 g8 g9 g10 g11 g12 g13 g14 g15 g16 : Option El} {q : Gs → Prop} : wo (gN 16 r (g0 :: g1 :: g2 :: g3 :: g4 :: g5 :: g6 :: g7 :: g8 :: g9 :: g10 :: g11 :: g12 :: g13 :: g14 :: g15 :: g16 :: G) C) q = q (g0 :: g1 :: g2 :: g3 :: g4 :: g5 :: g6 :: g7 :: g8 :: g9 :: g10 :: g11 :: g12 :: g13 :: g14 :: g15 :: some r :: G) := id rfl
theorem ws_aug16 {g0 g1 g2 g3 g4 g5 g6 g7 g8 g9 g10 g11 g12 g13 g14 g15 : Option El} {a : Int} {f : Int → Int → Int} {fe : FE} : wps (sAug 16 f fe (g0 :: g1 :: g2 :: g3 :: g4 :: g5 :: g6 :: g7 :: g8 :: g9 :: g10 :: g11 :: g12 :: g13 :: g14 :: g15 :: some (.v (.int a)) :: G) C) T = wp (fe (g0 :: g1 :: g2 :: g3 :: g4 :: g5 :: g6 :: g7 :: g8 :: g9 :: g10 :: g11 :: g12 :: g13 :: g14 :: g15 :: some (.v (.int a)) :: G) C) (fun r C => asI r fun b => T .nx (g0 :: g1 :: g2 :: g3 :: g4 :: g5 :: g6 :: g7 :: g8 :: g9 :: g10 :: g11 :: g12 :: g13 :: g14 :: g15 :: some (.v (.int (f a b))) :: G) C) (fun x C => T (.er x) (g0 :: g1 :: g2 :: g3 :: g4 :: g5 :: g6 :: g7 :: g8 :: g9 :: g10 :: g11 :: g12 :: g13 :: g14 :: g15 :: some (.v (.int a)) :: G) C) := by
  show wps (sBind _ _ _) _ = _
  simp only [ws_bind]
  congr 1
  funext r C
  rcases r with d | n | l
  · cases d <;> rfl
  · rfl
  · rfl
theorem w_var17 {g0 g1 g2 g3 g4 g5 g6 g7 g8 g9 g10 g11 g12 g13 g14 g15 g16 : Option El} : wp (eVar 17 (g0 :: g1 :: g2 :: g3 :: g4 :: g5 :: g6 :: g7 :: g8 :: g9 :: g10 :: g11 :: g12 :: g13 :: g14 :: g15 :: g16 :: some r :: G) C) Q E = Q r C := id rfl
theorem ws_asg17 {g0 g1 g2 g3 g4 g5 g6 g7 g8 g9 g10 g11 g12 g13 g14 g15 g16 g17 : Option El} {fe : FE} : wps (sAsg 17 fe (g0 :: g1 :: g2 :: g3 :: g4 :: g5 :: g6 :: g7 :: g8 :: g9 :: g10 :: g11 :: g12 :: g13 :: g14 :: g15 :: g16 :: g17 :: G) C) T = wp (fe (g0 :: g1 :: g2 :: g3 :: g4 :: g5 :: g6 :: g7 :: g8 :: g9 :: g10 :: g11 :: g12 :: g13 :: g14 :: g15 :: g16 :: g17 :: G) C) (fun r C => T .nx (g0 :: g1 :: g2 :: g3 :: g4 :: g5 :: g6 :: g7 :: g8 :: g9 :: g10 :: g11 :: g12 :: g13 :: g14 :: g15 :: g16 :: some r :: G) C) (fun x C => T (.er x) (g0 :: g1 :: g2 :: g3 :: g4 :: g5 :: g6 :: g7 :: g8 :: g9 :: g10 :: g11 :: g12 :: g13 :: g14 :: g15 :: g16 :: g17 :: G) C) := by
  unfold sAsg
  simp only [ws_bind]
  rfl
theorem ws_slc17 {g0 g1 g2 g3 g4 g5 g6 g7 g8 g9 g10 g11 g12 g13 g14 g15 g16 g17 : Option El} {fe : FE} : wps (sLc 17 fe (g0 :: g1 :: g2 :: g3 :: g4 :: g5 :: g6 :: g7 :: g8 :: g9 :: g10 :: g11 :: g12 :: g13 :: g14 :: g15 :: g16 :: g17 :: G) C) T = wp (fe (g0 :: g1 :: g2 :: g3 :: g4 :: g5 :: g6 :: g7 :: g8 :: g9 :: g10 :: g11 :: g12 :: g13 :: g14 :: g15 :: g16 :: g17 :: G) C) (fun r C => T .nx (g0 :: g1 :: g2 :: g3 :: g4 :: g5 :: g6 :: g7 :: g8 :: g9 :: g10 :: g11 :: g12 :: g13 :: g14 :: g15 :: g16 :: some r :: G) C) (fun x C => T (.er x) (g0 :: g1 :: g2 :: g3 :: g4 :: g5 :: g6 :: g7 :: g8 :: g9 :: g10 :: g11 :: g12 :: g13 :: g14 :: g15 :: g16 :: g17 :: G) C) := by
  unfold sLc
  simp only [ws_bind]
  rfl
theorem wo_gN17 {g0 g1 g2 g3 g4 g5 g6 g7 g8 g9 g10 g11 g12 g13 g14 g15 g16 g17 : Option El} {q : Gs → Prop} : wo (gN 17 r (g0 :: g1 :: g2 :: g3 :: g4 :: g5 :: g6 :: g7 :: g8 :: g9 :: g10 :: g11 :: g12 :: g13 :: g14 :: g15 :: g16 :: g17 :: G) C) q = q (g0 :: g1 :: g2 :: g3 :: g4 :: g5 :: g6 :: g7 :: g8 :: g9 :: g10 :: g11 :: g12 :: g13 :: g14 :: g15 :: g16 :: some r :: G) := id rfl
theorem ws_aug17 {g0 g1 g2 g3 g4 g5 g6 g7 g8 g9 g10 g11 g12 g13 g14 g15 g16 : Option El} {a : Int} {f : Int → Int → Int} {fe : FE} : wps (sAug 17 f fe (g0 :: g1 :: g2 :: g3 :: g4 :: g5 :: g6 :: g7 :: g8 :: g9 :: g10 :: g11 :: g12 :: g13 :: g14 :: g15 :: g16 :: some (.v (.int a)) :: G) C) T = wp (fe (g0 :: g1 :: g2 :: g3 :: g4 :: g5 :: g6 :: g7 :: g8 :: g9 :: g10 :: g11 :: g12 :: g13 :: g14 :: g15 :: g16 :: some (.v (.int a)) :: G) C) (fun r C => asI r fun b => T .nx (g0 :: g1 :: g2 :: g3 :: g4 :: g5 :: g6 :: g7 :: g8 :: g9 :: g10 :: g11 :: g12 :: g13 :: g14 :: g15 :: g16 :: some (.v (.int (f a b))) :: G) C) (fun x C => T (.er x) (g0 :: g1 :: g2 :: g3 :: g4 :: g5 :: g6 :: g7 :: g8 :: g9 :: g10 :: g11 :: g12 :: g13 :: g14 :: g15 :: g16 :: some (.v (.int a)) :: G) C) := by
  show wps (sBind _ _ _) _ = _
  simp only [ws_bind]
  congr 1
  funext r C
  rcases r with d | n | l
  · cases d <;> rfl
  · rfl
  · rfl
theorem w_var18 {g0 g1 g2 g3 g4 g5 g6 g7 g8 g9 g10 g11 g12 g13 g14 g15 g16 g17 : Option El} : wp (eVar 18 (g0 :: g1 :: g2 :: g3 :: g4 :: g5 :: g6 :: g7 :: g8 :: g9 :: g10 :: g11 :: g12 :: g13 :: g14 :: g15 :: g16 :: g17 :: some r :: G) C) Q E = Q r C := id rfl
theorem ws_asg18 {g0 g1 g2 g3 g4 g5 g6 g7 g8 g9 g10 g11 g12 g13 g14 g15 g16 g17 g18 : Option El} {fe : FE} : wps (sAsg 18 fe (g0 :: g1 :: g2 :: g3 :: g4 :: g5 :: g6 :: g7 :: g8 :: g9 :: g10 :: g11 :: g12 :: g13 :: g14 :: g15 :: g16 :: g17 :: g18 :: G) C) T = wp (fe (g0 :: g1 :: g2 :: g3 :: g4 :: g5 :: g6 :: g7 :: g8 :: g9 :: g10 :: g11 :: g12 :: g13 :: g14 :: g15 :: g16 :: g17 :: g18 :: G) C) (fun r C => T .nx (g0 :: g1 :: g2 :: g3 :: g4 :: g5 :: g6 :: g7 :: g8 :: g9 :: g10 :: g11 :: g12 :: g13 :: g14 :: g15 :: g16 :: g17 :: some r :: G) C) (fun x C => T (.er x) (g0 :: g1 :: g2 :: g3 :: g4 :: g5 :: g6 :: g7 :: g8 :: g9 :: g10 :: g11 :: g12 :: g13 :: g14 :: g15 :: g16 :: g17 :: g18 :: G) C) := by
  unfold sAsg
  simp only [ws_bind]
  rfl
theorem ws_slc18 {g0 g1 g2 g3 g4 g5 g6 g7 g8 g9 g10 g11 g12 g13 g14 g15 g16 g17 g18 : Option El} {fe : FE} : wps (sLc 18 fe (g0 :: g1 :: g2 :: g3 :: g4 :: g5 :: g6 :: g7 :: g8 :: g9 :: g10 :: g11 :: g12 :: g13 :: g14 :: g15 :: g16 :: g17 :: g18 :: G) C) T = wp (fe (g0 :: g1 :: g2 :: g3 :: g4 :: g5 :: g6 :: g7 :: g8 :: g9 :: g10 :: g11 :: g12 :: g13 :: g14 :: g15 :: g16 :: g17 :: g18 :: G) C) (fun r C => T .nx (g0 :: g1 :: g2 :: g3 :: g4 :: g5 :: g6 :: g7 :: g8 :: g9 :: g10 :: g11 :: g12 :: g13 :: g14 :: g15 :: g16 :: g17 :: some r :: G) C) (fun x C => T (.er x) (g0 :: g1 :: g2 :: g3 :: g4 :: g5 :: g6 :: g7 :: g8 :: g9 :: g10 :: g11 :: g12 :: g13 :: g14 :: g15 :: g16 :: g17 :: g18 :: G) C) := by
  unfold sLc
  simp only [ws_bind]
  rfl
theorem wo_gN18 {g0 g1 g2 g3 g4 g5 g6 g7 g8 g9 g10 g11 g12 g13 g14 g15 g16 g17 g18 : Option El} {q : Gs → Prop} : wo (gN 18 r (g0 :: g1 :: g2 :: g3 :: g4 :: g5 :: g6 :: g7 :: g8 :: g9 :: g10 :: g11 :: g12 :: g13 :: g14 :: g15 :: g16 :: g17 :: g18 :: G) C) q = q (g0 :: g1 :: g2 :: g3 :: g4 :: g5 :: g6 :: g7 :: g8 :: g9 :: g10 :: g11 :: g12 :: g13 :: g14 :: g15 :: g16 :: g17 :: some r :: G) := id rfl
theorem ws_aug18 {g0 g1 g2 g3 g4 g5 g6 g7 g8 g9 g10 g11 g12 g13 g14 g15 g16 g17 : Option El} {a : Int} {f : Int → Int → Int} {fe : FE} : wps (sAug 18 f fe (g0 :: g1 :: g2 :: g3 :: g4 :: g5 :: g6 :: g7 :: g8 :: g9 :: g10 :: g11 :: g12 :: g13 :: g14 :: g15 :: g16 :: g17 :: some (.v (.int a)) :: G) C) T = wp (fe (g0 :: g1 :: g2 :: g3 :: g4 :: g5 :: g6 :: g7 :: g8 :: g9 :: g10 :: g11 :: g12 :: g13 :: g14 :: g15 :: g16 :: g17 :: some (.v (.int a)) :: G) C) (fun r C => asI r fun b => T .nx (g0 :: g1 :: g2 :: g3 :: g4 :: g5 :: g6 :: g7 :: g8 :: g9 :: g10 :: g11 :: g12 :: g13 :: g14 :: g15 :: g16 :: g17 :: some (.v (.int (f a b))) :: G) C) (fun x C => T (.er x) (g0 :: g1 :: g2 :: g3 :: g4 :: g5 :: g6 :: g7 :: g8 :: g9 :: g10 :: g11 :: g12 :: g13 :: g14 :: g15 :: g16 :: g17 :: some (.v (.int a)) :: G) C) := by
  show wps (sBind _ _ _) _ = _
  simp only [ws_bind]
  congr 1
  funext r C
  rcases r with d | n | l
  · cases d <;> rfl
  · rfl
  · rfl
theorem w_var19 {g0 g1 g2 g3 g4 g5 g6 g7 g8 g9 g10 g11 g12 g13 g14 g15 g16 g17 g18 : Option El} : wp (eVar 19 (g0 :: g1 :: g2 :: g3 :: g4 :: g5 :: g6 :: g7 :: g8 :: g9 :: g10 :: g11 :: g12 :: g13 :: g14 :: g15 :: g16 :: g17 :: g18 :: some r :: G) C) Q E = Q r C := id rfl
theorem ws_asg19 {g0 g1 g2 g3 g4 g5 g6 g7 g8 g9 g10 g11 g12 g13 g14 g15 g16 g17 g18 g19 : Option El} {fe : FE} : wps (sAsg 19 fe (g0 :: g1 :: g2 :: g3 :: g4 :: g5 :: g6 :: g7 :: g8 :: g9 :: g10 :: g11 :: g12 :: g13 :: g14 :: g15 :: g16 :: g17 :: g18 :: g19 :: G) C) T = wp (fe (g0 :: g1 :: g2 :: g3 :: g4 :: g5 :: g6 :: g7 :: g8 :: g9 :: g10 :: g11 :: g12 :: g13 :: g14 :: g15 :: g16 :: g17 :: g18 :: g19 :: G) C) (fun r C => T .nx (g0 :: g1 :: g2 :: g3 :: g4 :: g5 :: g6 :: g7 :: g8 :: g9 :: g10 :: g11 :: g12 :: g13 :: g14 :: g15 :: g16 :: g17 :: g18 :: some r :: G) C) (fun x C => T (.er x) (g0 :: g1 :: g2 :: g3 :: g4 :: g5 :: g6 :: g7 :: g8 :: g9 :: g10 :: g11 :: g12 :: g13 :: g14 :: g15 :: g16 :: g17 :: g18 :: g19 :: G) C) := by
  unfold sAsg
  simp only [ws_bind]
  rfl
theorem ws_slc19 {g0 g1 g2 g3 g4 g5 g6 g7 g8 g9 g10 g11 g12 g13 g14 g15 g16 g17 g18 g19 : Option El} {fe : FE} : wps (sLc 19 fe (g0 :: g1 :: g2 :: g3 :: g4 :: g5 :: g6 :: g7 :: g8 :: g9 :: g10 :: g11 :: g12 :: g13 :: g14 :: g15 :: g16 :: g17 :: g18 :: g19 :: G) C) T = wp (fe (g0 :: g1 :: g2 :: g3 :: g4 :: g5 :: g6 :: g7 :: g8 :: g9 :: g10 :: g11 :: g12 :: g13 :: g14 :: g15 :: g16 :: g17 :: g18 :: g19 :: G) C) (fun r C => T .nx (g0 :: g1 :: g2 :: g3 :: g4 :: g5 :: g6 :: g7 :: g8 :: g9 :: g10 :: g11 :: g12 :: g13 :: g14 :: g15 :: g16 :: g17 :: g18 :: some r :: G) C) (fun x C => T (.er x) (g0 :: g1 :: g2 :: g3 :: g4 :: g5 :: g6 :: g7 :: g8 :: g9 :: g10 :: g11 :: g12 :: g13 :: g14 :: g15 :: g16 :: g17 :: g18 :: g19 :: G) C) := by
  unfold sLc
  simp only [ws_bind]
  rfl
theorem wo_gN19 {g0 g1 g2 g3 g4 g5 g6 g7 g8 g9 g10 g11 g12 g13 g14 g15 g16 g17 g18 g19 : Option El} {q : Gs → Prop} : wo (gN 19 r (g0 :: g1 :: g2 :: g3 :: g4 :: g5 :: g6 :: g7 :: g8 :: g9 :: g10 :: g11 :: g12 :: g13 :: g14 :: g15 :: g16 :: g17 :: g18 :: g19 :: G) C) q = q (g0 :: g1 :: g2 :: g3 :: g4 :: g5 :: g6 :: g7 :: g8 :: g9 :: g10 :: g11 :: g12 :: g13 :: g14 :: g15 :: g16 :: g17 :: g18 :: some r :: G) := id rfl
theorem ws_aug19 {g0 g1 g2 g3 g4 g5 g6 g7 g8 g9 g10 g11 g12 g13 g14 g15 g16 g17 g18 : Option El} {a : Int} {f : Int → Int → Int} {fe : FE} : wps (sAug 19 f fe (g0 :: g1 :: g2 :: g3 :: g4 :: g5 :: g6 :: g7 :: g8 :: g9 :: g10 :: g11 :: g12 :: g13 :: g14 :: g15 :: g16 :: g17 :: g18 :: some (.v (.int a)) :: G) C) T = wp (fe (g0 :: g1 :: g2 :: g3 :: g4 :: g5 :: g6 :: g7 :: g8 :: g9 :: g10 :: g11 :: g12 :: g13 :: g14 :: g15 :: g16 :: g17 :: g18 :: some (.v (.int a)) :: G) C) (fun r C => asI r fun b => T .nx (g0 :: g1 :: g2 :: g3 :: g4 :: g5 :: g6 :: g7 :: g8 :: g9 :: g10 :: g11 :: g12 :: g13 :: g14 :: g15 :: g16 :: g17 :: g18 :: some (.v (.int (f a b))) :: G) C) (fun x C => T (.er x) (g0 :: g1 :: g2 :: g3 :: g4 :: g5 :: g6 :: g7 :: g8 :: g9 :: g10 :: g11 :: g12 :: g13 :: g14 :: g15 :: g16 :: g17 :: g18 :: some (.v (.int a)) :: G) C) := by
  show wps (sBind _ _ _) _ = _
  simp only [ws_bind]
  congr 1
  funext r C
  rcases r with d | n | l
  · cases d <;> rfl
  · rfl
  · rfl
theorem w_var20 {g0 g1 g2 g3 g4 g5 g6 g7 g8 g9 g10 g11 g12 g13 g14 g15 g16 g17 g18 g19 : Option El} : wp (eVar 20 (g0 :: g1 :: g2 :: g3 :: g4 :: g5 :: g6 :: g7 :: g8 :: g9 :: g10 :: g11 :: g12 :: g13 :: g14 :: g15 :: g16 :: g17 :: g18 :: g19 :: some r :: G) C) Q E = Q r C := id rfl
theorem ws_asg20 {g0 g1 g2 g3 g4 g5 g6 g7 g8 g9 g10 g11 g12 g13 g14 g15 g16 g17 g18 g19 g20 : Option El} {fe : FE} : wps (sAsg 20 fe (g0 :: g1 :: g2 :: g3 :: g4 :: g5 :: g6 :: g7 :: g8 :: g9 :: g10 :: g11 :: g12 :: g13 :: g14 :: g15 :: g16 :: g17 :: g18 :: g19 :: g20 :: G) C) T = wp (fe (g0 :: g1 :: g2 :: g3 :: g4 :: g5 :: g6 :: g7 :: g8 :: g9 :: g10 :: g11 :: g12 :: g13 :: g14 :: g15 :: g16 :: g17 :: g18 :: g19 :: g20 :: G) C) (fun r C => T .nx (g0 :: g1 :: g2 :: g3 :: g4 :: g5 :: g6 :: g7 :: g8 :: g9 :: g10 :: g11 :: g12 :: g13 :: g14 :: g15 :: g16 :: g17 :: g18 :: g19 :: some r :: G) C) (fun x C => T (.er x) (g0 :: g1 :: g2 :: g3 :: g4 :: g5 :: g6 :: g7 :: g8 :: g9 :: g10 :: g11 :: g12 :: g13 :: g14 :: g15 :: g16 :: g17 :: g18 :: g19 :: g20 :: G) C) := by
  unfold sAsg
  simp only [ws_bind]
  rfl
theorem ws_slc20 {g0 g1 g2 g3 g4 g5 g6 g7 g8 g9 g10 g11 g12 g13 g14 g15 g16 g17 g18 g19 g20 : Option El} {fe : FE} : wps (sLc 20 fe (g0 :: g1 :: g2 :: g3 :: g4 :: g5 :: g6 :: g7 :: g8 :: g9 :: g10 :: g11 :: g12 :: g13 :: g14 :: g15 :: g16 :: g17 :: g18 :: g19 :: g20 :: G) C) T = wp (fe (g0 :: g1 :: g2 :: g3 :: g4 :: g5 :: g6 :: g7 :: g8 :: g9 :: g10 :: g11 :: g12 :: g13 :: g14 :: g15 :: g16 :: g17 :: g18 :: g19 :: g20 :: G) C) (fun r C => T .nx (g0 :: g1 :: g2 :: g3 :: g4 :: g5 :: g6 :: g7 :: g8 :: g9 :: g10 :: g11 :: g12 :: g13 :: g14 :: g15 :: g16 :: g17 :: g18 :: g19 :: some r :: G) C) (fun x C => T (.er x) (g0 :: g1 :: g2 :: g3 :: g4 :: g5 :: g6 :: g7 :: g8 :: g9 :: g10 :: g11 :: g12 :: g13 :: g14 :: g15 :: g16 :: g17 :: g18 :: g19 :: g20 :: G) C) := by
  unfold sLc
  simp only [ws_bind]
  rfl
theorem wo_gN20 {g0 g1 g2 g3 g4 g5 g6 g7 g8 g9 g10 g11 g12 g13 g14 g15 g16 g17 g18 g19 g20 : Option El} {q : Gs → Prop} : wo (gN 20 r (g0 :: g1 :: g2 :: g3 :: g4 :: g5 :: g6 :: g7 :: g8 :: g9 :: g10 :: g11 :: g12 :: g13 :: g14 :: g15 :: g16 :: g17 :: g18 :: g19 :: g20 :: G) C) q = q (g0 :: g1 :: g2 :: g3 :: g4 :: g5 :: g6 :: g7 :: g8 :: g9 :: g10 :: g11 :: g12 :: g13 :: g14 :: g15 :: g16 :: g17 :: g18 :: g19 :: some r :: G) := id rfl
theorem ws_aug20 {g0 g1 g2 g3 g4 g5 g6 g7 g8 g9 g10 g11 g12 g13 g14 g15 g16 g17 g18 g19 : Option El} {a : Int} {f : Int → Int → Int} {fe : FE} : wps (sAug 20 f fe (g0 :: g1 :: g2 :: g3 :: g4 :: g5 :: g6 :: g7 :: g8 :: g9 :: g10 :: g11 :: g12 :: g13 :: g14 :: g15 :: g16 :: g17 :: g18 :: g19 :: some (.v (.int a)) :: G) C) T = wp (fe (g0 :: g1 :: g2 :: g3 :: g4 :: g5 :: g6 :: g7 :: g8 :: g9 :: g10 :: g11 :: g12 :: g13 :: g14 :: g15 :: g16 :: g17 :: g18 :: g19 :: some (.v (.int a)) :: G) C) (fun r C => asI r fun b => T .nx (g0 :: g1 :: g2 :: g3 :: g4 :: g5 :: g6 :: g7 :: g8 :: g9 :: g10 :: g11 :: g12 :: g13 :: g14 :: g15 :: g16 :: g17 :: g18 :: g19 :: some (.v (.int (f a b))) :: G) C) (fun x C => T (.er x) (g0 :: g1 :: g2 :: g3 :: g4 :: g5 :: g6 :: g7 :: g8 :: g9 :: g10 :: g11 :: g12 :: g13 :: g14 :: g15 :: g16 :: g17 :: g18 :: g19 :: some (.v (.int a)) :: G) C) := by
  show wps (sBind _ _ _) _ = _
  simp only [ws_bind]
  congr 1
  funext r C
  rcases r with d | n | l
  · cases d <;> rfl
  · rfl
  · rfl
theorem w_var21 {g0 g1 g2 g3 g4 g5 g6 g7 g8 g9 g10 g11 g12 g13 g14 g15 g16 g17 g18 g19 g20 : Option El} : wp (eVar 21 (g0 :: g1 :: g2 :: g3 :: g4 :: g5 :: g6 :: g7 :: g8 :: g9 :: g10 :: g11 :: g12 :: g13 :: g14 :: g15 :: g16 :: g17 :: g18 :: g19 :: g20 :: some r :: G) C) Q E = Q r C := id rfl
theorem ws_asg21 {g0 g1 g2 g3 g4 g5 g6 g7 g8 g9 g10 g11 g12 g13 g14 g15 g16 g17 g18 g19 g20 g21 : Option El} {fe : FE} : wps (sAsg 21 fe (g0 :: g1 :: g2 :: g3 :: g4 :: g5 :: g6 :: g7 :: g8 :: g9 :: g10 :: g11 :: g12 :: g13 :: g14 :: g15 :: g16 :: g17 :: g18 :: g19 :: g20 :: g21 :: G) C) T = wp (fe (g0 :: g1 :: g2 :: g3 :: g4 :: g5 :: g6 :: g7 :: g8 :: g9 :: g10 :: g11 :: g12 :: g13 :: g14 :: g15 :: g16 :: g17 :: g18 :: g19 :: g20 :: g21 :: G) C) (fun r C => T .nx (g0 :: g1 :: g2 :: g3 :: g4 :: g5 :: g6 :: g7 :: g8 :: g9 :: g10 :: g11 :: g12 :: g13 :: g14 :: g15 :: g16 :: g17 :: g18 :: g19 :: g20 :: some r :: G) C) (fun x C => T (.er x) (g0 :: g1 :: g2 :: g3 :: g4 :: g5 :: g6 :: g7 :: g8 :: g9 :: g10 :: g11 :: g12 :: g13 :: g14 :: g15 :: g16 :: g17 :: g18 :: g19 :: g20 :: g21 :: G) C) := by
  unfold sAsg
  simp only [ws_bind]
  rfl
theorem ws_slc21 {g0 g1 g2 g3 g4 g5 g6 g7 g8 g9 g10 g11 g12 g13 g14 g15 g16 g17 g18 g19 g20 g21 : Option El} {fe : FE} : wps (sLc 21 fe (g0 :: g1 :: g2 :: g3 :: g4 :: g5 :: g6 :: g7 :: g8 :: g9 :: g10 :: g11 :: g12 :: g13 :: g14 :: g15 :: g16 :: g17 :: g18 :: g19 :: g20 :: g21 :: G) C) T = wp (fe (g0 :: g1 :: g2 :: g3 :: g4 :: g5 :: g6 :: g7 :: g8 :: g9 :: g10 :: g11 :: g12 :: g13 :: g14 :: g15 :: g16 :: g17 :: g18 :: g19 :: g20 :: g21 :: G) C) (fun r C => T .nx (g0 :: g1 :: g2 :: g3 :: g4 :: g5 :: g6 :: g7 :: g8 :: g9 :: g10 :: g11 :: g12 :: g13 :: g14 :: g15 :: g16 :: g17 :: g18 :: g19 :: g20 :: some r :: G) C) (fun x C => T (.er x) (g0 :: g1 :: g2 :: g3 :: g4 :: g5 :: g6 :: g7 :: g8 :: g9 :: g10 :: g11 :: g12 :: g13 :: g14 :: g15 :: g16 :: g17 :: g18 :: g19 :: g20 :: g21 :: G) C) := by
  unfold sLc
  simp only [ws_bind]
  rfl
theorem wo_gN21 {g0 g1 g2 g3 g4 g5 g6 g7 g8 g9 g10 g11 g12 g13 g14 g15 g16 g17 g18 g19 g20 g21 : Option El} {q : Gs → Prop} : wo (gN 21 r (g0 :: g1 :: g2 :: g3 :: g4 :: g5 :: g6 :: g7 :: g8 :: g9 :: g10 :: g11 :: g12 :: g13 :: g14 :: g15 :: g16 :: g17 :: g18 :: g19 :: g20 :: g21 :: G) C) q = q (g0 :: g1 :: g2 :: g3 :: g4 :: g5 :: g6 :: g7 :: g8 :: g9 :: g10 :: g11 :: g12 :: g13 :: g14 :: g15 :: g16 :: g17 :: g18 :: g19 :: g20 :: some r :: G) := id rfl
theorem ws_aug21 {g0 g1 g2 g3 g4 g5 g6 g7 g8 g9 g10 g11 g12 g13 g14 g15 g16 g17 g18 g19 g20 : Option El} {a : Int} {f : Int → Int → Int} {fe : FE} : wps (sAug 21 f fe (g0 :: g1 :: g2 :: g3 :: g4 :: g5 :: g6 :: g7 :: g8 :: g9 :: g10 :: g11 :: g12 :: g13 :: g14 :: g15 :: g16 :: g17 :: g18 :: g19 :: g20 :: some (.v (.int a)) :: G) C) T = wp (fe (g0 :: g1 :: g2 :: g3 :: g4 :: g5 :: g6 :: g7 :: g8 :: g9 :: g10 :: g11 :: g12 :: g13 :: g14 :: g15 :: g16 :: g17 :: g18 :: g19 :: g20 :: some (.v (.int a)) :: G) C) (fun r C => asI r fun b => T .nx (g0 :: g1 :: g2 :: g3 :: g4 :: g5 :: g6 :: g7 :: g8 :: g9 :: g10 :: g11 :: g12 :: g13 :: g14 :: g15 :: g16 :: g17 :: g18 :: g19 :: g20 :: some (.v (.int (f a b))) :: G) C) (fun x C => T (.er x) (g0 :: g1 :: g2 :: g3 :: g4 :: g5 :: g6 :: g7 :: g8 :: g9 :: g10 :: g11 :: g12 :: g13 :: g14 :: g15 :: g16 :: g17 :: g18 :: g19 :: g20 :: some (.v (.int a)) :: G) C) := by
  show wps (sBind _ _ _) _ = _
  simp only [ws_bind]
  congr 1
  funext r C
  rcases r with d | n | l
  · cases d <;> rfl
  · rfl
  · rfl
theorem w_var22 {g0 g1 g2 g3 g4 g5 g6 g7 g8 g9 g10 g11 g12 g13 g14 g15 g16 g17 g18 g19 g20 g21 : Option El} : wp (eVar 22 (g0 :: g1 :: g2 :: g3 :: g4 :: g5 :: g6 :: g7 :: g8 :: g9 :: g10 :: g11 :: g12 :: g13 :: g14 :: g15 :: g16 :: g17 :: g18 :: g19 :: g20 :: g21 :: some r :: G) C) Q E = Q r C := id rfl
theorem ws_asg22 {g0 g1 g2 g3 g4 g5 g6 g7 g8 g9 g10 g11 g12 g13 g14 g15 g16 g17 g18 g19 g20 g21 g22 : Option El} {fe : FE} : wps (sAsg 22 fe (g0 :: g1 :: g2 :: g3 :: g4 :: g5 :: g6 :: g7 :: g8 :: g9 :: g10 :: g11 :: g12 :: g13 :: g14 :: g15 :: g16 :: g17 :: g18 :: g19 :: g20 :: g21 :: g22 :: G) C) T = wp (fe (g0 :: g1 :: g2 :: g3 :: g4 :: g5 :: g6 :: g7 :: g8 :: g9 :: g10 :: g11 :: g12 :: g13 :: g14 :: g15 :: g16 :: g17 :: g18 :: g19 :: g20 :: g21 :: g22 :: G) C) (fun r C => T .nx (g0 :: g1 :: g2 :: g3 :: g4 :: g5 :: g6 :: g7 :: g8 :: g9 :: g10 :: g11 :: g12 :: g13 :: g14 :: g15 :: g16 :: g17 :: g18 :: g19 :: g20 :: g21 :: some r :: G) C) (fun x C => T (.er x) (g0 :: g1 :: g2 :: g3 :: g4 :: g5 :: g6 :: g7 :: g8 :: g9 :: g10 :: g11 :: g12 :: g13 :: g14 :: g15 :: g16 :: g17 :: g18 :: g19 :: g20 :: g21 :: g22 :: G) C) := by
  unfold sAsg
  simp only [ws_bind]
  rfl
theorem ws_slc22 {g0 g1 g2 g3 g4 g5 g6 g7 g8 g9 g10 g11 g12 g13 g14 g15 g16 g17 g18 g19 g20 g21 g22 : Option El} {fe : FE} : wps (sLc 22 fe (g0 :: g1 :: g2 :: g3 :: g4 :: g5 :: g6 :: g7 :: g8 :: g9 :: g10 :: g11 :: g12 :: g13 :: g14 :: g15 :: g16 :: g17 :: g18 :: g19 :: g20 :: g21 :: g22 :: G) C) T = wp (fe (g0 :: g1 :: g2 :: g3 :: g4 :: g5 :: g6 :: g7 :: g8 :: g9 :: g10 :: g11 :: g12 :: g13 :: g14 :: g15 :: g16 :: g17 :: g18 :: g19 :: g20 :: g21 :: g22 :: G) C) (fun r C => T .nx (g0 :: g1 :: g2 :: g3 :: g4 :: g5 :: g6 :: g7 :: g8 :: g9 :: g10 :: g11 :: g12 :: g13 :: g14 :: g15 :: g16 :: g17 :: g18 :: g19 :: g20 :: g21 :: some r :: G) C) (fun x C => T (.er x) (g0 :: g1 :: g2 :: g3 :: g4 :: g5 :: g6 :: g7 :: g8 :: g9 :: g10 :: g11 :: g12 :: g13 :: g14 :: g15 :: g16 :: g17 :: g18 :: g19 :: g20 :: g21 :: g22 :: G) C) := by
  unfold sLc
  simp only [ws_bind]
  rfl
theorem wo_gN22 {g0 g1 g2 g3 g4 g5 g6 g7 g8 g9 g10 g11 g12 g13 g14 g15 g16 g17 g18 g19 g20 g21 g22 : Option El} {q : Gs → Prop} : wo (gN 22 r (g0 :: g1 :: g2 :: g3 :: g4 :: g5 :: g6 :: g7 :: g8 :: g9 :: g10 :: g11 :: g12 :: g13 :: g14 :: g15 :: g16 :: g17 :: g18 :: g19 :: g20 :: g21 :: g22 :: G) C) q = q (g0 :: g1 :: g2 :: g3 :: g4 :: g5 :: g6 :: g7 :: g8 :: g9 :: g10 :: g11 :: g12 :: g13 :: g14 :: g15 :: g16 :: g17 :: g18 :: g19 :: g20 :: g21 :: some r :: G) := id rfl
theorem ws_aug22 {g0 g1 g2 g3 g4 g5 g6 g7 g8 g9 g10 g11 g12 g13 g14 g15 g16 g17 g18 g19 g20 g21 : Option El} {a : Int} {f : Int → Int → Int} {fe : FE} : wps (sAug 22 f fe (g0 :: g1 :: g2 :: g3 :: g4 :: g5 :: g6 :: g7 :: g8 :: g9 :: g10 :: g11 :: g12 :: g13 :: g14 :: g15 :: g16 :: g17 :: g18 :: g19 :: g20 :: g21 :: some (.v (.int a)) :: G) C) T = wp (fe (g0 :: g1 :: g2 :: g3 :: g4 :: g5 :: g6 :: g7 :: g8 :: g9 :: g10 :: g11 :: g12 :: g13 :: g14 :: g15 :: g16 :: g17 :: g18 :: g19 :: g20 :: g21 :: some (.v (.int a)) :: G) C) (fun r C => asI r fun b => T .nx (g0 :: g1 :: g2 :: g3 :: g4 :: g5 :: g6 :: g7 :: g8 :: g9 :: g10 :: g11 :: g12 :: g13 :: g14 :: g15 :: g16 :: g17 :: g18 :: g19 :: g20 :: g21 :: some (.v (.int (f a b))) :: G) C) (fun x C => T (.er x) (g0 :: g1 :: g2 :: g3 :: g4 :: g5 :: g6 :: g7 :: g8 :: g9 :: g10 :: g11 :: g12 :: g13 :: g14 :: g15 :: g16 :: g17 :: g18 :: g19 :: g20 :: g21 :: some (.v (.int a)) :: G) C) := by
  show wps (sBind _ _ _) _ = _
  simp only [ws_bind]
  congr 1
  funext r C
  rcases r with d | n | l
  · cases d <;> rfl
  · rfl
  · rfl
theorem w_var23 {g0 g1 g2 g3 g4 g5 g6 g7 g8 g9 g10 g11 g12 g13 g14 g15 g16 g17 g18 g19 g20 g21 g22 : Option El} : wp (eVar 23 (g0 :: g1 :: g2 :: g3 :: g4 :: g5 :: g6 :: g7 :: g8 :: g9 :: g10 :: g11 :: g12 :: g13 :: g14 :: g15 :: g16 :: g17 :: g18 :: g19 :: g20 :: g21 :: g22 :: some r :: G) C) Q E = Q r C := id rfl
theorem ws_asg23 {g0 g1 g2 g3 g4 g5 g6 g7 g8 g9 g10 g11 g12 g13 g14 g15 g16 g17 g18 g19 g20 g21 g22 g23 : Option El} {fe : FE} : wps (sAsg 23 fe (g0 :: g1 :: g2 :: g3 :: g4 :: g5 :: g6 :: g7 :: g8 :: g9 :: g10 :: g11 :: g12 :: g13 :: g14 :: g15 :: g16 :: g17 :: g18 :: g19 :: g20 :: g21 :: g22 :: g23 :: G) C) T = wp (fe (g0 :: g1 :: g2 :: g3 :: g4 :: g5 :: g6 :: g7 :: g8 :: g9 :: g10 :: g11 :: g12 :: g13 :: g14 :: g15 :: g16 :: g17 :: g18 :: g19 :: g20 :: g21 :: g22 :: g23 :: G) C) (fun r C => T .nx (g0 :: g1 :: g2 :: g3 :: g4 :: g5 :: g6 :: g7 :: g8 :: g9 :: g10 :: g11 :: g12 :: g13 :: g14 :: g15 :: g16 :: g17 :: g18 :: g19 :: g20 :: g21 :: g22 :: some r :: G) C) (fun x C => T (.er x) (g0 :: g1 :: g2 :: g3 :: g4 :: g5 :: g6 :: g7 :: g8 :: g9 :: g10 :: g11 :: g12 :: g13 :: g14 :: g15 :: g16 :: g17 :: g18 :: g19 :: g20 :: g21 :: g22 :: g23 :: G) C) := by
  unfold sAsg
  simp only [ws_bind]
  rfl
theorem ws_slc23 {g0 g1 g2 g3 g4 g5 g6 g7 g8 g9 g10 g11 g12 g13 g14 g15 g16 g17 g18 g19 g20 g21 g22 g23 : Option El} {fe : FE} : wps (sLc 23 fe (g0 :: g1 :: g2 :: g3 :: g4 :: g5 :: g6 :: g7 :: g8 :: g9 :: g10 :: g11 :: g12 :: g13 :: g14 :: g15 :: g16 :: g17 :: g18 :: g19 :: g20 :: g21 :: g22 :: g23 :: G) C) T = wp (fe (g0 :: g1 :: g2 :: g3 :: g4 :: g5 :: g6 :: g7 :: g8 :: g9 :: g10 :: g11 :: g12 :: g13 :: g14 :: g15 :: g16 :: g17 :: g18 :: g19 :: g20 :: g21 :: g22 :: g23 :: G) C) (fun r C => T .nx (g0 :: g1 :: g2 :: g3 :: g4 :: g5 :: g6 :: g7 :: g8 :: g9 :: g10 :: g11 :: g12 :: g13 :: g14 :: g15 :: g16 :: g17 :: g18 :: g19 :: g20 :: g21 :: g22 :: some r :: G) C) (fun x C => T (.er x) (g0 :: g1 :: g2 :: g3 :: g4 :: g5 :: g6 :: g7 :: g8 :: g9 :: g10 :: g11 :: g12 :: g13 :: g14 :: g15 :: g16 :: g17 :: g18 :: g19 :: g20 :: g21 :: g22 :: g23 :: G) C) := by
  unfold sLc
  simp only [ws_bind]
  rfl
theorem wo_gN23 {g0 g1 g2 g3 g4 g5 g6 g7 g8 g9 g10 g11 g12 g13 g14 g15 g16 g17 g18 g19 g20 g21 g22 g23 : Option El} {q : Gs → Prop} : wo (gN 23 r (g0 :: g1 :: g2 :: g3 :: g4 :: g5 :: g6 :: g7 :: g8 :: g9 :: g10 :: g11 :: g12 :: g13 :: g14 :: g15 :: g16 :: g17 :: g18 :: g19 :: g20 :: g21 :: g22 :: g23 :: G) C) q = q (g0 :: g1 :: g2 :: g3 :: g4 :: g5 :: g6 :: g7 :: g8 :: g9 :: g10 :: g11 :: g12 :: g13 :: g14 :: g15 :: g16 :: g17 :: g18 :: g19 :: g20 :: g21 :: g22 :: some r :: G) := id rfl
theorem ws_aug23 {g0 g1 g2 g3 g4 g5 g6 g7 g8 g9 g10 g11 g12 g13 g14 g15 g16 g17 g18 g19 g20 g21 g22 : Option El} {a : Int} {f : Int → Int → Int} {fe : FE} : wps (sAug 23 f fe (g0 :: g1 :: g2 :: g3 :: g4 :: g5 :: g6 :: g7 :: g8 :: g9 :: g10 :: g11 :: g12 :: g13 :: g14 :: g15 :: g16 :: g17 :: g18 :: g19 :: g20 :: g21 :: g22 :: some (.v (.int a)) :: G) C) T = wp (fe (g0 :: g1 :: g2 :: g3 :: g4 :: g5 :: g6 :: g7 :: g8 :: g9 :: g10 :: g11 :: g12 :: g13 :: g14 :: g15 :: g16 :: g17 :: g18 :: g19 :: g20 :: g21 :: g22 :: some (.v (.int a)) :: G) C) (fun r C => asI r fun b => T .nx (g0 :: g1 :: g2 :: g3 :: g4 :: g5 :: g6 :: g7 :: g8 :: g9 :: g10 :: g11 :: g12 :: g13 :: g14 :: g15 :: g16 :: g17 :: g18 :: g19 :: g20 :: g21 :: g22 :: some (.v (.int (f a b))) :: G) C) (fun x C => T (.er x) (g0 :: g1 :: g2 :: g3 :: g4 :: g5 :: g6 :: g7 :: g8 :: g9 :: g10 :: g11 :: g12 :: g13 :: g14 :: g15 :: g16 :: g17 :: g18 :: g19 :: g20 :: g21 :: g22 :: some (.v (.int a)) :: G) C) := by
  show wps (sBind _ _ _) _ = _
  simp only [ws_bind]
  congr 1
  funext r C
  rcases r with d | n | l
  · cases d <;> rfl
  · rfl
  · rfl
theorem ws_par {i j : Nat} {fa : FA} : wps (sPar i j fa (g :: G) C) T = wp (fa (g :: G) C) (fun rs C => match rs with
  | [x, y] => T .nx (((g :: G).set i (some x)).set j (some y)) C
  | _ => False) (fun x C => T (.er x) (g :: G) C) := by
  unfold sPar
  simp only [ws_bind]
  congr 1
  funext rs C
  rcases rs with _ | ⟨x, _ | ⟨y, _ | ⟨z, l⟩⟩⟩ <;> rfl
theorem wo_gTp {t : FGs} {n : Nat} {G : Gs} {q : Gs → Prop} : wo (gTp t n r G C) q = (match viewT C r with
  | some l => l.length = n ∧ wo (t l G C) q
  | none => match viewL C r with
    | some l => l.length = n ∧ wo (t l G C) q
    | none => False) := by
  unfold gTp
  cases viewT C r with
  | some l =>
    dsimp only
    split
    · simp_all
    · simp_all [wo]
  | none =>
    dsimp only
    cases viewL C r with
    | some l =>
      dsimp only
      split
      · simp_all
      · simp_all [wo]
    | none => rfl
theorem wo_gNil {G : Gs} {q : Gs → Prop} : wo (gNil [] G C) q = q G := id rfl
theorem wo_gCons {f : FG} {h : FGs} {G : Gs} {rs : List El} {q : Gs → Prop} : wo (gCons f h (r :: rs) G C) q = wo (f r G C) fun G => wo (h rs G C) q := by
  show wo ((f r G C).bind fun G => h rs G C) q = _
  cases f r G C <;> rfl
theorem wipe_nil {G : Gs} : wipeG G [] = G := rfl
theorem wipe_cons {G : Gs} {v : Nat} {vs : List Nat} : wipeG G (v :: vs) = (wipeG G vs).set v none := rfl
end
end R
namespace R
open PySem L2

/-! ### operations on plain values -/
section
variable {C : Cs} {i j : Int} {a b : Str} {p p' : Bool} {l l' : List D} {q : El × Cs → Prop} {qb : Bool → Prop} {qe : El → Prop} {x y : El} {n : Nat} {Q : El → Cs → Prop} {E : Exn → Cs → Prop} {g : Option El} {G : Gs} {T : Fl → Gs → Cs → Prop}
theorem o_add : wo (oAdd (.v (.int i)) (.v (.int j)) C) q = q (.v (.int (i + j)), C) := rfl
theorem o_addS : wo (oAdd (.v (.str a)) (.v (.str b)) C) q = (a.length + b.length ≤ sizeLine ∧ q (.v (.str (a ++ b)), C)) := by
  unfold oAdd
  dsimp only
  split
  · simp_all [wo]
  · rename_i h
    exact (eq_false fun z => h z.1).symm
theorem o_addL : wo (oAdd (.v (.lst l)) (.v (.lst l')) C) q = ((l ++ l').length ≤ sizeLine ∧ q (.v (.lst (l ++ l')), C)) := by
  unfold oAdd viewL
  dsimp only
  rw [← List.map_append, unV_map]
  dsimp only
  split
  · simp_all [wo]
  · rename_i h
    exact (eq_false fun z => h z.1).symm
theorem o_sub : wo (oSub (.v (.int i)) (.v (.int j)) C) q = q (.v (.int (i - j)), C) := rfl
theorem o_mul : wo (oMul (.v (.int i)) (.v (.int j)) C) q = (CMul i j ∧ q (.v (.int (i * j)), C)) := by
  unfold oMul oI
  dsimp only
  split
  · rename_i h; simp_all [wo]
  · rename_i h; exact (eq_false fun z => h (decide_eq_true z.1)).symm
theorem o_div : wo (oDiv (.v (.int i)) (.v (.int j)) C) q = (CDiv i j ∧ q (.v (.int (i / j)), C)) := by
  unfold oDiv oI
  dsimp only
  split
  · rename_i h; simp_all [wo]
  · rename_i h; exact (eq_false fun z => h (decide_eq_true z.1)).symm
theorem o_mod : wo (oMod (.v (.int i)) (.v (.int j)) C) q = (0 < j ∧ q (.v (.int (i % j)), C)) := by
  unfold oMod oI
  dsimp only
  split
  · rename_i h; simp_all [wo]
  · rename_i h; exact (eq_false fun z => h (decide_eq_true z.1)).symm
theorem o_pow : wo (oPow (.v (.int i)) (.v (.int j)) C) q = (CPow i j ∧ q (.v (.int (i ^ j.toNat)), C)) := by
  unfold oPow oI
  dsimp only
  split
  · rename_i h; simp_all [wo]
  · rename_i h; exact (eq_false fun z => h (decide_eq_true z.1)).symm
theorem b_lt : wo (bLt (.v (.int i)) (.v (.int j)) C) qb = qb (decide (i < j)) := rfl
theorem b_le : wo (bLe (.v (.int i)) (.v (.int j)) C) qb = qb (decide (i ≤ j)) := rfl
theorem b_gt : wo (bGt (.v (.int i)) (.v (.int j)) C) qb = qb (decide (j < i)) := rfl
theorem b_ge : wo (bGe (.v (.int i)) (.v (.int j)) C) qb = qb (decide (j ≤ i)) := rfl
theorem b_is : wo (bIs x (.v .non) C) qb = qb (isNon x) := rfl
theorem b_isn : wo (bIsNot x (.v .non) C) qb = qb (!isNon x) := rfl
theorem b_eqI : wo (bEq (.v (.int i)) (.v (.int j)) C) qb = qb (decide (i = j)) := by
  show qb (decide (V.int i = V.int j)) = _
  congr 1
  simp
theorem b_neI : wo (bNe (.v (.int i)) (.v (.int j)) C) qb = qb (!decide (i = j)) := by
  show qb (!decide (V.int i = V.int j)) = _
  congr 2
  simp
theorem b_eqS : wo (bEq (.v (.str a)) (.v (.str b)) C) qb = qb (decide (a = b)) := by
  show qb (decide (V.str a = V.str b)) = _
  congr 1
  simp
theorem b_neS : wo (bNe (.v (.str a)) (.v (.str b)) C) qb = qb (!decide (a = b)) := by
  show qb (!decide (V.str a = V.str b)) = _
  congr 2
  simp
theorem b_eqB : wo (bEq (.v (.bl p)) (.v (.bl p')) C) qb = qb (decide (p = p')) := by
  show qb (decide (V.bl p = V.bl p')) = _
  congr 1
  simp
theorem b_neB : wo (bNe (.v (.bl p)) (.v (.bl p')) C) qb = qb (!decide (p = p')) := by
  show qb (!decide (V.bl p = V.bl p')) = _
  congr 2
  simp
theorem v_S : viewS C (.v (.lst l)) = some (l.map El.v) := rfl
theorem v_Sc {ns : List Int} : viewS C (.v (.scr ns)) = some (ns.map fun i => El.v (.int i)) := rfl
theorem v_L : viewL C (.v (.lst l)) = some (l.map El.v) := rfl
theorem v_T : viewT C (.v (.tup l)) = some (l.map El.v) := rfl
theorem v_Tp {es : List El} : viewT C (.tp es) = some es := rfl
theorem v_TL : viewT C (.v (.lst l)) = none := rfl
theorem v_I {c : Str} {fs : List (Str × D)} : viewI C (.v (.ins c fs)) = some (c, fs.map fun p => (p.1, El.v p.2)) := rfl
def obL : Ob → Option (List El)
  | .lst l => some l
  | _ => none
theorem obL_lst {es : List El} : obL (.lst es) = some es := rfl
theorem v_Sat : viewS C (.at n) = (C[n]?).bind fun o => o.bind obL := by
  unfold viewS viewL
  dsimp only
  rcases C[n]? with _ | _ | o
  · rfl
  · rfl
  · cases o <;> rfl
theorem v_Lat : viewL C (.at n) = (C[n]?).bind fun o => o.bind obL := v_Sat
def obI : Ob → Option (Str × List (Str × El))
  | .ins c fs => some (c, fs)
  | _ => none
theorem obI_ins {c : Str} {fs : List (Str × El)} : obI (.ins c fs) = some (c, fs) := rfl
theorem v_Iat : viewI C (.at n) = (C[n]?).bind fun o => o.bind obI := by
  unfold viewI
  dsimp only
  rcases C[n]? with _ | _ | o
  · rfl
  · rfl
  · cases o <;> rfl
theorem i_lst : wo (oIx C (.v (.lst l)) (.v (.int i))) qe = wo (atI l i) fun d => qe (.v d) := by
  show wo (atI (l.map El.v) i) qe = _
  unfold atI
  rw [List.length_map]
  cases ixN l.length i with
  | none => rfl
  | some k => simp only [Option.bind_some, List.getElem?_map, wo_map]
theorem i_tup : wo (oIx C (.v (.tup l)) (.v (.int i))) qe = wo (atI l i) fun d => qe (.v d) := by
  show wo (atI (l.map El.v) i) qe = _
  unfold atI
  rw [List.length_map]
  cases ixN l.length i with
  | none => rfl
  | some k => simp only [Option.bind_some, List.getElem?_map, wo_map]
theorem i_tp {es : List El} : wo (oIx C (.tp es) (.v (.int i))) qe = wo (atI es i) qe := rfl
theorem i_scr {ns : List Int} : wo (oIx C (.v (.scr ns)) (.v (.int i))) qe = wo (atI ns i) fun d => qe (.v (.int d)) := by
  show wo (atI (ns.map fun i => El.v (.int i)) i) qe = _
  unfold atI
  rw [List.length_map]
  cases ixN ns.length i with
  | none => rfl
  | some k => simp only [Option.bind_some, List.getElem?_map, wo_map]
theorem i_dk {kl : List (Key × D)} : wo (oIx C (.v (.dk kl)) (.v (.int i))) qe = wo (val kl (.inl i)) fun d => qe (.v d) := by
  show wo (val (kl.map fun p => (p.1, El.v p.2)) (.inl i)) qe = _
  unfold val
  rw [List.find?_map, Option.map_map, wo_map, wo_map]
  rfl
theorem i_dkS {kl : List (Key × D)} : wo (oIx C (.v (.dk kl)) (.v (.str a))) qe = wo (val kl (.inr a)) fun d => qe (.v d) := by
  show wo (val (kl.map fun p => (p.1, El.v p.2)) (.inr a)) qe = _
  unfold val
  rw [List.find?_map, Option.map_map, wo_map, wo_map]
  rfl
def ixOb (i : Int) : Ob → Option El
  | .lst l => atI l i
  | .dk _ l => val l (.inl i)
  | _ => none
theorem ixOb_lst {es : List El} : ixOb i (.lst es) = atI es i := rfl
theorem ixOb_dk {lk : Option HO} {es : List (Key × El)} : ixOb i (.dk lk es) = val es (.inl i) := rfl
theorem i_at : oIx C (.at n) (.v (.int i)) = (C[n]?).bind fun o => o.bind (ixOb i) := by
  unfold oIx viewK viewTK keyT viewS viewL viewT keyE
  rcases e : C[n]? with _ | _ | o
  · simp [e]
  · simp [e]
  · cases o <;> simp [e, ixOb]
def ixObS (i : Str) : Ob → Option El
  | .dk _ l => val l (.inr i)
  | _ => none
theorem ixObS_dk {lk : Option HO} {es : List (Key × El)} : ixObS a (.dk lk es) = val es (.inr a) := rfl
theorem i_atS : oIx C (.at n) (.v (.str a)) = (C[n]?).bind fun o => o.bind (ixObS a) := by
  unfold oIx viewK viewTK keyT viewS viewL viewT keyE
  rcases e : C[n]? with _ | _ | o
  · simp [e]
  · simp [e]
  · cases o <;> simp [e, ixObS]
theorem n_lst : lenE C (.v (.lst l)) = some l.length := by simp [lenE, viewS, viewL]
theorem n_scr {ns : List Int} : lenE C (.v (.scr ns)) = some ns.length := by simp [lenE, viewS]
theorem n_tup : lenE C (.v (.tup l)) = some l.length := by simp [lenE, viewS, viewL, viewT]
theorem n_dk {kl : List (Key × D)} : lenE C (.v (.dk kl)) = some kl.length := by simp [lenE, viewS, viewL, viewT]
def lnOb : Ob → Option Nat
  | .lst l => some l.length
  | .dk none l => some l.length
  | .dt none l => some l.length
  | _ => none
theorem lnOb_dt {es : List (List Key × El)} : lnOb (.dt none es) = some es.length := rfl
theorem lnOb_lst {es : List El} : lnOb (.lst es) = some es.length := rfl
theorem lnOb_dk {es : List (Key × El)} : lnOb (.dk none es) = some es.length := rfl
theorem n_at : lenE C (.at n) = (C[n]?).bind fun o => o.bind lnOb := by
  unfold lenE viewS viewL viewT
  rcases e : C[n]? with _ | _ | o
  · simp [e]
  · simp [e]
  · rcases o with l | ⟨_ | lk, l⟩ | ⟨_ | lk, l⟩ | _ | _ <;> simp [e, lnOb]
theorem f_len : wo (fLen [x] C) q = wo (lenE C x) fun n => q (.v (.int n), C) := by
  unfold fLen
  dsimp only
  cases lenE C x <;> rfl
theorem f_intI : wo (fInt [.v (.int i)] C) q = q (.v (.int i), C) := rfl
theorem f_intB : wo (fInt [.v (.bl p)] C) q = q (.v (.int (if p = true then 1 else 0)), C) := rfl
theorem f_str : wo (fStr [.v (.int i)] C) q = (i.natAbs.log2 < 1920 ∧ q (.v (.str (toString i)), C)) := by
  unfold fStr
  dsimp only
  split
  · simp_all [wo]
  · rename_i h; exact (eq_false fun z => h z.1).symm
theorem f_min2 : wo (fMin2 [.v (.int i), .v (.int j)] C) q = q (.v (.int (if j < i then j else i)), C) := rfl
theorem f_max2 : wo (fMax2 [.v (.int i), .v (.int j)] C) q = q (.v (.int (if j > i then j else i)), C) := rfl
theorem f_divmod : wo (fDivmod [.v (.int i), .v (.int j)] C) q = (CDiv i j ∧ q (.v (.tup [.int (i / j), .int (i % j)]), C)) := by
  unfold fDivmod
  dsimp only
  split
  · simp_all [wo]
  · rename_i h; exact (eq_false fun z => h z.1).symm
theorem intsE_map {ns : List Int} : intsE (ns.map fun i => El.v (.int i)) = some ns := by
  induction ns with
  | nil => rfl
  | cons n ns ih => rw [List.map_cons, intsE, ih]; rfl
theorem intsE_mapD {ns : List Int} : intsE ((ns.map D.int).map El.v) = some ns := by rw [List.map_map]; exact intsE_map
theorem blsE_mapD {ns : List Bool} : blsE ((ns.map D.bl).map El.v) = some ns := by
  induction ns with
  | nil => rfl
  | cons n ns ih => rw [List.map_cons, List.map_cons, blsE, ih]; rfl
theorem strsE_mapD {ns : List Str} : strsE ((ns.map D.str).map El.v) = some ns := by
  induction ns with
  | nil => rfl
  | cons n ns ih => rw [List.map_cons, List.map_cons, strsE, ih]; rfl
theorem f_sum : wo (fSum [x] C) q = wo (viewS C x) fun l => wo (intsE l) fun ns => q (.v (.int ns.sum), C) := by
  show wo (match viewS C x with | some l => _ | none => _) q = _
  cases viewS C x with
  | none => rfl
  | some l => exact wo_map
theorem f_all : wo (fAll [x] C) q = wo (viewS C x) fun l => wo (blsE l) fun ns => q (.v (.bl (ns.all id)), C) := by
  show wo (match viewS C x with | some l => _ | none => _) q = _
  cases viewS C x with
  | none => rfl
  | some l => exact wo_map
theorem f_any : wo (fAny [x] C) q = wo (viewS C x) fun l => wo (blsE l) fun ns => q (.v (.bl (ns.any id)), C) := by
  show wo (match viewS C x with | some l => _ | none => _) q = _
  cases viewS C x with
  | none => rfl
  | some l => exact wo_map
theorem f_isB {t t2 : String} (h : tyE C x = some t) : wo (fIsB [x, .v (.ty t2)] C) q = wo (kitB t t2) fun k => q (.v (.bl k), C) := by
  unfold fIsB
  dsimp only
  rw [h]
  exact wo_map
theorem f_isI {t2 : String} : wo (fIsB [.v (.int i), .v (.ty t2)] C) q = wo (kitB "int" t2) fun k => q (.v (.bl k), C) := f_isB rfl
theorem f_isBl {t2 : String} : wo (fIsB [.v (.bl p), .v (.ty t2)] C) q = wo (kitB "bool" t2) fun k => q (.v (.bl k), C) := f_isB rfl
theorem f_isL {t2 : String} : wo (fIsB [.v (.lst l), .v (.ty t2)] C) q = wo (kitB "list" t2) fun k => q (.v (.bl k), C) := f_isB rfl
theorem f_isT {t2 : String} : wo (fIsB [.v (.tup l), .v (.ty t2)] C) q = wo (kitB "tuple" t2) fun k => q (.v (.bl k), C) := f_isB rfl
theorem f_isD {t2 : String} {kl : List (Key × D)} : wo (fIsB [.v (.dk kl), .v (.ty t2)] C) q = wo (kitB "dict" t2) fun k => q (.v (.bl k), C) := f_isB rfl
theorem f_isN {t2 : String} : wo (fIsB [.v .non, .v (.ty t2)] C) q = wo (kitB "NoneType" t2) fun k => q (.v (.bl k), C) := f_isB rfl
theorem f_isE {ad dd : Addr} {y : Str} {tab : Str → D → Option Bool} {d : D} : wo (fIsE ad dd ⟨y, none⟩ tab [.v (.adr ad), .v d] C) q = wo (isX1 tab y d) fun k => q (.v (.bl k), C) := by
  unfold fIsE
  dsimp only
  rw [if_pos ⟨rfl, rfl⟩]
  exact wo_map
theorem f_isEf {ad dd : Addr} {y : Str} {tab : Str → D → Option Bool} {d : D} {fs fs' : List (Str × D)} : wo (fIsE ad dd ⟨y, some fs⟩ tab [.v (.exf ad dd fs'), .v d] C) q = wo (isX1 tab y d) fun k => q (.v (.bl k), C) := by
  unfold fIsE
  dsimp only
  rw [if_pos ⟨rfl, rfl, rfl⟩]
  exact wo_map
theorem isNon_non : isNon (.v .non) = true := rfl
theorem isNon_int : isNon (.v (.int i)) = false := rfl
theorem isNon_lst : isNon (.v (.lst l)) = false := rfl
theorem isNon_tup : isNon (.v (.tup l)) = false := rfl
theorem isNon_str : isNon (.v (.str a)) = false := rfl
theorem isNon_at : isNon (.at n) = false := rfl
theorem isNon_dk {kl : List (Key × D)} : isNon (.v (.dk kl)) = false := rfl
theorem unV_nil : unV [] = some [] := rfl
theorem unV_v {d : D} {es : List El} : unV (.v d :: es) = (unV es).map (d :: ·) := rfl
theorem unV_at {es : List El} : unV (.at n :: es) = none := rfl
theorem mkTup_2 {d e : D} : mkTup [.v d, .v e] = .v (.tup [d, e]) := rfl
theorem mkTup_3 {d e f : D} : mkTup [.v d, .v e, .v f] = .v (.tup [d, e, f]) := rfl
theorem mkTup_4 {d e f h : D} : mkTup [.v d, .v e, .v f, .v h] = .v (.tup [d, e, f, h]) := rfl
theorem mkTup_va {d : D} : mkTup [.v d, .at n] = .tp [.v d, .at n] := rfl
theorem mkTup_av {d : D} : mkTup [.at n, .v d] = .tp [.at n, .v d] := rfl
/-! ### cells behind C -/
theorem c_get {L : Cs} {k : Nat} : (C ++ L)[C.length + k]? = L[k]? := by
  rw [List.getElem?_append_right (Nat.le_add_right _ _)]
  congr 1
  omega
theorem c_get0 {L : Cs} : (C ++ L)[C.length]? = L[0]? := c_get (k := 0)
theorem c_set {L : Cs} {k : Nat} {o : Option Ob} : (C ++ L).set (C.length + k) o = C ++ L.set k o := by
  rw [List.set_append_right _ _ (Nat.le_add_right _ _)]
  congr 2
  omega
theorem c_set0 {L : Cs} {o : Option Ob} : (C ++ L).set C.length o = C ++ L.set 0 o := c_set (k := 0)
theorem okDrop_app {L : Cs} : okDrop C (C ++ L) C.length := ⟨Nat.le_refl _, by rw [List.length_append]; omega, fun i o h1 h2 => .inl (by rwa [List.getElem?_append_left h1] at h2)⟩
/-- a def's end -/
noncomputable def endF (keep : Nat) (C : Cs) (Q : El → Cs → Prop) (E : Exn → Cs → Prop) : Fl → Gs → Cs → Prop := fun fl G C1 => wp (closeR keep C (some (fl, G, C1))) Q E
theorem w_open {np m keep : Nat} {fb : FS} {rs : List El} {G : Gs} (h : rs.length = np) (hG : rs.map some ++ List.replicate (m - np) none = G) : wp (mkFn np m keep fb rs C) Q E = wps (fb G C) (endF keep C Q E) := by
  subst hG
  unfold mkFn
  rw [if_pos h]
  rcases fb _ C with _ | ⟨fl, G1, C1⟩
  · rfl
  · rfl
theorem closeV_v {m : Nat} {C1 : Cs} {d : D} : closeV m C1 (.v d) = some (.v d) := by simp [closeV, closedE]
theorem take_app {L : Cs} : (C ++ L).take C.length = C := by simp
theorem e_rt {L : Cs} : endF 0 C Q E (.rt x) G (C ++ L) = wo (closeV C.length (C ++ L) x) fun r => Q r C := by
  unfold endF closeR
  dsimp only
  rw [Nat.add_zero, if_pos okDrop_app, take_app]
  cases closeV C.length (C ++ L) x <;> rfl
theorem e_rtv {L : Cs} {d : D} : endF 0 C Q E (.rt (.v d)) G (C ++ L) = Q (.v d) C := by rw [e_rt, closeV_v]; rfl
theorem e_rtv0 {d : D} : endF 0 C Q E (.rt (.v d)) G C = Q (.v d) C := by have := e_rtv (C := C) (L := []) (Q := Q) (E := E) (G := G) (d := d); rwa [List.append_nil] at this
theorem e_nx {L : Cs} : endF 0 C Q E .nx G (C ++ L) = Q (.v .non) C := by
  unfold endF closeR
  dsimp only
  rw [Nat.add_zero, if_pos okDrop_app, take_app]
  rfl
theorem e_nx0 : endF 0 C Q E .nx G C = Q (.v .non) C := by have := e_nx (C := C) (L := []) (Q := Q) (E := E) (G := G); rwa [List.append_nil] at this
theorem e_er {L : Cs} {k : Nat} {z : Exn} : endF k C Q E (.er z) G (C ++ L) = E z C := by
  unfold endF closeR
  dsimp only
  rw [if_pos okDrop_app, take_app]
  rfl
theorem e_er0 {k : Nat} {z : Exn} : endF k C Q E (.er z) G C = E z C := by have := e_er (C := C) (L := []) (Q := Q) (E := E) (G := G) (k := k) (z := z); rwa [List.append_nil] at this
/-- cells ahead changed: each as it was, or closed -/
theorem e_rtC {C' L : Cs} (hl : C'.length = C.length) (h : ∀ (i : Nat) (o : Ob), C'[i]? = some (some o) → C[i]? = some (some o) ∨ closedO C.length o = true) : endF 0 C Q E (.rt x) G (C' ++ L) = wo (closeV C.length (C' ++ L) x) fun r => Q r C' := by
  have ok : okDrop C (C' ++ L) C.length := ⟨Nat.le_refl _, by rw [List.length_append]; omega, fun i o h1 h2 => h i o (by rwa [List.getElem?_append_left (by omega)] at h2)⟩
  unfold endF closeR
  dsimp only
  rw [Nat.add_zero, if_pos ok, ← hl, take_app, hl]
  cases closeV C.length (C' ++ L) x <;> rfl
theorem e_nxC {C' L : Cs} (hl : C'.length = C.length) (h : ∀ (i : Nat) (o : Ob), C'[i]? = some (some o) → C[i]? = some (some o) ∨ closedO C.length o = true) : endF 0 C Q E .nx G (C' ++ L) = Q (.v .non) C' := by
  have ok : okDrop C (C' ++ L) C.length := ⟨Nat.le_refl _, by rw [List.length_append]; omega, fun i o h1 h2 => h i o (by rwa [List.getElem?_append_left (by omega)] at h2)⟩
  unfold endF closeR
  dsimp only
  rw [Nat.add_zero, if_pos ok, ← hl, take_app]
  rfl
theorem mapM_all {α β : Type} {f : α → β} {h : β → Option α} (e : ∀ x, h (f x) = some x) : ∀ l : List α, (l.map f).mapM h = some l
  | [] => rfl
  | x :: l => by
    rw [List.map_cons, List.mapM_cons, e x, mapM_all e l]
    rfl
theorem toDn_v {m k : Nat} {C1 : Cs} {d : D} : toDn m C1 k (.v d) = some d := by unfold toDn; rfl
/-- own cells, frozen -/
theorem z_ins {c : Str} {fs : List (Str × D)} {L : Cs} : closeV C.length (C ++ some (.ins c (fs.map fun p => (p.1, El.v p.2))) :: L) (.at C.length) = some (.v (.ins c fs)) := by
  have e : toDn C.length (C ++ some (.ins c (fs.map fun p => (p.1, El.v p.2))) :: L) 5 (.at C.length) = some (.ins c fs) := by
    rw [toDn, if_neg (Nat.lt_irrefl _), c_get0]
    dsimp only [List.getElem?_cons_zero]
    rw [mapM_all (fun p => by simp only [toDn_v]; rfl)]
    rfl
  unfold closeV
  rw [if_neg (by simp [closedE]), e]
  rfl
theorem z_lst {l : List D} {L : Cs} : closeV C.length (C ++ some (.lst (l.map El.v)) :: L) (.at C.length) = some (.v (.lst l)) := by
  have e : toDn C.length (C ++ some (.lst (l.map El.v)) :: L) 5 (.at C.length) = some (.lst l) := by
    rw [toDn, if_neg (Nat.lt_irrefl _), c_get0]
    dsimp only [List.getElem?_cons_zero]
    rw [mapM_all (fun p => toDn_v)]
    rfl
  unfold closeV
  rw [if_neg (by simp [closedE]), e]
  rfl
theorem z_dk {l : List (Key × D)} {L : Cs} : closeV C.length (C ++ some (.dk none (l.map fun p => (p.1, El.v p.2))) :: L) (.at C.length) = some (.v (.dk l)) := by
  have e : toDn C.length (C ++ some (.dk none (l.map fun p => (p.1, El.v p.2))) :: L) 5 (.at C.length) = some (.dk l) := by
    rw [toDn, if_neg (Nat.lt_irrefl _), c_get0]
    dsimp only [List.getElem?_cons_zero]
    rw [mapM_all (fun p => by simp only [toDn_v]; rfl)]
    rfl
  unfold closeV
  rw [if_neg (by simp [closedE]), e]
  rfl
/-- a new instance, frozen -/
theorem w_ins {c : Str} {m : Fn} {rs : List El} {fs : List (Str × D)} (h : m (.at C.length :: rs) (C ++ [some (.ins c [])]) = some (.ok (.v .non), C ++ [some (.ins c (fs.map fun p => (p.1, El.v p.2)))])) : wp (mkIns c m false rs C) Q E = Q (.v (.ins c fs)) C := by
  unfold mkIns
  rw [h]
  dsimp only
  rw [if_neg (by decide), if_pos okDrop_app, z_ins]
  dsimp only
  rw [take_app]
  rfl
theorem w_insO {c : Str} {m : Fn} {rs : List El} {C1 : Cs} (h : m (.at C.length :: rs) (C ++ [some (.ins c [])]) = some (.ok (.v .non), C1)) : wp (mkIns c m true rs C) Q E = Q (.at C.length) C1 := by
  unfold mkIns
  rw [h]
  dsimp only
  rw [if_pos rfl]
  rfl
end


/-! ### comprehensions -/
section
variable {C : Cs} {Q : El → Cs → Prop} {E : Exn → Cs → Prop} {g : Option El} {G : Gs} {T : Fl → Gs → Cs → Prop}
abbrev pu (C : Cs) (acc : List El) : Cs := C ++ [some (Ob.lst acc)]
noncomputable def wlc (own : Bool) (vs : List Nat) (tg : FG) (tst : FT) (elt : FE) (w : Cs → Prop) (l : List El) (G : Gs) (C : Cs) (Q : El → Cs → Prop) (E : Exn → Cs → Prop) : Prop :=
  wp (match lcF tg tst elt w vs C.length G l (C ++ [some (.lst [])]) with
  | some C2 => lcEnd own C C2
  | none => none) Q E
theorem w_lc {own : Bool} {vs : List Nat} {tg : FG} {it : FI} {tst : FT} {elt : FE} : wp (eLc own vs tg it tst elt (g :: G) C) Q E = wp (it (g :: G) C) (fun r C => wlc own vs tg tst elt r.2 r.1 (g :: G) C Q E) E := by
  unfold eLc wlc
  simp only [w_bind]
  all_goals rfl
abbrev NoE : Exn → Cs → Prop := fun _ _ => False
theorem lcF_go {α : Type} {vs : List Nat} {tg : FG} {tst : FT} {elt : FE} {w : Cs → Prop} {e : α → El} {F : α → Option El} : ∀ (xs : List α) (acc : List El),
    (∀ a ∈ xs, ∀ acc : List El, w (pu C acc) ∧ wo (tg (e a) (wipeG G vs) (pu C acc)) fun G1 => wp (tst G1 (pu C acc)) (fun t C1 => C1 = pu C acc ∧ t = (F a).isSome ∧
      (t = true → wp (elt G1 (pu C acc)) (fun r C2 => F a = some r ∧ C2 = pu C acc) NoE)) NoE) →
    (∀ acc : List El, w (pu C acc)) → acc.length + xs.length ≤ sizeLine → lcF tg tst elt w vs C.length G (xs.map e) (pu C acc) = some (pu C (acc ++ xs.filterMap F))
  | [], acc, _, hw, _ => by
    rw [List.map_nil, lcF, if_pos (hw acc)]
    simp
  | a :: xs, acc, h, hw, hl => by
    rw [List.length_cons] at hl
    obtain ⟨_, h1⟩ := h a List.mem_cons_self acc
    have recu := fun (acc' : List El) (hl' : acc'.length + xs.length ≤ sizeLine) => lcF_go xs acc' (fun b hb => h b (List.mem_cons_of_mem _ hb)) hw hl'
    rw [List.map_cons, lcF, if_pos (hw acc)]
    cases e1 : tg (e a) (wipeG G vs) (pu C acc) with
    | none => rw [e1] at h1; exact h1.elim
    | some G1 =>
      rw [e1, wo_some] at h1
      dsimp only
      cases e2 : tst G1 (pu C acc) with
      | none => rw [e2] at h1; exact h1.elim
      | some o2 =>
        obtain ⟨t, C1⟩ := o2
        cases t with
        | er z => rw [e2] at h1; exact h1.elim
        | ok t =>
          rw [e2] at h1
          obtain ⟨rfl, ht, h2⟩ := h1
          dsimp only
          cases t with
          | false =>
            rw [if_neg (by decide), recu acc (by omega)]
            have : F a = none := by cases e3 : F a with | none => rfl | some d => rw [e3] at ht; cases ht
            simp [this]
          | true =>
            rw [if_pos rfl]
            have h3 := h2 rfl
            cases e4 : elt G1 (pu C acc) with
            | none => rw [e4] at h3; exact h3.elim
            | some o4 =>
              obtain ⟨r, C2⟩ := o4
              cases r with
              | er z => rw [e4] at h3; exact h3.elim
              | ok r =>
                rw [e4] at h3
                obtain ⟨hF, rfl⟩ := h3
                dsimp only
                rw [c_get0]
                dsimp only [List.getElem?_cons_zero]
                rw [if_pos (by omega), c_set0]
                dsimp only [List.set_cons_zero]
                rw [recu (acc ++ [r]) (by simp; omega)]
                simp [hF]
/-- a comprehension with a test -/
theorem wlc_fil {α : Type} {vs : List Nat} {tg : FG} {tst : FT} {elt : FE} {w : Cs → Prop} (xs : List α) (e : α → El) (F : α → Option D) {l : List El} (hl : l = xs.map e)
    (h : ∀ a ∈ xs, ∀ acc : List El, w (pu C acc) ∧ wo (tg (e a) (wipeG G vs) (pu C acc)) fun G1 => wp (tst G1 (pu C acc)) (fun t C1 => C1 = pu C acc ∧ t = (F a).isSome ∧
      (t = true → wp (elt G1 (pu C acc)) (fun r C2 => (F a).map El.v = some r ∧ C2 = pu C acc) NoE)) NoE)
    (hw : ∀ acc : List El, w (pu C acc)) (hs : xs.length ≤ sizeLine) (hq : Q (.v (.lst (xs.filterMap F))) C) : wlc false vs tg tst elt w l G C Q E := by
  subst hl
  unfold wlc
  rw [lcF_go (F := fun a => (F a).map El.v) xs [] (fun a ha acc => by simpa using h a ha acc) hw (by simpa using hs)]
  have e : [] ++ xs.filterMap (fun a => (F a).map El.v) = (xs.filterMap F).map El.v := by rw [List.nil_append, List.map_filterMap]
  rw [e]
  unfold lcEnd
  dsimp only
  rw [if_neg (by decide), if_pos okDrop_app, z_lst]
  dsimp only
  rw [take_app]
  exact hq
/-- the same, the list own -/
theorem wlc_filC {α : Type} {vs : List Nat} {tg : FG} {tst : FT} {elt : FE} {w : Cs → Prop} (xs : List α) (e : α → El) (F : α → Option D) {l : List El} (hl : l = xs.map e)
    (h : ∀ a ∈ xs, ∀ acc : List El, w (pu C acc) ∧ wo (tg (e a) (wipeG G vs) (pu C acc)) fun G1 => wp (tst G1 (pu C acc)) (fun t C1 => C1 = pu C acc ∧ t = (F a).isSome ∧
      (t = true → wp (elt G1 (pu C acc)) (fun r C2 => (F a).map El.v = some r ∧ C2 = pu C acc) NoE)) NoE)
    (hw : ∀ acc : List El, w (pu C acc)) (hs : xs.length ≤ sizeLine) (hq : Q (.at C.length) (pu C ((xs.filterMap F).map El.v))) : wlc true vs tg tst elt w l G C Q E := by
  subst hl
  unfold wlc
  rw [lcF_go (F := fun a => (F a).map El.v) xs [] (fun a ha acc => by simpa using h a ha acc) hw (by simpa using hs)]
  have e : [] ++ xs.filterMap (fun a => (F a).map El.v) = (xs.filterMap F).map El.v := by rw [List.nil_append, List.map_filterMap]
  rw [e]
  unfold lcEnd
  dsimp only
  rw [if_pos rfl]
  exact hq
theorem fM_some {α β : Type} {F : α → β} : ∀ xs : List α, xs.filterMap (fun a => some (F a)) = xs.map F
  | [] => rfl
  | x :: xs => by rw [List.filterMap_cons, fM_some xs]; rfl
theorem lc_nt {α : Type} {vs : List Nat} {tg : FG} {elt : FE} {e : α → El} {F : α → D} {a : α} {acc : List El} {w : Cs → Prop} (hw : w (pu C acc))
    (h1 : wo (tg (e a) (wipeG G vs) (pu C acc)) fun G1 => wp (elt G1 (pu C acc)) (fun r C2 => r = .v (F a) ∧ C2 = pu C acc) NoE) :
    w (pu C acc) ∧ wo (tg (e a) (wipeG G vs) (pu C acc)) fun G1 => wp (tTrue G1 (pu C acc)) (fun t C1 => C1 = pu C acc ∧ t = (some (F a)).isSome ∧
      (t = true → wp (elt G1 (pu C acc)) (fun r C2 => (some (F a)).map El.v = some r ∧ C2 = pu C acc) NoE)) NoE := by
  refine ⟨hw, ?_⟩
  cases e1 : tg (e a) (wipeG G vs) (pu C acc) with
  | none => rw [e1] at h1; exact h1.elim
  | some G1 =>
    rw [e1] at h1
    exact ⟨rfl, rfl, fun _ => wp_mono h1 (fun r C2 ⟨h2, h3⟩ => ⟨by rw [h2]; rfl, h3⟩) fun _ _ z => z⟩
/-- a comprehension without a test -/
theorem wlc_map {α : Type} {vs : List Nat} {tg : FG} {elt : FE} {w : Cs → Prop} (xs : List α) (e : α → El) (F : α → D) {l : List El} (hl : l = xs.map e)
    (h : ∀ a ∈ xs, ∀ acc : List El, wo (tg (e a) (wipeG G vs) (pu C acc)) fun G1 => wp (elt G1 (pu C acc)) (fun r C2 => r = .v (F a) ∧ C2 = pu C acc) NoE)
    (hw : ∀ acc : List El, w (pu C acc)) (hs : xs.length ≤ sizeLine) (hq : Q (.v (.lst (xs.map F))) C) : wlc false vs tg tTrue elt w l G C Q E :=
  wlc_fil xs e (fun a => some (F a)) hl (fun a ha acc => lc_nt (hw acc) (h a ha acc)) hw hs (by rwa [fM_some])
theorem wlc_mapC {α : Type} {vs : List Nat} {tg : FG} {elt : FE} {w : Cs → Prop} (xs : List α) (e : α → El) (F : α → D) {l : List El} (hl : l = xs.map e)
    (h : ∀ a ∈ xs, ∀ acc : List El, wo (tg (e a) (wipeG G vs) (pu C acc)) fun G1 => wp (elt G1 (pu C acc)) (fun r C2 => r = .v (F a) ∧ C2 = pu C acc) NoE)
    (hw : ∀ acc : List El, w (pu C acc)) (hs : xs.length ≤ sizeLine) (hq : Q (.at C.length) (pu C ((xs.map F).map El.v))) : wlc true vs tg tTrue elt w l G C Q E :=
  wlc_filC xs e (fun a => some (F a)) hl (fun a ha acc => lc_nt (hw acc) (h a ha acc)) hw hs (by rwa [fM_some])
/-- a walk over what is made of xs -/
theorem wl_map {α : Type} {tg : FG} {body : FS} {w : Cs → Prop} (xs : List α) (e : α → El) (I : Nat → Gs → Cs → Prop) {l : List El} (hl : l = xs.map e) (h0 : I 0 G C)
    (h : ∀ i a G C, xs[i]? = some a → I i G C → w C ∧ wo (tg (e a) G C) fun G => wps (body G C) (forS (I (i + 1)) T)) (hq : ∀ G C, I xs.length G C → w C ∧ T .nx G C) : wl tg body w l G C T := by
  subst hl
  refine wl_inv I _ 0 G C h0 (fun i x G C hx hI => ?_) (fun G C hI => by rw [Nat.zero_add, List.length_map] at hI; exact hq G C hI)
  rw [List.getElem?_map] at hx
  rw [Nat.zero_add] at hI ⊢
  cases e1 : xs[i]? with
  | none => rw [e1] at hx; cases hx
  | some a =>
    rw [e1] at hx
    cases hx
    exact h i a G C e1 hI
end
theorem atI_nat {α : Type} {l : List α} {k : Int} (h0 : 0 ≤ k) (h1 : k < l.length) : L2.atI l k = l[k.toNat]? := by
  unfold L2.atI L2.ixN
  rw [if_pos h0, if_pos h1]
  rfl
theorem atI_getD {α : Type} {l : List α} {k : Int} (d : α) (h0 : 0 ≤ k) (h1 : k < l.length) : L2.atI l k = some (l.getD k.toNat d) := by
  rw [atI_nat h0 h1, List.getElem?_eq_getElem (by omega), List.getD_eq_getElem?_getD, List.getElem?_eq_getElem (by omega)]
  rfl
section
variable {C : Cs} {G : Gs} {T : Fl → Gs → Cs → Prop}
end
section
variable {C C1 : Cs} {Q : El → Cs → Prop} {E : Exn → Cs → Prop} {G : Gs} {x y r : El} {n k : Nat}
theorem p_fld {f : Str} {cs : List Str} {Q : Cs → Prop} : fldP f cs y (.at n) C Q = wo ((C[n]?).bind fun o => o.bind obI) fun nf => cs.contains nf.1 = true ∧ nf.2.length < 1000 ∧ Q (C.set n (some (.ins nf.1 (putE f y nf.2)))) := by
  unfold fldP
  dsimp only
  rcases C[n]? with _ | _ | o
  · rfl
  · rfl
  · cases o <;> rfl
theorem cl_ins {c : Str} {l : List (Str × El)} : closedO k (.ins c l) = closedP k l := rfl
theorem cl_lst {l : List El} : closedO k (.lst l) = closedEs k l := rfl
theorem cl_dk {lk : Option HO} {l : List (Key × El)} : closedO k (.dk lk l) = closedP k l := rfl
theorem cl_P0 {κ : Type} : closedP k ([] : List (κ × El)) = true := rfl
theorem cl_P1 {κ : Type} {p : κ × El} {l : List (κ × El)} : closedP k (p :: l) = (closedE k p.2 && closedP k l) := rfl
theorem cl_E0 : closedEs k [] = true := rfl
theorem cl_E1 {l : List El} : closedEs k (x :: l) = (closedE k x && closedEs k l) := rfl
theorem cl_v {d : D} : closedE k (.v d) = true := rfl
theorem cl_at : closedE k (.at n) = decide (n < k) := rfl
theorem cl_map {l : List D} : closedEs k (l.map El.v) = true := by
  induction l with
  | nil => rfl
  | cons d l ih => rw [List.map_cons, cl_E1, ih]; rfl
theorem cl_mapP {κ : Type} {l : List (κ × D)} : closedP k (l.map fun p => (p.1, El.v p.2)) = true := by
  induction l with
  | nil => rfl
  | cons d l ih => rw [List.map_cons, cl_P1, ih]; rfl
/-- the end, cells kept or changed -/
theorem e_nxK (h : okDrop C C1 (C.length + k)) : endF k C Q E .nx G C1 = Q (.v .non) (C1.take (C.length + k)) := by
  unfold endF closeR
  dsimp only
  rw [if_pos h]
  rfl
theorem okDrop_one {o o' : Ob} {L : Cs} (h : closedO (C.length + 1) o' = true) : okDrop (C ++ [some o]) (C ++ some o' :: L) (C ++ [some o]).length := by
  refine ⟨Nat.le_refl _, by simp, fun i z h1 h2 => ?_⟩
  rw [List.length_append, List.length_singleton] at h1 ⊢
  by_cases hi : i < C.length
  · left
    rw [List.getElem?_append_left hi] at h2 ⊢
    exact h2
  · right
    have : i = C.length := by omega
    subst this
    rw [c_get0] at h2
    cases h2
    exact h
/-- an __init__'s end -/
theorem e_init {o o' : Ob} {L : Cs} (h : closedO (C.length + 1) o' = true) : endF 0 (C ++ [some o]) Q E .nx G (C ++ some o' :: L) = Q (.v .non) (C ++ [some o']) := by
  rw [e_nxK (by exact okDrop_one h)]
  congr 1
  rw [List.length_append, List.length_singleton, Nat.add_zero, List.take_length_add_append]
  rfl
end
/-! ### try -/
section
variable {C : Cs} {T : Fl → Gs → Cs → Prop} {G : Gs} {g : Option El} {i : Nat} {hit : Str → Option Bool} {su : Addr → Exn → FS} {fb : FS} {r : El}
theorem of_wps {o : Option (Fl × Gs × Cs)} {fl : Fl} (h : wps o fun fl' G' C' => fl' = fl ∧ G' = G ∧ C' = C) : o = some (fl, G, C) := by
  rcases o with _ | ⟨a, b, c⟩
  · exact h.elim
  · obtain ⟨rfl, rfl, rfl⟩ := h; rfl
theorem exE_0 {ad dd : Addr} {y : Str} : exE ad dd ⟨y, none⟩ = .v (.adr ad) := rfl
theorem exE_1 {ad dd : Addr} {y : Str} {fs : List (Str × D)} : exE ad dd ⟨y, some fs⟩ = .v (.exf ad dd fs) := rfl
noncomputable def clF (cl : List Cl) (T : Fl → Gs → Cs → Prop) : Fl → Gs → Cs → Prop := fun fl G C => match fl with
  | .er x => wps (clRun cl x G C) T
  | fl => T fl G C
theorem ws_try {cl : List Cl} : wps (sTry cl fb (g :: G) C) T = wps (fb (g :: G) C) (clF cl T) := by
  unfold sTry
  rcases fb (g :: G) C with _ | ⟨_ | _ | _ | _ | x, G1, C1⟩ <;> rfl
theorem clF_nx {cl : List Cl} : clF cl T .nx G C = T .nx G C := id rfl
theorem clF_rt {cl : List Cl} : clF cl T (.rt r) G C = T (.rt r) G C := id rfl
theorem clF_bk {cl : List Cl} : clF cl T .bk G C = T .bk G C := id rfl
theorem clF_ct {cl : List Cl} : clF cl T .ct G C = T .ct G C := id rfl
theorem clF_er {cl : List Cl} {x : Exn} : clF cl T (.er x) G C = wps (clRun cl x G C) T := id rfl
theorem ws_cl0 {x : Exn} : wps (clRun [] x G C) T = T (.er x) G C := id rfl
noncomputable def clH (nm : Option Nat) (su : Addr → Addr → Exn → FS) (x : Exn) (G : Gs) (C : Cs) (T : Fl → Gs → Cs → Prop) (no : Prop) : Option Bool → Prop
  | some true => wps (clOne nm su x G C) T
  | some false => no
  | none => False
theorem ws_cl1 {nm : Option Nat} {su : Addr → Addr → Exn → FS} {cl : List Cl} {x : Exn} : wps (clRun (⟨hit, nm, su⟩ :: cl) x G C) T = clH nm su x G C T (wps (clRun cl x G C) T) (hit x.cls) := by
  rw [clRun]
  dsimp only
  rcases hit x.cls with _ | _ | _ <;> rfl
theorem clH_t {nm : Option Nat} {su : Addr → Addr → Exn → FS} {x : Exn} {no : Prop} : clH nm su x G C T no (some true) = wps (clOne nm su x G C) T := id rfl
theorem clH_f {nm : Option Nat} {su : Addr → Addr → Exn → FS} {x : Exn} {no : Prop} : clH nm su x G C T no (some false) = no := id rfl
theorem ws_onA {su : Addr → Addr → Exn → FS} {x : Exn} : wps (clOne (some i) su x G C) T = wps (allA fun a => allA fun d => unName i (su a d x (G.set i (some (exE a d x))) C)) T := id rfl
theorem ws_onB {su : Addr → Addr → Exn → FS} {x : Exn} : wps (clOne none su x G C) T = wps (allA fun a => allA fun d => noName (su a d x G C)) T := id rfl
def unT (i : Nat) (T : Fl → Gs → Cs → Prop) : Fl → Gs → Cs → Prop := fun fl G C => match fl with
  | .er _ => False
  | .rt r => T (.rt r) (G.set i none) C
  | fl => T fl (G.set i none) C
theorem ws_un {o : Option (Fl × Gs × Cs)} : wps (unName i o) T = wps o (unT i T) := by
  rcases o with _ | ⟨_ | _ | _ | _ | _, _, _⟩ <;> rfl
theorem unT_nx : unT i T .nx G C = T .nx (G.set i none) C := id rfl
theorem unT_bk : unT i T .bk G C = T .bk (G.set i none) C := id rfl
theorem unT_ct : unT i T .ct G C = T .ct (G.set i none) C := id rfl
theorem unT_rt : unT i T (.rt r) G C = T (.rt r) (G.set i none) C := id rfl
def noT (T : Fl → Gs → Cs → Prop) : Fl → Gs → Cs → Prop := fun fl G C => match fl with
  | .er _ => False
  | fl => T fl G C
theorem ws_no {o : Option (Fl × Gs × Cs)} : wps (noName o) T = wps o (noT T) := by
  rcases o with _ | ⟨_ | _ | _ | _ | _, _, _⟩ <;> rfl
theorem noT_nx : noT T .nx G C = T .nx G C := id rfl
theorem noT_bk : noT T .bk G C = T .bk G C := id rfl
theorem noT_ct : noT T .ct G C = T .ct G C := id rfl
theorem noT_rt : noT T (.rt r) G C = T (.rt r) G C := id rfl
theorem ws_all {f : Addr → Addr → Option (Fl × Gs × Cs)} (fl : Fl) (G : Gs) (C : Cs) (h : ∀ a d, wps (f a d) fun fl' G' C' => fl' = fl ∧ G' = G ∧ C' = C) (q : T fl G C) : wps (allA fun a => allA fun d => f a d) T := by
  rw [allA_of (r := (fl, G, C)) fun a => allA_of fun d => of_wps (h a d)]
  exact q
def xfV (ad dd : Addr) (x : Exn) (n : Str) (r : El) (q : D → Prop) : Prop := match r with
  | .v (.exf a d fs) => (a = ad ∧ d = dd ∧ x.fs.isSome = true) ∧ wo (fs.lookup n) q
  | _ => False
theorem xfV_1 {ad dd : Addr} {y n : Str} {fs fs' : List (Str × D)} {q : D → Prop} : xfV ad dd ⟨y, some fs⟩ n (.v (.exf ad dd fs')) q = wo (fs'.lookup n) q := propext ⟨fun h => h.2, fun h => ⟨⟨rfl, rfl, rfl⟩, h⟩⟩
theorem lk_hd {n : Str} {d : D} {fs : List (Str × D)} : List.lookup n ((n, d) :: fs) = some d := by simp
theorem w_xf {ad dd : Addr} {x : Exn} {ok : Str → Bool} {n : Str} {fe : FE} {Q : El → Cs → Prop} {E : Exn → Cs → Prop} : wp (eXf ad dd x ok n fe (g :: G) C) Q E = (ok x.cls = true ∧ wp (fe (g :: G) C) (fun r C => xfV ad dd x n r fun v => Q (.v v) C) E) := by
  unfold eXf
  split
  · rename_i h
    rw [w_bind]
    have e : ∀ (p : Prop), (ok x.cls = true ∧ p) = p := fun p => propext ⟨fun z => z.2, fun z => ⟨h, z⟩⟩
    rw [e]
    congr 1
    funext r C
    unfold xfV
    rcases r with d | m | l
    · cases d with
      | exf a d fs =>
        dsimp only
        split
        · rename_i h2
          have e2 : ∀ (p : Prop), ((a = ad ∧ d = dd ∧ x.fs.isSome = true) ∧ p) = p := fun p => propext ⟨fun z => z.2, fun z => ⟨h2, z⟩⟩
          rw [e2]
          cases fs.lookup n <;> rfl
        · rename_i h2
          exact (eq_false fun z => h2 z.1).symm
      | _ => rfl
    · rfl
    · rfl
  · rename_i h
    exact (eq_false fun z => h z.1).symm
theorem isX1_cls {tab : Str → D → Option Bool} {y n : Str} : isX1 tab y (.cls n) = tab y (.cls n) := rfl
theorem isX1_ty {tab : Str → D → Option Bool} {y : Str} {n : String} : isX1 tab y (.ty n) = tab y (.ty n) := rfl
theorem isX1_t2 {tab : Str → D → Option Bool} {y : Str} {d e : D} {l : List D} : isX1 tab y (.tup (d :: e :: l)) = (tab y d).bind fun b => (isX1 tab y (.tup (e :: l))).map fun r => b || r := by
  show (match tab y d, isX1 tab y (.tup (e :: l)) with | some b, some r => some (b || r) | _, _ => none) = _
  cases tab y d <;> cases isX1 tab y (.tup (e :: l)) <;> rfl
end
theorem ex_of_wp {α β : Type} {m : Mr α} {C : Cs} {f : β → α} {P : β → Prop} (h : wp m (fun r C1 => ∃ b, P b ∧ r = f b ∧ C1 = C) (fun _ _ => False)) : ∃ b, P b ∧ m = some (.ok (f b), C) := by
  rcases m with _ | ⟨r | z, C1⟩
  · exact h.elim
  · obtain ⟨b, h1, rfl, rfl⟩ := h
    exact ⟨b, h1, rfl⟩
  · exact h.elim
theorem sz_le {n : Nat} (h : n ≤ 1000) : n ≤ sizeLine := Nat.le_trans h (by decide)
theorem wl_nil' {tg : FG} {body : FS} {w : Cs → Prop} {g : Option El} {G : Gs} {C : Cs} {T : Fl → Gs → Cs → Prop} : wl tg body w [] (g :: G) C T = (w C ∧ T .nx (g :: G) C) := wl_nil
theorem wl_cons' {tg : FG} {body : FS} {w : Cs → Prop} {g : Option El} {G : Gs} {C : Cs} {x : El} {l : List El} {T : Fl → Gs → Cs → Prop} : wl tg body w (x :: l) (g :: G) C T = (w C ∧ wo (tg x (g :: G) C) fun G => wps (body G C) (forS (fun G C => wl tg body w l G C T) T)) := wl_cons

theorem kt_int_int : kitB "int" "int" = some true := by first | rfl | decide
theorem kt_int_bool : kitB "int" "bool" = some false := by first | rfl | decide
theorem kt_int_list : kitB "int" "list" = some false := by first | rfl | decide
theorem kt_int_tuple : kitB "int" "tuple" = some false := by first | rfl | decide
theorem kt_int_dict : kitB "int" "dict" = some false := by first | rfl | decide
theorem kt_int_str : kitB "int" "str" = some false := by first | rfl | decide
theorem kt_bool_int : kitB "bool" "int" = some true := by first | rfl | decide
theorem kt_bool_bool : kitB "bool" "bool" = some true := by first | rfl | decide
theorem kt_bool_list : kitB "bool" "list" = some false := by first | rfl | decide
theorem kt_bool_tuple : kitB "bool" "tuple" = some false := by first | rfl | decide
theorem kt_bool_dict : kitB "bool" "dict" = some false := by first | rfl | decide
theorem kt_bool_str : kitB "bool" "str" = some false := by first | rfl | decide
theorem kt_list_int : kitB "list" "int" = some false := by first | rfl | decide
theorem kt_list_bool : kitB "list" "bool" = some false := by first | rfl | decide
theorem kt_list_list : kitB "list" "list" = some true := by first | rfl | decide
theorem kt_list_tuple : kitB "list" "tuple" = some false := by first | rfl | decide
theorem kt_list_dict : kitB "list" "dict" = some false := by first | rfl | decide
theorem kt_list_str : kitB "list" "str" = some false := by first | rfl | decide
theorem kt_tuple_int : kitB "tuple" "int" = some false := by first | rfl | decide
theorem kt_tuple_bool : kitB "tuple" "bool" = some false := by first | rfl | decide
theorem kt_tuple_list : kitB "tuple" "list" = some false := by first | rfl | decide
theorem kt_tuple_tuple : kitB "tuple" "tuple" = some true := by first | rfl | decide
theorem kt_tuple_dict : kitB "tuple" "dict" = some false := by first | rfl | decide
theorem kt_tuple_str : kitB "tuple" "str" = some false := by first | rfl | decide
theorem kt_dict_int : kitB "dict" "int" = some false := by first | rfl | decide
theorem kt_dict_bool : kitB "dict" "bool" = some false := by first | rfl | decide
theorem kt_dict_list : kitB "dict" "list" = some false := by first | rfl | decide
theorem kt_dict_tuple : kitB "dict" "tuple" = some false := by first | rfl | decide
theorem kt_dict_dict : kitB "dict" "dict" = some true := by first | rfl | decide
theorem kt_dict_str : kitB "dict" "str" = some false := by first | rfl | decide
theorem kt_str_int : kitB "str" "int" = some false := by first | rfl | decide
theorem kt_str_bool : kitB "str" "bool" = some false := by first | rfl | decide
theorem kt_str_list : kitB "str" "list" = some false := by first | rfl | decide
theorem kt_str_tuple : kitB "str" "tuple" = some false := by first | rfl | decide
theorem kt_str_dict : kitB "str" "dict" = some false := by first | rfl | decide
theorem kt_str_str : kitB "str" "str" = some true := by first | rfl | decide
theorem kt_NoneType_int : kitB "NoneType" "int" = some false := by first | rfl | decide
theorem kt_NoneType_bool : kitB "NoneType" "bool" = some false := by first | rfl | decide
theorem kt_NoneType_list : kitB "NoneType" "list" = some false := by first | rfl | decide
theorem kt_NoneType_tuple : kitB "NoneType" "tuple" = some false := by first | rfl | decide
theorem kt_NoneType_dict : kitB "NoneType" "dict" = some false := by first | rfl | decide
theorem kt_NoneType_str : kitB "NoneType" "str" = some false := by first | rfl | decide
end R
namespace R
open PySem L2

/-! ### locks -/
def NoFz (X : Cx) (d : Addr) : Prop := ∀ o' u', X.H_0 d ≠ some (.frz o' u')
def Unl (X : Cx) (H H' : Hp) : Prop := H' = H ∨ ∃ d od u, H d = some (.frz od u) ∧ NoFz X d ∧ H' = upd H d u
def unlE (X : Cx) (D : Ends) : Ends := ⟨fun σ H => ∃ H', Unl X H H' ∧ D.nx σ H', fun v H => ∃ H', Unl X H H' ∧ D.rt v H', fun σ H => ∃ H', Unl X H H' ∧ D.bk σ H', fun σ H => ∃ H', Unl X H H' ∧ D.ct σ H'⟩
section
variable {X : Cx}
theorem unl_inv {pins : List (Addr × Obj)} {σ : St} {H H' : Hp} {s : Shared} (u : Unl X H H') (I : Inv X pins σ H s) : Inv X pins σ H' s := by
  rcases u with rfl | ⟨d, od, u, e, n, rfl⟩
  · exact I
  · exact I.unlock e n
/-- the value's own lock, once it is there, or none -/
def lockA (X : Cx) (t : TE) : TE := fun σ H Q => t σ H fun x H1 => Q x H1 ∨ ∃ d u, H1 d = some u ∧ Mut (some u) ∧ ∀ od, NoFz X d → Q x (upd H1 d (.frz od u))
theorem pe_lockA {e : Expr} {t : TE} (h : PE X e t) : PE X e (lockA X t) := by
  refine ⟨fun pins s σ H Q I hw => ?_⟩
  refine thn (h.run pins s σ H _ I hw) fun v s1 ⟨x, H1, I1, r, q⟩ => ?_
  rcases q with q | ⟨d, u, hd, mu, q⟩
  · exact ⟨x, _, I1, r, q⟩
  · obtain ⟨od, I2⟩ := I1.lock hd mu
    exact ⟨x, _, I2, r, q od (I1.nofrz hd mu)⟩
theorem ps_unl {st : Stmt} {t : TS} (h : PS X st t) : PS X st (fun D σ H => t (unlE X D) σ H) := by
  refine ⟨fun pins s σ H D I hw => ?_⟩
  refine thn (h.run pins s σ H _ I hw) fun f s1 q => ?_
  cases f with
  | next => obtain ⟨σ', H', I2, H3, e, q⟩ := q; exact ⟨σ', _, unl_inv e I2, q⟩
  | brk => obtain ⟨σ', H', I2, H3, e, q⟩ := q; exact ⟨σ', _, unl_inv e I2, q⟩
  | cont => obtain ⟨σ', H', I2, H3, e, q⟩ := q; exact ⟨σ', _, unl_inv e I2, q⟩
  | ret v => obtain ⟨x, σ', H', I2, r, H3, e, q⟩ := q; exact ⟨x, σ', _, unl_inv e I2, r, q⟩
theorem pe_unl {e : Expr} {t : TE} (h : PE X e t) : PE X e (fun σ H Q => t σ H fun v H1 => ∃ H', Unl X H1 H' ∧ Q v H') := by
  refine ⟨fun pins s σ H Q I hw => ?_⟩
  refine thn (h.run pins s σ H _ I hw) fun v s1 ⟨x, H1, I1, r, H2, e, q⟩ => ?_
  exact ⟨x, _, unl_inv e I1, r, q⟩
end
/-! ### a dict locked is as good to read -/
def TEx (M M' : Hp) : Prop := ∀ x o, M x = some o → M' x = some o ∨ ∃ kvs, Rd M x (.dK kvs) ∧ Rd M' x (.dK kvs)
section
variable {K : Fg} {M M' : Hp}
theorem TEx.keep (e : TEx M M') {x : Addr} {o : HO} (h : M x = some o) (hn : ∀ kvs, ¬ Rd M x (.dK kvs)) : M' x = some o := by
  rcases e x o h with z | ⟨kvs, z, _⟩
  · exact z
  · exact absurd z (hn kvs)
theorem TEx.rd (e : TEx M M') {x : Addr} {u : HO} (hu : ∀ o w, u ≠ .frz o w) (h : Rd M x u) : Rd M' x u := by
  rcases h with h | ⟨o, h⟩
  · rcases e x _ h with z | ⟨kvs, z1, z2⟩
    · exact .inl z
    · rcases z1 with z1 | ⟨o, z1⟩
      · rw [h] at z1; cases z1; exact z2
      · rw [h] at z1; cases z1; exact absurd rfl (hu _ _)
  · rcases e x _ h with z | ⟨kvs, z1, z2⟩
    · exact .inr ⟨o, z⟩
    · rcases z1 with z1 | ⟨o', z1⟩
      · rw [h] at z1; cases z1
      · rw [h] at z1; cases z1; exact z2
theorem no_rd {x : Addr} {o : HO} (h : M x = some o) (h1 : ∀ kvs, o ≠ .dK kvs) (h2 : ∀ z kvs, o ≠ .frz z (.dK kvs)) : ∀ kvs, ¬ Rd M x (.dK kvs) := fun kvs z => by
  rcases z with z | ⟨q, z⟩
  · rw [h] at z; cases z; exact h1 _ rfl
  · rw [h] at z; cases z; exact h2 _ _ rfl
mutual
theorem Rep.tol (e : TEx M M') : ∀ {d : D} {v : V}, Rep K M d v → Rep K M' d v
  | .non, v, h => h
  | .bl _, v, h => h
  | .int _, v, h => h
  | .str _, v, h => h
  | .lst l, v, h => by
    obtain ⟨a, vs, e1, r, h⟩ := h
    exact ⟨a, vs, e1, e.keep r (no_rd r (fun _ z => by cases z) fun _ _ z => by cases z), RepL.tol e h⟩
  | .scr l, v, h => by
    obtain ⟨a, e1, r⟩ := h
    exact ⟨a, e1, r.imp (e.rd fun _ _ z => by cases z) id⟩
  | .tup l, v, h => by
    obtain ⟨a, vs, e1, r, h⟩ := h
    exact ⟨a, vs, e1, e.keep r (no_rd r (fun _ z => by cases z) fun _ _ z => by cases z), RepL.tol e h⟩
  | .cls _, v, h => h
  | .ty _, v, h => h
  | .adr _, v, h => h
  | .exf _ _ _, v, h => by
    obtain ⟨e1, vs, r, h⟩ := h
    exact ⟨e1, vs, e.keep r (no_rd r (fun _ z => by cases z) fun _ _ z => by cases z), RepF.tol e h⟩
  | .exo _ _ _, v, h => by
    obtain ⟨a, d, e1, r, h⟩ := h
    exact ⟨a, d, e1, e.keep r (no_rd r (fun _ z => by cases z) fun _ _ z => by cases z), fun z => by
      obtain ⟨vs, r2, h2⟩ := h z
      exact ⟨vs, e.keep r2 (no_rd r2 (fun _ z => by cases z) fun _ _ z => by cases z), RepF.tol e h2⟩⟩
  | .dk l, v, h => by
    obtain ⟨a, vs, e1, r, h⟩ := h
    exact ⟨a, vs, e1, e.rd (fun _ _ z => by cases z) r, RepK.tol e h⟩
  | .dt l, v, h => by
    obtain ⟨a, vs, e1, r, h⟩ := h
    exact ⟨a, vs, e1, e.rd (fun _ _ z => by cases z) r, RepT.tol e h⟩
  | .ins C fs, v, h => by
    obtain ⟨a, dx, vs, e1, r, h⟩ := h
    exact ⟨a, dx, vs, e1, e.keep r (no_rd r (fun _ z => by cases z) fun _ _ z => by cases z), RepF.tol e h⟩
theorem RepL.tol (e : TEx M M') : ∀ {l : List D} {vs : List V}, RepL K M l vs → RepL K M' l vs
  | [], _, h => h
  | d :: l, _, h => by
    obtain ⟨v, r, e1, h1, h2⟩ := h
    exact ⟨v, r, e1, Rep.tol e h1, RepL.tol e h2⟩
theorem RepK.tol (e : TEx M M') : ∀ {l : List (Key × D)} {vs : List (Key × V)}, RepK K M l vs → RepK K M' l vs
  | [], _, h => h
  | d :: l, _, h => by
    obtain ⟨v, r, e1, h1, h2⟩ := h
    exact ⟨v, r, e1, Rep.tol e h1, RepK.tol e h2⟩
theorem RepT.tol (e : TEx M M') : ∀ {l : List (List Key × D)} {vs : List (List Key × V)}, RepT K M l vs → RepT K M' l vs
  | [], _, h => h
  | d :: l, _, h => by
    obtain ⟨v, r, e1, h1, h2⟩ := h
    exact ⟨v, r, e1, Rep.tol e h1, RepT.tol e h2⟩
theorem RepF.tol (e : TEx M M') : ∀ {l : List (Str × D)} {vs : List (Str × V)}, RepF K M l vs → RepF K M' l vs
  | [], _, h => h
  | d :: l, _, h => by
    obtain ⟨v, r, e1, h1, h2⟩ := h
    exact ⟨v, r, e1, Rep.tol e h1, RepF.tol e h2⟩
end
end
section
variable {K : Fg} {A : List Addr} {C : Cs} {H H' : Hp}
mutual
theorem RepE.tol (e : TEx (fz A C H) (fz A C H')) : ∀ {x : El} {v : V}, RepE K A C H x v → RepE K A C H' x v
  | .v d, v, h => Rep.tol e h
  | .at n, v, h => h
  | .tp l, v, h => by
    obtain ⟨a, vs, h1, h2, h3⟩ := h
    exact ⟨a, vs, h1, e.keep h2 (no_rd h2 (fun _ z => by cases z) fun _ _ z => by cases z), RepEs.tol e h3⟩
theorem RepEs.tol (e : TEx (fz A C H) (fz A C H')) : ∀ {l : List El} {vs : List V}, RepEs K A C H l vs → RepEs K A C H' l vs
  | [], _, h => h
  | x :: l, _, h => by
    obtain ⟨v, r, e1, h1, h2⟩ := h
    exact ⟨v, r, e1, RepE.tol e h1, RepEs.tol e h2⟩
end
theorem pairs_tol {κ : Type} (e : TEx (fz A C H) (fz A C H')) {l : List (κ × El)} {vs : List (κ × V)} (h : All2 (PairE K A C H) l vs) : All2 (PairE K A C H') l vs := h.imp fun _ _ z => ⟨z.1, RepE.tol e z.2⟩
theorem CellOk.tol (e : TEx (fz A C H) (fz A C H')) {a : Addr} (ea : H' a = H a) {o : Ob} (c : CellOk K A C H a o) : CellOk K A C H' a o := by
  cases o with
  | lst l => obtain ⟨vs, h3, h4⟩ := c; exact ⟨vs, ea.trans h3, h4.imp fun _ _ z => RepE.tol e z⟩
  | dk k l => cases k with
    | none => obtain ⟨vs, h3, h4⟩ := c; exact ⟨vs, ea.trans h3, pairs_tol e h4⟩
    | some ho => obtain ⟨o, vs, h2, h3, h4⟩ := c; exact ⟨o, vs, h2, ea.trans h3, pairs_tol e h4⟩
  | dt k l => cases k with
    | none => obtain ⟨vs, h3, h4⟩ := c; exact ⟨vs, ea.trans h3, pairs_tol e h4⟩
    | some ho => obtain ⟨o, vs, h2, h3, h4⟩ := c; exact ⟨o, vs, h2, ea.trans h3, pairs_tol e h4⟩
  | ins n l => obtain ⟨dx, vs, h3, h4⟩ := c; exact ⟨dx, vs, ea.trans h3, pairs_tol e h4⟩
  | tab p q => obtain ⟨h0, ps, h1, h2, h3⟩ := c; exact ⟨h0, ps, ea.trans h1, h2, fun pos cv z => let ⟨c, e1, e2⟩ := h3 pos cv z; ⟨c, e1, e.keep e2 (no_rd e2 (fun _ z => by cases z) fun _ _ z => by cases z)⟩⟩
theorem Sat.tol {b : Bs} {G : Gs} {s : St} (S : Sat K b A G C s H) (e : TEx (fz A C H) (fz A C H')) (hl : ∀ x ∈ live A C, H' x = H x) : Sat K (Bs.now A C H') A G C s H' :=
  ⟨S.len, S.nd, Evl.Ex.refl _, List.prefix_rfl, fun i a o h1 h2 => (S.cell i a o h1 h2).tol e (hl a (live_mem.mpr ⟨i, o, h1, h2⟩)), S.slot.imp fun _ _ r x hx => let ⟨v, h1, h2⟩ := r x hx; ⟨v, h1, RepE.tol e h2⟩⟩
theorem fz_upd {d : Addr} {u : HO} (h : d ∉ live A C) : fz A C (upd H d u) = upd (fz A C H) d u := by
  funext x
  unfold fz
  by_cases hx : x = d
  · subst hx
    rw [if_neg h, upd_same, upd_same]
  · rw [upd_ne hx, upd_ne hx]
theorem fz_not {d : Addr} {u : HO} (h : fz A C H d = some u) : d ∉ live A C := fun z => by
  unfold fz at h
  rw [if_pos z] at h
  cases h
theorem lock_fz {b : Bs} {G : Gs} {s : St} {d : Addr} {kvs : List (Key × V)} {od : Obj} (S : Sat K b A G C s H) (h : fz A C H d = some (.dK kvs)) : Sat K (Bs.now A C (upd H d (.frz od (.dK kvs)))) A G C s (upd H d (.frz od (.dK kvs))) ∧ TEx (fz A C H) (fz A C (upd H d (.frz od (.dK kvs)))) := by
  have nl := fz_not h
  have e : TEx (fz A C H) (fz A C (upd H d (.frz od (.dK kvs)))) := fun x o hx => by
    rw [fz_upd nl]
    by_cases z : x = d
    · subst z
      exact .inr ⟨kvs, .inl h, .inr ⟨od, upd_same⟩⟩
    · exact .inl (by rw [upd_ne z]; exact hx)
  exact ⟨S.tol e fun x hx => upd_ne fun z => nl (z ▸ hx), e⟩
theorem unlock_fz {b : Bs} {G G2 : Gs} {s s2 : St} {d : Addr} {kvs : List (Key × V)} {od : Obj} {A2 : List Addr} {C2 : Cs} {H2 : Hp} (S : Sat K b A G C s H) (h : fz A C H d = some (.dK kvs)) (T : Sat K (Bs.now A C (upd H d (.frz od (.dK kvs)))) A2 G2 C2 s2 H2) :
    H2 d = some (.frz od (.dK kvs)) ∧ Sat K b A2 G2 C2 s2 (upd H2 d (.dK kvs)) ∧ TEx (fz A2 C2 H2) (fz A2 C2 (upd H2 d (.dK kvs))) := by
  have nl := fz_not h
  have e2 : fz A2 C2 H2 d = some (.frz od (.dK kvs)) := T.ex d _ (by
    show fz A C _ d = _
    rw [fz_upd nl]
    exact upd_same)
  have nl2 := fz_not e2
  have e : TEx (fz A2 C2 H2) (fz A2 C2 (upd H2 d (.dK kvs))) := fun x o hx => by
    rw [fz_upd nl2]
    by_cases z : x = d
    · subst z
      exact .inr ⟨kvs, .inr ⟨od, e2⟩, .inl upd_same⟩
    · exact .inl (by rw [upd_ne z]; exact hx)
  have T2 := T.tol e fun x hx => upd_ne fun z => nl2 (z ▸ hx)
  refine ⟨mk_of e2, ⟨T2.len, T2.nd, fun x o hx => ?_, S.pre.trans T.pre, T2.cell, T2.slot⟩, e⟩
  have h1 := S.ex x o hx
  rw [fz_upd nl2]
  by_cases z : x = d
  · subst z
    rw [h] at h1
    cases h1
    exact upd_same
  · rw [upd_ne z]
    refine T.ex x o ?_
    show fz A C _ x = _
    rw [fz_upd nl, upd_ne z]
    exact h1
end
/-! ### what is walked of a dict -/
inductive DW | k | v | kv
def dwE : DW → List (Key × El) → List El
  | .k, l => l.map fun p => kEl p.1
  | .v, l => l.map fun p => p.2
  | .kv, l => l.map fun p => mkTup [kEl p.1, p.2]
def dwJ : DW → Addr → Obj → List (Key × V) → It
  | .k => Itk
  | .v => Itd
  | .kv => Iti
def dwK (kd : DW) (R : It → Hp → Prop) (x : V) (H1 : Hp) : Prop := match kd with
  | .k => ∃ d o, x = .ref d ∧ ((∃ kvs, H1 d = some (.frz o (.dK kvs)) ∧ R (Itk d o kvs) H1) ∨ ∃ kvs, H1 d = some (.frz o (.dT kvs)) ∧ R (Itkt d o kvs) H1)
  | .v => ∃ d o kvs, x = .ref d ∧ H1 d = some (.frz o (.dK kvs)) ∧ R (Itd d o kvs) H1
  | .kv => ∃ d o kvs, x = .ref d ∧ H1 d = some (.frz o (.dK kvs)) ∧ R (Iti d o kvs) H1
theorem dw_in {kd : DW} {R : It → Hp → Prop} {d : Addr} {o : Obj} {kvs : List (Key × V)} {H1 : Hp} (h : H1 d = some (.frz o (.dK kvs))) (r : R (dwJ kd d o kvs) H1) : dwK kd R (.ref d) H1 := by
  cases kd with
  | k => exact ⟨d, o, rfl, .inl ⟨kvs, h, r⟩⟩
  | v => exact ⟨d, o, kvs, rfl, h, r⟩
  | kv => exact ⟨d, o, kvs, rfl, h, r⟩
def dwI (kd : DW) (td : TE) : TI := fun σ H R => td σ H fun x H1 => dwK kd R x H1
section
variable {X : Cx} {tg e : Expr} {td : TE} {apos cpos : Pos}
theorem pi_dk (he : PE X e td) : PI X tg e (dwI .k td) := pi_keys he
theorem pi_dv (he : PE X e td) (hbase : attributeBase e "values" X.env (eval e X.env) = eval e X.env := by rfl) (hline : (apos.endLine == cpos.line) = true := by rfl) : PI X tg (.Call (.Attribute e "values" apos) [] [] cpos) (dwI .v td) := pi_values he hbase hline
end
theorem rep_kEl {K : Fg} {A : List Addr} {C : Cs} {H : Hp} (k : Key) : RepE K A C H (kEl k) (kV k) := by
  cases k <;> rfl
theorem wk_dw {K : Fg} {A : List Addr} {C : Cs} {H : Hp} {kd : DW} {d : Addr} {o : Obj} {l : List (Key × El)} {kvs : List (Key × V)} {w : Cs → Prop} (hl : All2 (PairE K A C H) l kvs) (hw : w C)
    (hh : ∀ b A' G' C' s' H', Sat K b A' G' C' s' H' → Go A C H A' C' H' → w C' → H' d = some (.frz o (.dK kvs))) : Wk K A C H (dwJ kd d o kvs) (dwE kd l, w) := by
  have len : (dwE kd l).length = kvs.length := by cases kd <;> (unfold dwE; rw [List.length_map]; exact hl.length)
  refine ⟨hw, fun b A' G' C' s' H' S' g' w' i hi => ?_, fun b A' G' C' s' H' S' g' w' => ?_, fun b A' G' C' s' H' S' g' w' i x y H'' hx hy => ?_⟩
  · have h := hh b A' G' C' s' H' S' g' w'
    dsimp only at hi
    rw [len] at hi
    cases kd with
    | k => exact walk_keys.goes i H' hi h
    | v => exact walk_values.goes i H' hi h
    | kv => exact walk_items.goes i H' hi h
  · have h := hh b A' G' C' s' H' S' g' w'
    dsimp only
    rw [len]
    cases kd with
    | k => exact walk_keys.stops H' h
    | v => exact walk_values.stops H' h
    | kv => exact walk_items.stops H' h
  · have h := hh b A' G' C' s' H' S' g' w'
    dsimp only at hx
    have hi : i < l.length := by
      have : i < (dwE kd l).length := (List.getElem?_eq_some_iff.mp hx).1
      rw [len] at this
      rw [hl.length]
      exact this
    have el : l[i]? = some l[i] := List.getElem?_eq_getElem hi
    obtain ⟨q, h5, h6⟩ := hl.get el
    cases kd with
    | k =>
      obtain ⟨eH, k, v, e1, e2⟩ := walk_keys.yields i H' y H'' (by rw [← hl.length]; exact hi) h hy
      subst eH
      rw [h5] at e1
      cases e1
      have : x = kEl l[i].1 := by
        unfold dwE at hx
        rw [List.getElem?_map, el] at hx
        cases hx
        rfl
      rw [this, e2]
      refine ⟨Evl.Ex.refl _, ?_⟩
      have h7 : l[i].1 = k := h6.1
      rw [h7]
      exact rep_kEl k
    | v =>
      obtain ⟨eH, k, e1⟩ := walk_values.yields i H' y H'' (by rw [← hl.length]; exact hi) h hy
      subst eH
      rw [h5] at e1
      cases e1
      have : x = l[i].2 := by
        unfold dwE at hx
        rw [List.getElem?_map, el] at hx
        cases hx
        rfl
      rw [this]
      exact ⟨Evl.Ex.refl _, h6.2.go g'⟩
    | kv =>
      obtain ⟨T, x0, y0, ey, hT, eH, e1, e2⟩ := walk_items.yields i H' y H'' (by rw [← hl.length]; exact hi) h hy
      subst ey eH
      dsimp only at e1 e2
      rw [h5] at e1 e2
      cases e1
      cases e2
      have : x = mkTup [kEl l[i].1, l[i].2] := by
        unfold dwE at hx
        rw [List.getElem?_map, el] at hx
        cases hx
        rfl
      rw [this]
      refine ⟨Evl.Ex.new hT, mkTup_new S' hT (.cons ?_ (.cons (h6.2.go g') .nil))⟩
      have h7 : l[i].1 = q.1 := h6.1
      rw [h7]
      exact rep_kEl q.1
/-! ### for .. in a dict -/
open Classical in
noncomputable def allH {β : Type} (f : HO → Option β) : Option β := if h : ∃ r, ∀ a, f a = some r then some h.choose else none
theorem allH_of {β : Type} {f : HO → Option β} {r : β} (h : ∀ a, f a = some r) : allH f = some r := by
  unfold allH
  have h' : ∃ r, ∀ a, f a = some r := ⟨r, h⟩
  rw [dif_pos h']
  have := h'.choose_spec (.lst [])
  rw [h (.lst [])] at this
  exact this.symm
theorem of_allH {β : Type} {f : HO → Option β} {r : β} (h : allH f = some r) (a : HO) : f a = some r := by
  unfold allH at h
  split at h
  · rename_i h'
    rw [h'.choose_spec a]
    exact h
  · cases h
/-- nothing is raised within -/
def noEr (o : Option (Fl × Gs × Cs)) : Option (Fl × Gs × Cs) := match o with
  | some (.er _, _, _) => none
  | o => o
def isLk (C : Cs) (n : Nat) (l : List (Key × El)) (ho : HO) : Prop := C[n]? = some (some (.dk (some ho) l))
open Classical in
/-- behind the walk: the cell's lock is gone -/
noncomputable def unlk (n : Nat) (l : List (Key × El)) (ho : HO) (o : Option (Fl × Gs × Cs)) : Option (Fl × Gs × Cs) := match o with
  | some (.er _, _, _) => none
  | some (fl, G, C) => if isLk C n l ho then some (fl, G, C.set n (some (.dk none l))) else none
  | none => none
noncomputable def sForD (kd : DW) (tg : FG) (fe : FE) (body : FS) : FS := fun G C => sBind (fe G C) G fun r C1 => match r with
  | .v (.dk l) => noEr (loopF tg body (fun _ => True) (dwE kd (l.map fun p => (p.1, El.v p.2))) G C1)
  | .at n => match C1[n]? with
    | some (some (.dk none l)) => allH fun ho => unlk n l ho (loopF tg body (fun C' => isLk C' n l ho) (dwE kd l) G (C1.set n (some (.dk (some ho) l))))
    | some (some (.dk (some ho) l)) => noEr (loopF tg body (fun C' => isLk C' n l ho) (dwE kd l) G C1)
    | _ => none
  | _ => none
theorem lk_at {K : Fg} {b : Bs} {A : List Addr} {G : Gs} {C : Cs} {s : St} {H : Hp} {n : Nat} {a : Addr} {l : List (Key × El)} {ho : HO} (S : Sat K b A G C s H) (hA : A[n]? = some a) (h : isLk C n l ho) : ∃ o vs, ho = .frz o (.dK vs) ∧ H a = some ho ∧ All2 (PairE K A C H) l vs := S.cell n a _ hA h
section
variable {X : Cx} {tg iter e elt : Expr} {ifs : List Expr} {body : List Stmt} {p : Pos} {ns : List Nat} {scope : Scope}
/-- a cell locked -/
theorem lock_c {K : Fg} {b : Bs} {A : List Addr} {G : Gs} {C : Cs} {s : St} {H : Hp} {n : Nat} {a : Addr} {l : List (Key × El)} {vs : List (Key × V)} {od : Obj} (S : Sat K b A G C s H) (hA : A[n]? = some a) (hC : C[n]? = some (some (.dk none l))) (h4 : All2 (PairE K A C H) l vs) :
    Sat K b A G (C.set n (some (.dk (some (.frz od (.dK vs))) l))) s (upd H a (.frz od (.dK vs))) := S.cellSet hA hC ⟨od, vs, rfl, upd_same, h4.imp fun _ _ z => ⟨z.1, z.2.go (goSet hA hC)⟩⟩
theorem unlock_c {K : Fg} {b : Bs} {A : List Addr} {G : Gs} {C : Cs} {s : St} {H : Hp} {n : Nat} {a : Addr} {l : List (Key × El)} {vs : List (Key × V)} {od : Obj} (S : Sat K b A G C s H) (hA : A[n]? = some a) (hC : isLk C n l (.frz od (.dK vs))) :
    H a = some (.frz od (.dK vs)) ∧ Sat K b A G (C.set n (some (.dk none l))) s (upd H a (.dK vs)) ∧ Go A C H A (C.set n (some (.dk none l))) (upd H a (.dK vs)) := by
  obtain ⟨o, vs', e, h3, h4⟩ := lk_at S hA hC
  cases e
  exact ⟨h3, S.cellSet hA hC ⟨vs, upd_same, h4.imp fun _ _ z => ⟨z.1, z.2.go (goSet hA hC)⟩⟩, goSet hA hC⟩
theorem po_un {b b' : Bs} {D : Ends} {W : WX} {fl : Fl} {G2 : Gs} {C2 C2' : Cs} (hne : ∀ x, fl ≠ .er x) (q : PoS X.K b D W (fl, G2, C2))
    (hu : ∀ A2 s2 H2, Sat X.K b' A2 G2 C2' s2 H2 → ∃ H3, Unl X H2 H3 ∧ Sat X.K b A2 G2 C2 s2 H3 ∧ ∀ r v, RepE X.K A2 C2' H2 r v → RepE X.K A2 C2 H3 r v) : PoS X.K b' (unlE X D) W (fl, G2, C2') := by
  cases fl with
  | nx => exact fun A2 s2 H2 T => let ⟨H3, u, S3, _⟩ := hu A2 s2 H2 T; ⟨H3, u, q A2 s2 H3 S3⟩
  | bk => exact fun A2 s2 H2 T => let ⟨H3, u, S3, _⟩ := hu A2 s2 H2 T; ⟨H3, u, q A2 s2 H3 S3⟩
  | ct => exact fun A2 s2 H2 T => let ⟨H3, u, S3, _⟩ := hu A2 s2 H2 T; ⟨H3, u, q A2 s2 H3 S3⟩
  | rt r => exact fun v A2 s2 H2 T rv => let ⟨H3, u, S3, rr⟩ := hu A2 s2 H2 T; ⟨H3, u, q v A2 s2 H3 S3 (rr _ _ rv)⟩
  | er x => exact absurd rfl (hne x)
theorem noEr_inv {o : Option (Fl × Gs × Cs)} {fl : Fl} {G : Gs} {C : Cs} (h : noEr o = some (fl, G, C)) : o = some (fl, G, C) ∧ ∀ x, fl ≠ .er x := by
  unfold noEr at h
  split at h
  · cases h
  · rename_i h0
    exact ⟨h, fun x z => by subst z; exact h0 x G C h⟩
theorem unlk_inv {n : Nat} {l : List (Key × El)} {ho : HO} {o : Option (Fl × Gs × Cs)} {fl : Fl} {G : Gs} {C : Cs} (h : unlk n l ho o = some (fl, G, C)) : (∀ x, fl ≠ .er x) ∧ ∃ C2, o = some (fl, G, C2) ∧ isLk C2 n l ho ∧ C = C2.set n (some (.dk none l)) := by
  unfold unlk at h
  split at h
  · cases h
  · rename_i fl' G' C' h0
    split at h
    · rename_i hl
      cases h
      exact ⟨fun x z => h0 x z, C', rfl, hl, rfl⟩
    · cases h
  · cases h
theorem is_forD (kd : DW) {gf : FG} {fe : FE} {fb : FS} (he : ImE X e fe) (hpi : ∀ td, PE X e td → PI X tg iter (dwI kd td)) (hg : ImG X tg ns gf) (hb : ImB X body fb) (hc : X.calm = true) (hp : PassesOwn (model X.prog X.w) X.A X.env X.xe)
    (hs : ∀ x, foldedSetIterable iter X.env x = pure x := by intro _; rfl) : ImS X (.For tg iter body [] p) (sForD kd gf fe fb) := fun b A G C s H W S tk o h D q => by
  obtain ⟨fl, G2, C2⟩ := o
  rcases sBind_inv h with ⟨x, C1, h1, h2⟩ | ⟨r, C1, h1, h⟩
  · cases h2
    exact ⟨_, ps_for hp hc (hpi _ wE_ok) wG_ok wB_ok hs, he.erS S tk h1 q _⟩
  · refine ⟨_, ps_unl (ps_for hp hc (hpi _ (pe_lockA wE_ok)) wG_ok wB_ok hs), he.ok S tk h1 fun v A1 H1 S1 g1 r1 => ?_⟩
    split at h
    · rename_i l
      obtain ⟨h5, hne⟩ := noEr_inv h
      obtain ⟨a, kvs, ev, rd, hl⟩ := r1
      subst ev
      have hl2 : All2 (PairE X.K A1 C1 H1) (l.map fun p => (p.1, El.v p.2)) kvs := pairs_map (repK_iff.mp hl)
      rcases rd with h0 | ⟨o0, h0⟩
      · refine .inr ⟨a, _, mk_of h0, trivial, fun od nf => dw_in upd_same ?_⟩
        obtain ⟨SL, e⟩ := lock_fz (od := od) S1 h0
        refine for_core SL (wk_dw (pairs_tol e hl2) trivial fun b' A' G' C' s' H' S' g' _ => mk_of (g'.ex a _ ?_)) h5 hg hb tk (po_un hne q fun A2 s2 H2 T => ?_)
        · rw [fz_upd (fz_not h0)]
          exact upd_same
        · obtain ⟨e1, T2, e2⟩ := unlock_fz S1 h0 T
          exact ⟨_, .inr ⟨a, od, _, e1, nf, rfl⟩, T2, fun r v z => RepE.tol e2 z⟩
      · refine .inl (dw_in (mk_of h0) ?_)
        exact for_core S1 (wk_dw hl2 trivial fun b' A' G' C' s' H' S' g' _ => mk_of (g'.ex a _ h0)) h5 hg hb tk (po_un hne q fun A2 s2 H2 T => ⟨_, .inl rfl, T, fun _ _ z => z⟩)
    · rename_i n
      obtain ⟨a, hA, ev⟩ := r1
      subst ev
      split at h
      · rename_i l hC
        obtain ⟨vs, h3, h4⟩ := S1.cell n a _ hA hC
        refine .inr ⟨a, _, h3, trivial, fun od nf => dw_in upd_same ?_⟩
        obtain ⟨hne, C3, h5, h6, rfl⟩ := unlk_inv (of_allH h (.frz od (.dK vs)))
        have SL := lock_c (od := od) S1 hA hC h4
        have hlk : isLk (C1.set n (some (.dk (some (.frz od (.dK vs))) l))) n l (.frz od (.dK vs)) := by
          unfold isLk
          rw [List.getElem?_set_self (List.getElem?_eq_some_iff.mp hC).1]
        refine for_core SL.now (wk_dw (h4.imp fun _ _ z => ⟨z.1, z.2.go (goSet hA hC)⟩) hlk fun b' A' G' C' s' H' S' g' w' => ?_) h5 hg hb tk (po_un hne q fun A2 s2 H2 T => ?_)
        · obtain ⟨o', vs', e', h7, _⟩ := lk_at S' (pre_get g'.pre hA) w'
          exact h7
        · obtain ⟨h8, h9, h10⟩ := unlock_c (SL.back T) (pre_get T.pre hA) h6
          exact ⟨_, .inr ⟨a, od, _, h8, nf, rfl⟩, h9, fun r v z => z.go h10⟩
      · rename_i ho l hC
        obtain ⟨h5, hne⟩ := noEr_inv h
        obtain ⟨o0, vs, e0, h3, h4⟩ := S1.cell n a _ hA hC
        subst e0
        refine .inl (dw_in h3 ?_)
        exact for_core S1 (wk_dw h4 hC fun b' A' G' C' s' H' S' g' w' => (lk_at S' (pre_get g'.pre hA) w').choose_spec.choose_spec.2.1) h5 hg hb tk (po_un hne q fun A2 s2 H2 T => ⟨_, .inl rfl, T, fun _ _ z => z⟩)
      · cases h
    · cases h
/-! ### [.. for .. in a dict] -/
open Classical in
noncomputable def unlkE (n : Nat) (l : List (Key × El)) (ho : HO) (o : Mr El) : Mr El := match o with
  | some (.ok r, C) => if isLk C n l ho then some (.ok r, C.set n (some (.dk none l))) else none
  | _ => none
noncomputable def lcAll (own : Bool) (vs : List Nat) (tg : FG) (tst : FT) (elt : FE) (w : Cs → Prop) (l : List El) (G : Gs) (C : Cs) : Mr El := match lcF tg tst elt w vs C.length G l (C ++ [some (.lst [])]) with
  | some C2 => lcEnd own C C2
  | none => none
noncomputable def lcDB (own : Bool) (vs : List Nat) (kd : DW) (tg : FG) (tst : FT) (elt : FE) (G : Gs) (r : El) (C1 : Cs) : Mr El := match r with
  | .v (.dk l) => lcAll own vs tg tst elt (fun _ => True) (dwE kd (l.map fun p => (p.1, El.v p.2))) G C1
  | .at n => match C1[n]? with
    | some (some (.dk none l)) => allH fun ho => unlkE n l ho (lcAll own vs tg tst elt (fun C' => isLk C' n l ho) (dwE kd l) G (C1.set n (some (.dk (some ho) l))))
    | some (some (.dk (some ho) l)) => lcAll own vs tg tst elt (fun C' => isLk C' n l ho) (dwE kd l) G C1
    | _ => none
  | _ => none
noncomputable def eLcD (own : Bool) (vs : List Nat) (kd : DW) (tg : FG) (fe : FE) (tst : FT) (elt : FE) : FE := fun G C => (fe G C).bind fun r C1 => lcDB own vs kd tg tst elt G r C1
theorem unlkE_inv {n : Nat} {l : List (Key × El)} {ho : HO} {o : Mr El} {r : Rz El} {C : Cs} (h : unlkE n l ho o = some (r, C)) : ∃ r0 C2, r = .ok r0 ∧ o = some (.ok r0, C2) ∧ isLk C2 n l ho ∧ C = C2.set n (some (.dk none l)) := by
  unfold unlkE at h
  split at h
  · split at h
    · rename_i hl
      cases h
      exact ⟨_, _, rfl, rfl, hl, rfl⟩
    · cases h
  · cases h
theorem lcAll_inv {own : Bool} {vs : List Nat} {tg : FG} {tst : FT} {elt : FE} {w : Cs → Prop} {l : List El} {G : Gs} {C : Cs} {o : Rz El × Cs} (h : lcAll own vs tg tst elt w l G C = some o) : ∃ C2, lcF tg tst elt w vs C.length G l (C ++ [some (.lst [])]) = some C2 ∧ lcEnd own C C2 = some o := by
  unfold lcAll at h
  split at h
  · rename_i C2 e
    exact ⟨C2, e, h⟩
  · cases h
/-- the walk, the dict locked on the way -/
theorem lcD_core (kd : DW) {gf : FG} {tst : FT} {ef : FE} {A1 : List Addr} {G : Gs} {C1 : Cs} {s : St} {H1 : Hp} {b : Bs} {vs : List Nat} {own : Bool} {o : Rz El × Cs} {k : VK} {r : El} {v : V} (S1 : Sat X.K b A1 G C1 s H1) (r1 : RepE X.K A1 C1 H1 r v)
    (h : lcDB own vs kd gf tst ef G r C1 = some o)
    (hg : Blk X scope fun Y => ImG Y tg ns gf) (ht : Blk X scope fun Y => ImTs Y ifs tst) (he : Blk X scope fun Y => ImE Y elt ef) (hn : ∀ i ∈ ns, i ∈ vs)
    (q : ∀ r C', o = (.ok r, C') → ∀ v A' H', Sat X.K b A' G C' s H' → RepE X.K A' C' H' r v → k v H') :
    let R : It → Hp → Prop := fun J H1 => ∀ D, H1 D = none → ∃ Wf : Nat → Nat → Hp → Prop, (∃ m, Wf 0 m (upd H1 D (.lst []))) ∧ ∀ i m H, Wf i m H →
      (J.stop i H ∧ ∃ H', Unl X H H' ∧ k (.ref D) H') ∨ (J.go i H ∧ ∃ Nx : Hp → Prop, (∀ H', Nx H' → ∃ m', m' < m ∧ Wf (i + 1) m' H') ∧ ∀ x H', J.yld i H x H' → bG X scope tg x (wipe s vs) H' fun σ2 H2 => wipe σ2 vs = wipe s vs ∧ bT X scope ifs σ2 H2 fun b H3 =>
        if b = true then bE X scope elt σ2 H3 fun y H4 => ∃ acc, H4 D = some (.lst acc) ∧ acc.length < sizeLine ∧ Nx (upd H4 D (.lst (acc ++ [y]))) else Nx H3)
    dwK kd R v H1 ∨ ∃ d u, H1 d = some u ∧ Mut (some u) ∧ ∀ od, NoFz X d → dwK kd R v (upd H1 d (.frz od u)) := by
  intro R
  unfold lcDB at h
  split at h
  · rename_i l
    obtain ⟨C2, h5, h6⟩ := lcAll_inv h
    obtain ⟨a, kvs, ev, rd, hl⟩ := r1
    subst ev
    have hl2 : All2 (PairE X.K A1 C1 H1) (l.map fun p => (p.1, El.v p.2)) kvs := pairs_map (repK_iff.mp hl)
    rcases rd with h0 | ⟨o0, h0⟩
    · refine .inr ⟨a, _, mk_of h0, trivial, fun od nf => dw_in upd_same ?_⟩
      obtain ⟨SL, e⟩ := lock_fz (od := od) S1 h0
      refine lc_core2 (k := fun v H => ∃ H', Unl X H H' ∧ k v H') SL (wk_dw (pairs_tol e hl2) trivial fun b' A' G' C' s' H' S' g' _ => mk_of (g'.ex a _ ?_)) h5 h6 hg ht he hn fun r C' eo v A2 H2 T rv => ?_
      · rw [fz_upd (fz_not h0)]
        exact upd_same
      · obtain ⟨e1, T2, e2⟩ := unlock_fz S1 h0 T
        exact ⟨_, .inr ⟨a, od, _, e1, nf, rfl⟩, q r C' eo v A2 _ T2 (RepE.tol e2 rv)⟩
    · refine .inl (dw_in (mk_of h0) ?_)
      exact lc_core2 (k := fun v H => ∃ H', Unl X H H' ∧ k v H') S1 (wk_dw hl2 trivial fun b' A' G' C' s' H' S' g' _ => mk_of (g'.ex a _ h0)) h5 h6 hg ht he hn fun r C' eo v A2 H2 T rv => ⟨_, .inl rfl, q r C' eo v A2 H2 T rv⟩
  · rename_i n
    obtain ⟨a, hA, ev⟩ := r1
    subst ev
    split at h
    · rename_i l hC
      obtain ⟨vs', h3, h4⟩ := S1.cell n a _ hA hC
      refine .inr ⟨a, _, h3, trivial, fun od nf => dw_in upd_same ?_⟩
      obtain ⟨r0, C3, e0, h5, h6, e6⟩ := unlkE_inv (r := o.1) (C := o.2) (of_allH h (HO.frz od (.dK vs')))
      obtain ⟨C4, h7, h8⟩ := lcAll_inv h5
      have SL := lock_c (od := od) S1 hA hC h4
      have hlk : isLk (C1.set n (some (.dk (some (.frz od (.dK vs'))) l))) n l (.frz od (.dK vs')) := by
        unfold isLk
        rw [List.getElem?_set_self (List.getElem?_eq_some_iff.mp hC).1]
      refine lc_core2 (k := fun v H => ∃ H', Unl X H H' ∧ k v H') SL.now (wk_dw (h4.imp fun _ _ z => ⟨z.1, z.2.go (goSet hA hC)⟩) hlk fun b' A' G' C' s' H' S' g' w' => ?_) h7 h8 hg ht he hn fun r C' eo v A2 H2 T rv => ?_
      · obtain ⟨o', vs2, e', h9, _⟩ := lk_at S' (pre_get g'.pre hA) w'
        exact h9
      · cases eo
        obtain ⟨h9, h10, h11⟩ := unlock_c (SL.back T) (pre_get T.pre hA) h6
        exact ⟨_, .inr ⟨a, od, _, h9, nf, rfl⟩, q _ _ (Prod.ext e0 e6) v A2 _ h10 (rv.go h11)⟩
    · rename_i ho l hC
      obtain ⟨C2, h5, h6⟩ := lcAll_inv h
      obtain ⟨o0, vs', e0, h3, h4⟩ := S1.cell n a _ hA hC
      subst e0
      refine .inl (dw_in h3 ?_)
      exact lc_core2 (k := fun v H => ∃ H', Unl X H H' ∧ k v H') S1 (wk_dw h4 hC fun b' A' G' C' s' H' S' g' w' => (lk_at S' (pre_get g'.pre hA) w').choose_spec.choose_spec.2.1) h5 h6 hg ht he hn fun r C' eo v A2 H2 T rv => ⟨_, .inl rfl, q r C' eo v A2 H2 T rv⟩
    · cases h
  · cases h
theorem im_lcD (kd : DW) (own : List (Str × Nat)) (cell : Bool) {gf : FG} {fe : FE} {tst : FT} {ef : FE} (hi : ImE X e fe) (hpi : ∀ td, PE X e td → PI X tg iter (dwI kd td)) (hg : Blk X scope fun Y => ImG Y tg ns gf) (ht : Blk X scope fun Y => ImTs Y ifs tst) (he : Blk X scope fun Y => ImE Y elt ef)
    (hc : X.calm = true) (hN : X.N.Nodup) (ok : BlkOk X.N X.env.scope scope own) (hn : ∀ i ∈ ns, i ∈ own.map (·.2) := by decide) (hs : ∀ x, foldedSetIterable iter X.env x = pure x := by intro _; rfl) :
    ImE X (.ListComp elt [⟨tg, iter, ifs, 0⟩] scope p) (eLcD cell (own.map (·.2)) kd gf fe tst ef) := fun b A G C s H W S tk o h k q => by
  refine ⟨_, pe_unl (pe_lc hc hN (hpi _ (pe_lockA wE_ok)) ok (g := bG X scope tg) (tt := bT X scope ifs) (te := bE X scope elt) (fun s' H' c cl fp => ⟨fun pins s2 σ H2 v u Q I r h => wG_ok.run pins s2 σ H2 v u Q I r (h s' H' c cl fp)⟩)
      (fun s' H' c cl fp => ⟨fun pins s2 σ H2 Q I h => wTs_ok.run pins s2 σ H2 Q I (h s' H' c cl fp)⟩) (fun s' H' c cl fp => ⟨fun pins s2 σ H2 Q I h => wE_ok.run pins s2 σ H2 Q I (h s' H' c cl fp)⟩) hs), ?_⟩
  rcases bind_inv h with ⟨x, C1, h1, rfl⟩ | ⟨r, C1, h1, h⟩
  · exact hi.er S tk h1 q _
  · exact hi.ok S tk h1 fun v A1 H1 S1 g1 r1 => lcD_core kd S1 r1 h hg ht he hn q.ok
end
end R
namespace R
open PySem L2

/-! ### a def that hands on new things: they are cells of the caller -/
section
variable {K : Fg} {b : Bs} {A A1 : List Addr} {G G1 : Gs} {C C1 : Cs} {s s1 : St} {H H1 : Hp} {n : Nat}
theorem live_app : ∀ {A : List Addr} {C : Cs} {as : List Addr} {os : List Ob}, A.length = C.length → as.length = os.length → live (A ++ as) (C ++ os.map some) = live A C ++ as
  | [], [], [], [], _, _ => rfl
  | [], [], a :: as, o :: os, _, h => by
    have := live_app (A := []) (C := []) (as := as) (os := os) rfl (by simpa using h)
    simpa [live] using this
  | [], [], [], o :: os, _, h => by cases h
  | [], [], a :: as, [], _, h => by cases h
  | [], _ :: _, _, _, h, _ => by cases h
  | _ :: _, [], _, _, h, _ => by cases h
  | a :: A, some o :: C, as, os, h, h2 => by
    have := live_app (A := A) (C := C) (as := as) (os := os) (by simpa using h) h2
    simp [live, this]
  | a :: A, none :: C, as, os, h, h2 => by
    have := live_app (A := A) (C := C) (as := as) (os := os) (by simpa using h) h2
    simp [live, this]
mutual
theorem RepE.move {A' : List Addr} {C' : Cs} (hx : Ex (fz A1 C1 H1) (fz A' C' H1)) (hp : ∀ (m : Nat) (a : Addr), m < n → A1[m]? = some a → A'[m]? = some a) : ∀ {e : El} {v : V}, RepE K A1 C1 H1 e v → closedE n e = true → RepE K A' C' H1 e v
  | .v d, v, h, _ => Rep.mono hx h
  | .at m, v, ⟨a, h1, h2⟩, hc => ⟨a, hp m a (of_decide_eq_true hc) h1, h2⟩
  | .tp l, v, ⟨a, vs, h1, h2, h3⟩, hc => ⟨a, vs, h1, hx _ _ h2, RepEs.move hx hp h3 hc⟩
theorem RepEs.move {A' : List Addr} {C' : Cs} (hx : Ex (fz A1 C1 H1) (fz A' C' H1)) (hp : ∀ (m : Nat) (a : Addr), m < n → A1[m]? = some a → A'[m]? = some a) : ∀ {l : List El} {vs : List V}, RepEs K A1 C1 H1 l vs → closedEs n l = true → RepEs K A' C' H1 l vs
  | [], _, h, _ => h
  | e :: l, _, ⟨v, r, e1, h1, h2⟩, hc => by
    have hc' : (closedE n e && closedEs n l) = true := hc
    rw [Bool.and_eq_true] at hc'
    exact ⟨v, r, e1, RepE.move hx hp h1 hc'.1, RepEs.move hx hp h2 hc'.2⟩
end
theorem all_move {A' : List Addr} {C' : Cs} (hx : Ex (fz A1 C1 H1) (fz A' C' H1)) (hp : ∀ (m : Nat) (a : Addr), m < n → A1[m]? = some a → A'[m]? = some a) {l : List El} {vs : List V} (h : All2 (RepE K A1 C1 H1) l vs) (hc : closedEs n l = true) : All2 (RepE K A' C' H1) l vs :=
  repEs_iff.mp (RepEs.move hx hp (repEs_iff.mpr h) hc)
theorem pairs_move {κ : Type} {A' : List Addr} {C' : Cs} (hx : Ex (fz A1 C1 H1) (fz A' C' H1)) (hp : ∀ (m : Nat) (a : Addr), m < n → A1[m]? = some a → A'[m]? = some a) {l : List (κ × El)} {vs : List (κ × V)} (h : All2 (PairE K A1 C1 H1) l vs) (hc : closedP n l = true) : All2 (PairE K A' C' H1) l vs := by
  induction h with
  | nil => exact .nil
  | cons h t ih =>
    have hc' : (closedE n _ && closedP n _) = true := hc
    rw [Bool.and_eq_true] at hc'
    exact .cons ⟨h.1, RepE.move hx hp h.2 hc'.1⟩ (ih hc'.2)
theorem cell_move {A' : List Addr} {C' : Cs} (hx : Ex (fz A1 C1 H1) (fz A' C' H1)) (hp : ∀ (m : Nat) (a : Addr), m < n → A1[m]? = some a → A'[m]? = some a) {a : Addr} {o : Ob} (h : CellOk K A1 C1 H1 a o) (hc : closedO n o = true) : CellOk K A' C' H1 a o := by
  cases o with
  | lst l => obtain ⟨vs, h1, h2⟩ := h; exact ⟨vs, h1, all_move hx hp h2 hc⟩
  | dk k l => cases k with
    | none => obtain ⟨vs, h1, h2⟩ := h; exact ⟨vs, h1, pairs_move hx hp h2 hc⟩
    | some ho => obtain ⟨o, vs, h0, h1, h2⟩ := h; exact ⟨o, vs, h0, h1, pairs_move hx hp h2 hc⟩
  | dt k l => cases k with
    | none => obtain ⟨vs, h1, h2⟩ := h; exact ⟨vs, h1, pairs_move hx hp h2 hc⟩
    | some ho => obtain ⟨o, vs, h0, h1, h2⟩ := h; exact ⟨o, vs, h0, h1, pairs_move hx hp h2 hc⟩
  | ins m l => obtain ⟨dx, vs, h1, h2⟩ := h; exact ⟨dx, vs, h1, pairs_move hx hp h2 hc⟩
  | tab p q => obtain ⟨h0, ps, h1, h2, h3⟩ := h; exact ⟨h0, ps, h1, h2, fun pos cv z => let ⟨c, e1, e2⟩ := h3 pos cv z; ⟨c, e1, hx _ _ e2⟩⟩
/-- the first n cells, and some of those behind, anew -/
structure Sel (A1 : List Addr) (C1 : Cs) (n : Nat) (idx : List Nat) (as : List Addr) : Prop where
  lo : ∀ x ∈ idx, n ≤ x
  nd : idx.Nodup
  at_ : All2 (fun x a => A1[x]? = some a ∧ ∃ o, C1[x]? = some (some o)) idx as
theorem Sel.len {idx : List Nat} {as : List Addr} (h : Sel A1 C1 n idx as) : idx.length = as.length := h.at_.length
theorem Sel.live {idx : List Nat} {as : List Addr} (h : Sel A1 C1 n idx as) : ∀ a ∈ as, a ∈ live A1 C1 := by
  obtain ⟨lo, nd, h⟩ := h
  clear lo nd
  intro a ha
  induction h with
  | nil => cases ha
  | cons q t ih =>
    rcases List.mem_cons.mp ha with rfl | z
    · obtain ⟨h1, o, h2⟩ := q
      exact live_mem.mpr ⟨_, o, h1, h2⟩
    · exact ih z
theorem live_take_get {a : Addr} (h : a ∈ live (A1.take n) (C1.take n)) : ∃ (i : Nat) (o : Ob), i < n ∧ A1[i]? = some a ∧ C1[i]? = some (some o) := by
  obtain ⟨i, o, h1, h2⟩ := live_mem.mp h
  have hi : i < n := by
    have := (List.getElem?_eq_some_iff.mp h1).1
    rw [List.length_take] at this
    omega
  rw [List.getElem?_take_of_lt hi] at h1 h2
  exact ⟨i, o, hi, h1, h2⟩
theorem sel_nd {idx : List Nat} {as : List Addr} (hn : (live A1 C1).Nodup) (h : Sel A1 C1 n idx as) : (live (A1.take n) (C1.take n) ++ as).Nodup := by
  rw [List.nodup_append]
  refine ⟨hn.sublist live_take, ?_, fun a ha c hc => ?_⟩
  · obtain ⟨lo, nd, h⟩ := h
    clear lo
    induction h with
    | nil => exact .nil
    | @cons x a idx as q t ih =>
      rw [List.nodup_cons] at nd ⊢
      refine ⟨fun z => ?_, ih nd.2⟩
      have : ∀ {idx : List Nat} {as : List Addr}, All2 (fun x a => A1[x]? = some a ∧ ∃ o, C1[x]? = some (some o)) idx as → a ∈ as → x ∈ idx := by
        intro idx as t z
        induction t with
        | nil => cases z
        | cons q2 t2 ih2 =>
          rcases List.mem_cons.mp z with rfl | z
          · obtain ⟨h1, o, h2⟩ := q
            obtain ⟨h3, o', h4⟩ := q2
            rw [live_inj hn h1 h2 h3 h4]
            exact List.mem_cons_self
          · exact List.mem_cons_of_mem _ (ih2 z)
      exact nd.1 (this t z)
  · intro e
    subst e
    obtain ⟨i, o, hi, h1, h2⟩ := live_take_get ha
    obtain ⟨lo, nd, h⟩ := h
    have : ∃ x ∈ idx, A1[x]? = some a ∧ ∃ o, C1[x]? = some (some o) := by
      clear lo nd
      induction h with
      | nil => cases hc
      | cons q t ih =>
        rcases List.mem_cons.mp hc with rfl | z
        · exact ⟨_, List.mem_cons_self, q⟩
        · obtain ⟨x, hx, q⟩ := ih z
          exact ⟨x, List.mem_cons_of_mem _ hx, q⟩
    obtain ⟨x, hx, h3, o', h4⟩ := this
    have := live_inj hn h1 h2 h3 h4
    have := lo x hx
    omega
theorem sel_ex {idx : List Nat} {as : List Addr} {obs : List Ob} (hl : A1.length = C1.length) (h : Sel A1 C1 n idx as) (ho : obs.length = idx.length) : Ex (fz A1 C1 H1) (fz (A1.take n ++ as) (C1.take n ++ obs.map some) H1) := fun a o e => by
  rw [mk_at fun z => ?_]
  · exact mk_of e
  · rw [live_app (by rw [List.length_take, List.length_take, hl]) (by rw [← h.len, ho])] at z
    rcases List.mem_append.mp z with z | z
    · exact fz_not e (live_take.subset z)
    · exact fz_not e (h.live a z)
theorem Sat.sel (S : Sat K b A G C s H) (T : Sat K (Bs.now A C H) A1 G1 C1 s1 H1) (h : okDrop C C1 n) {idx : List Nat} {as : List Addr} {obs : List Ob} (hs : Sel A1 C1 n idx as) (ho : obs.length = idx.length)
    (hok : ∀ (i : Nat) (a : Addr) (o : Ob), as[i]? = some a → obs[i]? = some o → CellOk K (A1.take n ++ as) (C1.take n ++ obs.map some) H1 a o) : Sat K b (A1.take n ++ as) G (C1.take n ++ obs.map some) s H1 := by
  obtain ⟨h0, h1, h2⟩ := h
  have hl : A.length ≤ n := by rw [S.len]; exact h0
  have hx := sel_ex (H1 := H1) (obs := obs) T.len hs ho
  have lt : (A1.take n).length = n := by rw [List.length_take, T.len]; omega
  have lc : (C1.take n).length = n := by rw [List.length_take]; omega
  have hp : ∀ (m : Nat) (a : Addr), m < n → A1[m]? = some a → (A1.take n ++ as)[m]? = some a := fun m a hm e => by
    rw [List.getElem?_append_left (by omega), List.getElem?_take_of_lt hm]
    exact e
  have go : Go A C H (A1.take n ++ as) (C1.take n ++ obs.map some) H1 := ⟨(pre_take T.pre hl).trans (List.prefix_append _ _), T.ex.trans hx⟩
  refine ⟨by rw [List.length_append, List.length_append, lt, lc, List.length_map, ← hs.len, ho], ?_, S.ex.trans go.ex, S.pre.trans go.pre, fun i a o e1 e2 => ?_, S.slot.imp fun _ _ r => r.go go⟩
  · rw [live_app (by rw [lt, lc]) (by rw [← hs.len, ho])]
    exact sel_nd T.nd hs
  · by_cases hi : i < n
    · rw [List.getElem?_append_left (by omega), List.getElem?_take_of_lt hi] at e1 e2
      refine cell_move hx hp (T.cell i a o e1 e2) ?_
      rcases h2 i o hi e2 with z | z
      · have li : i < A.length := by
          rw [S.len]
          exact (List.getElem?_eq_some_iff.mp z).1
        exact closedO_of (S.cell i A[i] o (List.getElem?_eq_getElem li) z) hl
      · exact z
    · rw [List.getElem?_append_right (by omega), lt] at e1
      rw [List.getElem?_append_right (by omega), lc, List.getElem?_map] at e2
      cases e3 : obs[i - n]? with
      | none => rw [e3] at e2; cases e2
      | some o' =>
        rw [e3] at e2
        cases e2
        exact hok (i - n) a o e1 e3
end
theorem All2.of_get {α β : Type} {R : α → β → Prop} : ∀ {l : List α} {r : List β}, l.length = r.length → (∀ (i : Nat) (x : α) (y : β), l[i]? = some x → r[i]? = some y → R x y) → All2 R l r
  | [], [], _, _ => .nil
  | [], _ :: _, h, _ => by cases h
  | _ :: _, [], h, _ => by cases h
  | x :: l, y :: r, h, f => .cons (f 0 x y rfl rfl) (All2.of_get (by simpa using h) fun i a b h1 h2 => f (i + 1) a b h1 h2)
def rowOf (C1 : Cs) (e : El) : Option (Nat × List El) := match e with
  | .at x => match C1[x]? with
    | some (some (.lst l)) => if closedEs 0 l = true then some (x, l) else none
    | _ => none
  | _ => none
theorem rowOf_inv {C1 : Cs} {e : El} {r : Nat × List El} (h : rowOf C1 e = some r) : e = .at r.1 ∧ C1[r.1]? = some (some (.lst r.2)) ∧ closedEs 0 r.2 = true := by
  unfold rowOf at h
  split at h
  · split at h
    · split at h
      · cases h
        exact ⟨rfl, by assumption, by assumption⟩
      · cases h
    · cases h
  · cases h
inductive TK | l1 | l2 | d1 | d2
def rowsAt (n k : Nat) : List El := (List.range k).map fun i => El.at (n + 1 + i)
def rowsK (n : Nat) (ks : List Key) : List (Key × El) := ks.mapIdx fun i k => (k, El.at (n + 1 + i))
/-- the tree below a result: its cells, and how they stand anew from n on -/
def selT (k : TK) (C1 : Cs) (n : Nat) (r : El) : Option (List Nat × List Ob) := match r with
  | .at m => match k, C1[m]? with
    | .l1, some (some (.lst l)) => if closedEs 0 l = true then some ([m], [.lst l]) else none
    | .l2, some (some (.lst es)) => match es.mapM (rowOf C1) with
      | some rs => some (m :: rs.map (·.1), .lst (rowsAt n rs.length) :: rs.map fun r => .lst r.2)
      | none => none
    | .d1, some (some (.dk none l)) => if closedP 0 l = true then some ([m], [.dk none l]) else none
    | .d2, some (some (.dk none l)) => match (l.map (·.2)).mapM (rowOf C1) with
      | some rs => some (m :: rs.map (·.1), .dk none (rowsK n (l.map (·.1))) :: rs.map fun r => .lst r.2)
      | none => none
    | _, _ => none
  | _ => none
section
variable {K : Fg} {b : Bs} {A A1 : List Addr} {G G1 : Gs} {C C1 : Cs} {s s1 : St} {H H1 : Hp} {n : Nat}
theorem rows_at {es : List El} {rs : List (Nat × List El)} {vs : List V} (h : All2 (fun e r => rowOf C1 e = some r) es rs) (hv : All2 (RepE K A1 C1 H1) es vs) :
    ∃ as : List Addr, All2 (fun r a => A1[r.1]? = some a ∧ C1[r.1]? = some (some (.lst r.2)) ∧ closedEs 0 r.2 = true) rs as ∧ vs = as.map V.ref := by
  induction h generalizing vs with
  | nil => cases hv; exact ⟨[], .nil, rfl⟩
  | cons q t ih =>
    cases hv with
    | cons r1 r2 =>
      obtain ⟨as, h1, rfl⟩ := ih r2
      obtain ⟨rfl, h2, h3⟩ := rowOf_inv q
      obtain ⟨a, h4, rfl⟩ := r1
      exact ⟨a :: as, .cons ⟨h4, h2, h3⟩ h1, rfl⟩
theorem sel_rows {rs : List (Nat × List El)} {as : List Addr} (h : All2 (fun r a => A1[r.1]? = some a ∧ C1[r.1]? = some (some (.lst r.2)) ∧ closedEs 0 r.2 = true) rs as) : All2 (fun x a => A1[x]? = some a ∧ ∃ o, C1[x]? = some (some o)) (rs.map (·.1)) as :=
  All2.map_l.mpr (h.imp fun _ _ z => ⟨z.1, _, z.2.1⟩)
theorem flat_move {A' : List Addr} {C' : Cs} (hx : Ex (fz A1 C1 H1) (fz A' C' H1)) {a : Addr} {o : Ob} (h : CellOk K A1 C1 H1 a o) (hc : closedO 0 o = true) : CellOk K A' C' H1 a o := cell_move (n := 0) hx (fun m a hm => absurd hm (Nat.not_lt_zero _)) h hc
/-- the cells of rows, anew -/
theorem rows_ok (T : Sat K b A1 G1 C1 s1 H1) {A' : List Addr} {C' : Cs} (hx : Ex (fz A1 C1 H1) (fz A' C' H1)) {rs : List (Nat × List El)} {as : List Addr} (h : All2 (fun r a => A1[r.1]? = some a ∧ C1[r.1]? = some (some (.lst r.2)) ∧ closedEs 0 r.2 = true) rs as)
    {i : Nat} {a : Addr} {o : Ob} (h1 : as[i]? = some a) (h2 : (rs.map fun r => Ob.lst r.2)[i]? = some o) : CellOk K A' C' H1 a o := by
  rw [List.getElem?_map] at h2
  cases e : rs[i]? with
  | none => rw [e] at h2; cases h2
  | some r =>
    rw [e] at h2
    cases h2
    obtain ⟨a', h3, h4, h5, h6⟩ := h.get e
    rw [h1] at h3
    cases h3
    exact flat_move hx (T.cell r.1 a _ h4 h5) h6
theorem selT_ok {k : TK} {r : El} {v : V} {idx : List Nat} {obs : List Ob} (T : Sat K b A1 G1 C1 s1 H1) (hn : n ≤ C1.length) (h : selT k C1 n r = some (idx, obs)) (rv : RepE K A1 C1 H1 r v) (lo : ∀ x ∈ idx, n ≤ x) (nd : idx.Nodup) :
    obs.length = idx.length ∧ ∃ as : List Addr, Sel A1 C1 n idx as ∧ (∃ a, as[0]? = some a ∧ v = .ref a) ∧ ∀ (i : Nat) (a : Addr) (o : Ob), as[i]? = some a → obs[i]? = some o → CellOk K (A1.take n ++ as) (C1.take n ++ obs.map some) H1 a o := by
  unfold selT at h
  split at h
  · rename_i m
    obtain ⟨a, hA, rfl⟩ := rv
    have lt : (A1.take n).length = n := by rw [List.length_take, T.len]; omega
    split at h
    · rename_i l hC
      split at h
      · rename_i hc
        cases h
        have sl : Sel A1 C1 n [m] [a] := ⟨lo, nd, .cons ⟨hA, _, hC⟩ .nil⟩
        refine ⟨rfl, [a], sl, ⟨a, rfl, rfl⟩, fun i a' o h1 h2 => ?_⟩
        cases i with
        | zero => cases h1; cases h2; exact flat_move (sel_ex T.len sl rfl) (T.cell m a _ hA hC) hc
        | succ i => simp at h1
      · cases h
    · rename_i es hC
      split at h
      · rename_i rs hrs
        cases h
        obtain ⟨vs, h3, h4⟩ := T.cell m a _ hA hC
        obtain ⟨as, h5, rfl⟩ := rows_at (mapM_some hrs) h4
        have ho : (Ob.lst (rowsAt n rs.length) :: rs.map fun r => Ob.lst r.2).length = (m :: rs.map (·.1)).length := by simp
        have sl : Sel A1 C1 n (m :: rs.map (·.1)) (a :: as) := ⟨lo, nd, .cons ⟨hA, _, hC⟩ (sel_rows h5)⟩
        have hx := sel_ex (H1 := H1) T.len sl ho
        refine ⟨ho, a :: as, sl, ⟨a, rfl, rfl⟩, fun i a' o h1 h2 => ?_⟩
        cases i with
        | zero =>
          cases h1
          cases h2
          refine ⟨_, h3, All2.of_get (by simp [rowsAt, h5.length]) fun j x y e1 e2 => ?_⟩
          unfold rowsAt at e1
          rw [List.getElem?_map] at e1 e2
          cases e3 : as[j]? with
          | none => rw [e3] at e2; cases e2
          | some c =>
            rw [e3] at e2
            cases e2
            cases e4 : (List.range rs.length)[j]? with
            | none => rw [e4] at e1; cases e1
            | some q =>
              rw [e4] at e1
              cases e1
              obtain ⟨e5, e6⟩ := List.getElem?_eq_some_iff.mp e4
              rw [List.getElem_range] at e6
              subst e6
              refine ⟨c, ?_, rfl⟩
              rw [List.getElem?_append_right (by omega), lt]
              rw [show n + 1 + j - n = j + 1 by omega]
              exact e3
        | succ i => exact rows_ok T hx h5 h1 h2
      · cases h
    · rename_i l hC
      split at h
      · rename_i hc
        cases h
        have sl : Sel A1 C1 n [m] [a] := ⟨lo, nd, .cons ⟨hA, _, hC⟩ .nil⟩
        refine ⟨rfl, [a], sl, ⟨a, rfl, rfl⟩, fun i a' o h1 h2 => ?_⟩
        cases i with
        | zero => cases h1; cases h2; exact flat_move (sel_ex T.len sl rfl) (T.cell m a _ hA hC) hc
        | succ i => simp at h1
      · cases h
    · rename_i l hC
      split at h
      · rename_i rs hrs
        cases h
        obtain ⟨vs, h3, h4⟩ := T.cell m a _ hA hC
        have h4' : All2 (RepE K A1 C1 H1) (l.map (·.2)) (vs.map (·.2)) := by
          clear hrs h3 hC nd lo
          induction h4 with
          | nil => exact .nil
          | cons q t ih => exact .cons q.2 ih
        have hk : vs.map (·.1) = l.map (·.1) := by
          clear hrs h3 hC nd lo h4'
          induction h4 with
          | nil => rfl
          | cons q t ih =>
            rw [List.map_cons, List.map_cons, ih]
            congr 1
            exact q.1.symm
        obtain ⟨as, h5, h6⟩ := rows_at (mapM_some hrs) h4'
        have ho : (Ob.dk none (rowsK n (l.map (·.1))) :: rs.map fun r => Ob.lst r.2).length = (m :: rs.map (·.1)).length := by simp
        have sl : Sel A1 C1 n (m :: rs.map (·.1)) (a :: as) := ⟨lo, nd, .cons ⟨hA, _, hC⟩ (sel_rows h5)⟩
        have hx := sel_ex (H1 := H1) T.len sl ho
        refine ⟨ho, a :: as, sl, ⟨a, rfl, rfl⟩, fun i a' o h1 h2 => ?_⟩
        cases i with
        | zero =>
          cases h1
          cases h2
          refine ⟨_, h3, All2.of_get (by unfold rowsK; rw [List.length_mapIdx, List.length_map]; exact h4.length) fun j x y e1 e2 => ?_⟩
          unfold rowsK at e1
          rw [List.getElem?_mapIdx, List.getElem?_map] at e1
          cases e3 : l[j]? with
          | none => rw [e3] at e1; cases e1
          | some p =>
            rw [e3] at e1
            cases e1
            have k1 : (vs.map (·.1))[j]? = some p.1 := by rw [hk, List.getElem?_map, e3]; rfl
            have k2 : (vs.map (·.2))[j]? = some y.2 := by rw [List.getElem?_map, e2]; rfl
            rw [List.getElem?_map, e2] at k1
            rw [h6, List.getElem?_map] at k2
            cases e4 : as[j]? with
            | none => rw [e4] at k2; cases k2
            | some c =>
              rw [e4] at k2
              refine ⟨(Option.some.inj k1).symm, c, ?_, (Option.some.inj k2).symm⟩
              rw [List.getElem?_append_right (by omega), lt]
              rw [show n + 1 + j - n = j + 1 by omega]
              exact e4
        | succ i => exact rows_ok T hx h5 h1 h2
      · cases h
    · cases h
  · cases h
end
open Classical in
/-- what a body's end hands on: a new thing, its cells the caller's -/
noncomputable def closeT (k : TK) (C : Cs) : Option (Fl × Gs × Cs) → Mr El
  | some (.rt r, _, C1) => match selT k C1 C.length r with
    | some (idx, obs) => if okDrop C C1 C.length ∧ (∀ x ∈ idx, C.length ≤ x) ∧ idx.Nodup then some (.ok (.at C.length), C1.take C.length ++ obs.map some) else none
    | none => none
  | some (.er x, _, C1) => if okDrop C C1 C.length then some (.er x, C1.take C.length) else none
  | _ => none
noncomputable def mkFnT (k : TK) (np n : Nat) (fb : FS) : Fn := fun rs C => if rs.length = np then closeT k C (fb (rs.map some ++ List.replicate (n - np) none) C) else none
section
variable {P : Program} {w : World} {K : Fg} {mg : Str → Option Value} {base : Heap} {x qual : Str} {params : Arguments} {body : List Stmt} {scope : Scope} {dvs : List V} {kws : List (Str × V)} {f : Addr} {fd : FuncData}
theorem fn_MT {N ps : List Str} {k : Nat} {tk : TK} {fb : FS} (F : FunD K x qual params body scope dvs kws f fd) (Sc : FnScope N ps scope)
    (h : ∀ (cdv : Value) (A : Around) (outer : List Env) (s : Shared) (H : Hp) (E : XK), Room k (A.deeper (PyProof.Rows.envOfC qual scope s.heap.objs.size f cdv)) → ImB (cxOf (L2N.CX P w) P w K mg base N qual scope f cdv A outer s H E) body fb) :
    FnOk P w K mg base (L2N.CX P w) (k + 1) f fd ps (spM K (mkFnT tk ps.length N.length fb)) :=
  F.ok Sc (fun vs H Q E ⟨A, C, rs, _, r, o, ho, _⟩ => by
    unfold mkFnT at ho
    split at ho
    · rename_i hl
      rw [← r.length]
      exact hl
    · cases ho) fun cdv A outer s H vs q E hr ⟨A1, C, rs, S, r, o, ho, po⟩ => by
    unfold mkFnT at ho
    split at ho
    · rename_i hl
      have tkk : Takes (cxOf (L2N.CX P w) P w K mg base N qual scope f cdv A outer s H E) (fun cls d _ H => E cls d H) := L2N.takes_of rfl rfl rfl rfl
      have hs : All2 (SlotE K A1 C H) (rs.map some ++ List.replicate (N.length - ps.length) none) (L2.start N vs) := by
        unfold L2.start
        rw [← r.length, hl]
        exact (slots_of r).append (slots_rest _)
      have S0 : Sat K (Bs.now A1 C H) A1 (rs.map some ++ List.replicate (N.length - ps.length) none) C (L2.start N vs) H := S.slots hs
      cases e : fb (rs.map some ++ List.replicate (N.length - ps.length) none) C with
      | none => rw [e] at ho; cases ho
      | some o1 =>
        obtain ⟨fl, G1, C1⟩ := o1
        rw [e] at ho
        refine h cdv A outer s H E hr _ A1 _ C _ H _ S0 tkk _ e _ ?_
        cases fl with
        | rt r1 =>
          unfold closeT at ho
          dsimp only at ho
          split at ho
          · rename_i idx obs hsel
            split at ho
            · rename_i hd
              obtain ⟨hd, lo, nd⟩ := hd
              cases ho
              refine fun v A2 s2 H2 T rv => ?_
              obtain ⟨ho2, as, sl, ⟨a, ha, rfl⟩, hok⟩ := selT_ok T hd.2.1 hsel rv lo nd
              refine po.ok _ _ rfl _ _ H2 (S.sel T hd sl ho2 hok) ⟨a, ?_, rfl⟩
              have lt : (A2.take C.length).length = C.length := by
                rw [List.length_take, T.len]
                have := hd.2.1
                omega
              rw [List.getElem?_append_right (by omega), lt, Nat.sub_self]
              exact ha
            · cases ho
          · cases ho
        | er x =>
          unfold closeT at ho
          dsimp only at ho
          split at ho
          · rename_i hd
            cases ho
            exact fun c d A2 s2 H2 T rx => po.er _ _ rfl c d _ H2 (Sat.drop S T hd) rx.take
          · cases ho
        | nx => cases ho
        | bk => cases ho
        | ct => cases ho
    · cases ho
end
end R
namespace R
open PySem L2

/-! ### a def's result frozen -/
open Classical in
noncomputable def frz (m : Fn) : Fn := fun rs C => match m rs C with
  | some (.ok r, C1) => if okDrop C C1 C.length then match closeV C.length C1 r with
    | some r' => some (.ok r', C1.take C.length)
    | none => none
    else none
  | some (.er x, C1) => if okDrop C C1 C.length then some (.er x, C1.take C.length) else none
  | none => none
theorem spM_frz {K : Fg} {m : Fn} {vs : List V} {H : Hp} {Q : VK} {E : XK} (h : spM K (frz m) vs H Q E) : spM K m vs H Q E := by
  obtain ⟨A, C, rs, S, r, o, ho, po⟩ := h
  refine ⟨A, C, rs, S, r, ?_⟩
  unfold frz at ho
  split at ho
  · rename_i r1 C1 e
    split at ho
    · rename_i hd
      split at ho
      · rename_i r' hc
        cases ho
        refine ⟨_, e, (fun r2 C2 e2 v A' H' T rv => ?_), (fun _ _ e2 => by cases e2)⟩
        cases e2
        exact po.ok _ _ rfl v _ H' (Sat.drop S T hd) (closeV_ok T hc rv)
      · cases ho
    · cases ho
  · rename_i x C1 e
    split at ho
    · rename_i hd
      cases ho
      refine ⟨_, e, (fun _ _ e2 => by cases e2), (fun x2 C2 e2 c d A' H' T rx => ?_)⟩
      cases e2
      exact po.er _ _ rfl c d _ H' (Sat.drop S T hd) rx.take
    · cases ho
  · cases ho
theorem fn_frz {P : Program} {w : World} {K : Fg} {mg : Str → Option Value} {base : Heap} {CX : CXT} {k : Nat} {f : Addr} {fd : FuncData} {ps : List Str} {m : Fn} (F : FnOk P w K mg base CX k f fd ps (spM K m)) : FnOk P w K mg base CX k f fd ps (spM K (frz m)) := F.imp fun _ _ _ _ h => spM_frz h

/-! ### {k: v, ..} -/
section
variable {X : Cx} {p : Pos}
def prsE : List (FE × FE) → Gs → Cs → Mr (List (Key × El))
  | [], _, C => some (.ok [], C)
  | (fk, fv) :: r, G, C => (fk G C).bind fun k C => (fv G C).bind fun v C => match keyE k with
    | some k' => (prsE r G C).bind fun l C => some (.ok ((k', v) :: l), C)
    | none => none
def mergeE (l : List (Key × El)) (more : List (Key × El)) : List (Key × El) := more.foldl (fun acc kv => putKE acc kv.1 kv.2) l
def eDisp (ps : List (FE × FE)) : FE := fun G C => (prsE ps G (C ++ [some (.dk none [])])).bind fun l C2 => match C2[C.length]? with
  | some (some (.dk none [])) => if l.length ≤ 15 then some (.ok (.at C.length), C2.set C.length (some (.dk none (mergeE [] l)))) else none
  | _ => none
inductive DispOk (X : Cx) : List (Option Expr) → List Expr → List (FE × FE) → Prop
  | nil : DispOk X [] [] []
  | cons {k v : Expr} {ks : List (Option Expr)} {vs : List Expr} {fk fv : FE} {ps : List (FE × FE)} (hk : ImE X k fk) (hv : ImE X v fv) (h : DispOk X ks vs ps) : DispOk X (some k :: ks) (v :: vs) ((fk, fv) :: ps)
def wPrs (X : Cx) : List (Option Expr) → List Expr → List (TE × TE)
  | some k :: ks, v :: vs => (wE X k, wE X v) :: wPrs X ks vs
  | _, _ => []
end
end R
namespace R
open PySem L2
section
variable {C C0 C1 : Cs} {Q : El → Cs → Prop} {E : Exn → Cs → Prop} {g : Option El} {G G0 : Gs} {T : Fl → Gs → Cs → Prop} {n : Nat} {own : Bool} {vs : List Nat} {kd : DW} {tg : FG} {fe elt : FE} {tst : FT} {body : FS} {l : List (Key × El)} {ho : HO} {r0 : El}
/-! ### comprehensions over dicts -/
noncomputable def wlcD (own : Bool) (vs : List Nat) (kd : DW) (tg : FG) (tst : FT) (elt : FE) (r : El) (G : Gs) (C : Cs) (Q : El → Cs → Prop) (E : Exn → Cs → Prop) : Prop := wp (lcDB own vs kd tg tst elt G r C) Q E
theorem w_lcD : wp (eLcD own vs kd tg fe tst elt (g :: G) C) Q E = wp (fe (g :: G) C) (fun r C1 => wlcD own vs kd tg tst elt r (g :: G) C1 Q E) E := by
  unfold eLcD wlcD
  simp only [w_bind]
theorem wlcD_v {l : List (Key × D)} : wlcD own vs kd tg tst elt (.v (.dk l)) G C Q E = wlc own vs tg tst elt (fun _ => True) (dwE kd (l.map fun p => (p.1, El.v p.2))) G C Q E := id rfl
theorem set_id {α : Type} {l : List α} {n : Nat} {a : α} (h : l[n]? = some a) : l.set n a = l := by
  apply List.ext_getElem?
  intro i
  by_cases e : n = i
  · subst e
    rw [List.getElem?_set_self (List.getElem?_eq_some_iff.mp h).1, h]
  · rw [List.getElem?_set_ne e]
theorem isLk_set (h : C[n]? = some (some (.dk none l))) : isLk (C.set n (some (.dk (some ho) l))) n l ho := by
  unfold isLk
  rw [List.getElem?_set_self (List.getElem?_eq_some_iff.mp h).1]
theorem unl_set (h : C[n]? = some (some (.dk none l))) : (C.set n (some (.dk (some ho) l))).set n (some (.dk none l)) = C := by
  rw [List.set_set, set_id h]
theorem wlcD_at (hC : C[n]? = some (some (.dk none l))) (h0 : C0[n]? = some (some (.dk none l)))
    (h : ∀ ho, wlc own vs tg tst elt (fun C' => isLk C' n l ho) (dwE kd l) G (C.set n (some (.dk (some ho) l))) (fun r C' => r = r0 ∧ C' = C0.set n (some (.dk (some ho) l))) NoE) (hq : Q r0 C0) : wlcD own vs kd tg tst elt (.at n) G C Q E := by
  unfold wlcD lcDB
  dsimp only
  rw [hC]
  dsimp only
  rw [allH_of (r := (.ok r0, C0)) fun ho => ?_]
  · exact hq
  · have h1 : wp (lcAll own vs tg tst elt (fun C' => isLk C' n l ho) (dwE kd l) G (C.set n (some (.dk (some ho) l)))) (fun r C' => r = r0 ∧ C' = C0.set n (some (.dk (some ho) l))) NoE := h ho
    rcases e : lcAll own vs tg tst elt (fun C' => isLk C' n l ho) (dwE kd l) G (C.set n (some (.dk (some ho) l))) with _ | ⟨r | x, C2⟩
    · rw [e] at h1; exact h1.elim
    · rw [e] at h1
      obtain ⟨h2, h3⟩ := h1
      subst h2 h3
      unfold unlkE
      dsimp only
      rw [if_pos (isLk_set h0), unl_set h0]
    · rw [e] at h1; exact h1.elim
theorem lk_pu {acc : List El} (hC : C[n]? = some (some (.dk none l))) : isLk (pu (C.set n (some (.dk (some ho) l))) acc) n l ho := by
  unfold isLk pu
  have := (List.getElem?_eq_some_iff.mp hC).1
  rw [List.getElem?_append_left (by rw [List.length_set]; exact this), List.getElem?_set_self this]
theorem wlcD_fil {α : Type} (xs : List α) (e : α → El) (F : α → Option D) (hC : C[n]? = some (some (.dk none l))) (hl : dwE kd l = xs.map e)
    (h : ∀ ho, ∀ a ∈ xs, ∀ acc : List El, wo (tg (e a) (wipeG G vs) (pu (C.set n (some (.dk (some ho) l))) acc)) fun G1 => wp (tst G1 (pu (C.set n (some (.dk (some ho) l))) acc)) (fun t C1 => C1 = pu (C.set n (some (.dk (some ho) l))) acc ∧ t = (F a).isSome ∧
      (t = true → wp (elt G1 (pu (C.set n (some (.dk (some ho) l))) acc)) (fun r C2 => (F a).map El.v = some r ∧ C2 = pu (C.set n (some (.dk (some ho) l))) acc) NoE)) NoE)
    (hs : xs.length ≤ sizeLine) (hq : Q (.v (.lst (xs.filterMap F))) C) : wlcD false vs kd tg tst elt (.at n) G C Q E :=
  wlcD_at hC hC (fun ho => wlc_fil xs e F hl (fun a ha acc => ⟨lk_pu hC, h ho a ha acc⟩) (fun acc => lk_pu hC) hs ⟨rfl, rfl⟩) hq
theorem app_set {L : Cs} {o : Option Ob} (h : n < C.length) : C.set n o ++ L = (C ++ L).set n o := by rw [List.set_append_left _ _ h]
/-- the list own -/
theorem wlcD_filC {α : Type} (xs : List α) (e : α → El) (F : α → Option D) (hC : C[n]? = some (some (.dk none l))) (hl : dwE kd l = xs.map e)
    (h : ∀ ho, ∀ a ∈ xs, ∀ acc : List El, wo (tg (e a) (wipeG G vs) (pu (C.set n (some (.dk (some ho) l))) acc)) fun G1 => wp (tst G1 (pu (C.set n (some (.dk (some ho) l))) acc)) (fun t C1 => C1 = pu (C.set n (some (.dk (some ho) l))) acc ∧ t = (F a).isSome ∧
      (t = true → wp (elt G1 (pu (C.set n (some (.dk (some ho) l))) acc)) (fun r C2 => (F a).map El.v = some r ∧ C2 = pu (C.set n (some (.dk (some ho) l))) acc) NoE)) NoE)
    (hs : xs.length ≤ sizeLine) (hq : Q (.at C.length) (pu C ((xs.filterMap F).map El.v))) : wlcD true vs kd tg tst elt (.at n) G C Q E :=
  have hn := (List.getElem?_eq_some_iff.mp hC).1
  wlcD_at (C0 := pu C ((xs.filterMap F).map El.v)) hC (by rw [List.getElem?_append_left hn]; exact hC) (fun ho => wlc_filC xs e F hl (fun a ha acc => ⟨lk_pu hC, h ho a ha acc⟩) (fun acc => lk_pu hC) hs ⟨by rw [List.length_set], app_set hn⟩) hq
/-! ### for over dicts -/
def noX (T : Fl → Gs → Cs → Prop) : Fl → Gs → Cs → Prop := fun fl G C => match fl with
  | .er _ => False
  | fl => T fl G C
noncomputable def wfD (kd : DW) (tg : FG) (body : FS) (r : El) (G : Gs) (C1 : Cs) (T : Fl → Gs → Cs → Prop) : Prop := wps (match r with
  | .v (.dk l) => noEr (loopF tg body (fun _ => True) (dwE kd (l.map fun p => (p.1, El.v p.2))) G C1)
  | .at n => match C1[n]? with
    | some (some (.dk none l)) => allH fun ho => unlk n l ho (loopF tg body (fun C' => isLk C' n l ho) (dwE kd l) G (C1.set n (some (.dk (some ho) l))))
    | some (some (.dk (some ho) l)) => noEr (loopF tg body (fun C' => isLk C' n l ho) (dwE kd l) G C1)
    | _ => none
  | _ => none) T
theorem ws_forD : wps (sForD kd tg fe body (g :: G) C) T = wp (fe (g :: G) C) (fun r C1 => wfD kd tg body r (g :: G) C1 T) (fun x C => T (.er x) (g :: G) C) := by
  unfold sForD wfD
  simp only [ws_bind]
  all_goals rfl
theorem ws_noEr {o : Option (Fl × Gs × Cs)} : wps (noEr o) T = wps o (noX T) := by
  rcases o with _ | ⟨_ | _ | _ | _ | _, _, _⟩ <;> rfl
theorem wfD_v {l : List (Key × D)} : wfD kd tg body (.v (.dk l)) G C T = wl tg body (fun _ => True) (dwE kd (l.map fun p => (p.1, El.v p.2))) G C (noX T) := ws_noEr
theorem wfD_at (fl0 : Fl) (G0 : Gs) (C0 : Cs) (hx : ∀ x, fl0 ≠ .er x) (hC : C[n]? = some (some (.dk none l))) (h0 : C0[n]? = some (some (.dk none l)))
    (h : ∀ ho, wl tg body (fun C' => isLk C' n l ho) (dwE kd l) G (C.set n (some (.dk (some ho) l))) (fun fl G' C' => fl = fl0 ∧ G' = G0 ∧ C' = C0.set n (some (.dk (some ho) l)))) (hq : T fl0 G0 C0) : wfD kd tg body (.at n) G C T := by
  unfold wfD
  dsimp only
  rw [hC]
  dsimp only
  rw [allH_of (r := (fl0, G0, C0)) fun ho => ?_]
  · exact hq
  · have h1 := h ho
    unfold wl at h1
    rcases e : loopF tg body (fun C' => isLk C' n l ho) (dwE kd l) G (C.set n (some (.dk (some ho) l))) with _ | ⟨fl, G2, C2⟩
    · rw [e] at h1; exact h1.elim
    · rw [e] at h1
      obtain ⟨h2, h3, h4⟩ := h1
      subst h2 h3 h4
      unfold unlk
      cases fl with
      | er x => exact absurd rfl (hx x)
      | nx => dsimp only; rw [if_pos (isLk_set h0), unl_set h0]
      | rt r => dsimp only; rw [if_pos (isLk_set h0), unl_set h0]
      | bk => dsimp only; rw [if_pos (isLk_set h0), unl_set h0]
      | ct => dsimp only; rw [if_pos (isLk_set h0), unl_set h0]
theorem noX_nx : noX T .nx G C = T .nx G C := id rfl
theorem noX_rt {r : El} : noX T (.rt r) G C = T (.rt r) G C := id rfl
theorem noX_bk : noX T .bk G C = T .bk G C := id rfl
theorem noX_ct : noX T .ct G C = T .ct G C := id rfl
/-- a search: nothing changes but the loop's name -/
def srchF {α : Type} (p : α → Option El) : List α → Fl
  | [] => .nx
  | a :: xs => match p a with
    | some r => .rt r
    | none => srchF p xs
def srchG {α : Type} (p : α → Option El) : Option α → List α → Option α
  | o, [] => o
  | _, a :: xs => match p a with
    | some _ => some a
    | none => srchG p (some a) xs
theorem wl_search {α : Type} {w : Cs → Prop} (e : α → El) (gs : Option α → Gs) (p : α → Option El) (hw : w C) (xs : List α) (o : Option α)
    (h : ∀ o a, a ∈ xs → wo (tg (e a) (gs o) C) fun G1 => wps (body G1 C) (fun fl G2 C2 => G2 = gs (some a) ∧ C2 = C ∧ fl = match p a with | some r => .rt r | none => .nx))
    (hq : T (srchF p xs) (gs (srchG p o xs)) C) : wl tg body w (xs.map e) (gs o) C T := by
  induction xs generalizing o with
  | nil =>
    rw [List.map_nil, wl_nil]
    exact ⟨hw, hq⟩
  | cons a xs ih =>
    rw [List.map_cons, wl_cons]
    refine ⟨hw, ?_⟩
    have h1 := h o a List.mem_cons_self
    cases e1 : tg (e a) (gs o) C with
    | none => rw [e1] at h1; exact h1.elim
    | some G1 =>
      rw [e1, wo_some] at h1
      rw [wo_some]
      refine wps_mono h1 fun fl G2 C2 ⟨h2, h3, h4⟩ => ?_
      subst h2 h3
      unfold srchF srchG at hq
      cases e2 : p a with
      | none =>
        rw [e2] at h4 hq
        subst h4
        exact ih (some a) (fun o b hb => h o b (List.mem_cons_of_mem _ hb)) hq
      | some r =>
        rw [e2] at h4 hq
        subst h4
        exact hq
/-! ### new things, the caller's cells -/
noncomputable def endT (k : TK) (C : Cs) (Q : El → Cs → Prop) (E : Exn → Cs → Prop) : Fl → Gs → Cs → Prop := fun fl G C1 => wp (closeT k C (some (fl, G, C1))) Q E
theorem w_openT {k : TK} {np m : Nat} {fb : FS} {rs : List El} (h : rs.length = np) (hG : rs.map some ++ List.replicate (m - np) none = G) : wp (mkFnT k np m fb rs C) Q E = wps (fb G C) (endT k C Q E) := by
  subst hG
  unfold mkFnT
  rw [if_pos h]
  rcases fb _ C with _ | ⟨fl, G1, C1⟩
  · rfl
  · rfl
theorem closedEs_map {k : Nat} {l : List D} : closedEs k (l.map El.v) = true := cl_map
theorem t_er {k : TK} {L : Cs} {z : Exn} : endT k C Q E (.er z) G (C ++ L) = E z C := by
  unfold endT closeT
  dsimp only
  rw [if_pos okDrop_app, take_app]
  rfl
theorem t_er0 {k : TK} {z : Exn} : endT k C Q E (.er z) G C = E z C := by have := t_er (C := C) (L := []) (Q := Q) (E := E) (G := G) (k := k) (z := z); rwa [List.append_nil] at this
theorem t_l1 {L : Cs} {j : Nat} {l : List D} (h : L[j]? = some (some (.lst (l.map El.v)))) : endT .l1 C Q E (.rt (.at (C.length + j))) G (C ++ L) = Q (.at C.length) (pu C (l.map El.v)) := by
  unfold endT closeT selT
  dsimp only
  rw [c_get, h]
  dsimp only
  rw [if_pos closedEs_map]
  dsimp only
  rw [if_pos ⟨okDrop_app, by simp, by simp⟩, take_app]
  rfl
theorem t_l1' {L : Cs} {l : List D} (h : L[0]? = some (some (.lst (l.map El.v)))) : endT .l1 C Q E (.rt (.at C.length)) G (C ++ L) = Q (.at C.length) (pu C (l.map El.v)) := t_l1 (j := 0) h
theorem rowOf_at {L : Cs} {j : Nat} {l : List D} (h : L[j]? = some (some (.lst (l.map El.v)))) : rowOf (C ++ L) (.at (C.length + j)) = some (C.length + j, l.map El.v) := by
  unfold rowOf
  dsimp only
  rw [c_get, h]
  dsimp only
  rw [if_pos closedEs_map]
theorem rows_mapM {L : Cs} : ∀ {ix : List Nat} {rows : List (List D)}, All2 (fun j r => L[j]? = some (some (Ob.lst (r.map El.v)))) ix rows → ∃ rs : List (Nat × List El), (ix.map fun j => El.at (C.length + j)).mapM (rowOf (C ++ L)) = some rs ∧ rs.map (·.1) = ix.map (C.length + ·) ∧ (rs.map fun r => Ob.lst r.2) = rows.map fun r => Ob.lst (r.map El.v)
  | _, _, .nil => ⟨[], rfl, rfl, rfl⟩
  | j :: ix, r :: rows, .cons h t => by
    obtain ⟨rs, e1, e2, e3⟩ := rows_mapM t
    refine ⟨(C.length + j, r.map El.v) :: rs, ?_, ?_, ?_⟩
    · rw [List.map_cons, List.mapM_cons, rowOf_at h, e1]
      rfl
    · rw [List.map_cons, e2]
      rfl
    · rw [List.map_cons, e3]
      rfl
/-- the cells of a new table -/
def tabC (C : Cs) (rows : List (List D)) : Cs := C ++ some (Ob.lst (rowsAt C.length rows.length)) :: rows.map fun r => some (Ob.lst (r.map El.v))
theorem t_l2 {L : Cs} {j : Nat} {ix : List Nat} {rows : List (List D)} (h : L[j]? = some (some (.lst (ix.map fun j => El.at (C.length + j))))) (ha : All2 (fun j r => L[j]? = some (some (Ob.lst (r.map El.v)))) ix rows) (nd : (j :: ix).Nodup) :
    endT .l2 C Q E (.rt (.at (C.length + j))) G (C ++ L) = Q (.at C.length) (tabC C rows) := by
  obtain ⟨rs, e1, e2, e3⟩ := rows_mapM (C := C) ha
  have hl : rs.length = rows.length := by
    have := congrArg List.length e3
    simpa using this
  unfold endT closeT selT
  dsimp only
  rw [c_get, h]
  dsimp only
  rw [e1]
  dsimp only
  have nd' : ((C.length + j) :: rs.map (·.1)).Nodup := by
    rw [e2]
    have : (C.length + j) :: ix.map (C.length + ·) = (j :: ix).map (C.length + ·) := rfl
    rw [this]
    exact List.pairwise_map.mpr (List.Pairwise.imp (fun h e => h (by omega)) nd)
  rw [if_pos ⟨okDrop_app, by rw [e2]; simp, nd'⟩, take_app, hl, e3]
  unfold tabC
  rw [List.map_cons, List.map_map]
  rfl
/-- the cells of a new dict of rows -/
def tabD (C : Cs) (ks : List Key) (rows : List (List D)) : Cs := C ++ some (Ob.dk none (rowsK C.length ks)) :: rows.map fun r => some (Ob.lst (r.map El.v))
/-! ### frozen -/
theorem frz_of {m : Fn} {rs : List El} {r r' : El} {L : Cs} (h : m rs C = some (.ok r, C ++ L)) (hc : closeV C.length (C ++ L) r = some r') : frz m rs C = some (.ok r', C) := by
  unfold frz
  rw [h]
  dsimp only
  rw [if_pos okDrop_app, hc]
  dsimp only
  rw [take_app]
theorem frz_l1 {m : Fn} {rs : List El} {l : List D} (h : m rs C = some (.ok (.at C.length), pu C (l.map El.v))) : frz m rs C = some (.ok (.v (.lst l)), C) := frz_of h z_lst
end
end R
namespace R
open PySem L2
section
variable {C : Cs} {i j : Int} {a b : Str} {x y : El} {n : Nat} {q : El × Cs → Prop} {qb : Bool → Prop} {qe : El → Prop} {qc : Cs → Prop} {Q : El → Cs → Prop} {E : Exn → Cs → Prop} {g : Option El} {G : Gs} {T : Fl → Gs → Cs → Prop}
theorem wo_if {α : Type} {p : Prop} [Decidable p] {o : Option α} {Q : α → Prop} : wo (if p then o else none) Q = (p ∧ wo o Q) := by
  by_cases h : p
  · rw [if_pos h]; simp [h]
  · rw [if_neg h]; exact (eq_false fun z => h z.1).symm
/-! ### methods of lists -/
theorem cellL_at : cellL C (.at n) = (C[n]?).bind fun o => o.bind fun o => (obL o).map fun l => (n, l) := by
  unfold cellL
  dsimp only
  rcases C[n]? with _ | _ | o
  · rfl
  · rfl
  · cases o <;> rfl
theorem ty_at : tyOk "list" C (.at n) = ((C[n]?).bind fun o => o.bind obL).isSome := by
  unfold tyOk
  rw [if_pos rfl, v_Sat]
theorem ty_lst {l : List D} : tyOk "list" C (.v (.lst l)) = true := rfl
theorem ty_str : tyOk "str" C (.v (.str a)) = true := by
  unfold tyOk
  rw [if_neg (by decide), if_pos rfl]
theorem m_app : wo (mAppend (.at n) [y] C) q = wo ((C[n]?).bind fun o => o.bind obL) fun l => l.length < sizeLine ∧ q (.v .non, C.set n (some (.lst (l ++ [y])))) := by
  unfold mAppend
  rw [cellL_at]
  rcases C[n]? with _ | _ | o
  · rfl
  · rfl
  · cases o with
    | lst l =>
      exact wo_if
    | dk _ _ => rfl
    | dt _ _ => rfl
    | ins _ _ => rfl
    | tab _ _ => rfl
theorem m_ext : wo (mExtend (.at n) [y] C) q = wo ((C[n]?).bind fun o => o.bind obL) fun l => wo (viewL C y) fun m => l.length + m.length ≤ sizeLine ∧ q (.v .non, C.set n (some (.lst (l ++ m)))) := by
  unfold mExtend
  rw [cellL_at]
  rcases C[n]? with _ | _ | o
  · rfl
  · rfl
  · cases o with
    | lst l =>
      dsimp only [Option.bind_some, obL, Option.map_some]
      cases viewL C y with
      | none => rfl
      | some m => exact wo_if
    | dk _ _ => rfl
    | dt _ _ => rfl
    | ins _ _ => rfl
    | tab _ _ => rfl
theorem m_pop : wo (mPop (.at n) [] C) q = wo ((C[n]?).bind fun o => o.bind obL) fun l => wo (l[l.length - 1]?) fun y => q (y, C.set n (some (.lst l.dropLast))) := by
  unfold mPop
  rw [cellL_at]
  rcases C[n]? with _ | _ | o
  · rfl
  · rfl
  · cases o with
    | lst l =>
      dsimp only [Option.bind_some, obL, Option.map_some]
      cases e : l[l.length - 1]? <;> simp only [wo, e]
    | dk _ _ => rfl
    | dt _ _ => rfl
    | ins _ _ => rfl
    | tab _ _ => rfl
theorem m_clear : wo (mClear (.at n) [] C) q = wo ((C[n]?).bind fun o => o.bind obL) fun l => q (.v .non, C.set n (some (.lst []))) := by
  unfold mClear
  rw [cellL_at]
  rcases C[n]? with _ | _ | o
  · rfl
  · rfl
  · cases o <;> rfl
theorem m_popI : wo (mPop (.at n) [.v (.int i)] C) q = wo ((C[n]?).bind fun o => o.bind obL) fun l => (-(2 ^ 63) ≤ i ∧ i < 2 ^ 63) ∧ wo (seqIndex? i l.length) fun k => wo (l[k]?) fun y => q (y, C.set n (some (.lst (l.eraseIdx k)))) := by
  unfold mPop
  rw [cellL_at]
  rcases C[n]? with _ | _ | o
  · rfl
  · rfl
  · cases o with
    | lst l =>
      dsimp only [Option.bind_some, obL, Option.map_some]
      rw [wo_if]
      congr 1
      cases seqIndex? i l.length with
      | none => rfl
      | some k =>
        dsimp only
        cases e : l[k]? <;> simp only [wo, e]
    | dk _ _ => rfl
    | dt _ _ => rfl
    | ins _ _ => rfl
    | tab _ _ => rfl
/-! ### pop of a list or a dict -/
def obK : Ob → Option (List (Key × El))
  | .dk none l => some l
  | _ => none
theorem obK_dk {l : List (Key × El)} : obK (.dk none l) = some l := rfl
theorem cellK_at : cellK C (.at n) = (C[n]?).bind fun o => o.bind fun o => (obK o).map fun l => (n, l) := by
  unfold cellK
  dsimp only
  rcases C[n]? with _ | _ | o
  · rfl
  · rfl
  · rcases o with l | ⟨_ | lk, l⟩ | ⟨_ | lk, l⟩ | _ | _ <;> rfl
end
section
variable {C : Cs} {i j : Int} {a b : Str} {x y : El} {n : Nat} {q : El × Cs → Prop} {qb : Bool → Prop} {qe : El → Prop} {qc : Cs → Prop} {Q : El → Cs → Prop} {E : Exn → Cs → Prop} {g : Option El} {G : Gs} {T : Fl → Gs → Cs → Prop}
def popW (fe : FE) (G : Gs) (x : El) (C : Cs) (Q : El → Cs → Prop) (E : Exn → Cs → Prop) : Prop := wp (match cellK C x with
  | some (n, _) => (fe G C).bind fun y C => match cellK C x, keyE y with
    | some (n, l), some k => match val l k with
      | some r => some (.ok r, C.set n (some (.dk none (dropKE l k))))
      | none => none
    | _, _ => none
  | none => if tyOk "list" C x = true then (fe G C).bind fun y C => (mPop x [y] C).map fun r => (.ok r.1, r.2) else none) Q E
theorem w_pop1 {fo fe : FE} : wp (ePop1 fo fe (g :: G) C) Q E = wp (fo (g :: G) C) (fun x C1 => popW fe (g :: G) x C1 Q E) E := by
  unfold ePop1 popW
  simp only [w_bind]
  all_goals rfl
def popO (fe : FE) (G : Gs) (n : Nat) (C : Cs) (Q : El → Cs → Prop) (E : Exn → Cs → Prop) : Ob → Prop
  | .lst _ => wp (fe G C) (fun y C2 => wo (mPop (.at n) [y] C2) fun r => Q r.1 r.2) E
  | .dk none _ => wp (fe G C) (fun y C2 => wo (keyE y) fun k => wo ((C2[n]?).bind fun o => o.bind obK) fun l => wo (val l k) fun r => Q r (C2.set n (some (.dk none (dropKE l k))))) E
  | _ => False
theorem popW_at {fe : FE} {G : Gs} : popW fe G (.at n) C Q E = wo ((C[n]?).bind id) (popO fe G n C Q E) := by
  unfold popW
  rw [cellK_at, ty_at]
  rcases e : C[n]? with _ | _ | o
  · rfl
  · rfl
  · rcases o with l | ⟨_ | lk, l⟩ | ⟨_ | lk, l⟩ | _ | _
    · show wp ((fe G C).bind fun y C => (mPop (.at n) [y] C).map fun r => (.ok r.1, r.2)) Q E = wp (fe G C) (fun y C2 => wo (mPop (.at n) [y] C2) fun r => Q r.1 r.2) E
      simp only [w_bind, w_map, w_ok]
    · show wp ((fe G C).bind fun y C => _) Q E = wp (fe G C) _ E
      rw [w_bind]
      congr 1
      funext y C2
      rw [cellK_at]
      rcases C2[n]? with _ | _ | o2
      · cases keyE y <;> rfl
      · cases keyE y <;> rfl
      · rcases o2 with l | ⟨_ | lk, l⟩ | ⟨_ | lk, l⟩ | _ | _
        · cases keyE y <;> rfl
        · dsimp only [Option.bind_some, obK, Option.map_some]
          cases keyE y with
          | none => rfl
          | some k =>
            dsimp only [wo]
            cases val l k <;> rfl
        · cases keyE y <;> rfl
        · cases keyE y <;> rfl
        · cases keyE y <;> rfl
        · cases keyE y <;> rfl
        · cases keyE y <;> rfl
    · rfl
    · rfl
    · rfl
    · rfl
    · rfl
theorem popO_lst {fe : FE} {G : Gs} {l : List El} : popO fe G n C Q E (.lst l) = wp (fe G C) (fun y C2 => wo (mPop (.at n) [y] C2) fun r => Q r.1 r.2) E := rfl
theorem popO_dk {fe : FE} {G : Gs} {l : List (Key × El)} : popO fe G n C Q E (.dk none l) = wp (fe G C) (fun y C2 => wo (keyE y) fun k => wo ((C2[n]?).bind fun o => o.bind obK) fun l => wo (val l k) fun r => Q r (C2.set n (some (.dk none (dropKE l k))))) E := rfl
theorem keyE_i : keyE (.v (.int i)) = some (.inl i) := rfl
theorem keyE_s : keyE (.v (.str a)) = some (.inr a) := rfl
/-! ### x[i] = y -/
def putOb (i y : El) : Ob → Option Ob
  | .dk none l => match keyE i with
    | some k => if l.length < sizeLine then some (.dk none (putKE l k y)) else none
    | none => none
  | .dt none l => match keyT i with
    | some k => if l.length < sizeLine then some (.dt none (putKE l k y)) else none
    | none => none
  | .lst l => match i with
    | .v (.int m) => (ixN l.length m).map fun j => .lst (l.set j y)
    | _ => none
  | _ => none
theorem put_at {i : El} : wo (oPut C (.at n) i y) qc = wo ((C[n]?).bind fun o => o.bind (putOb i y)) fun o => qc (C.set n (some o)) := by
  unfold oPut
  dsimp only
  rcases C[n]? with _ | _ | o
  · rfl
  · rfl
  · rcases o with l | ⟨_ | lk, l⟩ | ⟨_ | lk, l⟩ | _ | _
    · dsimp only [Option.bind_some, putOb]
      rcases i with d | m | l2
      · cases d with
        | int m =>
          dsimp only
          cases ixN l.length m <;> rfl
        | _ => rfl
      · rfl
      · rfl
    · dsimp only [Option.bind_some, putOb]
      cases keyE i with
      | none => rfl
      | some k =>
        dsimp only
        split <;> rfl
    · rfl
    · dsimp only [Option.bind_some, putOb]
      cases keyT i with
      | none => rfl
      | some k =>
        dsimp only
        split <;> rfl
    · rfl
    · rfl
    · rfl
theorem putOb_i {l : List (Key × El)} {qo : Ob → Prop} : wo (putOb (.v (.int i)) y (.dk none l)) qo = (l.length < sizeLine ∧ qo (.dk none (putKE l (.inl i) y))) := by
  unfold putOb
  dsimp only [keyE]
  split
  · simp_all [wo]
  · rename_i h; exact (eq_false fun z => h z.1).symm
theorem putOb_s {l : List (Key × El)} {qo : Ob → Prop} : wo (putOb (.v (.str a)) y (.dk none l)) qo = (l.length < sizeLine ∧ qo (.dk none (putKE l (.inr a) y))) := by
  unfold putOb
  dsimp only [keyE]
  split
  · simp_all [wo]
  · rename_i h; exact (eq_false fun z => h z.1).symm
theorem putOb_t {d : List D} {l : List (List Key × El)} {qo : Ob → Prop} : wo (putOb (.v (.tup d)) y (.dt none l)) qo = wo (keysD d) fun k => l.length < sizeLine ∧ qo (.dt none (putKE l k y)) := by
  unfold putOb
  dsimp only [keyT]
  cases keysD d with
  | none => rfl
  | some k =>
    exact wo_if
theorem putOb_l {l : List El} {qo : Ob → Prop} : wo (putOb (.v (.int i)) y (.lst l)) qo = wo (ixN l.length i) fun j => qo (.lst (l.set j y)) := by
  show wo ((ixN l.length i).map _) qo = _
  rw [wo_map]
/-! ### dicts by their entries -/
section
variable {κ : Type} [DecidableEq κ] {k k' : κ} {l : List (κ × El)}
theorem val_nil {α : Type} : val ([] : List (κ × α)) k = none := rfl
theorem val_cons {α : Type} {v : α} {l : List (κ × α)} : val ((k', v) :: l) k = if k' = k then some v else val l k := by
  unfold val
  rw [List.find?_cons]
  by_cases h : k' = k
  · simp [h]
  · simp [h]
theorem val_map {α β : Type} {f : α → β} {l : List (κ × α)} : val (l.map fun p => (p.1, f p.2)) k = (val l k).map f := by
  induction l with
  | nil => rfl
  | cons p l ih =>
    obtain ⟨k', v⟩ := p
    rw [List.map_cons, val_cons, val_cons, ih]
    split <;> rfl
theorem val_none {α : Type} {l : List (κ × α)} : val l k = none ↔ k ∉ l.map (·.1) := by
  induction l with
  | nil => simp [val_nil]
  | cons p l ih =>
    obtain ⟨k', v⟩ := p
    rw [val_cons]
    by_cases h : k' = k
    · simp [h]
    · rw [if_neg h, ih]
      simp [Ne.symm h]
theorem val_some {α : Type} {l : List (κ × α)} {v : α} (h : val l k = some v) : (k, v) ∈ l := by
  induction l with
  | nil => cases h
  | cons p l ih =>
    obtain ⟨k', v'⟩ := p
    rw [val_cons] at h
    by_cases e : k' = k
    · rw [if_pos e] at h
      cases h
      subst e
      exact List.mem_cons_self
    · rw [if_neg e] at h
      exact List.mem_cons_of_mem _ (ih h)
theorem val_mem {α : Type} {l : List (κ × α)} {v : α} (hn : (l.map (·.1)).Nodup) (h : (k, v) ∈ l) : val l k = some v := by
  induction l with
  | nil => cases h
  | cons p l ih =>
    obtain ⟨k', v'⟩ := p
    rw [List.map_cons, List.nodup_cons] at hn
    rw [val_cons]
    rcases List.mem_cons.mp h with z | z
    · cases z
      rw [if_pos rfl]
    · rw [if_neg fun e => hn.1 (by rw [e]; exact List.mem_map_of_mem (f := (·.1)) z), ih hn.2 z]
theorem val_isSome {α : Type} {l : List (κ × α)} : (val l k).isSome = decide (k ∈ l.map (·.1)) := by
  cases e : val l k with
  | none => simp [val_none.mp e]
  | some v => simp only [Option.isSome_some]; exact (decide_eq_true (List.mem_map_of_mem (f := (·.1)) (val_some e))).symm
theorem put_new {y : El} (h : k ∉ l.map (·.1)) : putKE l k y = l ++ [(k, y)] := by
  unfold putKE
  rw [if_neg]
  rw [List.any_eq_true]
  rintro ⟨p, hp, e⟩
  exact h (by rw [← of_decide_eq_true e]; exact List.mem_map_of_mem hp)
end
/-! ### in -/
theorem b_in : wo (bIn x y C) qb = wo (bIn0 C x y) qb := rfl
theorem b_nin : wo (bNotIn x y C) qb = wo (bIn0 C x y) fun c => qb (!c) := wo_map
theorem in_dk {lk : Option HO} {l : List (Key × El)} {k : Key} (h : C[n]? = some (some (.dk lk l))) (hk : keyE x = some k) : bIn0 C x (.at n) = some (val l k).isSome := by
  unfold bIn0 viewK
  dsimp only
  rw [h, hk]
theorem in_dkD {l : List (Key × D)} {k : Key} (hk : keyE x = some k) : bIn0 C x (.v (.dk l)) = some (val l k).isSome := by
  unfold bIn0 viewK
  dsimp only
  rw [hk]
  dsimp only
  rw [val_map]
  cases val l k <;> rfl
theorem in_dkD_i {l : List (Key × D)} : bIn0 C (.v (.int i)) (.v (.dk l)) = some (val l (.inl i)).isSome := in_dkD rfl
theorem in_dkD_s {l : List (Key × D)} : bIn0 C (.v (.str a)) (.v (.dk l)) = some (val l (.inr a)).isSome := in_dkD rfl
theorem flE_ints {ns : List Int} : (ns.map fun i => El.v (.int i)).mapM flE = some (ns.map V.int) := by
  induction ns with
  | nil => rfl
  | cons n ns ih => rw [List.map_cons, List.mapM_cons, ih]; rfl
theorem flE_strs {ns : List Str} : (ns.map fun i => El.v (.str i)).mapM flE = some (ns.map V.str) := by
  induction ns with
  | nil => rfl
  | cons n ns ih => rw [List.map_cons, List.mapM_cons, ih]; rfl
theorem inV_ints {ns : List Int} : (ns.map V.int).all flatV = true ∧ inV (.int i) (ns.map V.int) = decide (i ∈ ns) := by
  induction ns with
  | nil => exact ⟨rfl, rfl⟩
  | cons n ns ih =>
    refine ⟨?_, ?_⟩
    · rw [List.map_cons, List.all_cons, ih.1]
      rfl
    · have e : inV (.int i) (V.int n :: ns.map V.int) = (eqV (.int n) (.int i) || inV (.int i) (ns.map V.int)) := rfl
      rw [List.map_cons, e, ih.2]
      show ((n == i) || _) = _
      by_cases h : n = i
      · simp [h]
      · have : (n == i) = false := by simpa using h
        rw [this]
        simp [Ne.symm h]
theorem inV_strs {ns : List Str} : (ns.map V.str).all flatV = true ∧ inV (.str a) (ns.map V.str) = decide (a ∈ ns) := by
  induction ns with
  | nil => exact ⟨rfl, rfl⟩
  | cons n ns ih =>
    refine ⟨?_, ?_⟩
    · rw [List.map_cons, List.all_cons, ih.1]
      rfl
    · have e : inV (.str a) (V.str n :: ns.map V.str) = (eqV (.str n) (.str a) || inV (.str a) (ns.map V.str)) := rfl
      rw [List.map_cons, e, ih.2]
      show ((n == a) || _) = _
      by_cases h : n = a
      · simp [h]
      · have : (n == a) = false := by simpa using h
        rw [this]
        simp [Ne.symm h]
theorem in_seqI {ns : List Int} (h : viewS C y = some (ns.map fun i => El.v (.int i))) (hk : viewK C y = none) (ht : viewTK C y = none) : bIn0 C (.v (.int i)) y = some (decide (i ∈ ns)) := by
  have := inV_ints (i := i) (ns := ns)
  unfold bIn0
  rw [hk, ht]
  simp only [h, keyE, keyT, flE_ints, flE, flat]
  rw [if_pos ⟨rfl, this.1⟩, this.2]
theorem in_seqS {ns : List Str} (h : viewS C y = some (ns.map fun i => El.v (.str i))) (hk : viewK C y = none) (ht : viewTK C y = none) (hs : ∀ s, y ≠ .v (.str s)) : bIn0 C (.v (.str a)) y = some (decide (a ∈ ns)) := by
  have := inV_strs (a := a) (ns := ns)
  unfold bIn0
  rw [hk, ht]
  simp only [h, keyE, keyT, flE_strs, flE, flat]
  split
  · rename_i s e1 e2; exact absurd rfl (hs _)
  · rw [if_pos ⟨rfl, this.1⟩, this.2]
theorem map_map_i {ns : List Int} : (ns.map D.int).map El.v = ns.map fun i => El.v (.int i) := by rw [List.map_map]; rfl
theorem map_map_s {ns : List Str} : (ns.map D.str).map El.v = ns.map fun i => El.v (.str i) := by rw [List.map_map]; rfl
theorem in_lstI {ns : List Int} : bIn0 C (.v (.int i)) (.v (.lst (ns.map D.int))) = some (decide (i ∈ ns)) := in_seqI (by rw [← map_map_i]; rfl) rfl rfl
theorem in_lstS {ns : List Str} : bIn0 C (.v (.str a)) (.v (.lst (ns.map D.str))) = some (decide (a ∈ ns)) := in_seqS (by rw [← map_map_s]; rfl) rfl rfl (fun s z => by cases z)
theorem in_sgn {z : Str} {c : Nat} (h : a.cps.toList = [c]) : bIn0 C (.v (.str a)) (.v (.str z)) = some (decide (c ∈ z.cps.toList)) := by
  unfold bIn0
  have e1 : viewK C (.v (.str z)) = none := rfl
  have e2 : viewTK C (.v (.str z)) = none := rfl
  rw [e1, e2]
  dsimp only
  rw [h]
/-! ### slices, list(..), sorted(..) -/
theorem cut_L {l : List D} {lo hi : Option Int} : wo (oCut false C (.v (.lst l)) lo hi) q = q (.v (.lst (cutL l lo hi)), C) := by
  unfold oCut
  rw [v_S]
  dsimp only
  rw [if_neg (by decide)]
  have : cutL (l.map El.v) lo hi = (cutL l lo hi).map El.v := by
    unfold cutL
    rw [List.length_map, List.map_take, List.map_drop]
  rw [this, unV_map]
  rfl
theorem cut_Sc {ns : List Int} {lo hi : Option Int} : wo (oCut false C (.v (.scr ns)) lo hi) q = q (.v (.lst ((cutL ns lo hi).map D.int)), C) := by
  unfold oCut
  rw [v_Sc]
  dsimp only
  rw [if_neg (by decide)]
  have : cutL (ns.map fun i => El.v (.int i)) lo hi = ((cutL ns lo hi).map D.int).map El.v := by
    unfold cutL
    rw [List.length_map, map_map_i, List.map_take, List.map_drop]
  rw [this, unV_map]
  rfl
theorem cut_S {lo hi : Option Int} {o : Bool} : wo (oCut o C (.v (.str a)) lo hi) q = (a.length ≤ sizeLine ∧ q (.v (.str (cutS a lo hi)), C)) := by
  have e : viewS C (.v (.str a)) = none := rfl
  unfold oCut
  rw [e]
  dsimp only
  split
  · simp_all [wo]
  · rename_i h; exact (eq_false fun z => h z.1).symm
theorem sIx_nat {n d : Nat} {i : Int} (h : 0 ≤ i) : HT.sIx n d (some i) = min i.toNat n := by
  have e : i = ((i.toNat : Nat) : Int) := by omega
  rw [e, HT.sIx_nat, ← e]
theorem cutL_mid {α : Type} {l : List α} {i j : Int} (h : 0 ≤ i) (hj : i ≤ j) : cutL l (some i) (some j) = (l.drop i.toNat).take (j - i).toNat := by
  unfold cutL
  rw [sIx_nat h, sIx_nat (by omega)]
  by_cases c : i.toNat ≤ l.length
  · rw [Nat.min_eq_left c]
    by_cases c2 : j.toNat ≤ l.length
    · rw [Nat.min_eq_left c2]
      congr 1
      omega
    · rw [Nat.min_eq_right (by omega), List.take_of_length_le (by rw [List.length_drop]; exact Nat.le_refl _), List.take_of_length_le (by rw [List.length_drop]; omega)]
  · have e1 : l.drop (min i.toNat l.length) = [] := List.drop_eq_nil_of_le (by omega)
    have e2 : l.drop i.toNat = [] := List.drop_eq_nil_of_le (by omega)
    rw [e1, e2]
    simp
theorem f_listS {o : Bool} {l : List El} (h : viewS C x = some l) : fList o [x] C = newL o l C := by
  unfold fList
  dsimp only
  rw [h]
theorem f_listL {l : List D} : wo (fList false [.v (.lst l)] C) q = q (.v (.lst l), C) := by
  rw [f_listS v_S]
  unfold newL
  rw [if_neg (by decide), unV_map]
  rfl
theorem f_listLC {l : List D} : wo (fList true [.v (.lst l)] C) q = q (.at C.length, C ++ [some (.lst (l.map El.v))]) := by
  rw [f_listS v_S]
  rfl
theorem f_listK {o : Bool} {lk : Option HO} {l : List (Key × El)} (h : C[n]? = some (some (.dk lk l))) : fList o [.at n] C = newL o (l.map fun p => kEl p.1) C := by
  unfold fList viewS viewL viewT viewK
  dsimp only
  rw [h]
theorem newL_f {l : List D} : wo (newL false (l.map El.v) C) q = q (.v (.lst l), C) := by
  unfold newL
  rw [if_neg (by decide), unV_map]
  rfl
theorem newL_o {l : List El} : wo (newL true l C) q = q (.at C.length, C ++ [some (.lst l)]) := rfl
theorem f_tup {l : List D} : wo (fTuple [.v (.lst l)] C) q = q (.v (.tup l), C) := by
  show q (mkTup (l.map El.v), C) = _
  unfold mkTup
  rw [unV_map]
theorem f_sortL {ns : List Int} : wo (fSorted false [.v (.lst (ns.map D.int))] C) q = q (.v (.lst ((sortI ns).map D.int)), C) := by
  unfold fSorted
  dsimp only
  rw [v_S]
  dsimp only
  rw [intsE_mapD]
  dsimp only
  rw [← map_map_i]
  exact newL_f
theorem intKeys_map {α : Type} {f : α → Int} {g : α → El} {l : List α} : intKeys (l.map fun x => (.inl (f x), g x)) = some (l.map f) := by
  induction l with
  | nil => rfl
  | cons x l ih =>
    rw [List.map_cons, intKeys, ih]
    rfl
theorem f_sortK {lk : Option HO} {l : List (Key × El)} {ns : List Int} (h : C[n]? = some (some (.dk lk l))) (hk : intKeys l = some ns) (h64 : ns.length < 64) : wo (fSorted false [.at n] C) q = q (.v (.lst ((sortI ns).map D.int)), C) := by
  unfold fSorted viewS viewL viewK
  dsimp only
  rw [h]
  dsimp only
  rw [hk]
  dsimp only
  rw [if_pos h64, ← map_map_i]
  exact newL_f
/-! ### isinstance of cells -/
def tyOb : Ob → Option String
  | .lst _ => some "list"
  | .dk none _ => some "dict"
  | .dt none _ => some "dict"
  | _ => none
theorem tyE_at : tyE C (.at n) = (C[n]?).bind fun o => o.bind tyOb := by
  unfold tyE
  dsimp only
  rcases C[n]? with _ | _ | o
  · rfl
  · rfl
  · rcases o with l | ⟨_ | lk, l⟩ | ⟨_ | lk, l⟩ | _ | _ <;> rfl
theorem tyOb_lst {l : List El} : tyOb (.lst l) = some "list" := rfl
theorem tyOb_dk {l : List (Key × El)} : tyOb (.dk none l) = some "dict" := rfl
theorem f_isA {t2 : String} : wo (fIsB [.at n, .v (.ty t2)] C) q = wo ((C[n]?).bind fun o => o.bind tyOb) fun t => wo (kitB t t2) fun k => q (.v (.bl k), C) := by
  unfold fIsB
  dsimp only
  rw [tyE_at]
  cases (C[n]?).bind fun o => o.bind tyOb with
  | none => rfl
  | some t => exact wo_map
theorem f_isTp {t2 : String} {l : List El} : wo (fIsB [.tp l, .v (.ty t2)] C) q = wo (kitB "tuple" t2) fun k => q (.v (.bl k), C) := f_isB rfl
theorem f_isS {t2 : String} : wo (fIsB [.v (.str a), .v (.ty t2)] C) q = wo (kitB "str" t2) fun k => q (.v (.bl k), C) := f_isB rfl
/-! ### == of data -/
mutual
def okD : D → Nat → Bool
  | .non, _ => true
  | .bl _, _ => true
  | .int _, _ => true
  | .str s, _ => PyData.strOk s
  | .lst l, k + 1 => okDs l k
  | .tup l, k + 1 => okDs l k
  | _, _ => false
def okDs : List D → Nat → Bool
  | [], _ => true
  | d :: l, k => okD d k && okDs l k
end
mutual
theorem okD_pd : ∀ {d : D} {k : Nat}, okD d k = true → ∃ p, pdD d = some p ∧ p.canLay0 = true ∧ p.depth ≤ k
  | .non, k, _ => ⟨_, rfl, by simp [PyData.canLay0], by simp [PyData.depth]⟩
  | .bl _, k, _ => ⟨_, rfl, by simp [PyData.canLay0], by simp [PyData.depth]⟩
  | .int _, k, _ => ⟨_, rfl, by simp [PyData.canLay0], by simp [PyData.depth]⟩
  | .str s, k, h => ⟨_, rfl, by simpa [PyData.canLay0, okD] using h, by simp [PyData.depth]⟩
  | .lst l, k + 1, h => by
    obtain ⟨ps, h1, h2, h3⟩ := okDs_pd (l := l) (k := k) (by simpa [okD] using h)
    refine ⟨.list ps, by rw [pdD, h1]; rfl, by simpa [PyData.canLay0] using h2, ?_⟩
    simp only [PyData.depth]
    omega
  | .tup l, k + 1, h => by
    obtain ⟨ps, h1, h2, h3⟩ := okDs_pd (l := l) (k := k) (by simpa [okD] using h)
    refine ⟨.tuple ps, by rw [pdD, h1]; rfl, by simpa [PyData.canLay0] using h2, ?_⟩
    simp only [PyData.depth]
    omega
  | .lst l, 0, h => by simp [okD] at h
  | .tup l, 0, h => by simp [okD] at h
  | .dk _, _, h => by simp [okD] at h
  | .dt _, _, h => by simp [okD] at h
  | .ins _ _, _, h => by simp [okD] at h
  | .cls _, _, h => by simp [okD] at h
  | .ty _, _, h => by simp [okD] at h
  | .adr _, _, h => by simp [okD] at h
  | .exf _ _ _, _, h => by simp [okD] at h
  | .exo _ _ _, _, h => by simp [okD] at h
  | .scr _, _, h => by simp [okD] at h
theorem okDs_pd : ∀ {l : List D} {k : Nat}, okDs l k = true → ∃ ps, pdL l = some ps ∧ PyData.canLayAll0 ps = true ∧ PyData.depthAll ps ≤ k
  | [], k, _ => ⟨[], rfl, by simp [PyData.canLayAll0], by simp [PyData.depthAll]⟩
  | d :: l, k, h => by
    have h' : (okD d k && okDs l k) = true := by simpa [okDs] using h
    rw [Bool.and_eq_true] at h'
    obtain ⟨p, h1, h2, h3⟩ := okD_pd h'.1
    obtain ⟨ps, h4, h5, h6⟩ := okDs_pd h'.2
    refine ⟨p :: ps, by rw [pdL, h1, h4], by simp [PyData.canLayAll0, h2, h5], ?_⟩
    simp only [PyData.depthAll]
    omega
end
/-- python's == of plain data -/
def eqD (x y : D) : Bool := match pdD x, pdD y with
  | some p, some r => PyData.eqv p r
  | _, _ => false
theorem okD_sh {d : D} {k : Nat} (hk : k ≤ 64) {p : PyData} (h : okD d k = true) (hp : pdD d = some p) : SeqAt.shaped p = true := by
  obtain ⟨p', h1, h2, h3⟩ := okD_pd h
  rw [hp] at h1
  cases h1
  unfold SeqAt.shaped
  rw [h2, Bool.true_and, decide_eq_true]
  omega
theorem eqE_as {dx dy : D} (hf : flE x = none ∨ flE y = none) (px : pdE C 3 x = pdD dx) (py : pdE C 3 y = pdD dy) (ox : okD dx 9 = true) (oy : okD dy 9 = true) : eqE C x y = some (eqD dx dy) := by
  obtain ⟨p, h1, _⟩ := okD_pd ox
  obtain ⟨r, h2, _⟩ := okD_pd oy
  have s1 := okD_sh (by decide) ox h1
  have s2 := okD_sh (by decide) oy h2
  unfold eqE eqD
  rw [px, py, h1, h2]
  have key : (match pdD dx, pdD dy with | some d, some e => if SeqAt.shaped d = true ∧ SeqAt.shaped e = true then some (PyData.eqv d e) else none | _, _ => none) = some (PyData.eqv p r) := by
    rw [h1, h2]
    dsimp only
    rw [if_pos ⟨s1, s2⟩]
  rcases hf with hf | hf
  · rw [hf]
    dsimp only
    rw [if_pos ⟨s1, s2⟩]
  · rw [hf]
    cases flE x <;> (dsimp only; rw [if_pos ⟨s1, s2⟩])
theorem eqD_refl {d : D} {k : Nat} (h : okD d k = true) : eqD d d = true := by
  obtain ⟨p, h1, h2, _⟩ := okD_pd h
  unfold eqD
  rw [h1]
  exact SeqAt.eqv_refl p h2
mutual
def noB : D → Bool
  | .bl _ => false
  | .lst l => noBs l
  | .tup l => noBs l
  | _ => true
def noBs : List D → Bool
  | [] => true
  | d :: l => noB d && noBs l
end
mutual
theorem pd_inj : ∀ {x y : D} {p r : PyData}, noB x = true → noB y = true → pdD x = some p → pdD y = some r → PyData.eqv p r = true → x = y
  | .non, y, p, r, _, hy, e1, e2, h => by
    cases e1
    cases y <;> simp [pdD, noB] at e2 hy
    · rfl
    all_goals first | (subst e2; simp [PyData.eqv] at h) | (obtain ⟨_, _, e⟩ := e2; subst e; simp [PyData.eqv] at h)
  | .int i, y, p, r, _, hy, e1, e2, h => by
    cases e1
    cases y <;> simp [pdD, noB] at e2 hy
    all_goals first | (subst e2; simp [PyData.eqv] at h; done) | (obtain ⟨_, _, e⟩ := e2; subst e; simp [PyData.eqv] at h; done) | (subst e2; simp [PyData.eqv] at h; rw [h])
  | .str s, y, p, r, _, hy, e1, e2, h => by
    cases e1
    cases y <;> simp [pdD, noB] at e2 hy
    all_goals first | (subst e2; simp [PyData.eqv] at h; done) | (obtain ⟨_, _, e⟩ := e2; subst e; simp [PyData.eqv] at h; done) | (subst e2; simp [PyData.eqv] at h; rw [h])
  | .lst l, y, p, r, hx, hy, e1, e2, h => by
    rw [pdD, Option.map_eq_some_iff] at e1
    obtain ⟨ps, e3, rfl⟩ := e1
    cases y <;> simp only [pdD, noB, Option.map_eq_some_iff, reduceCtorEq, Option.some.injEq] at e2 hy
    case lst m =>
      obtain ⟨qs, e4, rfl⟩ := e2
      rw [pds_inj (by simpa [noB] using hx) hy e3 e4 (by simpa [PyData.eqv] using h)]
    all_goals first | (subst e2; simp [PyData.eqv] at h; done) | (obtain ⟨_, _, e⟩ := e2; subst e; simp [PyData.eqv] at h; done)
  | .tup l, y, p, r, hx, hy, e1, e2, h => by
    rw [pdD, Option.map_eq_some_iff] at e1
    obtain ⟨ps, e3, rfl⟩ := e1
    cases y <;> simp only [pdD, noB, Option.map_eq_some_iff, reduceCtorEq, Option.some.injEq] at e2 hy
    case tup m =>
      obtain ⟨qs, e4, rfl⟩ := e2
      rw [pds_inj (by simpa [noB] using hx) hy e3 e4 (by simpa [PyData.eqv] using h)]
    all_goals first | (subst e2; simp [PyData.eqv] at h; done) | (obtain ⟨_, _, e⟩ := e2; subst e; simp [PyData.eqv] at h; done)
  | .bl _, _, _, _, hx, _, _, _, _ => by simp [noB] at hx
  | .dk _, _, _, _, _, _, e, _, _ => by simp [pdD] at e
  | .dt _, _, _, _, _, _, e, _, _ => by simp [pdD] at e
  | .ins _ _, _, _, _, _, _, e, _, _ => by simp [pdD] at e
  | .cls _, _, _, _, _, _, e, _, _ => by simp [pdD] at e
  | .ty _, _, _, _, _, _, e, _, _ => by simp [pdD] at e
  | .adr _, _, _, _, _, _, e, _, _ => by simp [pdD] at e
  | .exf _ _ _, _, _, _, _, _, e, _, _ => by simp [pdD] at e
  | .exo _ _ _, _, _, _, _, _, e, _, _ => by simp [pdD] at e
  | .scr _, _, _, _, _, _, e, _, _ => by simp [pdD] at e
theorem pds_inj : ∀ {x y : List D} {p r : List PyData}, noBs x = true → noBs y = true → pdL x = some p → pdL y = some r → PyData.eqvAll p r = true → x = y
  | [], [], _, _, _, _, _, _, _ => rfl
  | [], d :: l, p, r, _, _, e1, e2, h => by
    cases e1
    rw [pdL] at e2
    split at e2
    · cases e2; simp [PyData.eqvAll] at h
    · cases e2
  | d :: l, [], p, r, _, _, e1, e2, h => by
    cases e2
    rw [pdL] at e1
    split at e1
    · cases e1; simp [PyData.eqvAll] at h
    · cases e1
  | d :: l, d' :: l', p, r, hx, hy, e1, e2, h => by
    rw [pdL] at e1 e2
    split at e1
    · rename_i x1 r1 a1 a2
      cases e1
      split at e2
      · rename_i x2 r2 b1 b2
        cases e2
        have hx' : (noB d && noBs l) = true := by simpa [noBs] using hx
        have hy' : (noB d' && noBs l') = true := by simpa [noBs] using hy
        have h' : (PyData.eqv x1 x2 && PyData.eqvAll r1 r2) = true := by simpa [PyData.eqvAll] using h
        rw [Bool.and_eq_true] at hx' hy' h'
        rw [pd_inj hx'.1 hy'.1 a1 b1 h'.1, pds_inj hx'.2 hy'.2 a2 b2 h'.2]
      · cases e2
    · cases e1
end
theorem eqD_iff {x y : D} {k : Nat} (ox : okD x k = true) (nx : noB x = true) (ny : noB y = true) : eqD x y = true ↔ x = y := by
  constructor
  · intro h
    unfold eqD at h
    split at h
    · rename_i p r e1 e2
      exact pd_inj nx ny e1 e2 h
    · cases h
  · rintro rfl
    exact eqD_refl ox
theorem eqD_dec {x y : D} {k : Nat} {P : Prop} [Decidable P] (ox : okD x k = true) (nx : noB x = true) (ny : noB y = true) (hP : x = y ↔ P) : eqD x y = decide P := by
  by_cases h : P
  · rw [decide_eq_true h]
    exact (eqD_iff ox nx ny).mpr (hP.mpr h)
  · rw [decide_eq_false h]
    cases e : eqD x y with
    | false => rfl
    | true => exact absurd (hP.mp ((eqD_iff ox nx ny).mp e)) h
theorem okDs_map {α : Type} {f : α → D} {k : Nat} {l : List α} (h : ∀ x ∈ l, okD (f x) k = true) : okDs (l.map f) k = true := by
  induction l with
  | nil => rfl
  | cons x l ih =>
    rw [List.map_cons, okDs, h x List.mem_cons_self, ih fun y hy => h y (List.mem_cons_of_mem _ hy)]
    rfl
theorem noBs_map {α : Type} {f : α → D} {l : List α} (h : ∀ x ∈ l, noB (f x) = true) : noBs (l.map f) = true := by
  induction l with
  | nil => rfl
  | cons x l ih =>
    rw [List.map_cons, noBs, h x List.mem_cons_self, ih fun y hy => h y (List.mem_cons_of_mem _ hy)]
    rfl
theorem okD_ints {ns : List Int} {k : Nat} : okD (.lst (ns.map D.int)) (k + 1) = true := okDs_map fun _ _ => rfl
theorem okD_tab {t : List (List Int)} {k : Nat} : okD (.lst (t.map fun r => D.lst (r.map D.int))) (k + 2) = true := okDs_map fun _ _ => okD_ints
theorem noB_ints {ns : List Int} : noB (.lst (ns.map D.int)) = true := noBs_map fun _ _ => rfl
theorem noB_tab {t : List (List Int)} : noB (.lst (t.map fun r => D.lst (r.map D.int))) = true := noBs_map fun _ _ => noB_ints
theorem map_inj {α β : Type} {f : α → β} (hf : ∀ a b, f a = f b → a = b) : ∀ {l m : List α}, l.map f = m.map f → l = m
  | [], [], _ => rfl
  | [], _ :: _, h => by cases h
  | _ :: _, [], h => by cases h
  | a :: l, b :: m, h => by
    rw [List.map_cons, List.map_cons, List.cons.injEq] at h
    rw [hf a b h.1, map_inj hf h.2]
theorem ints_inj {ns ms : List Int} : (D.lst (ns.map D.int) = .lst (ms.map D.int)) ↔ ns = ms := ⟨fun h => map_inj (f := D.int) (fun a b e => by injection e) (by injection h), fun h => by rw [h]⟩
theorem tab_inj {t u : List (List Int)} : (D.lst (t.map fun r => D.lst (r.map D.int)) = .lst (u.map fun r => D.lst (r.map D.int))) ↔ t = u := ⟨fun h => map_inj (fun a b e => ints_inj.mp e) (by injection h), fun h => by rw [h]⟩
theorem eq_ints {ns ms : List Int} : eqE C (.v (.lst (ns.map D.int))) (.v (.lst (ms.map D.int))) = some (decide (ns = ms)) := by
  rw [eqE_as (.inl rfl) rfl rfl okD_ints okD_ints, eqD_dec (k := 9) okD_ints noB_ints noB_ints ints_inj]
theorem eq_tab {t u : List (List Int)} : eqE C (.v (.lst (t.map fun r => D.lst (r.map D.int)))) (.v (.lst (u.map fun r => D.lst (r.map D.int)))) = some (decide (t = u)) := by
  rw [eqE_as (.inl rfl) rfl rfl okD_tab okD_tab, eqD_dec (k := 9) okD_tab noB_tab noB_tab tab_inj]
theorem b_eq : wo (bEq x y C) qb = wo (eqE C x y) qb := rfl
theorem b_ne : wo (bNe x y C) qb = wo (eqE C x y) fun c => qb (!c) := wo_map
theorem eqE_i : eqE C (.v (.int i)) (.v (.int j)) = some (decide (i = j)) := by
  show some (decide (V.int i = V.int j)) = _
  congr 2
  simp
theorem eqE_s : eqE C (.v (.str a)) (.v (.str b)) = some (decide (a = b)) := by
  show some (decide (V.str a = V.str b)) = _
  congr 2
  simp
theorem eqE_b {p r : Bool} : eqE C (.v (.bl p)) (.v (.bl r)) = some (decide (p = r)) := by
  show some (decide (V.bl p = V.bl r)) = _
  congr 2
  simp
end
end R
namespace R
open PySem L2
/-! ### errors with fields -/
/-- such a class's __init__ lays its arguments to its fields -/
def spX (C : Addr) (fs : List Str) : Sp := fun vs H Q _ => ∃ a ws, vs = .ref a :: ws ∧ ws.length = fs.length ∧ H a = some (exo a C none) ∧
  ∀ d, H d = none → d ≠ a → Q .non (upd (upd H d (exd d (fs.zip ws).reverse)) a (exo a C (some d)))
structure Gx (P : Program) (w : World) (K : Fg) (mg : Str → Option Value) (base : Heap) (x : Str) (fs : List Str) : Prop where
  T : OexC K (He.ga K x)
  g : mg x = some (.ref (He.ga K x))
  ex : ∃ (f : Addr) (fd : FuncData) (ps : List Str), PySem.W.findIn K (.ref (He.ga K x)) "__init__" = some (some (.ref f)) ∧ PySem.W.typeIn K (.ref f) = some (.type "function") ∧ FnOk P w K mg base (L2N.CX P w) 1 f fd ps (spX (He.ga K x) fs) ∧ Binds K fd ps []
section
variable {P : Program} {w : World} {K : Fg} {mg : Str → Option Value} {base : Heap} {qual : Str} {params : Arguments} {body : List Stmt} {scope : Scope} {dvs : List V} {kws : List (Str × V)} {f : Addr} {fd : FuncData} {C : Addr}
end
theorem All2.zip {α β γ : Type} {R : α → β → Prop} : ∀ {l : List γ} {xs : List α} {ys : List β}, All2 R xs ys → All2 (fun p q => p.1 = q.1 ∧ R p.2 q.2) (l.zip xs) (l.zip ys)
  | [], _, _, _ => .nil
  | _ :: _, _, _, .nil => .nil
  | _ :: _, _, _, .cons h t => .cons ⟨rfl, h⟩ (All2.zip t)
theorem All2.reverse {α β : Type} {R : α → β → Prop} : ∀ {xs : List α} {ys : List β}, All2 R xs ys → All2 R xs.reverse ys.reverse
  | _, _, .nil => .nil
  | _, _, .cons h t => by
    rw [List.reverse_cons, List.reverse_cons]
    exact (All2.reverse t).append (.cons h .nil)
def xfs (fs : List Str) (ds : List D) : List (Str × D) := (fs.zip ds).reverse
def sRaiseF (x : Str) (fs : List Str) (fa : FA) : FS := fun G C => sBind (fa G C) G fun rs C => match unV rs with
  | some ds => if ds.length = fs.length ∧ ds.length ≤ 1000 then some (.er ⟨x, some (xfs fs ds)⟩, G, C) else none
  | none => none
section
open PySem.Spec PyProof.Rows
variable {X : Cx} {x : Str} {e : Expr} {es : List Expr} {ta : TA} {p pos : Pos} {C fI : Addr} {k : Nat} {fd : FuncData} {ps : List Str} {sp : Sp} {CX : CXT}
end
section
variable {X : Cx} {p p3 p4 : Pos} {x : Str} {e : Expr} {es : List Expr} {fs : List Str}
theorem ws_raiseF {fa : FA} {g : Option El} {G : Gs} {C : Cs} {T : Fl → Gs → Cs → Prop} : wps (sRaiseF x fs fa (g :: G) C) T = wp (fa (g :: G) C) (fun rs C => wo (unV rs) fun ds => (ds.length = fs.length ∧ ds.length ≤ 1000) ∧ T (.er ⟨x, some (xfs fs ds)⟩) (g :: G) C) (fun x C => T (.er x) (g :: G) C) := by
  unfold sRaiseF
  rw [ws_bind]
  congr 1
  funext rs C
  cases unV rs with
  | none => rfl
  | some ds =>
    dsimp only [wo]
    by_cases h : ds.length = fs.length ∧ ds.length ≤ 1000
    · rw [if_pos h]
      exact propext ⟨fun z => ⟨h, z⟩, fun z => z.2⟩
    · rw [if_neg h]
      exact (eq_false fun z => h z.1).symm
end
/-! ### texts -/
section
variable {C : Cs} {a b : Str} {qn : Nat → Prop} {QI : QW} {E : Exn → Cs → Prop} {g : Option El} {G : Gs} {QB : Bool → Cs → Prop}
theorem n_str : wo (lenE C (.v (.str a))) qn = (a.length ≤ sizeLine ∧ qn a.length) := by
  have e : lenE C (.v (.str a)) = if a.length ≤ sizeLine then some a.length else none := rfl
  rw [e, wo_if]
  rfl
def asS (r : El) (Q : Str → Prop) : Prop := match r with
  | .v (.str c) => Q c
  | _ => False
theorem asS_str {Q : Str → Prop} : asS (.v (.str a)) Q = Q a := rfl
def sgn (c : Nat) : Str := ⟨#[c]⟩
def sgnsE (a : Str) : List El := a.cps.toList.map fun c => El.v (.str (sgn c))
theorem w_iStrG {fe : FE} : wp (iStr fe (g :: G) C) QI E = wp (fe (g :: G) C) (fun r C => asS r fun x => QI (sgnsE x, fun _ => True) C) E := by
  unfold iStr
  simp only [w_bind]
  congr 1
  funext r C
  rcases r with d | n | l
  · cases d <;> rfl
  · rfl
  · rfl
theorem in_sgnE {z : Str} {c : Nat} : bIn0 C (.v (.str (sgn c))) (.v (.str z)) = some (decide (c ∈ z.cps.toList)) := in_sgn rfl
end
theorem t_l1p {C : Cs} {Q : El → Cs → Prop} {E : Exn → Cs → Prop} {G : Gs} {l : List D} : endT .l1 C Q E (.rt (.at C.length)) G (C ++ [some (.lst (l.map El.v))]) = Q (.at C.length) (C ++ [some (.lst (l.map El.v))]) := t_l1' rfl
section
variable {α : Type} {l : List α}
theorem blsE_mapf {f : α → Bool} : blsE ((l.map fun x => D.bl (f x)).map El.v) = some (l.map f) := by
  induction l with
  | nil => rfl
  | cons n l ih => rw [List.map_cons, List.map_cons, blsE, ih]; rfl
theorem intsE_mapf {f : α → Int} : intsE ((l.map fun x => D.int (f x)).map El.v) = some (l.map f) := by
  induction l with
  | nil => rfl
  | cons n l ih => rw [List.map_cons, List.map_cons, intsE, ih]; rfl
theorem strsE_mapf {f : α → Str} : strsE ((l.map fun x => D.str (f x)).map El.v) = some (l.map f) := by
  induction l with
  | nil => rfl
  | cons n l ih => rw [List.map_cons, List.map_cons, strsE, ih]; rfl
end
/-! ### displays of dicts -/
section
variable {C : Cs} {Q : El → Cs → Prop} {E : Exn → Cs → Prop} {g : Option El} {G : Gs} {QP : List (Key × El) → Cs → Prop} {fk fv : FE} {ps : List (FE × FE)} {l m : List (Key × El)} {k : Key} {v : El}
def obE : Ob → Option Unit
  | .dk none [] => some ()
  | _ => none
theorem obE_dk : obE (.dk none []) = some () := rfl
theorem w_disp : wp (eDisp ps (g :: G) C) Q E = wp (prsE ps (g :: G) (C ++ [some (.dk none [])])) (fun l C2 => wo ((C2[C.length]?).bind fun o => o.bind obE) fun _ => l.length ≤ 15 ∧ Q (.at C.length) (C2.set C.length (some (.dk none (mergeE [] l))))) E := by
  unfold eDisp
  rw [w_bind]
  congr 1
  funext l C2
  rcases C2[C.length]? with _ | _ | o
  · rfl
  · rfl
  · rcases o with _ | ⟨_ | lk, _ | ⟨p, q⟩⟩ | _ | _ | _
    · rfl
    · dsimp only [Option.bind_some, obE, wo_some]
      split
      · simp_all [w_ok, wo_some]
      · rename_i h; exact (eq_false fun z => h z.1).symm
    · rfl
    · rfl
    · rfl
    · rfl
    · rfl
    · rfl
theorem w_prs0 : wp (prsE [] (g :: G) C) QP E = QP [] C := id rfl
theorem w_prs1 : wp (prsE ((fk, fv) :: ps) (g :: G) C) QP E = wp (fk (g :: G) C) (fun k C => wp (fv (g :: G) C) (fun v C => wo (keyE k) fun k' => wp (prsE ps (g :: G) C) (fun l C => QP ((k', v) :: l) C) E) E) E := by
  rw [prsE, w_bind]
  congr 1
  funext k C
  rw [w_bind]
  congr 1
  funext v C
  cases keyE k with
  | none => rfl
  | some k' => exact w_bind
theorem mergeE_0 : mergeE l [] = l := rfl
theorem mergeE_1 : mergeE l ((k, v) :: m) = mergeE (putKE l k v) m := rfl
theorem putKE_0 {κ : Type} [DecidableEq κ] {k : κ} : putKE [] k v = [(k, v)] := rfl
end
theorem pop_get {l : List El} {y : El} : (l ++ [y])[l.length + 1 - 1]? = some y := by simp
theorem pop_getM {α : Type} {l : List α} {f : α → El} {y : El} : (l.map f ++ [y])[l.length + 1 - 1]? = some y := by simp
/-! ### texts in lists, compared -/
theorem okD_strs {l : List Str} {k : Nat} (h : ∀ s ∈ l, PyData.strOk s = true) : okD (.lst (l.map D.str)) (k + 1) = true := okDs_map fun s hs => h s hs
theorem noB_strs {l : List Str} : noB (.lst (l.map D.str)) = true := noBs_map fun _ _ => rfl
theorem strs_inj {ns ms : List Str} : (D.lst (ns.map D.str) = .lst (ms.map D.str)) ↔ ns = ms := ⟨fun h => map_inj (f := D.str) (fun a b e => by injection e) (by injection h), fun h => by rw [h]⟩
theorem eq_strs {C : Cs} {ns ms : List Str} (h : ∀ s ∈ ns, PyData.strOk s = true) (h2 : ∀ s ∈ ms, PyData.strOk s = true) : eqE C (.v (.lst (ns.map D.str))) (.v (.lst (ms.map D.str))) = some (decide (ns = ms)) := by
  rw [eqE_as (.inl rfl) rfl rfl (okD_strs h) (okD_strs h2), eqD_dec (k := 9) (okD_strs h) noB_strs noB_strs strs_inj]
theorem sz_0 : (0 ≤ sizeLine) = True := eq_true (by decide)
theorem sz_1 : (1 ≤ sizeLine) = True := eq_true (by decide)
theorem sz_2 : (2 ≤ sizeLine) = True := eq_true (by decide)
theorem sz_3 : (3 ≤ sizeLine) = True := eq_true (by decide)
theorem sz_4 : (4 ≤ sizeLine) = True := eq_true (by decide)
theorem sz_5 : (5 ≤ sizeLine) = True := eq_true (by decide)
theorem sz_6 : (6 ≤ sizeLine) = True := eq_true (by decide)
theorem sz_7 : (7 ≤ sizeLine) = True := eq_true (by decide)
theorem sz_8 : (8 ≤ sizeLine) = True := eq_true (by decide)
/-! ### comprehensions that make a cell each -/
section
variable {C : Cs} {Q : El → Cs → Prop} {E : Exn → Cs → Prop} {G : Gs}
end
section
variable {α : Type} {a b c d : α} {l : List α}
theorem atI_0 : L2.atI (a :: l) 0 = some a := by
  unfold L2.atI L2.ixN
  rw [if_pos (by decide), if_pos (by simp only [List.length_cons]; omega)]
  rfl
theorem atI_1 : L2.atI (a :: b :: l) 1 = some b := by
  unfold L2.atI L2.ixN
  rw [if_pos (by decide), if_pos (by simp only [List.length_cons]; omega)]
  rfl
theorem atI_2 : L2.atI (a :: b :: c :: l) 2 = some c := by
  unfold L2.atI L2.ixN
  rw [if_pos (by decide), if_pos (by simp only [List.length_cons]; omega)]
  rfl
theorem atI_3 : L2.atI (a :: b :: c :: d :: l) 3 = some d := by
  unfold L2.atI L2.ixN
  rw [if_pos (by decide), if_pos (by simp only [List.length_cons]; omega)]
  rfl
end
end R
namespace R
open PySem L2
/-! ### the program's things as cells -/
abbrev Tie := Int × Str × Str × Int
/-- a net: its posts (name, class), its ties by number, the next number -/
structure NT where
  ps : List (Str × Str)
  ts : List Tie
  g : Int
abbrev postD (p : Str × Str) : D := .ins p.2 [("name", .str p.1)]
abbrev tieD (t : Tie) : D := .tup [.int t.1, .str t.2.1, .str t.2.2.1, .int t.2.2.2]
def nmE (N : NT) : List (Key × El) := N.ps.map fun p => (.inr p.1, .v (postD p))
def nbE (N : NT) : List (Key × El) := N.ts.map fun t => (.inl t.1, .v (tieD t))
def netL (n : Nat) (N : NT) : Cs := [some (.ins "Net" [("by_name", .at (n + 1)), ("by_number", .at (n + 2)), ("given", .v (.int N.g))]), some (.dk none (nmE N)), some (.dk none (nbE N))]
def N0 : NT := ⟨[], [], 0⟩
def NT.put (N : NT) (s c : Str) : NT := ⟨N.ps ++ [(s, c)], N.ts, N.g⟩
def NT.cut (N : NT) (i : Int) : NT := ⟨N.ps, N.ts.filter fun t => decide (t.1 ≠ i), N.g⟩
def NT.tie (N : NT) (a b : Str) (d : Int) : NT := ⟨N.ps, N.ts ++ [(N.g, a, b, d)], N.g + 1⟩
def upN (C : Cs) (n : Nat) (N : NT) : Cs := ((C.set n (some (.ins "Net" [("by_name", .at (n + 1)), ("by_number", .at (n + 2)), ("given", .v (.int N.g))]))).set (n + 1) (some (.dk none (nmE N)))).set (n + 2) (some (.dk none (nbE N)))
section
variable {n : Nat} {N : NT} {L : Cs} {o o' : Option Ob}
theorem nl_len : (netL n N).length = 3 := rfl
theorem nl_0 : (netL n N)[0]? = some (some (.ins "Net" [("by_name", .at (n + 1)), ("by_number", .at (n + 2)), ("given", .v (.int N.g))])) := rfl
theorem nl_1 : (netL n N)[1]? = some (some (.dk none (nmE N))) := rfl
theorem nl_2 : (netL n N)[2]? = some (some (.dk none (nbE N))) := rfl
theorem nl_a0 : (netL n N ++ L)[0]? = some (some (.ins "Net" [("by_name", .at (n + 1)), ("by_number", .at (n + 2)), ("given", .v (.int N.g))])) := rfl
theorem nl_a1 : (netL n N ++ L)[1]? = some (some (.dk none (nmE N))) := rfl
theorem nl_a2 : (netL n N ++ L)[2]? = some (some (.dk none (nbE N))) := rfl
theorem nl_g3 : (netL n N ++ L)[3]? = L[0]? := rfl
theorem nl_s3 : (netL n N ++ L).set 3 o = netL n N ++ L.set 0 o := rfl
theorem nl_g4 : (netL n N ++ L)[4]? = L[1]? := rfl
theorem nl_s4 : (netL n N ++ L).set 4 o = netL n N ++ L.set 1 o := rfl
theorem nl_g5 : (netL n N ++ L)[5]? = L[2]? := rfl
theorem nl_s5 : (netL n N ++ L).set 5 o = netL n N ++ L.set 2 o := rfl
theorem nl_g6 : (netL n N ++ L)[6]? = L[3]? := rfl
theorem nl_s6 : (netL n N ++ L).set 6 o = netL n N ++ L.set 3 o := rfl
theorem nl_g7 : (netL n N ++ L)[7]? = L[4]? := rfl
theorem nl_s7 : (netL n N ++ L).set 7 o = netL n N ++ L.set 4 o := rfl
theorem nl_g8 : (netL n N ++ L)[8]? = L[5]? := rfl
theorem nl_s8 : (netL n N ++ L).set 8 o = netL n N ++ L.set 5 o := rfl
theorem nl_g9 : (netL n N ++ L)[9]? = L[6]? := rfl
theorem nl_s9 : (netL n N ++ L).set 9 o = netL n N ++ L.set 6 o := rfl
theorem nl_g10 : (netL n N ++ L)[10]? = L[7]? := rfl
theorem nl_s10 : (netL n N ++ L).set 10 o = netL n N ++ L.set 7 o := rfl
theorem nl_g11 : (netL n N ++ L)[11]? = L[8]? := rfl
theorem nl_s11 : (netL n N ++ L).set 11 o = netL n N ++ L.set 8 o := rfl
theorem up_0 {M : NT} : upN (netL 0 N) 0 M = netL 0 M := rfl
theorem up_0L {M : NT} : upN (netL 0 N ++ L) 0 M = netL 0 M ++ L := rfl
theorem up_CL {C : Cs} {M : NT} : upN (C ++ (netL C.length N ++ L)) C.length M = C ++ (netL C.length M ++ L) := by
  unfold upN
  rw [c_set0, c_set, c_set]
  rfl
theorem up_C {C : Cs} {M : NT} : upN (C ++ netL C.length N) C.length M = C ++ netL C.length M := by
  have := up_CL (C := C) (N := N) (M := M) (L := [])
  rwa [List.append_nil, List.append_nil] at this
end
/-! ### the law's own end -/
theorem e_rt0 {C' : Cs} {Q : El → Cs → Prop} {E : Exn → Cs → Prop} {G : Gs} {d : D} : endF 0 [] Q E (.rt (.v d)) G C' = Q (.v d) [] := by
  have := e_rtv (C := []) (L := C') (Q := Q) (E := E) (G := G) (d := d)
  rwa [List.nil_append] at this
/-! ### tables of cells compared -/
/-! ### lists seen through the cells -/
section
variable {C L : Cs} {x : El} {l : List El} {i : Int}
theorem view_app (h : viewS C x = some l) : viewS (C ++ L) x = some l := by
  cases x with
  | v d => cases d <;> exact h
  | tp es => cases h
  | «at» n =>
    rw [v_Sat] at h ⊢
    cases e : C[n]? with
    | none => rw [e] at h; cases h
    | some o =>
      rw [List.getElem?_append_left (List.getElem?_eq_some_iff.mp e).1]
      exact h
/-- a row, a table of ints, as they are seen -/
def RowV (C : Cs) (e : El) (r : List Int) : Prop := viewS C e = some (r.map fun i => El.v (.int i))
def TabV (C : Cs) (x : El) (t : List (List Int)) : Prop := ∃ es, viewS C x = some es ∧ All2 (RowV C) es t
theorem RowV.app {e : El} {r : List Int} (h : RowV C e r) : RowV (C ++ L) e r := view_app h
theorem TabV.app {t : List (List Int)} (h : TabV C x t) : TabV (C ++ L) x t := by
  obtain ⟨es, h1, h2⟩ := h
  exact ⟨es, view_app h1, h2.imp fun _ _ z => z.app⟩
abbrev rowD (r : List Int) : D := .lst (r.map D.int)
abbrev tblD (t : List (List Int)) : D := .lst (t.map rowD)
/-- a table's cells, told as they are -/
theorem t_tab {rows : List (List D)} {Q : El → Cs → Prop} {E : Exn → Cs → Prop} {G : Gs} : endT .l2 C Q E (.rt (.at C.length)) G (tabC C rows) = Q (.at C.length) (tabC C rows) := by
  have := t_l2 (C := C) (Q := Q) (E := E) (G := G) (L := some (Ob.lst (rowsAt C.length rows.length)) :: rows.map fun r => some (Ob.lst (r.map El.v))) (j := 0) (ix := (List.range rows.length).map (· + 1)) (rows := rows) ?_ ?_ ?_
  · exact this
  · rw [List.getElem?_cons_zero]
    congr 3
    unfold rowsAt
    rw [List.map_map]
    apply List.map_congr_left
    intro i _
    show El.at (C.length + 1 + i) = El.at (C.length + (i + 1))
    congr 1
    omega
  · refine All2.of_get (by simp) fun i j r h1 h2 => ?_
    rw [List.getElem?_map, List.getElem?_range (List.getElem?_eq_some_iff.mp h2).1] at h1
    cases h1
    rw [List.getElem?_cons_succ, List.getElem?_map, h2]
    rfl
  · rw [List.nodup_cons]
    refine ⟨by simp, List.pairwise_map.mpr (List.nodup_range.imp fun h e => h (by omega))⟩
end
theorem rngE_0 {n : Nat} : rngE 0 n = (List.range n).map fun (i : Nat) => El.v (.int (i : Int)) := by
  unfold rngE
  apply List.map_congr_left
  intro i _
  rw [Int.zero_add]
end R
namespace R
open PySem L2
section
variable {C : Cs} {G : Gs} {T : Fl → Gs → Cs → Prop}
end
end R
namespace R
open PySem L2
/-! ### o[i], p[j] = x, y -/
noncomputable def put1 (fo fi : FE) (G : Gs) (v : El) (C : Cs) : Option Cs := match fo G C with
  | some (.ok o, C1) => match fi G C1 with
    | some (.ok i, C2) => if isLst C2 o = true then oPut C2 o i v else none
    | _ => none
  | _ => none
def two {β : Type} (l : List El) (f : El → El → Option β) : Option β := match l with
  | [x, y] => f x y
  | _ => none
noncomputable def sSwp (fe fo1 fi1 fo2 fi2 : FE) : FS := fun G C => sBind (fe G C) G fun r C => match viewT C r with
  | some l => two l fun x y => match put1 fo1 fi1 G x C with
    | some C => match put1 fo2 fi2 G y C with
      | some C => some (.nx, G, C)
      | none => none
    | none => none
  | none => none
section
variable {X : Cx} {o i : Expr} {fo fi : FE} {p : Pos}
variable {o2 i2 e : Expr} {fo2 fi2 fe : FE} {p2 pt ps : Pos} {kt : Nat}
end
section
variable {C : Cs} {g : Option El} {G : Gs} {T : Fl → Gs → Cs → Prop} {fe fo fi fo2 fi2 : FE} {x y : El} {n : Nat}
def twoQ (l : List El) (Q : El → El → Prop) : Prop := match l with
  | [x, y] => Q x y
  | _ => False
theorem twoQ_2 {Q : El → El → Prop} : twoQ [x, y] Q = Q x y := id rfl
theorem wo_put1 {v : El} {qc : Cs → Prop} : wo (put1 fo fi (g :: G) v C) qc = wp (fo (g :: G) C) (fun o C1 => wp (fi (g :: G) C1) (fun i C2 => isLst C2 o = true ∧ wo (oPut C2 o i v) qc) NoE) NoE := by
  unfold put1
  rcases fo (g :: G) C with _ | ⟨_ | _, C1⟩
  · rfl
  · rename_i r
    show wo (match fi (g :: G) C1 with | some (.ok i, C2) => _ | _ => none) qc = wp (fi (g :: G) C1) _ NoE
    rcases fi (g :: G) C1 with _ | ⟨_ | _, C2⟩
    · rfl
    · exact wo_if
    · rfl
  · rfl
theorem ws_swp : wps (sSwp fe fo fi fo2 fi2 (g :: G) C) T = wp (fe (g :: G) C) (fun r C => wo (viewT C r) fun l => twoQ l fun x y => wp (fo (g :: G) C) (fun o C1 => wp (fi (g :: G) C1) (fun i C2 => isLst C2 o = true ∧ wo (oPut C2 o i x) fun C =>
    wp (fo2 (g :: G) C) (fun o C1 => wp (fi2 (g :: G) C1) (fun i C2 => isLst C2 o = true ∧ wo (oPut C2 o i y) fun C => T .nx (g :: G) C) NoE) NoE) NoE) NoE) (fun x C => T (.er x) (g :: G) C) := by
  unfold sSwp
  rw [ws_bind]
  congr 1
  funext r C
  cases viewT C r with
  | none => rfl
  | some l =>
    rw [wo_some]
    unfold two twoQ
    dsimp only
    split
    · rename_i x y
      rw [← wo_put1 (v := x) (qc := fun C => wp (fo2 (g :: G) C) (fun o C1 => wp (fi2 (g :: G) C1) (fun i C2 => isLst C2 o = true ∧ wo (oPut C2 o i y) fun C => T .nx (g :: G) C) NoE) NoE)]
      cases put1 fo fi (g :: G) x C with
      | none => rfl
      | some C2 =>
        rw [wo_some]
        dsimp only
        rw [← wo_put1 (v := y) (qc := fun C => T .nx (g :: G) C)]
        cases put1 fo2 fi2 (g :: G) y C2 <;> rfl
    · rfl
theorem mkTup_aa {a b : Nat} : mkTup [.at a, .at b] = .tp [.at a, .at b] := rfl
theorem isLst_at : isLst C (.at n) = ((C[n]?).bind fun o => o.bind obL).isSome := by
  unfold isLst
  dsimp only
  rcases C[n]? with _ | _ | o
  · rfl
  · rfl
  · cases o <;> rfl
end
section
variable {C : Cs} {n k : Nat}
end
end R
namespace R
open PySem L2
/-! ### x[::-1] -/
def oRev (own : Bool) (C : Cs) (x : El) : Option (El × Cs) := match viewS C x with
  | some l => newL own l.reverse C
  | none => none
def eRev (own : Bool) (fe : FE) : FE := fun G C => (fe G C).bind fun x C => (oRev own C x).map fun r => (.ok r.1, r.2)
section
variable {X : Cx} {e o : Expr}
end
section
variable {C : Cs} {g : Option El} {G : Gs} {Q : El → Cs → Prop} {E : Exn → Cs → Prop} {own : Bool} {fe : FE} {x : El} {q : El × Cs → Prop}
theorem w_rev : wp (eRev own fe (g :: G) C) Q E = wp (fe (g :: G) C) (fun r C => wo (oRev own C r) fun r => Q r.1 r.2) E := by
  unfold eRev
  rw [w_bind]
  congr 1
  funext r C
  cases oRev own C r <;> rfl
theorem rev_L {l : List D} : wo (oRev false C (.v (.lst l))) q = q (.v (.lst l.reverse), C) := by
  unfold oRev
  rw [v_S]
  dsimp only
  rw [← List.map_reverse]
  exact newL_f
theorem rev_LC {l : List D} : wo (oRev true C (.v (.lst l))) q = q (.at C.length, C ++ [some (.lst (l.reverse.map El.v))]) := by
  unfold oRev
  rw [v_S]
  dsimp only
  rw [← List.map_reverse]
  rfl
end
/-! ### "".join -/
def mJoin : OM := fun x xs C => match x, xs with
  | .v (.str a), [y] => match viewS C y with
    | some l => match strsE l with
      | some ys => if (ys.map (·.length)).sum + ys.length * a.length ≤ 16777216 then some (.v (.str (Txt.join a ys)), C) else none
      | none => none
    | none => none
  | _, _ => none
theorem ok_join {X : Cx} : OkMt X "str.join" mJoin := fun x xs C r C' h => by
  unfold mJoin at h
  split at h
  · rename_i a y
    split at h
    · rename_i l e1
      split at h
      · rename_i ys e2
        split at h
        · rename_i hl
          cases h
          refine ⟨_, mt_join, fun b A G s H v vs S r1 r2 k q => ?_⟩
          obtain ⟨w, rfl, rw'⟩ := one_ r2
          obtain ⟨p, ws, ev, h1, h2⟩ := viewS_ok S e1 rw'
          rw [strsE_ok e2 h2] at h1
          exact ⟨a, p, ys, r1, by rw [ev], .inl h1, hl, q _ A H S rfl⟩
        · cases h
      · cases h
    · cases h
  · cases h
theorem m_join {C : Cs} {a : Str} {y : El} {q : El × Cs → Prop} : wo (mJoin (.v (.str a)) [y] C) q = wo (viewS C y) fun l => wo (strsE l) fun ys => (ys.map (·.length)).sum + ys.length * a.length ≤ 16777216 ∧ q (.v (.str (Txt.join a ys)), C) := by
  unfold mJoin
  dsimp only
  cases viewS C y with
  | none => rfl
  | some l =>
    dsimp only [wo]
    cases strsE l with
    | none => rfl
    | some ys =>
      exact wo_if
/-! ### list(d), d's keys tuples -/
end R
namespace LiI
open PySem PySem.Spec PyProof.Rows L2
section
variable {X : Cx} {e : Expr} {te : TE} {p apos cpos pos : Pos}
theorem vals_kv {kvs : List (Key × V)} {vs : List (Key × Value)} (h : KV kvs vs) : Vals (kvs.map (·.2)) (vs.map (·.2)) := by
  induction h with
  | nil => exact .nil
  | cons q t ih => exact .cons q.2 ih
def tListVals (te : TE) : TE := fun σ H Q => te σ H fun x H1 => ∃ (a : Addr) (kvs : List (Key × V)), x = .ref a ∧ Rd H1 a (.dK kvs) ∧ ∀ p, H1 p = none → Q (.ref p) (upd H1 p (.lst (kvs.map (·.2))))
/-- list(e.values()) -/
theorem pe_listVals (hc : X.calm = true) (he : PE X e te) (hg : Gl X "list") (hm : X.mg "list" = none) (hv : bootBuiltins "list" = some (.type "list")) (hbase : attributeBase e "values" X.env (eval e X.env) = eval e X.env := by rfl) (hline : (apos.endLine == cpos.line) = true := by rfl)
    (hs : starEach [.Call (.Attribute e "values" apos) [] [] cpos] X.env = (false, eval (.Call (.Attribute e "values" apos) [] [] cpos) X.env) :: starEach [] X.env := by rfl) :
    PE X (.Call (.Name "list" p) [.Call (.Attribute e "values" apos) [] [] cpos] [] pos) (tListVals te) := by
  refine ⟨fun pins s σ H Q I hq => ?_⟩
  refine wpAny_Call_Name_kw (ld_blt I hg hm hv ?_)
  refine PyProof.Rows.callWith_type1 ?_ hs rfl
  rw [hs]
  show wpAny _ _ (spliced ((false, eval (.Call (.Attribute e "values" apos) [] [] cpos) X.env) :: backTo pos (starEach [] X.env))) _ _ s
  refine Calls.spliced_cons ?_
  refine wpAny_Call_method (T := "dict") (id := "dict.values") hbase rfl hline F.plainAttrs_dict F.slot_dict_values F.type_dict_values (thn (he.run pins s σ H _ I hq) fun u s1 ⟨x, H1, I1, rx, d, kvs, ex, hd, q⟩ => ?_)
  subst ex
  obtain rfl : u = Value.ref d := rx
  obtain ⟨hz, hs0, vs, kv, hdo⟩ := dk_rd I1.hok hd
  obtain ⟨ep, hat⟩ := hdo.dictAt
  have lk : kvs.length = vs.length := Paired.length kv
  have I2 : Inv X pins σ H1 { s1 with heap := s1.heap.push { cls := .type "dict_values", data := .fields #[.ref d] } } := I1.kept (t' := s1.toks) fun b ob q => Heap.get?_push_of_some _ q
  refine ⟨hdo.typeIs, hdo.mapOf.noDict, ?_⟩
  show wpAny _ _ (callWith cpos (.builtin "dict.values") [.ref d] [] []) _ X.xe s1
  refine method_meetsIn F.slot_dict_values F.entry_dict_values rfl (PySem.evalArgs_none ⟨rfl, hdo.typeIs, F.args_dict_values_1 _, _, meets_dict_values (mixKind X.prog X.w) d hs0, ⟨vs, hdo⟩, ?_⟩)
  refine Calls.spliced_nil ?_
  refine PySem.W.kdl_call (PySem.W.kdl_values (knd := mixKind X.prog X.w) (d := d) (kvs := vs) (ep := ep)) (I1.ok.hd hc) ⟨⟨_, Heap.get?_push_size _ rfl, rfl, rfl⟩, hat.push _⟩ (by omega) fun h' tk acc c' hk hD hacc => ?_
  have ev : acc.toList = vs.map (·.2) := PySem.W.kdl_vals_eq acc.toList (by rw [Array.length_toList]; exact hacc.1) fun j v e => hacc.2 j v (by rw [← Array.getElem?_toList]; exact e)
  refine ⟨.ref _, upd H1 _ (.lst (kvs.map (·.2))), I2.laid (t' := tk) hk (Nat.le_refl _)
    (show ObjOk X.prog X.w _ _ _ (.lst (kvs.map (·.2))) from ⟨by rw [List.length_map]; exact hz, acc.toList, c', by rw [ev]; exact vals_kv kv, by rw [Array.toArray_toList]; exact hD⟩), rfl, q _ (I2.hok.fresh (Nat.le_refl _))⟩
end
end LiI
namespace R
open PySem L2
/-! ### list(d.values()) -/
def eVals (own : Bool) (fe : FE) : FE := fun G C => (fe G C).bind fun x C => match viewK C x with
  | some l => (newL own (l.map (·.2)) C).map fun r => (.ok r.1, r.2)
  | none => none
section
variable {X : Cx} {e : Expr} {fe : FE}
theorem pairs_snd {K : Fg} {A : List Addr} {C : Cs} {H : Hp} {l : List (Key × El)} {vs : List (Key × V)} (h : All2 (PairE K A C H) l vs) : All2 (RepE K A C H) (l.map (·.2)) (vs.map (·.2)) := by
  induction h with
  | nil => exact .nil
  | cons q t ih => exact .cons q.2 ih
theorem im_vals {p apos cpos pos : Pos} (own : Bool) (he : ImE X e fe) (hc : X.calm = true) (hg : Gl X "list") (hm : X.mg "list" = none) (hv : bootBuiltins "list" = some (.type "list"))
    (hbase : attributeBase e "values" X.env (eval e X.env) = eval e X.env := by rfl) (hline : (apos.endLine == cpos.line) = true := by rfl)
    (hs : starEach [.Call (.Attribute e "values" apos) [] [] cpos] X.env = (false, eval (.Call (.Attribute e "values" apos) [] [] cpos) X.env) :: starEach [] X.env := by rfl) :
    ImE X (.Call (.Name "list" p) [.Call (.Attribute e "values" apos) [] [] cpos] [] pos) (eVals own fe) := fun b A G C s H W S tk o h q' q => by
  refine ⟨_, LiI.pe_listVals hc wE_ok hg hm hv hbase hline hs, ?_⟩
  rcases bind_inv h with ⟨y, C1, h1, rfl⟩ | ⟨x, C1, h1, h⟩
  · exact he.er S tk h1 q _
  · refine he.ok S tk h1 fun v A1 H1 S1 g1 r1 => ?_
    cases e1 : viewK C1 x with
    | none => rw [e1] at h; cases h
    | some l =>
      rw [e1] at h
      dsimp only at h
      cases e2 : newL own (l.map (·.2)) C1 with
      | none => rw [e2] at h; cases h
      | some r =>
        obtain ⟨r, C2⟩ := r
        rw [e2] at h
        cases h
        obtain ⟨a, ws, ev, h2, h3⟩ := viewK_ok S1 e1 r1
        exact ⟨a, ws, ev, h2, fun w hw => newL_ok S1 e2 (pairs_snd h3) (fun v A' H' S' rv => q.ok _ _ rfl v A' H' S' rv) hw⟩
end
section
variable {C : Cs} {g : Option El} {G : Gs} {Q : El → Cs → Prop} {E : Exn → Cs → Prop} {own : Bool} {fe : FE} {x : El} {q : El × Cs → Prop}
theorem w_vals : wp (eVals own fe (g :: G) C) Q E = wp (fe (g :: G) C) (fun r C => wo (viewK C r) fun l => wo (newL own (l.map (·.2)) C) fun r => Q r.1 r.2) E := by
  unfold eVals
  rw [w_bind]
  congr 1
  funext r C
  cases viewK C r with
  | none => rfl
  | some l =>
    dsimp only [wo]
    cases newL own (l.map (·.2)) C <;> rfl
end
/-! ### xs.index(y): flat items -/
def flsE : List El → Option (List V)
  | [] => some []
  | x :: l => match flE x, flsE l with
    | some v, some vs => some (v :: vs)
    | _, _ => none
def mIndex : OM := fun x xs C => match xs with
  | [y] => match viewS C x, flE y with
    | some l, some w => match flsE l with
      | some ws => if flatV w = true ∧ ws.all flatV = true then (ws.findIdx? fun z => eqV z w).map fun j => (.v (.int (j : Int)), C) else none
      | none => none
    | _, _ => none
  | _ => none
/-! ### xs.insert(i, y) -/
def mInsert : OM := fun x xs C => match cellL C x, xs with
  | some (n, l), [.v (.int i), y] => if l.length < sizeLine ∧ 0 ≤ i ∧ i < 2 ^ 63 then some (.v .non, C.set n (some (.lst (l.take i.toNat ++ [y] ++ l.drop i.toNat)))) else none
  | _, _ => none
theorem m_insert {C : Cs} {n : Nat} {i : Int} {y : El} {q : El × Cs → Prop} : wo (mInsert (.at n) [.v (.int i), y] C) q = wo ((C[n]?).bind fun o => o.bind obL) fun l => (l.length < sizeLine ∧ 0 ≤ i ∧ i < 2 ^ 63) ∧ q (.v .non, C.set n (some (.lst (l.take i.toNat ++ [y] ++ l.drop i.toNat)))) := by
  unfold mInsert cellL
  dsimp only
  rcases e : C[n]? with _ | _ | o
  · rfl
  · rfl
  · cases o with
    | lst l =>
      simp only [Option.bind_some, obL_lst, wo_some]
      exact wo_if
    | _ => rfl
/-! ### max, min of a list -/
def maxI : List Int → Int
  | [] => 0
  | [a] => a
  | a :: b :: l => max a (maxI (b :: l))
def minI : List Int → Int
  | [] => 0
  | [a] => a
  | a :: b :: l => min a (minI (b :: l))
def intsN (l : List El) : Option (List Int) := (intsE l).bind fun ns => if 0 < ns.length then some ns else none
def fMaxL : ON := fList1 intsN fun l => .v (.int (maxI l))
def fMinL : ON := fList1 intsN fun l => .v (.int (minI l))
theorem f_maxL {C : Cs} {x : El} {q : El × Cs → Prop} : wo (fMaxL [x] C) q = wo (viewS C x) fun l => wo (intsE l) fun ns => 0 < ns.length ∧ q (.v (.int (maxI ns)), C) := by
  show wo (match viewS C x with | some l => _ | none => _) q = _
  cases viewS C x with
  | none => rfl
  | some l =>
    rw [wo_some]
    show wo ((intsN l).map _) q = _
    unfold intsN
    cases intsE l with
    | none => rfl
    | some ns =>
      rw [wo_some, Option.bind_some]
      by_cases h : 0 < ns.length
      · rw [if_pos h]; simp [wo, h]
      · rw [if_neg h]; simp [wo, h]
theorem f_minL {C : Cs} {x : El} {q : El × Cs → Prop} : wo (fMinL [x] C) q = wo (viewS C x) fun l => wo (intsE l) fun ns => 0 < ns.length ∧ q (.v (.int (minI ns)), C) := by
  show wo (match viewS C x with | some l => _ | none => _) q = _
  cases viewS C x with
  | none => rfl
  | some l =>
    rw [wo_some]
    show wo ((intsN l).map _) q = _
    unfold intsN
    cases intsE l with
    | none => rfl
    | some ns =>
      rw [wo_some, Option.bind_some]
      by_cases h : 0 < ns.length
      · rw [if_pos h]; simp [wo, h]
      · rw [if_neg h]; simp [wo, h]
/-! ### xs.remove(i): whole numbers -/
def mRemove : OM := fun x xs C => match cellL C x, xs with
  | some (n, l), [.v (.int k)] => match intsE l with
    | some ns => (ns.findIdx? fun z => z == k).map fun j => (.v .non, C.set n (some (.lst (l.eraseIdx j))))
    | none => none
  | _, _ => none
end R
namespace R
open PySem L2
/-! ### a def whose cells are all handed on -/
section
variable {K : Fg} {b : Bs} {A A1 : List Addr} {G G1 : Gs} {C C1 : Cs} {s s1 : St} {H H1 : Hp}
end
open Classical in
noncomputable def closeA (C : Cs) : Option (Fl × Gs × Cs) → Mr El
  | some (.rt r, _, C1) => some (.ok r, C1)
  | some (.nx, _, C1) => some (.ok (.v .non), C1)
  | some (.er x, _, C1) => if okDrop C C1 C.length then some (.er x, C1.take C.length) else none
  | _ => none
noncomputable def mkFnA (np n : Nat) (fb : FS) : Fn := fun rs C => if rs.length = np then closeA C (fb (rs.map some ++ List.replicate (n - np) none) C) else none
section
variable {P : Program} {w : World} {K : Fg} {mg : Str → Option Value} {base : Heap} {x qual : Str} {params : Arguments} {body : List Stmt} {scope : Scope} {dvs : List V} {kws : List (Str × V)} {f : Addr} {fd : FuncData}
end
section
variable {C C1 L : Cs} {Q : El → Cs → Prop} {E : Exn → Cs → Prop} {G : Gs} {x : El} {z : Exn}
noncomputable def endA (C : Cs) (Q : El → Cs → Prop) (E : Exn → Cs → Prop) : Fl → Gs → Cs → Prop := fun fl G C1 => wp (closeA C (some (fl, G, C1))) Q E
theorem a_rt : endA C Q E (.rt x) G C1 = Q x C1 := id rfl
theorem a_nx : endA C Q E .nx G C1 = Q (.v .non) C1 := id rfl
theorem a_er : endA C Q E (.er z) G (C ++ L) = E z C := by
  unfold endA closeA
  dsimp only
  rw [if_pos okDrop_app, take_app]
  rfl
theorem a_er0 : endA C Q E (.er z) G C = E z C := by have := a_er (C := C) (L := []) (Q := Q) (E := E) (G := G) (z := z); rwa [List.append_nil] at this
end
/-! ### while, its end told -/
def iterW {τ : Type} (cnd : τ → Prop) [DecidablePred cnd] (stp : τ → τ) : Nat → τ → τ
  | 0, t => t
  | n + 1, t => if cnd t then iterW cnd stp n (stp t) else t
section
variable {C : Cs} {G : Gs} {T : Fl → Gs → Cs → Prop}
end
/-! ### cells told as they are -/
end R
namespace SLs
open PySem PySem.Spec PyProof.Rows L2
section
variable {P : Program} {w : World} {A : Around} {E : Value → Shared → Prop} {σ : Shared}
/-- the new set's object -/
abbrev nw (w : World) : Obj := { cls := .type "set", dict := none, data := .set #[] 0 (.fresh 0 0 (!w.params.followText "set-order")) }
end
section
variable {X : Cx} {a : Expr} {ta : TE} {p p2 q pos : Pos}
/-- sorted(set(xs)) of whole numbers -/
def tSortSet (K : PySem.W.Frag) (ta : TE) : TE := fun σ H Q => ta σ H fun x H1 => ∃ (l : Addr) (ns : List Int), x = .ref l ∧ SqL K H1 l (ns.map V.int) ∧ ns.length < 64 ∧ ∀ (ms : List Int) (r : Addr), ms.Pairwise (· < ·) → (∀ k, k ∈ ms ↔ k ∈ ns) → H1 r = none → Q (.ref r) (upd H1 r (.lst (ms.map V.int)))
end
end SLs
namespace R
open PySem L2
/-! ### len(set(x)), sorted(set(x)) -/
/-- rising, each once -/
def dupF : List Int → List Int
  | [] => []
  | a :: l => if a ∈ l then dupF l else a :: dupF l
def sortU (l : List Int) : List Int := sortI (dupF l)
def eLenSet (fe : FE) : FE := fun G C => (fe G C).bind fun x C => match viewS C x with
  | some l => match intsE l with
    | some ns => if ns.Nodup ∧ ns.length ≤ 4000 then some (.ok (.v (.int (ns.length : Nat))), C) else none
    | none => none
  | none => none
def eSortSet (own : Bool) (fe : FE) : FE := fun G C => (fe G C).bind fun x C => match viewS C x with
  | some l => match intsE l with
    | some ns => if ns.length < 64 then (newL own ((sortU ns).map fun i => .v (.int i)) C).map fun r => (.ok r.1, r.2) else none
    | none => none
  | none => none
section
variable {X : Cx} {a : Expr} {fe : FE} {p p2 q pos : Pos}
end
section
variable {C : Cs} {g : Option El} {G : Gs} {Q : El → Cs → Prop} {E : Exn → Cs → Prop} {own : Bool} {fe : FE}
theorem w_lenSet : wp (eLenSet fe (g :: G) C) Q E = wp (fe (g :: G) C) (fun r C => wo (viewS C r) fun l => wo (intsE l) fun ns => (ns.Nodup ∧ ns.length ≤ 4000) ∧ Q (.v (.int (ns.length : Nat))) C) E := by
  unfold eLenSet
  rw [w_bind]
  congr 1
  funext r C
  cases viewS C r with
  | none => rfl
  | some l =>
    rw [wo_some]
    dsimp only
    cases intsE l with
    | none => rfl
    | some ns =>
      rw [wo_some]
      dsimp only
      split
      · rename_i h; exact propext ⟨fun z => ⟨h, z⟩, fun z => z.2⟩
      · rename_i h; exact (eq_false fun z => h z.1).symm
theorem w_sortSet : wp (eSortSet own fe (g :: G) C) Q E = wp (fe (g :: G) C) (fun r C => wo (viewS C r) fun l => wo (intsE l) fun ns => ns.length < 64 ∧ wo (newL own ((sortU ns).map fun i => .v (.int i)) C) fun r => Q r.1 r.2) E := by
  unfold eSortSet
  rw [w_bind]
  congr 1
  funext r C
  cases viewS C r with
  | none => rfl
  | some l =>
    rw [wo_some]
    dsimp only
    cases intsE l with
    | none => rfl
    | some ns =>
      rw [wo_some]
      dsimp only
      split
      · rename_i h
        have e : ∀ p : Prop, (ns.length < 64 ∧ p) = p := fun p => propext ⟨fun z => z.2, fun z => ⟨h, z⟩⟩
        rw [e]
        cases newL own ((sortU ns).map fun i => .v (.int i)) C <;> rfl
      · rename_i h; exact (eq_false fun z => h z.1).symm
theorem newL_ints {l : List Int} {q : El × Cs → Prop} : wo (newL false (l.map fun i => El.v (.int i)) C) q = q (.v (.lst (l.map D.int)), C) := by
  rw [← map_map_i]
  exact newL_f
end
end R
namespace R
open PySem PySem.Spec PyProof.Rows L2
/-! ### d == e, d != e: two dicts of the same keys, their values alike (only where they are) -/
section
variable {X : Cx}
def DkSame (K : PySem.W.Frag) (H : Hp) (x y : V) : Prop := ∃ a b ks ls, x = .ref a ∧ y = .ref b ∧ Rd H a (.dK ks) ∧ Rd H b (.dK ls) ∧ ks.length = ls.length ∧
  ∀ p ∈ ks, ∃ u d e, valV ls p.1 = some u ∧ Dp K H p.2 d ∧ Dp K H u e ∧ SeqAt.shaped d = true ∧ SeqAt.shaped e = true ∧ PyData.eqv d e = true
end
def eqK (C : Cs) (x y : El) : Prop := ∃ ks ls, viewK C x = some ks ∧ viewK C y = some ls ∧ ks.length = ls.length ∧
  ∀ p ∈ ks, ∃ u d e, val ls p.1 = some u ∧ pdE C 3 p.2 = some d ∧ pdE C 3 u = some e ∧ SeqAt.shaped d = true ∧ SeqAt.shaped e = true ∧ PyData.eqv d e = true
open Classical in
noncomputable def bEqK : B2 := fun x y C => if eqK C x y then some true else none
open Classical in
noncomputable def bNeK : B2 := fun x y C => if eqK C x y then some false else none
section
variable {C : Cs} {x y : El} {q : Bool → Prop}
end
/-! ### xs[lo::k] -/
def pickS {α : Type} (l : List α) (lo : Option Int) (k : Int) : List α := (sliceRange (sliceBounds lo none (some k) l.length).1 (sliceBounds lo none (some k) l.length).2.1 (sliceBounds lo none (some k) l.length).2.2).filterMap (l[·]?)
section
variable {X : Cx}
def tStepL (K : PySem.W.Frag) (te : TE) (tl : TO) (k : Int) : TE := fun σ H Q => te σ H fun x H1 => tl σ H1 fun lo H2 => ∃ a xs, x = .ref a ∧ SqL K H2 a xs ∧ ∀ p, H2 p = none → Q (.ref p) (upd H2 p (.lst (pickS xs lo k)))
end
def oStep (own : Bool) (C : Cs) (x : El) (lo : Option Int) (k : Int) : Option (El × Cs) := match viewS C x with
  | some l => newL own (pickS l lo k) C
  | none => none
def eStep (own : Bool) (fe : FE) (fl : FO) (k : Int) : FE := fun G C => (fe G C).bind fun x C => (fl G C).bind fun lo C => (oStep own C x lo k).map fun r => (.ok r.1, r.2)
section
variable {X : Cx} {e : Expr} {lo : Option Expr}
end
section
variable {C : Cs} {g : Option El} {G : Gs} {Q : El → Cs → Prop} {E : Exn → Cs → Prop} {own : Bool} {fe : FE} {fl : FO} {x : El} {k : Int}
theorem w_step : wp (eStep own fe fl k (g :: G) C) Q E = wp (fe (g :: G) C) (fun r C => wp (fl (g :: G) C) (fun lo C => wo (oStep own C r lo k) fun r => Q r.1 r.2) E) E := by
  unfold eStep
  simp only [w_bind]
  congr 1
  funext r C
  congr 1
  funext r2 C
  cases oStep own C r r2 k <;> rfl
end
end R
namespace R
open PySem L2
/-! ### a list times a number -/
def oRep (own : Bool) : O2 := fun x y C => match viewL C x, y with
  | some l, .v (.int k) => if -(2 ^ 63) ≤ k ∧ k < 2 ^ 63 ∧ l.length * k.toNat ≤ sizeLine then newL own (List.replicate k.toNat l).flatten C else none
  | _, _ => none
section
variable {C : Cs} {q : El × Cs → Prop} {l : List D} {k : Int}
theorem o_repL : wo (oRep false (.v (.lst l)) (.v (.int k)) C) q = ((-(2 ^ 63) ≤ k ∧ k < 2 ^ 63 ∧ l.length * k.toNat ≤ sizeLine) ∧ q (.v (.lst (List.replicate k.toNat l).flatten), C)) := by
  unfold oRep
  rw [v_L]
  dsimp only
  rw [List.length_map]
  split
  · rename_i h
    have e : (List.replicate k.toNat (l.map El.v)).flatten = ((List.replicate k.toNat l).flatten).map El.v := by
      rw [List.map_flatten, List.map_replicate]
    rw [e, newL_f]
    exact propext ⟨fun z => ⟨h, z⟩, fun z => z.2⟩
  · rename_i h
    exact (eq_false fun z => h z.1).symm
theorem o_repC : wo (oRep true (.v (.lst l)) (.v (.int k)) C) q = ((-(2 ^ 63) ≤ k ∧ k < 2 ^ 63 ∧ l.length * k.toNat ≤ sizeLine) ∧ q (.at C.length, C ++ [some (.lst (((List.replicate k.toNat l).flatten).map El.v))])) := by
  unfold oRep
  rw [v_L]
  dsimp only
  rw [List.length_map]
  split
  · rename_i h
    have e : (List.replicate k.toNat (l.map El.v)).flatten = ((List.replicate k.toNat l).flatten).map El.v := by
      rw [List.map_flatten, List.map_replicate]
    rw [e, newL_o]
    exact propext ⟨fun z => ⟨h, z⟩, fun z => z.2⟩
  · rename_i h
    exact (eq_false fun z => h z.1).symm
theorem rep_one {d : D} {n : Nat} : (List.replicate n [d]).flatten = List.replicate n d := by
  induction n with
  | zero => rfl
  | succ n ih => rw [List.replicate_succ, List.flatten_cons, ih, List.replicate_succ]; rfl
end
/-! ### a statement by itself -/
section
variable {f h : FS} {g : Option El} {G G1 : Gs} {C C1 : Cs} {T : Fl → Gs → Cs → Prop} {P : Gs → Cs → Prop}
end
end R
namespace R
open PySem PySem.Spec PyProof.Rows L2
/-! ### the pairs of a dict whose keys are tuples -/
def Itit (d : Addr) (o : Obj) (kvs : List (List Key × V)) : It :=
  ⟨fun i H => H d = some (.frz o (.dT kvs)) ∧ i < kvs.length, fun i H x H' => ∃ T k v q, kvs[i]? = some (k, v) ∧ x = .ref T ∧ H T = none ∧ H q = some (.tup (k.map kV)) ∧ H' = upd H T (.tup [.ref q, v]), fun i H => H d = some (.frz o (.dT kvs)) ∧ kvs.length ≤ i⟩
section
variable {X : Cx} {pins : List (Addr × Obj)} {σ : L2.St} {H : Hp} {s : Shared} {d : Addr} {o : Obj}
end
section
variable {P : Program} {w : World} {K : PySem.W.Frag} {d : Addr} {o : Obj} {es : Array DictEntry} {ep : Nat}
end
def iItemsT (td : TE) : TI := fun σ H R => td σ H fun x H1 => ∃ d o kvs, x = .ref d ∧ H1 d = some (.frz o (.dT kvs)) ∧ R (Itit d o kvs) H1
section
variable {X : Cx} {tg e : Expr} {td : TE} {apos cpos : Pos}
end
/-! ### for .. in d.items(), its keys tuples -/
def dwT (l : List (List Key × El)) : List El := l.map fun p => mkTup [.v (tkD p.1), p.2]
def isLkT (C : Cs) (n : Nat) (l : List (List Key × El)) (ho : HO) : Prop := C[n]? = some (some (.dt (some ho) l))
open Classical in
noncomputable def unlkT (n : Nat) (l : List (List Key × El)) (ho : HO) (o : Option (Fl × Gs × Cs)) : Option (Fl × Gs × Cs) := match o with
  | some (.er _, _, _) => none
  | some (fl, G, C) => if isLkT C n l ho then some (fl, G, C.set n (some (.dt none l))) else none
  | none => none
noncomputable def sForT (tg : FG) (fe : FE) (body : FS) : FS := fun G C => sBind (fe G C) G fun r C1 => match r with
  | .at n => match C1[n]? with
    | some (some (.dt none l)) => allH fun ho => unlkT n l ho (loopF tg body (fun C' => isLkT C' n l ho) (dwT l) G (C1.set n (some (.dt (some ho) l))))
    | _ => none
  | _ => none
section
variable {X : Cx} {tg iter e : Expr} {body : List Stmt} {p : Pos} {ns : List Nat}
end
section
variable {C : Cs} {g : Option El} {G : Gs} {T : Fl → Gs → Cs → Prop} {tg : FG} {fe : FE} {fb : FS} {n : Nat} {l : List (List Key × El)}
noncomputable def forTP (tg : FG) (fb : FS) (r : El) (G : Gs) (C : Cs) (T : Fl → Gs → Cs → Prop) : Prop := wps (sForT tg (fun _ C => some (.ok r, C)) fb G C) T
theorem ws_forT : wps (sForT tg fe fb (g :: G) C) T = wp (fe (g :: G) C) (fun r C1 => forTP tg fb r (g :: G) C1 T) (fun x C => T (.er x) (g :: G) C) := by
  unfold forTP sForT
  rw [ws_bind]
  congr 1
end
end R
/-! zip of a list and a tuple, in any order -/
namespace R
open PySem PySem.Spec PyProof.Rows L2
/-- what an inner walk goes over: a list, or (true) a tuple -/
def InQ : Bool → Heap → Addr → Array Value → Prop
  | false => fun g l xs => g.IsList l xs
  | true => fun g l xs => g.IsTuple l xs
def InI : Bool → Heap → Addr → Addr → Nat → Prop
  | false => fun g i l k => g.IsListIter i l k
  | true => fun g i l k => g.IsTupleIter i l k
section
variable {g g' : Heap} {i j l : Addr} {k : Nat} {xs : Array Value}
theorem InQ.eb : ∀ {t : Bool}, InQ t g l xs → Heap.ExtBut j g g' → l ≠ j → InQ t g' l xs
  | false, q, e, ne => Heap.IsList.extBut q e ne
  | true, q, e, ne => Heap.IsTuple.extBut q e ne
theorem InI.eb : ∀ {t : Bool}, InI t g i l k → Heap.ExtBut j g g' → i ≠ j → InI t g' i l k
  | false, q, e, ne => Heap.IsListIter.extBut q e ne
  | true, q, e, ne => Heap.IsTupleIter.extBut q e ne
theorem InI.at' : ∀ {t : Bool}, InI t g i l k → (∀ o, g.get? i = some o → g'.get? i = some o) → InI t g' i l k
  | false, q, e => Heap.IsListIter.at q e
  | true, q, e => Heap.IsTupleIter.at q e
theorem InI.has : ∀ {t : Bool}, InI t g i l k → ∃ o, g.get? i = some o ∧ ∀ v, o.data ≠ .cell v
  | false, ⟨o, e, _, d⟩ => ⟨o, e, fun v z => by rw [d] at z; cases z⟩
  | true, ⟨o, e, _, d⟩ => ⟨o, e, fun v z => by rw [d] at z; cases z⟩
end
section
variable {prog : Program} {w : World} {A : Around} {E : Value → Shared → Prop} {s : Shared} {z TI TO i j l m : Addr} {c d : Nat} {xs ys : Array Value} {a b x y : Value}
theorem in_item {Q : Value → Shared → Prop} : ∀ {t : Bool}, InI t s.heap i l c → InQ t s.heap l xs → xs[c]? = some x → (∀ g, InI t g i l (c + 1) → Heap.SameBut i s.heap g → Q x { s with heap := g }) → wpAny (model prog w) A (Builtin.SmallTypes.nextOf (.ref i)) Q E s
  | false, h1, h2, hx, q => wpAny_nextOf_list_item h1 h2 hx q
  | true, h1, h2, hx, q => RZ.nextOf_tuple_item h1 h2 hx q
theorem in_end {Q : Value → Shared → Prop} (hh : A.handled = none) : ∀ {t : Bool}, InI t s.heap i l c → InQ t s.heap l xs → xs[c]? = none → (∀ g e, Heap.ExtBut i s.heap g → (∃ o, g.get? e = some o ∧ o.cls = .type "StopIteration") → E (.ref e) { s with heap := g }) → wpAny (model prog w) A (Builtin.SmallTypes.nextOf (.ref i)) Q E s
  | false, h1, h2, hx, q => wpAny_nextOf_list_end hh h1 h2 hx q
  | true, h1, h2, hx, q => RZ.nextOf_tuple_end hh h1 h2 hx q
end
/-! ### zip(a tuple, a list) -/
def tlH (g : Heap) (l m : Addr) : Heap := ((((g.push { cls := .type "tuple_iterator", data := .fields #[.ref l, .int 0 0] }).push { cls := .type "list_iterator", data := .fields #[.ref m, .int 0 0] }).push { cls := .type "tuple", data := .seq #[.ref g.objs.size, .ref (g.push { cls := .type "tuple_iterator", data := .fields #[.ref l, .int 0 0] }).objs.size] }).push { cls := .type "tuple", data := .seq #[.none, .none] }).push { cls := .type "zip", data := .fields #[.none, .bool false, .bool false, .ref ((g.push { cls := .type "tuple_iterator", data := .fields #[.ref l, .int 0 0] }).push { cls := .type "list_iterator", data := .fields #[.ref m, .int 0 0] }).objs.size, .ref (((g.push { cls := .type "tuple_iterator", data := .fields #[.ref l, .int 0 0] }).push { cls := .type "list_iterator", data := .fields #[.ref m, .int 0 0] }).push { cls := .type "tuple", data := .seq #[.ref g.objs.size, .ref (g.push { cls := .type "tuple_iterator", data := .fields #[.ref l, .int 0 0] }).objs.size] }).objs.size] }
section
variable {prog : Program} {w : World} {A : Around} {E : Value → Shared → Prop} {s : Shared} {l m : Addr} {xs ys : Array Value}
end
/-- the tuple at a, the list at b -/
def ItTL (K : PySem.W.Frag) (a b : Addr) : It where
  go n H := ∃ (xs ys : List V) (x y : V), SqT K H a xs ∧ SqL K H b ys ∧ xs[n]? = some x ∧ ys[n]? = some y
  yld n H v H' := ∃ T x y, v = .ref T ∧ H T = none ∧ H' = upd H T (.tup [x, y]) ∧ (∀ xs, SqT K H a xs → xs[n]? = some x) ∧ ∀ ys, SqL K H b ys → ys[n]? = some y
  stop n H := ∃ xs ys : List V, SqT K H a xs ∧ SqL K H b ys ∧ (xs.length ≤ n ∨ ys.length ≤ n)
def zipAt (t u : Bool) (a b z TI TO i j : Addr) (n : Nat) (g : Heap) : Prop := IsZip g z TI TO .none ∧ IsPair g TI (.ref i) (.ref j) ∧ (∃ x y, IsPair g TO x y) ∧ InI t g i a n ∧ InI u g j b n
theorem zipAt.has {t u : Bool} {a b z TI TO i j c : Addr} {n : Nat} {g : Heap} (h : zipAt t u a b z TI TO i j n g) (hc : c ∈ [z, TI, TO, i, j]) : ∃ o, g.get? c = some o ∧ ∀ v, o.data ≠ .cell v := by
  obtain ⟨h1, h2, ⟨x, y, h3⟩, h4, h5⟩ := h
  simp only [List.mem_cons, List.not_mem_nil, or_false] at hc
  rcases hc with rfl | rfl | rfl | rfl | rfl
  · exact ⟨_, h1, fun v k => nomatch k⟩
  · exact ⟨_, h2, fun v k => nomatch k⟩
  · exact ⟨_, h3, fun v k => nomatch k⟩
  · exact h4.has
  · exact h5.has
def iZipTL (K : PySem.W.Frag) (ta : TA) : TI := fun σ H R => ta σ H fun vs H1 => ∃ a b xs ys, vs = [.ref a, .ref b] ∧ SqT K H1 a xs ∧ SqL K H1 b ys ∧ R (ItTL K a b) H1
/-! ### as a mirror -/
def iZipT (fa : FA) : FI := fun G C => (fa G C).bind fun xs C => match xs with
  | [r, r2] => match viewT C r, viewS C r2 with
    | some l, some l2 => some (.ok (List.zipWith (fun x y => mkTup [x, y]) l l2, fun C' => viewT C' r = some l ∧ viewS C' r2 = some l2), C)
    | _, _ => none
  | _ => none
section
variable {C : Cs} {G : Gs} {g : Option El} {E : Exn → Cs → Prop}
def zipTP (xs : List El) (C : Cs) (Q : Wt → Cs → Prop) : Prop := match xs with
  | [r, r2] => wo (viewT C r) fun l => wo (viewS C r2) fun l2 => Q (List.zipWith (fun x y => mkTup [x, y]) l l2, fun C' => viewT C' r = some l ∧ viewS C' r2 = some l2) C
  | _ => False
theorem zipTP_i {r r2 : El} {Q : Wt → Cs → Prop} : zipTP [r, r2] C Q = wo (viewT C r) fun l => wo (viewS C r2) fun l2 => Q (List.zipWith (fun x y => mkTup [x, y]) l l2, fun C' => viewT C' r = some l ∧ viewS C' r2 = some l2) C := id rfl
theorem w_iZipT {fa : FA} {QI : Wt → Cs → Prop} : wp (iZipT fa (g :: G) C) QI E = wp (fa (g :: G) C) (fun xs C => zipTP xs C QI) E := by
  unfold iZipT
  simp only [w_bind]
  congr 1
  funext xs C
  rcases xs with _ | ⟨x, _ | ⟨y, _ | ⟨z, l⟩⟩⟩
  · rfl
  · rfl
  · show wp (match viewT C x, viewS C y with | some l, some l2 => _ | _, _ => _) _ _ = wo (viewT C x) _
    cases viewT C x <;> cases viewS C y <;> rfl
  · rfl
end
end R
/-! try with clauses of one class or of several, and with an else -/
namespace R
open PySem PySem.Spec PyProof.Rows L2
/-! ### what stands when the heap grows -/
/-! ### a clause's test -/
/-- of an exception of the class cls the test t says b -/
def Says (X : Cx) (t : Expr) (cls : Value) (b : Bool) : Prop := ∀ (a : Addr) (oe : Obj) (pn pins : List (Addr × Obj)) (σ : L2.St) (H : Hp) (s : Shared) (Q : Bool → Shared → Prop) (E : Value → Shared → Prop),
  Inv (X.suite a ((a, oe) :: pn)) pins σ H s → PySem.W.Looks (model X.prog X.w) s.heap (typeOf (.ref a)) cls → (∀ g, (∀ b o, s.heap.get? b = some o → g.get? b = some o) → Q b { s with heap := g }) →
  wpAny (model X.prog X.w) (X.A.mark (some (.ref a))) (eval t X.env) (fun c s1 => wpAny (model X.prog X.w) (X.A.mark (some (.ref a))) (excMatches (.ref a) c) Q E s1) E s
section
variable {X : Cx} {x y : Str} {c d cls : Value} {p p1 p2 : Pos} {kk : Nat} {b : Bool}
end
/-! ### clauses -/
abbrev ClT := (Value → Bool → Prop) × Option Nat × (Addr → Value → Option Addr → TS)
def wCl (Wout : WX) (D : Ends) : List ClT → WX
  | [] => Wout
  | (T, nm, ts) :: r => fun cls d σ H => ∃ b, T cls b ∧ (b = true → ∀ a, H a = none → clDo nm ts a cls d D σ H) ∧ (b = false → wCl Wout D r cls d σ H)
inductive HdT (X : Cx) : List ExceptHandler → List ClT → Prop
  | nil : HdT X [] []
  | bare {t : Expr} {T : Value → Bool → Prop} {ts : Addr → Value → Option Addr → TS} {b₀ : Stmt} {suite : List Stmt} {pos : Pos} {hds : List ExceptHandler} {l : List ClT} (hT : ∀ cls b, T cls b → Says X t cls b)
      (hs : ∀ (a : Addr) (oe : Obj) (cls : Value) (d : Option Addr) (pn : List (Addr × Obj)), Zc cls d oe → (∃ vs, oe.data = .fields vs) → PSs (X.suite a ((a, oe) :: pn)) (b₀ :: suite) (ts a cls d)) (r : HdT X hds l) :
      HdT X (.ExceptHandler (some t) none (b₀ :: suite) pos :: hds) ((T, none, ts) :: l)
  | as {t : Expr} {T : Value → Bool → Prop} {n : Str} {i : Nat} {ts : Addr → Value → Option Addr → TS} {b₀ : Stmt} {suite : List Stmt} {pos : Pos} {hds : List ExceptHandler} {l : List ClT} (hN : X.N.Nodup) (hi : X.N[i]? = some n) (hl : X.env.kindOf n = some .local) (hT : ∀ cls b, T cls b → Says X t cls b)
      (hs : ∀ (a : Addr) (oe : Obj) (cls : Value) (d : Option Addr) (pn : List (Addr × Obj)), Zc cls d oe → (∃ vs, oe.data = .fields vs) → PSs (X.suite a ((a, oe) :: pn)) (b₀ :: suite) (ts a cls d)) (r : HdT X hds l) :
      HdT X (.ExceptHandler (some t) (some n) (b₀ :: suite) pos :: hds) ((T, some i, ts) :: l)
section
variable {X : Cx} {body orelse : List Stmt} {h₀ : ExceptHandler} {hds : List ExceptHandler} {l : List ClT} {pos : Pos} {tb : WX → TS} {u : TS} {Wout : WX} {pins : List (Addr × Obj)} {D : Ends} {cls : Value} {d : Option Addr} {σ : L2.St} {H : Hp} {a : Addr} {B : Heap} {sI s' : Shared}
end
/-! ### as a mirror -/
/-- classes by their names: the test tells of each class that is known -/
def Hits (X : Cx) (t : Expr) (hit : Str → Option Bool) : Prop := ∀ y b, hit y = some b → Says X t (.ref (He.ga X.K y)) b
def hit2 (f g : Str → Option Bool) (y : Str) : Option Bool := match f y, g y with
  | some b, some c => some (b || c)
  | _, _ => none
section
variable {X : Cx} {x y : Str} {p p1 p2 : Pos} {kk : Nat} {f g : Str → Option Bool}
end
inductive HdJ (X : Cx) : List ExceptHandler → List Cl → Prop
  | nil : HdJ X [] []
  | bare {t : Expr} {hit : Str → Option Bool} {su : Addr → Addr → Exn → FS} {b₀ : Stmt} {suite : List Stmt} {pos : Pos} {hds : List ExceptHandler} {l : List Cl} (hh : Hits X t hit)
      (hs : ∀ (a d : Addr) (oe : Obj) (pn : List (Addr × Obj)) (y : Exn), Cau a d oe X.K y → ImB (X.suite a ((a, oe) :: pn)) (b₀ :: suite) (su a d y)) (r : HdJ X hds l) : HdJ X (.ExceptHandler (some t) none (b₀ :: suite) pos :: hds) (⟨hit, none, su⟩ :: l)
  | as {t : Expr} {n : Str} {i : Nat} {hit : Str → Option Bool} {su : Addr → Addr → Exn → FS} {b₀ : Stmt} {suite : List Stmt} {pos : Pos} {hds : List ExceptHandler} {l : List Cl} (hN : X.N.Nodup) (hi : X.N[i]? = some n) (hl : X.env.kindOf n = some .local) (hh : Hits X t hit)
      (hs : ∀ (a d : Addr) (oe : Obj) (pn : List (Addr × Obj)) (y : Exn), Cau a d oe X.K y → ImB (X.suite a ((a, oe) :: pn)) (b₀ :: suite) (su a d y)) (r : HdJ X hds l) : HdJ X (.ExceptHandler (some t) (some n) (b₀ :: suite) pos :: hds) (⟨hit, some i, su⟩ :: l)
abbrev hitT (X : Cx) (hit : Str → Option Bool) : Value → Bool → Prop := fun cls b => ∃ y, cls = .ref (He.ga X.K y) ∧ hit y = some b
section
variable {X : Cx} {body orelse : List Stmt} {h₀ : ExceptHandler} {hds : List ExceptHandler} {cl : List Cl} {pos : Pos} {fb fe : FS}
/-- try .. except .. else -/
noncomputable def sTryE (cl : List Cl) (fb fe : FS) : FS := fun G C => match fb G C with
  | some (.er x, G1, C1) => clRun cl x G1 C1
  | some (.nx, G1, C1) => fe G1 C1
  | o => o
section
variable {C : Cs} {G : Gs} {g : Option El} {T : Fl → Gs → Cs → Prop}
def clE (cl : List Cl) (fe : FS) (T : Fl → Gs → Cs → Prop) : Fl → Gs → Cs → Prop := fun fl G C => match fl with
  | .er x => wps (clRun cl x G C) T
  | .nx => wps (fe G C) T
  | fl => T fl G C
theorem ws_tryE : wps (sTryE cl fb fe (g :: G) C) T = wps (fb (g :: G) C) (clE cl fe T) := by
  unfold sTryE
  rcases fb (g :: G) C with _ | ⟨fl, G1, C1⟩
  · rfl
  · cases fl <;> rfl
theorem clE_nx : clE cl fe T .nx G C = wps (fe G C) T := id rfl
theorem clE_er {x : Exn} : clE cl fe T (.er x) G C = wps (clRun cl x G C) T := id rfl
theorem clE_rt {r : El} : clE cl fe T (.rt r) G C = T (.rt r) G C := id rfl
theorem clE_bk : clE cl fe T .bk G C = T .bk G C := id rfl
theorem clE_ct : clE cl fe T .ct G C = T .ct G C := id rfl
end
end
end R
/-! # List `in` and `.index` of lists of lists -/
namespace R
open PySem L2 SeqAt
/-! ### xs.index(y): data -/
def mIndexD : OM := fun x xs C => match xs with
  | [y] => match pdE C 3 y, viewL C x, pdE C 3 x with
    | some d, some _, some (.list ds) => if SeqAt.shaped d = true ∧ SeqAt.shaped (.list ds) = true then (ds.findIdx? fun z => PyData.eqv z d).map fun j => (.v (.int (j : Int)), C) else none
    | _, _, _ => none
  | _ => none
section
variable {C : Cs} {q : El × Cs → Prop}
def lsD (ls : List (List Int)) : D := .lst (ls.map fun r => D.lst (r.map D.int))
def rwD (r : List Int) : D := .lst (r.map D.int)
end
end R
/-! # Iterators that end while an exception may be handled -/
namespace HT
open PySem PySem.Spec PyProof.Rows HotX
section
variable {prog : Program} {w : World} {A : Around} {E : Value → Shared → Prop} {s : Shared}
/-- nothing is handled, or an exception whose context is None -/
def Qt (A : Around) (h : Heap) : Prop := A.handled = none ∨ ∃ x1, HotAt A x1 h
theorem HotAt.up {x1 : Addr} {h h' : Heap} {it : Addr} (q : HotAt A x1 h) (hn : x1 ≠ it) (k : ∀ b o, b ≠ it → h.get? b = some o → h'.get? b = some o) : HotAt A x1 h' := by
  obtain ⟨hh, o, vs, h1, h2, h3⟩ := q
  exact ⟨hh, o, vs, k _ _ hn h1, h2, h3⟩
/-- StopIteration is raised -/
theorem stop_tail {α : Type} {Q : α → Shared → Prop} (q : Qt A s.heap)
    (hE : ∀ a h', (∀ b o, s.heap.get? b = some o → h'.get? b = some o) → (∃ o, h'.get? a = some o ∧ o.cls = .type "StopIteration") → E (.ref a) { s with heap := h' }) :
    wpAny (model prog w) A (newExc (.type "StopIteration") []) (fun a s' => wpAny (model prog w) A (raiseNew a : Sem α) Q E s') E s := by
  simp only [newExc, newTuple]
  refine wpAny_bind (wpAny_newObj_type ?_ (by size_fits))
  refine wpAny_bind (m := firstArgMember _ _) (wpAny_of_eq (a := Value.none) (by first | rfl | (simp only [firstArgMember]; rfl)) ?_)
  refine wpAny_newObj_type ?_ (by size_fits)
  rcases q with hh | ⟨x1, hh, o1, vs1, h1, d1, c1⟩
  · simp only [raiseNew]
    refine wpAny_bind (wpAny_handled ?_)
    rw [hh]
    refine wpAny_bind (wpAny_pure (wpAny_throw ?_))
    exact hE _ _ (fun b o e => Heap.get?_push_of_some _ (Heap.get?_push_of_some _ e)) ⟨_, Heap.get?_push_size _ rfl, rfl⟩
  · refine raiseNew_hot ⟨hh, o1, vs1, Heap.get?_push_of_some _ (Heap.get?_push_of_some _ h1), d1, c1⟩ (Nat.ne_of_lt (Heap.lt_size (Heap.get?_push_of_some _ h1))) (Heap.get?_push_size _ rfl) rfl (by first | (simp; done) | (simp; omega) | (simp only [Array.size_append]; simp; omega)) ?_
    refine hE _ _ (fun b o e => ?_) ⟨_, Heap.get?_update_self _ (Heap.get?_push_size _ rfl) rfl, rfl⟩
    rw [Heap.get?_update_other _ _ (Nat.ne_of_gt (Heap.lt_size (Heap.get?_push_of_some _ e)))]
    exact Heap.get?_push_of_some _ (Heap.get?_push_of_some _ e)
/-- behind a field of the iterator set to None -/
theorem Qt.up {h h' : Heap} {it : Addr} (q : Qt A h) (hn : ∀ x1, A.handled = some (.ref x1) → x1 ≠ it) (k : ∀ b o, b ≠ it → h.get? b = some o → h'.get? b = some o) : Qt A h' := by
  rcases q with q | ⟨x1, q⟩
  · exact .inl q
  · exact .inr ⟨x1, HotAt.up q (hn x1 q.1) k⟩
theorem list_end {it l : Addr} {i : Nat} {items} {Q : Option Value → Shared → Prop} (q : Qt A s.heap) (hn : ∀ x1, A.handled = some (.ref x1) → x1 ≠ it)
    (hit : s.heap.IsListIter it l i) (hl : s.heap.IsList l items) (hx : items[i]? = none)
    (hQ : ∀ h', (∀ b o, b ≠ it → s.heap.get? b = some o → h'.get? b = some o) → Q none { s with heap := h' }) : wpAny (model prog w) A (pyNext (.ref it)) Q E s := by
  obtain ⟨o, ho, hc, hd⟩ := id hit
  obtain ⟨ol, hol, _, nl, hdl⟩ := hl
  unfold pyNext
  refine wpAny_bind (wpAny_attempt (wpAny_callSpecial?_slot (name := Str.ofString "__next__") hit.typeIs slot_listiter_next
    (wpAny_call_entry slot_listiter_next hit.typeIs entry_listiter_next ?_ (args_listiter_next _))))
  show wpAny _ _ (field (.ref it) 0 >>= _) _ _ s
  refine wpAny_bind (wpAny_field ho hd (x := .ref l) rfl ?_)
  show wpAny _ _ (if (Value.ref l == Value.none) = true then _ else _) _ _ s
  rw [if_neg (show ¬ ((Value.ref l == Value.none) = true) from Bool.false_ne_true)]
  show wpAny _ _ (field (.ref it) 1 >>= _) _ _ s
  refine wpAny_bind (wpAny_field ho hd (x := .int i 0) rfl ?_)
  show wpAny _ _ (seqItems? (.ref l) >>= _) _ _ s
  refine wpAny_bind (wpAny_seqItems hol hdl ?_)
  simp only [Int.toNat_natCast, hx]
  refine wpAny_bind (wpAny_rule (wpAny_bind (wpAny_setField ho hd (by simp) ?_)))
  show wpAny _ _ (newExc (.type "StopIteration") [] >>= _) _ _ _
  have k1 : ∀ b o, b ≠ it → s.heap.get? b = some o → (s.heap.update it (Obj.mapFields (·.setIfInBounds 0 .none))).get? b = some o := fun b o hb e => by
    rw [Heap.get?_update_other _ _ (Ne.symm hb)]
    exact e
  refine wpAny_bind (stop_tail (A := A.in1) (Qt.up (A := A.in1) q hn k1) fun a h' k hc => ?_)
  obtain ⟨oe, he, hcl⟩ := hc
  refine wpAny_bind (wpAny_isInstance (T := "StopIteration") (b := true) ⟨_, he, hcl⟩ isSubtype_stop ?_)
  exact wpAny_pure (hQ _ fun b o hb e => k b o (k1 b o hb e))
end
end HT
/-! # Walks over lists and dicts while an exception is handled -/
namespace HT
open PySem PySem.Spec PyProof.Rows HotX L2 L2H
section
variable {X : Cx} {pins : List (Addr × Obj)} {σ : L2.St} {H : Hp} {s : Shared} {it : Addr}
theorem qt_of (hc : HotC X) (I : Inv X pins σ H s) : Qt X.A s.heap := .inr (hc.at I)
theorem ne_of (hc : HotC X) (hf : FpOk X pins H it) : ∀ x1, X.A.handled = some (.ref x1) → x1 ≠ it := fun x1 e z => by
  obtain ⟨p, ⟨hh, _⟩, hp⟩ := hc
  rw [hh] at e
  injection e with e
  injection e with e
  exact hf.2.2.2.2.2 p (List.mem_append_left _ hp) (e.trans z)
end
section
variable {X : Cx} {tg e : Expr} {td tl : TE} {apos cpos : Pos}
end
end HT
/-! # Tuples and lists taken apart while an exception is handled -/
namespace HT
open PySem PySem.Spec PyProof.Rows HotX
section
variable {prog : Program} {w : World} {A : Around} {E : Value → Shared → Prop} {s : Shared} {env : Env}
theorem tup_end {it t : Addr} {i : Nat} {items} {Q : Option Value → Shared → Prop} (q : Qt A s.heap) (hn : ∀ x1, A.handled = some (.ref x1) → x1 ≠ it)
    (hit : IsTupIter s.heap it t i) (ht : IsTup s.heap t items) (hx : items[i]? = none)
    (hQ : ∀ h', (∀ b o, b ≠ it → s.heap.get? b = some o → h'.get? b = some o) → Q none { s with heap := h' }) : wpAny (model prog w) A (pyNext (.ref it)) Q E s := by
  obtain ⟨o, ho, hc, hd⟩ := id hit
  obtain ⟨ol, hol, _, nl, hdl⟩ := ht
  unfold pyNext
  refine wpAny_bind (wpAny_attempt (wpAny_callSpecial?_slot (name := Str.ofString "__next__") hit.typeIs slot_tupleiter_next
    (wpAny_call_entry slot_tupleiter_next hit.typeIs entry_tupleiter_next ?_ (args_tupleiter_next _))))
  show wpAny _ _ (field (.ref it) 0 >>= _) _ _ s
  refine wpAny_bind (wpAny_field ho hd (x := .ref t) rfl ?_)
  show wpAny _ _ (if (Value.ref t == Value.none) = true then _ else _) _ _ s
  rw [if_neg (show ¬ ((Value.ref t == Value.none) = true) from Bool.false_ne_true)]
  show wpAny _ _ (field (.ref it) 1 >>= _) _ _ s
  refine wpAny_bind (wpAny_field ho hd (x := .int i 0) rfl ?_)
  show wpAny _ _ (seqItems? (.ref t) >>= _) _ _ s
  refine wpAny_bind (wpAny_seqItems hol hdl ?_)
  simp only [Int.toNat_natCast, hx]
  refine wpAny_bind (wpAny_rule (wpAny_bind (wpAny_setField ho hd (by simp) ?_)))
  show wpAny _ _ (newExc (.type "StopIteration") [] >>= _) _ _ _
  have k1 : ∀ b o, b ≠ it → s.heap.get? b = some o → (s.heap.update it (Obj.mapFields (·.setIfInBounds 0 .none))).get? b = some o := fun b o hb e => by
    rw [Heap.get?_update_other _ _ (Ne.symm hb)]
    exact e
  refine wpAny_bind (stop_tail (A := A.in1) (Qt.up (A := A.in1) q hn k1) fun a h' k hc => ?_)
  obtain ⟨oe, he, hcl⟩ := hc
  refine wpAny_bind (wpAny_isInstance (T := "StopIteration") (b := true) ⟨_, he, hcl⟩ isSubtype_stop ?_)
  exact wpAny_pure (hQ _ fun b o hb e => k b o (k1 b o hb e))
/-- what is handled stands below a new object -/
theorem Qt.ne {h : Heap} (q : Qt A h) : ∀ x1, A.handled = some (.ref x1) → x1 ≠ h.objs.size := fun x1 e z => by
  rcases q with q | ⟨x2, hh, o, vs, h1, _⟩
  · rw [q] at e
    cases e
  · rw [hh] at e
    injection e with e
    injection e with e
    rw [e] at h1
    have := Heap.lt_size h1
    rw [z] at this
    exact Nat.lt_irrefl _ this
theorem unpackT {t : Addr} {items : Array Value} {Q : List Value → Shared → Prop} (q : Qt A s.heap) (ht : IsTup s.heap t items)
    (hQ : ∀ h', Heap.ExtBut s.heap.objs.size s.heap h' → Q items.toList { s with heap := h' }) : wpAny (model prog w) A (unpackItems (.ref t) items.size none) Q E s := by
  have hlt : t ≠ s.heap.objs.size := by obtain ⟨o, ho, _⟩ := ht; exact Nat.ne_of_lt (Heap.lt_size ho)
  unfold unpackItems
  refine wpAny_bind ?_
  · unfold notIterableAtAll
    refine wpAny_bind (wpAny_specialOf ht.typeIs slot_tuple_iter.lookup ?_)
    refine wpAny_pure ?_
    simp only [Bool.false_eq_true, if_false]
    refine wpAny_bind (wpAny_holding (iter_tuple ht ?_))
    refine wpAny_bind (wpAny_holding (draw_tuple hlt items.size 0 _ _ ⟨_, Heap.get?_push_size _ rfl, rfl, rfl⟩ (ht.push _) (by omega) fun h₁ hit₁ hs₁ => ?_))
    have hall : List.take items.size (List.drop 0 items.toList) = items.toList := by
      rw [List.drop_zero]; exact List.take_of_length_le (by simp)
    rw [hall]
    rw [if_neg (by simp)]
    have ht₁ : IsTup h₁ t items := (ht.push _).extBut hs₁.extBut hlt
    have k1 : ∀ b o, b ≠ s.heap.objs.size → s.heap.get? b = some o → h₁.get? b = some o := fun b o hb e => hs₁.extBut b o hb (Heap.get?_push_of_some _ e)
    refine wpAny_bind (wpAny_holding (tup_end (Qt.up q (Qt.ne q) k1) (Qt.ne q) hit₁ ht₁ (by simp) fun h₂ he₂ => ?_))
    simp only [Option.isSome_none, Bool.false_eq_true, if_false]
    refine wpAny_pure (hQ h₂ fun b o hb e => he₂ b o hb (k1 b o hb e))
theorem unpackL {l : Addr} {items : Array Value} {Q : List Value → Shared → Prop} (q : Qt A s.heap) (hl : s.heap.IsList l items)
    (hQ : ∀ h', Heap.ExtBut s.heap.objs.size s.heap h' → Q items.toList { s with heap := h' }) : wpAny (model prog w) A (unpackItems (.ref l) items.size none) Q E s := by
  have hlt : l ≠ s.heap.objs.size := by obtain ⟨o, ho, _⟩ := hl; exact Nat.ne_of_lt (Heap.lt_size ho)
  unfold unpackItems
  refine wpAny_bind ?_
  · unfold notIterableAtAll
    refine wpAny_bind (wpAny_specialOf hl.typeIs slot_list_iter.lookup ?_)
    refine wpAny_pure ?_
    simp only [Bool.false_eq_true, if_false]
    refine wpAny_bind (wpAny_holding (wpAny_pyIter_list hl ?_))
    refine wpAny_bind (wpAny_holding (PySem.W.kun_draw hlt items.size 0 _ _ ⟨_, Heap.get?_push_size _ rfl, rfl, rfl⟩ (hl.push _) (by omega) fun h₁ hit₁ hs₁ => ?_))
    have hall : List.take items.size (List.drop 0 items.toList) = items.toList := by
      rw [List.drop_zero]; exact List.take_of_length_le (by simp)
    rw [hall]
    rw [if_neg (by simp)]
    have hl₁ : h₁.IsList l items := (hl.push _).extBut hs₁.extBut hlt
    have k1 : ∀ b o, b ≠ s.heap.objs.size → s.heap.get? b = some o → h₁.get? b = some o := fun b o hb e => hs₁.extBut b o hb (Heap.get?_push_of_some _ e)
    refine wpAny_bind (wpAny_holding (list_end (Qt.up q (Qt.ne q) k1) (Qt.ne q) hit₁ hl₁ (by simp) fun h₂ he₂ => ?_))
    simp only [Option.isSome_none, Bool.false_eq_true, if_false]
    refine wpAny_pure (hQ h₂ fun b o hb e => he₂ b o hb (k1 b o hb e))
end
open L2 L2H
section
variable {X : Cx} {pos : Pos}
theorem pg_tupH {es : List Expr} {k : Nat} {t : TGs} {n : Nat} (hc : HotC X) (h : PGs X es t)
    (hn : (assignEach es X.env).length = n := by rfl) (hst : (assignEach es X.env).findIdx? (·.1) = none := by rfl) : PG X (.Tuple es k pos) (gTup X.K n t) := by
  refine ⟨fun pins s σ H v u Q I r hw => ?_⟩
  obtain ⟨a, xs, e1, hq, hl, hw⟩ := hw
  subst e1
  cases r
  obtain ⟨its, rv, ht, hz⟩ := I.tuple hq
  have hn' : (assignEach es X.env).length = its.toArray.size := hn.trans (hl.symm.trans (rv.length.trans (by simp)))
  rw [PyProof.Rows.assign_Tuple]
  refine wpAny_bind (wpAny_standAt ?_)
  unfold unpack
  rw [hn', hst]
  refine wpAny_bind (wpAny_holding (unpackT (qt_of hc I) ht fun h' hx => ?_))
  have I1 : Inv X pins σ H { s with heap := h' } := I.kept (t' := s.toks) fun b o e => hx b o (Nat.ne_of_lt (Heap.lt_size e)) e
  exact h.run pins _ σ H xs _ Q I1 (by simpa using rv) hw
theorem pg_unlH {es : List Expr} {k : Nat} {t : TGs} {n : Nat} (hc : HotC X) (h : PGs X es t)
    (hn : (assignEach es X.env).length = n := by rfl) (hst : (assignEach es X.env).findIdx? (·.1) = none := by rfl) : PG X (.Tuple es k pos) (gUnl X.K n t) := by
  refine ⟨fun pins s σ H v u Q I r hw => ?_⟩
  obtain ⟨a, xs, e1, hq, hl, hw⟩ := hw
  subst e1
  cases r
  obtain ⟨its, rv, pl, hz⟩ := I.list hq
  have hl' : s.heap.IsList a its.toArray := by
    obtain ⟨o, m, e, c, d, q⟩ := pl
    exact ⟨o, e, c, m, q⟩
  have hn' : (assignEach es X.env).length = its.toArray.size := hn.trans (hl.symm.trans (rv.length.trans (by simp)))
  rw [PyProof.Rows.assign_Tuple]
  refine wpAny_bind (wpAny_standAt ?_)
  unfold unpack
  rw [hn', hst]
  refine wpAny_bind (wpAny_holding (unpackL (qt_of hc I) hl' fun h' hx => ?_))
  have I1 : Inv X pins σ H { s with heap := h' } := I.kept (t' := s.toks) fun b o e => hx b o (Nat.ne_of_lt (Heap.lt_size e)) e
  exact h.run pins _ σ H xs _ Q I1 (by simpa using rv) hw
end
end HT
/-! # Walks while an exception is handled (printed by hotgen.py) -/
namespace R
open PySem L2
def wIH (X : Cx) (tg iter : Expr) : TI := fun s H R => ∃ w, L2H.PIH X tg iter w ∧ w s H R
theorem wIH_ok {X : Cx} {tg iter : Expr} : L2H.PIH X tg iter (wIH X tg iter) := ⟨fun pins s q H R I ⟨_, h, z⟩ => h.run pins s q H R I z⟩
abbrev ImIH (X : Cx) (tg iter : Expr) (f : FI) : Prop := Im X (fun A C H r J => Wk X.K A C H J r) (wIH X tg iter) f
section
variable {X : Cx} {tg e e2 : Expr} {p p2 : Pos}
end
section
variable {X : Cx} {tg : Expr} {tgs : List Expr} {p : Pos} {ns : List Nat}
theorem ig_tupH {k n : Nat} {g : FGs} (hc : L2H.HotC X) (h : ImGs X tgs ns g) (hl : (assignEach tgs X.env).length = n := by rfl) (hst : (assignEach tgs X.env).findIdx? (·.1) = none := by rfl) : ImG X (.Tuple tgs k p) ns (gTp g n) :=
  fun b A G C s H r v G' S hr e q hq => by
    unfold gTp at e
    split at e
    · rename_i l e1
      split at e
      · rename_i e2
        obtain ⟨a, vs, ev, h1, h2⟩ := viewT_ok S e1 hr
        exact ⟨_, HT.pg_tupH hc wGs_ok hl hst, a, vs, ev, .inl (.inl h1), h2.length.symm.trans e2, h b A G C s H l vs G' S h2 e q hq⟩
      · cases e
    · split at e
      · rename_i l e1
        split at e
        · rename_i e2
          obtain ⟨a, vs, ev, h1, h2⟩ := viewL_ok S e1 hr
          exact ⟨_, HT.pg_unlH hc wGs_ok hl hst, a, vs, ev, .inl (.inl h1), h2.length.symm.trans e2, h b A G C s H l vs G' S h2 e q hq⟩
        · cases e
      · cases e
end
section
variable {X : Cx} {tg iter e : Expr} {p : Pos} {body : List Stmt} {ns : List Nat}
end
end R
/-! # Comprehensions while an exception is handled -/
namespace HT
open PySem PySem.Spec PyProof.Rows HotX L2 L2H
/-- a block's context that bears what is handled -/
abbrev blkH (X : Cx) (s : Shared) (H : Hp) (scope : Scope) (cenv : Env) (fp : List Addr) : Cx := (X.blk s H scope cenv fp).tr X.pn (fun _ _ => False)
section
variable {X : Cx} {pins : List (Addr × Obj)} {σ : L2.St} {H : Hp} {s : Shared}
theorem inv_pn {Y : Cx} {P : List (Addr × Obj)} {xe : Value → Shared → Prop} (J : Inv Y [] σ H s) (h : ∀ p ∈ P, s.heap.get? p.1 = some p.2 ∧ H p.1 = none ∧ p.1 ≠ Y.env.locals ∧ p.1 ∉ Y.fs ∧ ∀ v, p.2.data ≠ .cell v) : Inv (Y.tr P xe) [] σ H s :=
  ⟨J.ok.toTry P xe, J.os, J.bare, J.base, J.loc, J.cell, J.free, J.freeC, fun p hp => h p (by simpa using hp), J.hok, J.len⟩
theorem block_startH {scope : Scope} {own : List (Str × Nat)} {fp : List Addr} (I : Inv X pins σ H s) (ok : BlkOk X.N X.env.scope scope own) (hN : X.N.Nodup) (hfp : ∀ b ∈ fp, FpOk X pins H b ∧ b < s.heap.objs.size) :
    Inv (blkH X s H scope (compEnvC scope (cellsFrom (s.heap.objs.size + 1) scope.names (cloFrom X.env.cells scope.names [])) s.heap.objs.size X.env) fp) [] (wipe σ (own.map (·.2))) H { s with heap := pushCells (s.heap.push { cls := .type "dict", data := .dict #[] }) scope.names } := by
  refine inv_pn (block_start I ok hN hfp) fun p hp => ?_
  have P1 := I.pin p (List.mem_append_left _ hp)
  refine ⟨pushCells_keeps _ _ _ _ (Heap.get?_push_of_some _ P1.1), P1.2.1, Nat.ne_of_lt (Heap.lt_size P1.1), fun hm => ?_, P1.2.2.2.2⟩
  exact (List.mem_cons.mp (I.stkSub p.1 hm)).elim P1.2.2.1 P1.2.2.2.1
theorem lc_coreH {Q : VK} {elt tg iter : Expr} {ifs : List Expr} {scope : Scope} {own : List (Str × Nat)} {pos pos' : Pos} {wi : TI} {g : TG} {tt : TT} {te : TE} {use : Option (Value → Sem Unit)} {Qf : Value → Shared → Prop}
    (hc : HotC X) (hN : X.N.Nodup) (I : Inv X pins σ H s) (hi : PIH X tg iter wi) (ok : BlkOk X.N X.env.scope scope own)
    (hg : ∀ (s : Shared) (H : Hp) (C : Addr) (cl : List (Str × Addr)) (fp : List Addr), PG (blkH X s H scope (compEnvC scope cl C X.env) fp) tg g) (ht : ∀ (s : Shared) (H : Hp) (C : Addr) (cl : List (Str × Addr)) (fp : List Addr), PTs (blkH X s H scope (compEnvC scope cl C X.env) fp) ifs tt)
    (he : ∀ (s : Shared) (H : Hp) (C : Addr) (cl : List (Str × Addr)) (fp : List Addr), PE (blkH X s H scope (compEnvC scope cl C X.env) fp) elt te) (hs : ∀ x, foldedSetIterable iter X.env x = pure x)
    (h : tLc wi g tt te (own.map (·.2)) σ H Q)
    (hRR : ∀ D C s' m H', Inv X pins σ H' s' → Q (.ref D) H' → s'.heap.Ns C m → FpOk X pins H' C → compPost (model X.prog X.w) X.A X.xe use Qf (.ref D) C (.ok .next) s') :
    wpAny (model X.prog X.w) X.A (comprehension (.ListComp elt [⟨tg, iter, ifs, 0⟩] scope pos) scope X.env pos' (newList []) false (eval iter X.env) use) Qf X.xe s := by
  have hfree : ∀ y ∈ scope.names, y.2 = .free → ∃ c, X.env.cells.lookup y.1 = some c := fun y hy e => by
    rcases ok.free y hy e with k | k
    · exact I.ok.has _ (.inl k)
    · exact I.ok.has _ (.inr k)
  refine wpAny_comprehension_free (use := use) rfl hs (closure_ok hfree) ok.kind (fun y hy e => by rw [ok.uniq y hy, e])
    (thn (hi.run pins s σ H _ I h) fun xv s1 hx => thn hx fun itv s2 h2 => ?_)
  obtain ⟨it, fp, tn, J, H2, e, I2, T, st2, f2, q⟩ := h2
  subst e
  refine wpAny_newObj_type (newEnv_comp ?_) (by show 0 ≤ sizeLine; decide)
  generalize hD : s2.heap.objs.size = D
  have hDn : H2 D = none := I2.hok.fresh (Nat.le_of_eq hD)
  obtain ⟨W, ⟨m0, w0⟩, turn⟩ := q D hDn
  generalize hs3 : ({ s2 with heap := s2.heap.push { cls := .type "list", data := .seq ([] : List Value).toArray } } : Shared) = s3
  have I3 : Inv X pins σ (upd H2 D (.lst [])) s3 := by
    rw [← hs3]
    refine I2.laid (t' := s2.toks) (fun b o e => Heap.get?_push_of_some _ e) (Nat.le_of_eq hD) ⟨Nat.zero_le _, [], 0, .nil, ?_⟩
    rw [← hD]
    exact Heap.get?_push_size _ rfl
  have h3 : s3.heap = s2.heap.push { cls := .type "list", data := .seq ([] : List Value).toArray } := by rw [← hs3]
  have sz : ∀ b ∈ fp, b < s2.heap.objs.size := fun b hb => by
    obtain ⟨o, e, _⟩ := T.obj _ _ st2 b hb
    exact Heap.lt_size e
  have f3 : ∀ b ∈ fp, FpOk X pins (upd H2 D (.lst [])) b ∧ b < s3.heap.objs.size := fun b hb => by
    have hlt := sz b hb
    refine ⟨⟨?_, (f2 b hb).2⟩, by rw [h3, Heap.size_push]; exact Nat.lt_succ_of_lt hlt⟩
    rw [upd_ne (by rw [← hD]; exact Nat.ne_of_lt hlt)]
    exact (f2 b hb).1
  have st3 : tn 0 s3.heap := T.keep _ _ _ st2 fun b _ o e => by rw [h3]; exact Heap.get?_push_of_some _ e
  have I4 := block_startH I3 ok hN f3
  have pg := hg s3 (upd H2 D (.lst [])) s3.heap.objs.size (cellsFrom (s3.heap.objs.size + 1) scope.names (cloFrom X.env.cells scope.names [])) fp
  have pt := ht s3 (upd H2 D (.lst [])) s3.heap.objs.size (cellsFrom (s3.heap.objs.size + 1) scope.names (cloFrom X.env.cells scope.names [])) fp
  have pe := he s3 (upd H2 D (.lst [])) s3.heap.objs.size (cellsFrom (s3.heap.objs.size + 1) scope.names (cloFrom X.env.cells scope.names [])) fp
  show codeAny _ _ (.compStart (.ListComp elt [⟨tg, iter, ifs, 0⟩] scope pos) 0 (.ref it) (.ref D) (compEnvC scope (cellsFrom (s3.heap.objs.size + 1) scope.names (cloFrom X.env.cells scope.names [])) s3.heap.objs.size X.env)) (compPost (model X.prog X.w) X.A X.xe use Qf (.ref D) s3.heap.objs.size) { s3 with heap := pushCells (s3.heap.push { cls := .type "dict", data := .dict #[] }) scope.names }
  have nfp : ∀ b ∈ fp, (upd H2 D (.lst [])) b = none := fun b hb => (f3 b hb).1.1
  generalize hce : compEnvC scope (cellsFrom (s3.heap.objs.size + 1) scope.names (cloFrom X.env.cells scope.names [])) s3.heap.objs.size X.env = ce at I4 pg pt pe ⊢
  have cL : ce.locals = s3.heap.objs.size := by subst hce; rfl
  generalize hH3 : upd H2 D (.lst []) = H3 at I3 I4 pg pt pe w0 nfp f3
  generalize hs4 : ({ s3 with heap := pushCells (s3.heap.push { cls := .type "dict", data := .dict #[] }) scope.names } : Shared) = s4 at I4 ⊢
  have st4 : tn 0 s4.heap := T.keep _ _ _ st3 fun b _ o e => by rw [← hs4]; exact pushCells_keeps _ _ _ _ (Heap.get?_push_of_some _ e)
  have hcB : HotC (blkH X s3 H3 scope ce fp) := by
    obtain ⟨p, h1, h2⟩ := hc
    exact ⟨p, h1, h2⟩
  have stat : ∀ {σ' : L2.St} {H' : Hp} {s' : Shared}, Inv (blkH X s3 H3 scope ce fp) [] σ' H' s' → (∀ b ∈ fp, H' b = none) → ∀ b ∈ fp, FpOk (blkH X s3 H3 scope ce fp) [] H' b := fun {σ' H' s'} I' hn b hb =>
    ⟨hn b hb, (I'.ok.exf b hb).1, I'.ok.exfs b hb, .inl hb, fun x c e => (I'.ok.exf b hb).2 x c e, fun p hp => (f3 b hb).1.2.2.2.2.2 p (List.mem_append_left _ (by simpa using hp))⟩
  have loop : codeAny (model X.prog X.w) X.A (.compLoop (.ListComp elt [⟨tg, iter, ifs, 0⟩] scope pos) 0 (.ref it) (.ref D) ce) (compPost (model X.prog X.w) X.A X.xe use Qf (.ref D) s3.heap.objs.size) s4 := by
    refine compLoop_any (fun n s' => ∃ i H', Inv (blkH X s3 H3 scope ce fp) [] (wipe σ (own.map (·.2))) H' s' ∧ tn i s'.heap ∧ (∀ b ∈ fp, H' b = none) ∧ W i n H') ?_ m0 ⟨0, H3, I4, st4, nfp, w0⟩
    rintro n s5 ⟨i, H5, I5, st5, n5, w5⟩
    rcases turn i n H5 w5 with ⟨stop, qq⟩ | ⟨go, Nx, hNx, step⟩
    · have td := T.done (blkH X s3 H3 scope ce fp) rfl rfl rfl hcB i [] s5 _ H5 (fun _ _ => False) I5 (stat I5 n5) st5 stop
      refine thnF td fun r s6 ⟨hr, I6⟩ => ?_
      subst hr
      have I7 : Inv X pins σ H5 s6 := I3.call' (ch := fp) I6.os I6.base I6.hok I6.bare fun b hb => ⟨(f3 b hb).1.2.2.2.1, (f3 b hb).1.2.1, (f3 b hb).1.2.2.2.2.1, (f3 b hb).1.2.2.2.2.2⟩
      have nC : H5 s3.heap.objs.size = none := by
        have z : H5 ce.locals = none := I6.free
        rw [cL] at z
        exact z
      obtain ⟨m, hn, _⟩ := I6.loc
      have hn : s6.heap.Ns ce.locals m := hn
      rw [cL] at hn
      exact hRR D s3.heap.objs.size s6 m H5 I7 qq hn (I3.fpOk (Nat.le_refl _) nC)
    · have ti := T.item (blkH X s3 H3 scope ce fp) rfl rfl rfl hcB i [] s5 _ H5 (fun _ _ => False) I5 (stat I5 n5) st5 go
      refine thnF ti fun r s6 ⟨u, hr, h6⟩ => ?_
      subst hr
      refine thnF h6 fun _ s7 ⟨x, H7, I7, r7, y7, st7, n7⟩ => ?_
      have I7' := I7.pinned (stat I7 n7) (T.obj _ _ st7)
      refine thnF (pg.run _ s7 _ H7 x u _ I7' r7 (step x H7 y7)) fun _ s8 ⟨σ8, H8, I8, hw8, q8⟩ => ?_
      refine thnF (pt.run _ s8 σ8 H8 _ I8 q8) fun b s9 ⟨H9, I9, q9⟩ => ?_
      have fin : ∀ {s' : Shared} {H' : Hp}, Inv (blkH X s3 H3 scope ce fp) ([] ++ pinsAt fp s7.heap) σ8 H' s' → Nx H' → ∃ m, m < n ∧ ∃ i H', Inv (blkH X s3 H3 scope ce fp) [] (wipe σ (own.map (·.2))) H' s' ∧ tn i s'.heap ∧ (∀ b ∈ fp, H' b = none) ∧ W i m H' := fun {s' H'} I' nx => by
        obtain ⟨m', hm, w'⟩ := hNx H' nx
        have pin' : ∀ b ∈ fp, ∀ o, s7.heap.get? b = some o → s'.heap.get? b = some o ∧ H' b = none := fun b hb o e =>
          let z := I'.pin (b, o) (List.mem_append_right _ (List.mem_append_right _ (mem_pinsAt hb e)))
          ⟨z.1, z.2.1⟩
        have hl : (wipe σ (own.map (·.2))).length = σ8.length := by rw [← hw8, wipe_length]
        refine ⟨m', hm, i + 1, H', (I'.unpinned (pins := [])).weak hl (fun j v e => ?_), T.keep _ _ _ st7 fun b hb o e => (pin' b hb o e).1, fun b hb => ?_, w'⟩
        · rw [← hw8] at e
          exact (wipe_some e).1
        · obtain ⟨o, e, _⟩ := T.obj _ _ st7 b hb
          exact (pin' b hb o e).2
      cases b with
      | false =>
        simp only [Bool.false_eq_true, if_false] at q9 ⊢
        exact fin I9 q9
      | true =>
        simp only [if_true] at q9 ⊢
        refine thnF (pe.run _ s9 σ8 H9 _ I9 q9) fun z s10 ⟨yv, H10, I10, r10, acc, hD10, hz10, nx⟩ => ?_
        exact app_ok (X := blkH X s3 H3 scope ce fp) I10 hD10 hz10 r10 fun s11 I11 => fin I11 nx
  exact codeAny_compStart_list loop (T.self X.A 0 _ _ _ st4 loop)
theorem ps_setLcH {i : Nat} {y : Str} {py : Pos} {elt tg iter : Expr} {ifs : List Expr} {scope : Scope} {own : List (Str × Nat)} {pos spos : Pos} {wi : TI} {g : TG} {tt : TT} {te : TE} (hc : HotC X) (hN : X.N.Nodup) (hy : X.N[i]? = some y) (hyl : X.env.scope.names.lookup y = some .local)
    (hsw : swapsWith (.ListComp elt [⟨tg, iter, ifs, 0⟩] scope pos) (some (.Name y py)) spos.line X.env = pure true) (hi : PIH X tg iter wi) (ok : BlkOk X.N X.env.scope scope own)
    (hg : ∀ (s : Shared) (H : Hp) (C : Addr) (cl : List (Str × Addr)) (fp : List Addr), PG (blkH X s H scope (compEnvC scope cl C X.env) fp) tg g) (ht : ∀ (s : Shared) (H : Hp) (C : Addr) (cl : List (Str × Addr)) (fp : List Addr), PTs (blkH X s H scope (compEnvC scope cl C X.env) fp) ifs tt)
    (he : ∀ (s : Shared) (H : Hp) (C : Addr) (cl : List (Str × Addr)) (fp : List Addr), PE (blkH X s H scope (compEnvC scope cl C X.env) fp) elt te) (hs : ∀ x, foldedSetIterable iter X.env x = pure x := by intro _; rfl) :
    PS X (.Assign [.Name y py] (.ListComp elt [⟨tg, iter, ifs, 0⟩] scope pos) spos) (tAsg (tLc wi g tt te (own.map (·.2))) (gName i)) := by
  refine ⟨fun pins s σ H D I h => ?_⟩
  rw [exec_Assign_Name_used _ _ _ _ hsw]
  refine wpAny_bind (wpAny_standAt (wpAny_bind ?_))
  show wpAny _ X.A (do let _ ← comprehension (.ListComp elt [⟨tg, iter, ifs, 0⟩] scope pos) scope X.env (firstIterPos [⟨tg, iter, ifs, 0⟩] pos) (newList []) false (eval iter X.env) (some (assign (.Name y py) X.env))) _ _ s
  have h : tLc wi g tt te (own.map (·.2)) σ H (fun x H1 => gName i x σ H1 D.nx) := h
  refine wpAny_bind (thn (lc_coreH (Qf := fun _ s' => SP X pins D .next s') hc hN I hi ok hg ht he hs h fun L C s' m H' I' q hn f => ?_) fun _ s' hq => wpAny_pure (wpAny_pure hq))
  show wpAny _ _ (assign (.Name y py) X.env (.ref L)) _ _ _
  refine wpAny_assign_Name (store_ok2 (v := V.ref L) I' hN hy (.inl hyl) rfl (fun s2 I2 ⟨a, sb, ha⟩ => ?_) (.inr hyl))
  obtain ⟨f0, f1, f2, f3, f4, f5⟩ := f
  have haC : C ≠ a := by
    rcases ha with z | z
    · rw [z]; exact f1
    · exact fun e => f4 y a z e.symm
  refine ⟨m, hn.sameBut sb haC, fun h3 sb3 => ?_⟩
  exact ⟨_, H', I2.turned (t' := s2.toks) (fun b o hb e => (sb3.2 b hb).trans e) f0 f1 f3 f4 f5, q⟩
end
end HT
/-! # Comprehensions while an exception is handled (printed by hotgen.py) -/
namespace R
open PySem L2
abbrev BlkH (X : Cx) (scope : Scope) (P : Cx → Prop) : Prop := ∀ (s : Shared) (H : Hp) (c : Addr) (cl : List (Str × Addr)) (fp : List Addr), P (HT.blkH X s H scope (compEnvC scope cl c X.env) fp)
def bGH (X : Cx) (scope : Scope) (tg : Expr) : TG := fun v s H k => BlkH X scope fun Y => wG Y tg v s H k
def bTH (X : Cx) (scope : Scope) (ifs : List Expr) : TT := fun s H k => BlkH X scope fun Y => wTs Y ifs s H k
def bEH (X : Cx) (scope : Scope) (e : Expr) : TE := fun s H k => BlkH X scope fun Y => wE Y e s H k
/-- what is handled is handled in the block, too -/
theorem blk_hot {X : Cx} {scope : Scope} {s : Shared} {H : Hp} {cenv : Env} {fp : List Addr} (hc : L2H.HotC X) : L2H.HotC (HT.blkH X s H scope cenv fp) := by
  obtain ⟨p, h1, h2⟩ := hc
  exact ⟨p, h1, h2⟩
section
variable {X : Cx} {e elt tg iter : Expr} {ifs : List Expr} {p : Pos} {ns : List Nat} {scope : Scope}
theorem lc_core2H {gf : FG} {tst : FT} {ef : FE} {w : Cs → Prop} {items : List El} {J : It} {A1 : List Addr} {G : Gs} {C1 C2 : Cs} {s : St} {H1 : Hp} {b : Bs} {vs : List Nat} {own : Bool} {o : Rz El × Cs} {k : VK} (S1 : Sat X.K b A1 G C1 s H1) (wk : Wk X.K A1 C1 H1 J (items, w)) (h : lcF gf tst ef w vs C1.length G items (C1 ++ [some (.lst [])]) = some C2) (h2 : lcEnd own C1 C2 = some o)
    (hg : BlkH X scope fun Y => ImG Y tg ns gf) (ht : BlkH X scope fun Y => ImTs Y ifs tst) (he : BlkH X scope fun Y => ImE Y elt ef) (hn : ∀ i ∈ ns, i ∈ vs)
    (q : ∀ r C', o = (.ok r, C') → ∀ v A' H', Sat X.K b A' G C' s H' → RepE X.K A' C' H' r v → k v H') :
    ∀ D, H1 D = none → ∃ Wf : Nat → Nat → Hp → Prop, (∃ m, Wf 0 m (upd H1 D (.lst []))) ∧ ∀ i m H, Wf i m H →
      (J.stop i H ∧ k (.ref D) H) ∨ (J.go i H ∧ ∃ Nx : Hp → Prop, (∀ H', Nx H' → ∃ m', m' < m ∧ Wf (i + 1) m' H') ∧ ∀ x H', J.yld i H x H' → bGH X scope tg x (wipe s vs) H' fun σ2 H2 => wipe σ2 vs = wipe s vs ∧ bTH X scope ifs σ2 H2 fun b H3 =>
        if b = true then bEH X scope elt σ2 H3 fun y H4 => ∃ acc, H4 D = some (.lst acc) ∧ acc.length < sizeLine ∧ Nx (upd H4 D (.lst (acc ++ [y]))) else Nx H3) := by
  intro D hD
  have SD := S1.cellNew (o := .lst []) hD ⟨[], upd_same, .nil⟩
  have gD : Go A1 C1 H1 (A1 ++ [D]) (C1 ++ [some (.lst [])]) (upd H1 D (.lst [])) := S1.goNew hD
  have hDl : (A1 ++ [D])[C1.length]? = some D := by rw [← S1.len]; simp
  refine ⟨fun i m H => m = items.length - i ∧ i ≤ items.length ∧ ∃ A2 C3, Sat X.K (Bs.now (A1 ++ [D]) (C1 ++ [some (.lst [])]) (upd H1 D (.lst []))) A2 G C3 s H ∧ lcF gf tst ef w vs C1.length G (items.drop i) C3 = some C2, ⟨_, rfl, Nat.zero_le _, _, _, SD.now, h⟩, ?_⟩
  rintro i m H2 ⟨rfl, hi2, A2, C3, S2, h3⟩
  have go2 := gD.trans S2.go
  have hD2 : A2[C1.length]? = some D := pre_get S2.pre hDl
  by_cases hlt : i < items.length
  · have hx : items.drop i = items[i] :: items.drop (i + 1) := List.drop_eq_getElem_cons hlt
    rw [hx] at h3
    unfold lcF at h3
    split at h3
    · rename_i hw
      refine .inr ⟨wk.go _ _ _ _ _ _ S2 go2 hw i hlt, fun H => ∃ A2 C3, Sat X.K (Bs.now (A1 ++ [D]) (C1 ++ [some (.lst [])]) (upd H1 D (.lst []))) A2 G C3 s H ∧ lcF gf tst ef w vs C1.length G (items.drop (i + 1)) C3 = some C2, fun H' ⟨A3, C4, S4, h4⟩ => ⟨items.length - (i + 1), by omega, rfl, hlt, A3, C4, S4, h4⟩, fun x H3 y => ?_⟩
      obtain ⟨e3, r3⟩ := wk.yld _ _ _ _ _ _ S2 go2 hw i items[i] x H3 (by simp [hlt]) y
      have S3 := S2.ext e3
      cases e4 : gf items[i] (wipeG G vs) C3 with
      | none => rw [e4] at h3; cases h3
      | some G1 =>
        rw [e4] at h3
        dsimp only at h3
        intro s' H' c cl fp
        refine hg s' H' c cl fp _ A2 (wipeG G vs) C3 (wipe s vs) H3 items[i] x G1 (S3.wiped vs) r3 e4 _ fun s4 S4 f4 l4 => ?_
        refine ⟨by rw [wipe_same hn f4 l4]; exact wipe_twice, ?_⟩
        intro s' H' c cl fp
        cases e5 : tst G1 C3 with
        | none => rw [e5] at h3; cases h3
        | some o5 =>
          obtain ⟨r5, C5⟩ := o5
          cases r5 with
          | er x => rw [e5] at h3; cases h3
          | ok t =>
            rw [e5] at h3
            dsimp only at h3
            refine (ht s' H' c cl fp).ok S4 takes_false e5 fun t' A5 H5 S5 g5 rt => ?_
            subst rt
            -- the def's own slots, over the heap as it is
            have back : ∀ {A6 C6 H6 G6 s6}, Sat X.K (Bs.now (A1 ++ [D]) (C1 ++ [some (.lst [])]) (upd H1 D (.lst []))) A6 G6 C6 s6 H6 → Go A2 C3 H3 A6 C6 H6 → Sat X.K (Bs.now (A1 ++ [D]) (C1 ++ [some (.lst [])]) (upd H1 D (.lst []))) A6 G C6 s H6 :=
              fun S6 g6 => S6.slots (S3.slot.imp fun _ _ r => r.go g6)
            cases t' with
            | false => exact ⟨A5, C5, back S5 g5, h3⟩
            | true =>
              rw [if_pos rfl] at h3 ⊢
              intro s' H' c cl fp
              cases e6 : ef G1 C5 with
              | none => rw [e6] at h3; cases h3
              | some o6 =>
                obtain ⟨r6, C6⟩ := o6
                cases r6 with
                | er x => rw [e6] at h3; cases h3
                | ok r =>
                  rw [e6] at h3
                  dsimp only at h3
                  refine (he s' H' c cl fp).ok S5 takes_false e6 fun v A6 H6 S6 g6 rv => ?_
                  cases e7 : C6[C1.length]? with
                  | none => rw [e7] at h3; cases h3
                  | some x7 =>
                    cases x7 with
                    | none => rw [e7] at h3; cases h3
                    | some ob =>
                      cases ob with
                      | lst acc =>
                        rw [e7] at h3
                        dsimp only at h3
                        split at h3
                        · rename_i hl
                          have hD6 : A6[C1.length]? = some D := pre_get (g5.trans g6).pre hD2
                          obtain ⟨vs6, h8, h9⟩ := S6.cell C1.length D _ hD6 e7
                          refine ⟨vs6, h8, by rw [← h9.length]; exact hl, A6, _, Sat.cellSet (back S6 (g5.trans g6)) hD6 e7 ?_, h3⟩
                          exact ⟨_, upd_same, repEs_go (goSet hD6 e7) (h9.append (.cons rv .nil))⟩
                        · cases h3
                      | _ => rw [e7] at h3; cases h3
    · cases h3
  · have e : i = items.length := by omega
    subst e
    rw [List.drop_length] at h3
    unfold lcF at h3
    split at h3
    · rename_i hw
      cases h3
      refine .inl ⟨wk.stop _ _ _ _ _ _ S2 go2 hw, ?_⟩
      unfold lcEnd at h2
      split at h2
      · cases h2
        exact q _ _ rfl _ A2 H2 (SD.back S2 |> fun z => S1.back (show Sat X.K (Bs.now A1 C1 H1) A2 G C2 s H2 from ⟨S2.len, S2.nd, gD.ex.trans S2.ex, gD.pre.trans S2.pre, S2.cell, S2.slot⟩)) ⟨D, hD2, rfl⟩
      · split at h2
        · rename_i hd
          split at h2
          · rename_i r hr
            cases h2
            have T : Sat X.K (Bs.now A1 C1 H1) A2 G C2 s H2 := ⟨S2.len, S2.nd, gD.ex.trans S2.ex, gD.pre.trans S2.pre, S2.cell, S2.slot⟩
            exact q _ _ rfl _ _ H2 (S1.drop T hd) (closeV_ok T hr ⟨D, hD2, rfl⟩)
          · cases h2
        · cases h2
    · cases h3
theorem is_lcH (n : Nat) (own : List (Str × Nat)) (cell : Bool) {gf : FG} {it : FI} {tst : FT} {ef : FE} {y : Str} {py sp : Pos} (hi : ImIH X tg iter it) (hg : BlkH X scope fun Y => ImG Y tg ns gf) (ht : BlkH X scope fun Y => ImTs Y ifs tst) (he : BlkH X scope fun Y => ImE Y elt ef)
    (hc : L2H.HotC X) (hN : X.N.Nodup) (hy : X.N[n]? = some y) (hyl : X.env.scope.names.lookup y = some .local)
    (ok : BlkOk X.N X.env.scope scope own) (hk : X.env.scope.kind = .function) (ha : (scope.names.any fun (n, k) => n == y && (k == .local || k == .cell)) = false)
    (hn : ∀ i ∈ ns, i ∈ own.map (·.2) := by decide) (hs : ∀ x, foldedSetIterable iter X.env x = pure x := by intro _; rfl) (hli : (py.line == p.line) = true := by rfl) :
    ImS X (.Assign [.Name y py] (.ListComp elt [⟨tg, iter, ifs, 0⟩] scope p) sp) (sLc n (eLc cell (own.map (·.2)) gf it tst ef)) := fun b A G C s H W S tk o h D q => by
  refine ⟨_, HT.ps_setLcH hc hN hy hyl (sw_true hk hyl hli ha) wIH_ok ok (g := bGH X scope tg) (tt := bTH X scope ifs) (te := bEH X scope elt) (fun s' H' c cl fp => ⟨fun pins s2 σ H2 v u Q I r h => wG_ok.run pins s2 σ H2 v u Q I r (h s' H' c cl fp)⟩)
      (fun s' H' c cl fp => ⟨fun pins s2 σ H2 Q I h => wTs_ok.run pins s2 σ H2 Q I (h s' H' c cl fp)⟩) (fun s' H' c cl fp => ⟨fun pins s2 σ H2 Q I h => wE_ok.run pins s2 σ H2 Q I (h s' H' c cl fp)⟩) hs, ?_⟩
  rcases sBind_inv h with ⟨x, C1, h1, rfl⟩ | ⟨r, C1, h1, h⟩
  · rcases bind_inv h1 with ⟨x, C2, h2, e⟩ | ⟨r, C2, h2, h3⟩
    · cases e
      exact hi.erS S tk h2 q _
    · split at h3
      · rename_i C3 e3
        unfold lcEnd at h3
        split at h3
        · cases h3
        · split at h3
          · split at h3 <;> cases h3
          · cases h3
      · cases h3
  · cases h
    rcases bind_inv h1 with ⟨x, C2, h2, e⟩ | ⟨r2, C2, h2, h3⟩
    · cases e
    · split at h3
      · rename_i C3 e3
        exact hi.ok S tk h2 fun J A1 H1 S1 g1 wk => lc_core2H S1 wk e3 h3 hg ht he hn fun r' C' e v A' H' S' rv => by
          cases e
          exact q A' _ H' (S'.put rv)
      · cases h3
end
end R
/-! # Calls while an exception is handled: the hand layer -/
namespace HT
open PySem PySem.Spec PyProof.Rows L2 L2H
theorem fnH_mono {P : Program} {w : World} {K : PySem.W.Frag} {mg : Str → Option Value} {base : Heap} {CX : CXT} {j k : Nat} {f : Addr} {fd : FuncData} {ps : List Str} {sp : Sp} (F : FnH P w K mg base CX j f fd ps sp) (h : j ≤ k) : FnH P w K mg base CX k f fd ps sp :=
  ⟨F.len, fun A outer s H args us vs Q E p hr => F.run A outer s H args us vs Q E p (hr.mono h)⟩
theorem hot_cx {CX : CXT} {P : Program} {w : World} {K : PySem.W.Frag} {mg : Str → Option Value} {base : Heap} {N : List Str} {qual : Str} {scope : Scope} {f : Addr} {cd : Value} {A : Around} {outer : List Env} {s : Shared} {H : Hp} {E : XK} {p : Addr × Obj} (h : Hot1 A p) : HotC (cxH CX P w K mg base N qual scope f cd A outer s H E p) :=
  ⟨p, h, List.mem_singleton_self _⟩
section
variable {X : Cx} {CX : CXT} {k : Nat} {f C : Addr} {fd : FuncData} {ps : List Str} {sp : Sp} {dvs : List V} {ds : List Value} {E : L2.St → XK} {x m : Str} {p pos apos : Pos} {e o : Expr} {es : List Expr} {ta : TE} {t : TA}
end
section
variable {X : Cx} {e o : Expr} {es : List Expr} {apos : Pos} {m : Str}
end
end HT
/-! # Calls while an exception is handled (printed by hotgen.py) -/
namespace R
open PySem L2
structure GfH (P : Program) (w : World) (K : Fg) (mg : Str → Option Value) (base : Heap) (x : Str) (k : Nat) (dd : List D) (sp : Sp) : Prop where
  ex : ∃ (f : Addr) (fd : FuncData) (ps : List Str) (ds : List Value) (dvs : List V), L2H.FnH P w K mg base (L2N.CX P w) k f fd ps sp ∧ mg x = some (.ref f) ∧ PySem.W.keepIn K (.ref f) = true ∧ Binds K fd ps ds ∧ Vals dvs ds ∧ ∀ H, RepL K H dd dvs
structure GmH (P : Program) (w : World) (K : Fg) (mg : Str → Option Value) (base : Heap) (c : Addr) (m : Str) (k : Nat) (dd : List D) (sp : Sp) : Prop where
  cl : Cls K c
  ex : ∃ (f : Addr) (fd : FuncData) (ps : List Str) (ds : List Value) (dvs : List V), L2H.FnH P w K mg base (L2N.CX P w) k f fd ps sp ∧ Meth K c m f ∧ Binds K fd ps ds ∧ Vals dvs ds ∧ ∀ H, RepL K H dd dvs
theorem GfH.mono {P : Program} {w : World} {K : Fg} {mg : Str → Option Value} {base : Heap} {x : Str} {j k : Nat} {dd : List D} {sp : Sp} (g : GfH P w K mg base x j dd sp) (h : j ≤ k) : GfH P w K mg base x k dd sp := by
  obtain ⟨f, fd, ps, ds, dvs, F, r⟩ := g.ex
  exact ⟨f, fd, ps, ds, dvs, HT.fnH_mono F h, r⟩
theorem GmH.mono {P : Program} {w : World} {K : Fg} {mg : Str → Option Value} {base : Heap} {c : Addr} {x : Str} {j k : Nat} {dd : List D} {sp : Sp} (g : GmH P w K mg base c x j dd sp) (h : j ≤ k) : GmH P w K mg base c x k dd sp := by
  obtain ⟨f, fd, ps, ds, dvs, F, r⟩ := g.ex
  exact ⟨g.cl, f, fd, ps, ds, dvs, HT.fnH_mono F h, r⟩
section
variable {P : Program} {w : World} {K : Fg} {mg : Str → Option Value} {base : Heap} {x qual : Str} {params : Arguments} {body : List Stmt} {scope : Scope} {dvs : List V} {kws : List (Str × V)} {f : Addr} {fd : FuncData}
end
section
variable {X : Cx} {W : WX} {e o : Expr} {es : List Expr} {p apos p2 : Pos} {k : Nat} {dd : List D} {x : Str} {m : Fn}
def MOkH (X : Cx) (mn : Str) (k : Nat) (t : MTab) : Prop := ∀ n m dd, mtab t n = some (m, dd) → GmH X.prog X.w X.K X.mg X.base (He.ga X.K n) mn k dd (spM X.K m)
theorem MOkH.nil {mn : Str} : MOkH X mn k [] := fun _ _ _ h => by cases h
theorem MOkH.cons {mn n : Str} {t : MTab} (g : GmH X.prog X.w X.K X.mg X.base (He.ga X.K n) mn k dd (spM X.K m)) (h : MOkH X mn k t) : MOkH X mn k ((n, m, dd) :: t) := fun n' m' dd' e => by
  unfold mtab at e
  split at e
  · rename_i hn
    cases e
    subst hn
    exact g
  · exact h n' m' dd' e
end
end R
/-! # Suites bear what they handle -/
namespace R
open PySem L2
end R
/-! # d.values() while an exception is handled -/
namespace HT
open PySem PySem.Spec PyProof.Rows HotX
section
variable {prog : Program} {w : World} {A : Around} {E : Value → Shared → Prop} {s : Shared}
end
open L2 L2H
section
variable {X : Cx} {tg e : Expr} {td : TE} {apos cpos : Pos}
end
end HT
namespace R
open PySem L2
section
variable {X : Cx} {tg e : Expr} {td : TE} {apos cpos : Pos}
end
end R
/-! # sorted(d) while an exception is handled -/
namespace HT
open PySem PySem.Spec PyProof.Rows HotX PySem.W
section
variable {prog : Program} {w : World} {A : Around} {E : Value → Shared → Prop} {s : Shared} {K : Type} [DecidableEq K] {knd : PySem.KeyKind prog w K}
end
open L2 L2H
section
variable {X : Cx}
end
end HT
/-! # Built-ins while an exception is handled (printed by hotgen.py) -/
namespace R
open PySem L2
section
variable {X : Cx}
end
end R
/-! # sorted(set(xs)) while an exception is handled -/
namespace HT
open PySem PySem.Spec PyProof.Rows HotX L2
/-- x1 is handled by A, its object o1 has no context -/
structure Hd (A : Around) (x1 : Addr) (o1 : Obj) : Prop where
  hh : A.handled = some (.ref x1)
  ctx : ∃ vs : Array Value, o1.data = .fields vs ∧ vs[2]? = some .none
theorem Hd.up {A : Around} {x1 : Addr} {o1 : Obj} (h : Hd A x1 o1) : Hd A.in1 x1 o1 := ⟨h.hh, h.ctx⟩
theorem Hd.hot {A : Around} {x1 : Addr} {o1 : Obj} {h : Heap} (d : Hd A x1 o1) (g : h.get? x1 = some o1) : HotAt A x1 h :=
  let ⟨vs, h1, h2⟩ := d.ctx; ⟨d.hh, o1, vs, g, h1, h2⟩
section
variable {P : Program} {w : World} {A : Around} {E : Value → Shared → Prop} {s : Shared} {a it x1 : Addr} {o1 : Obj} {es : Array (Int × Value)} {ep : Nat} {t : SetTable} {i : Nat}
end
section
variable {P : Program} {w : World} {A : Around} {a I x1 : Addr} {o1 : Obj} {es : Array (Int × Value)} {ep : Nat} {t : SetTable}
end
section
variable {P : Program} {w : World} {A : Around} {E : Value → Shared → Prop} {s : Shared} {a x1 : Addr} {o1 : Obj} {es : Array (Int × Value)} {ep : Nat} {t : SetTable}
/-- an iterator that tells out while x1 is handled; what it looks at is l, x1 and what is new -/
structure Gat (P : Program) (w : World) (s : Shared) (x1 : Addr) (o1 : Obj) (l : Addr) (out : List Value) (s₂ : Shared) (I : Addr) : Prop where
  kept : ∀ b o, s.heap.get? b = some o → s₂.heap.get? b = some o
  gens : s₂.gens = s.gens
  os : s₂.os = s.os
  new : s.heap.objs.size ≤ I
  walk : ∃ (fp : List Addr) (St : Nat → Heap → Prop) (Pv : Nat → Value → Prop), (∀ b ∈ fp, b = l ∨ b = x1 ∨ s.heap.objs.size ≤ b) ∧ (∀ A' : Around, Hd A' x1 o1 → Walks P w A' I fp [I] out.length Pv St) ∧ (∀ j v, Pv j v → out[j]? = some v) ∧ St 0 s₂.heap
theorem Gat.by {s₂ : Shared} {l I : Addr} {out : List Value} {fp : List Addr} {n : Nat} {St : Nat → Heap → Prop} {Pv : Nat → Value → Prop} (hw : ∀ A' : Around, Hd A' x1 o1 → Walks P w A' I fp [I] n Pv St) (hn : n = out.length) (hfp : ∀ b ∈ fp, b = l ∨ b = x1 ∨ s.heap.objs.size ≤ b)
    (hp : ∀ j v, Pv j v → out[j]? = some v) (st : St 0 s₂.heap) (hk : ∀ b o, s.heap.get? b = some o → s₂.heap.get? b = some o) (h1 : s₂.gens = s.gens) (h2 : s₂.os = s.os) (h3 : s.heap.objs.size ≤ I) : Gat P w s x1 o1 l out s₂ I :=
  ⟨hk, h1, h2, h3, fp, St, Pv, hfp, hn ▸ hw, hp, st⟩
end
section
variable {P : Program} {w : World} {A : Around} {E : Value → Shared → Prop} {σ : Shared}
end
section
variable {X : Cx} {a : Expr} {ta : TE} {p p2 q pos : Pos}
end
end HT
namespace R
open PySem L2
section
variable {X : Cx} {a : Expr} {fe : FE} {p p2 q pos : Pos}
end
end R
/-! # Results that are frozen or cells, while an exception is handled (printed by hotgen.py) -/
namespace R
open PySem L2
section
variable {P : Program} {w : World} {K : Fg} {mg : Str → Option Value} {base : Heap} {x qual : Str} {params : Arguments} {body : List Stmt} {scope : Scope} {dvs : List V} {kws : List (Str × V)} {f : Addr} {fd : FuncData}
theorem roomH_u {k n : Nat} {A : Around} (r : L2H.RoomH k A) (h : n ≤ 200) : A.units + n < cLine := by
  have := r.un
  omega
end
/-! ### list(xs) of a list alone -/
def fListL (own : Bool) : ON := fun xs C => match xs with
  | [x] => match viewS C x with
    | some l => newL own l C
    | none => none
  | _ => none
theorem f_lsL {C : Cs} {q : El × Cs → Prop} {l : List D} : wo (fListL false [.v (.lst l)] C) q = q (.v (.lst l), C) := by
  unfold fListL
  dsimp only
  rw [v_S]
  exact newL_f
end R
/-! # Calls in a suite whose argument is what is handled -/
namespace HT
open PySem PySem.Spec PyProof.Rows L2 L2H
/-- as FnH; what is known of the handled one stands in F -/
structure FnHx (P : Program) (w : World) (K : PySem.W.Frag) (mg : Str → Option Value) (base : Heap) (CX : CXT) (F : Addr × Obj → Prop) (k : Nat) (f : Addr) (fd : FuncData) (ps : List Str) (sp : Sp) : Prop where
  len : ∀ vs H Q E, sp vs H Q E → vs.length = ps.length
  run : ∀ (A : Around) (outer : List Env) (s : Shared) (H : Hp) (args : Args) (us : List Value) (vs : List V) (Q : VK) (E : XK) (p : Addr × Obj), RoomH k A → Hot1 A p → F p → PinOk outer H s p → Env0 P w K mg base A outer s H → BindsTo s fd args (ps.zip us) → Vals vs us → sp vs H Q E →
    codeAny (model P w) A (.call (.ref f) args) (CR CX outer P w H s Q E) s
theorem fnHx_mono {P : Program} {w : World} {K : PySem.W.Frag} {mg : Str → Option Value} {base : Heap} {CX : CXT} {F : Addr × Obj → Prop} {j k : Nat} {f : Addr} {fd : FuncData} {ps : List Str} {sp : Sp} (G : FnHx P w K mg base CX F j f fd ps sp) (h : j ≤ k) : FnHx P w K mg base CX F k f fd ps sp :=
  ⟨G.len, fun A outer s H args us vs Q E p hr => G.run A outer s H args us vs Q E p (hr.mono h)⟩
/-- the context bears the handled one, and F is known of it -/
def HotF (F : Addr × Obj → Prop) (X : Cx) : Prop := ∃ p : Addr × Obj, Hot1 X.A p ∧ F p ∧ p ∈ X.pn
theorem funD_okHx {P : Program} {w : World} {K : PySem.W.Frag} {mg : Str → Option Value} {base : Heap} {F : Addr × Obj → Prop} {x qual : Str} {params : Arguments} {body : List Stmt} {scope : Scope} {dvs : List V} {kws : List (Str × V)} {f : Addr} {fd : FuncData} {CX : CXT} {N ps : List Str} {k : Nat} {sp : Sp} (D : FunD K x qual params body scope dvs kws f fd) (S : FnScope N ps scope) (len : ∀ vs H Q E, sp vs H Q E → vs.length = ps.length)
    (hbody : ∀ (cdv : Value) (A : Around) (outer : List Env) (s : Shared) (H : Hp) (vs : List V) (Q : VK) (E : XK) (p : Addr × Obj), Hot1 A p → F p → RoomH k (A.deeper (envOfC qual scope s.heap.objs.size f cdv)) → sp vs H Q E →
      ∃ t, PSs (cxH CX P w K mg base N qual scope f cdv A outer s H E p) body t ∧ t { nx := fun _ H' => Q .non H', rt := Q } (L2.start N vs) H) : FnHx P w K mg base CX F (k + 1) f fd ps sp := by
  obtain ⟨oc, od, dV, kV, doc, pm, an, cdv, ct, osl, rfl, lk, hcd, _, _⟩ := D.ex
  refine ⟨len, fun A outer s H args us vs Q E p hr hot hF hpin e0 hb r hsp => ?_⟩
  have hl := len _ _ _ _ hsp
  have lim : s.heap.NoLimit := e0.mod.nolimit.keeps fun b o e => (e0.bs b o e).1
  have KX : K.In s.heap := e0.mod.kin.keeps fun b o e => (e0.bs b o e).1
  have par : ∀ y ∈ ps.zip us, scope.names.lookup y.1 = some .local ∨ (scope.names.lookup y.1 = some .cell ∧ ((cellsFrom (s.heap.objs.size + 1) scope.names []).lookup y.1).isSome = true) := fun ⟨n, v⟩ hy => (S.par n (List.of_mem_zip hy).1).imp id fun q => ⟨q, PySem.W.cellsFrom_some _ _ _ (.inl q)⟩
  refine codeAny_call_function hr.depth (KX _ _ lk) rfl S.co S.gen rfl (PySem.W.codeRec_of KX hcd) (hb _ _ _ _ ?_)
  refine wpAny_newFunctionEnv_cells S.kind par fun env he s1 x => ?_
  subst he
  refine ⟨lim.keeps x.toInCall.keep, codeAny_func ?_⟩
  obtain ⟨t, ht, hq⟩ := hbody cdv A outer s H vs Q E p hot hF (hr.deeper _) hsp
  refine wpAny_mono (ht.run [] s1 (L2.start N vs) H _ (inv_startH S hpin e0 hl r x) hq) (fun fl s' hs => ?_) fun e s' hs => hs
  have fin : ∀ {σ' : L2.St} {H' : Hp} {v : V} {u : Value}, Inv (cxH CX P w K mg base N qual scope f cdv A outer s H E p) [] σ' H' s' → RelV v u → Q v H' → CE outer P w H s Q u s' :=
    fun {σ' H' v u} J rv q => ⟨v, H', J.os, J.bare, J.base, J.hok, rv, q⟩
  cases fl with
  | ret u =>
    obtain ⟨v, σ', H', J, rv, q⟩ := hs
    exact fin J rv q
  | next =>
    obtain ⟨σ', H', J, q⟩ := hs
    exact fin (v := V.non) (u := Value.none) J rfl q
  | brk =>
    obtain ⟨_, _, _, q⟩ := hs
    exact q.elim
  | cont =>
    obtain ⟨_, _, _, q⟩ := hs
    exact q.elim
section
variable {X : Cx} {CX : CXT} {F : Addr × Obj → Prop} {k : Nat} {f : Addr} {fd : FuncData} {ps : List Str} {sp : Sp} {dvs : List V} {ds : List Value} {E : L2.St → XK} {x : Str} {p pos : Pos} {e : Expr} {es : List Expr} {t : TA}
theorem run_fnHx {pins : List (Addr × Obj)} {σ : L2.St} {H : Hp} {s : Shared} {Q : VK} {us : List Value} {vs : List V} (G : FnHx X.prog X.w X.K X.mg X.base CX F k f fd ps sp) (hr : RoomH k X.A) (hc : HotF F X) (hb : Binds X.K fd ps ds) (hd : Vals dvs ds) (hx : PassesAt CX X σ (E σ))
    (I : Inv X pins σ H s) (r : Vals vs us) (h : sp (vs ++ dvs) H Q (E σ)) : wpAny (model X.prog X.w) X.A (call (.ref f) us) (EP X pins σ Q) X.xe s := by
  obtain ⟨p, hot, hF, hp⟩ := hc
  have r2 : Vals (vs ++ dvs) (us ++ ds) := r.append hd
  have P1 := I.pin p (List.mem_append_left _ hp)
  have hpin : PinOk X.stack H s p := ⟨P1.1, P1.2.1, fun hm => (List.mem_cons.mp (I.stkSub p.1 hm)).elim P1.2.2.1 P1.2.2.2.1, P1.2.2.2.2⟩
  refine wpAny_call (codeAny_mono (G.run X.A X.stack s H ⟨us, []⟩ (us ++ ds) (vs ++ dvs) Q (E σ) p hr hot hF hpin I.env0 (hb s us I.kIn (by rw [← r2.length]; exact G.len _ _ _ _ h)) r2 h) fun r s' hq => ?_)
  cases r with
  | error e => exact hx pins H s e s' I hq
  | ok fl =>
    cases fl with
    | ret u => exact I.after hq
    | next => exact hq.elim
    | brk => exact hq.elim
    | cont => exact hq.elim
theorem pe_callHx (hc : HotF F X) (G : FnHx X.prog X.w X.K X.mg X.base CX F k f fd ps sp) (hr : RoomH k X.A) (hg : Gl X x) (hm : X.mg x = some (.ref f)) (hk : PySem.W.keepIn X.K (.ref f) = true) (hb : Binds X.K fd ps ds) (hd : Vals dvs ds) (hx : ∀ σ, PassesAt CX X σ (E σ))
    (ha : PA X (e :: es) t) (hdb : (x == ("__debug__" : Str)) = false := by decide) (he : starEach (e :: es) X.env = (false, eval e X.env) :: starEach es X.env := by rfl) (hpl : (backTo pos (starEach es X.env)).any (·.1) = false := by rfl) :
    PE X (.Call (.Name x p) (e :: es) [] pos) (tCallSD sp dvs E t) := by
  refine ⟨fun pins s σ H Q I h => ?_⟩
  refine wpAny_Call_Name_kw (ld_glob I hg hm ?_ hdb)
  exact PySem.W.callWith_K (h₀ := X.base) I.ok.mod.kin hk (thn (ha.run pos pins s σ H _ I h) fun us s1 ⟨vs, H1, I1, r, q⟩ => ⟨I1.kIn, run_fnHx G hr hc hb hd (hx σ) I1 r q⟩) he hpl
end
end HT
namespace R
open PySem L2
/-- what is known of the handled one in such a def: it is y -/
def CauP (K : Fg) (ad dd : Addr) (y : Exn) : Addr × Obj → Prop := fun p => p.1 = ad ∧ Cau ad dd p.2 K y
theorem hotF_su {X : Cx} {a d : Addr} {oe : Obj} {pn : List (Addr × Obj)} {y : Exn} (ca : Cau a d oe X.K y) : HT.HotF (CauP X.K a d y) (X.suite a ((a, oe) :: pn)) := by
  obtain ⟨vs, hv⟩ := ca.f
  exact ⟨(a, oe), ⟨rfl, vs, hv, ca.z.2.2 vs hv⟩, ⟨rfl, ca⟩, List.mem_cons_self⟩
/-- in the context stands the handled one -/
def Bears (X : Cx) (ad dd : Addr) (y : Exn) : Prop := ∃ oe, Cau ad dd oe X.K y ∧ (ad, oe) ∈ X.pn
structure GfHx (P : Program) (w : World) (K : Fg) (mg : Str → Option Value) (base : Heap) (F : Addr × Obj → Prop) (x : Str) (k : Nat) (dd : List D) (sp : Sp) : Prop where
  ex : ∃ (f : Addr) (fd : FuncData) (ps : List Str) (ds : List Value) (dvs : List V), HT.FnHx P w K mg base (L2N.CX P w) F k f fd ps sp ∧ mg x = some (.ref f) ∧ PySem.W.keepIn K (.ref f) = true ∧ Binds K fd ps ds ∧ Vals dvs ds ∧ ∀ H, RepL K H dd dvs
theorem GfHx.mono {P : Program} {w : World} {K : Fg} {mg : Str → Option Value} {base : Heap} {F : Addr × Obj → Prop} {x : Str} {j k : Nat} {dd : List D} {sp : Sp} (g : GfHx P w K mg base F x j dd sp) (h : j ≤ k) : GfHx P w K mg base F x k dd sp := by
  obtain ⟨f, fd, ps, ds, dvs, G, r⟩ := g.ex
  exact ⟨f, fd, ps, ds, dvs, HT.fnHx_mono G h, r⟩
section
variable {P : Program} {w : World} {K : Fg} {mg : Str → Option Value} {base : Heap} {x qual : Str} {params : Arguments} {body : List Stmt} {scope : Scope} {dvs : List V} {kws : List (Str × V)} {f : Addr} {fd : FuncData}
theorem bears_cxH {N : List Str} {cdv : Value} {A : Around} {outer : List Env} {s : Shared} {H : Hp} {E : XK} {p : Addr × Obj} {ad dd : Addr} {y : Exn} (h : CauP K ad dd y p) : Bears (L2H.cxH (L2N.CX P w) P w K mg base N qual scope f cdv A outer s H E p) ad dd y := by
  obtain ⟨h1, h2⟩ := h
  refine ⟨p.2, h2, ?_⟩
  subst h1
  exact List.mem_singleton_self _
theorem fn_MHx {N ps : List Str} {k keep : Nat} {fb : FS} {F : Addr × Obj → Prop} (Dn : FunD K x qual params body scope dvs kws f fd) (Sc : FnScope N ps scope)
    (h : ∀ (cdv : Value) (A : Around) (outer : List Env) (s : Shared) (H : Hp) (E : XK) (p : Addr × Obj), L2H.Hot1 A p → F p → L2H.RoomH k (A.deeper (PyProof.Rows.envOfC qual scope s.heap.objs.size f cdv)) → ImB (L2H.cxH (L2N.CX P w) P w K mg base N qual scope f cdv A outer s H E p) body fb) :
    HT.FnHx P w K mg base (L2N.CX P w) F (k + 1) f fd ps (spM K (mkFn ps.length N.length keep fb)) :=
  HT.funD_okHx Dn Sc (fun vs H Q E ⟨A, C, rs, _, r, o, ho, _⟩ => by
    unfold mkFn at ho
    split at ho
    · rename_i hl
      rw [← r.length]
      exact hl
    · cases ho) fun cdv A outer s H vs q E p hot hF hr ⟨A1, C, rs, S, r, o, ho, po⟩ => by
    unfold mkFn at ho
    split at ho
    · rename_i hl
      have tk : Takes (L2H.cxH (L2N.CX P w) P w K mg base N qual scope f cdv A outer s H E p) (fun cls d _ H => E cls d H) := L2N.takes_of rfl rfl rfl rfl
      have hs : All2 (SlotE K A1 C H) (rs.map some ++ List.replicate (N.length - ps.length) none) (L2.start N vs) := by
        unfold L2.start
        rw [← r.length, hl]
        exact (slots_of r).append (slots_rest _)
      have S0 : Sat K (Bs.now A1 C H) A1 (rs.map some ++ List.replicate (N.length - ps.length) none) C (L2.start N vs) H := S.slots hs
      cases e : fb (rs.map some ++ List.replicate (N.length - ps.length) none) C with
      | none => rw [e] at ho; cases ho
      | some o1 =>
        obtain ⟨fl, G1, C1⟩ := o1
        rw [e] at ho
        refine h cdv A outer s H E p hot hF hr _ A1 _ C _ H _ S0 tk _ e _ ?_
        have emp : ∀ {A2 G2 s2 H2 C2 n}, Sat K (Bs.now A1 C H) A2 G2 C2 s2 H2 → okDrop C C2 n → Sat K (Bs.now A1 C H) (A2.take n) [] (C2.take n) [] H2 := fun T hd => Sat.drop S T hd
        cases fl with
        | rt r1 =>
          unfold closeR at ho
          dsimp only at ho
          split at ho
          · rename_i hd
            split at ho
            · rename_i r' hc
              cases ho
              exact fun v A2 s2 H2 T rv => po.ok _ _ rfl v _ H2 (emp T hd) (closeV_ok T hc rv)
            · cases ho
          · cases ho
        | nx =>
          unfold closeR at ho
          dsimp only at ho
          split at ho
          · rename_i hd
            cases ho
            exact fun A2 s2 H2 T => po.ok _ _ rfl .non _ H2 (emp T hd) rfl
          · cases ho
        | er x =>
          unfold closeR at ho
          dsimp only at ho
          split at ho
          · rename_i hd
            cases ho
            exact fun c d A2 s2 H2 T rx => po.er _ _ rfl c d _ H2 (emp T hd) rx.take
          · cases ho
        | bk => cases ho
        | ct => cases ho
    · cases ho
end
section
variable {X : Cx} {W : WX} {e o : Expr} {es : List Expr} {p apos p2 : Pos} {k : Nat} {dd : List D} {x : Str} {m : Fn}
theorem im_callHx {fa : FA} {F : Addr × Obj → Prop} (Gc : GfHx X.prog X.w X.K X.mg X.base F x k dd (spM X.K m)) (ha : ImA X (e :: es) fa) (hc : HT.HotF F X) (hr : L2H.RoomH k X.A) (hg : Gl X x)
    (hdb : (x == ("__debug__" : Str)) = false := by decide) (he : starEach (e :: es) X.env = (false, eval e X.env) :: starEach es X.env := by rfl) (hpl : (backTo p (starEach es X.env)).any (·.1) = false := by rfl) : ImE X (.Call (.Name x p2) (e :: es) [] p) (eCall m dd fa) := fun bb A G C s H W S tk o h k q => by
  obtain ⟨f, fd, ps, ds, dvs, G, hm, hk, hb, hd, hD⟩ := Gc.ex
  refine ⟨_, HT.pe_callHx hc G hr hg hm hk hb hd (L2N.passAt tk) wA_ok hdb he hpl, ?_⟩
  rcases bind_inv h with ⟨x, C1, h1, rfl⟩ | ⟨rs, C1, h1, h⟩
  · exact ha.er S tk h1 q _
  · exact ha.ok S tk h1 fun vs A1 H1 S1 g1 rx => sp_use S1 (rx.append (repD hD)) h q
end
/-! the handled one's field, its classes: wherever the context bears it -/
section
open PySem.Spec PyProof.Rows
end
section
open PySem.Spec PyProof.Rows
theorem call_isEXP {X : Cx} {a D : Addr} {oe : Obj} {d : Option Addr} (C : ExcC X.K D) (hz : L2.Zc (.ref D) d oe) (hf : ∃ vs, oe.data = .fields vs) (hp : (a, oe) ∈ X.pn) : CallR X (.builtin "isinstance") (rIsEX X.K D a d) := by
  intro pins s σ H xs us Q I r h
  obtain ⟨hd, c, cv, b, rfl, hcv, e, q⟩ := h
  cases r with
  | cons rx rr =>
    cases rr with
    | cons rt rr =>
      cases rr
      cases rx
      have ec := hcv _ rt
      subst ec
      obtain ⟨hget, _⟩ := I.pin (a, oe) (List.mem_append_left _ hp)
      obtain ⟨od, J⟩ := instX (X := X) hget hz hf I.hok hd
      exact PySem.W.kia_one (kitx_excX C.hg C.hk C.hs C.hd C.ha C.hn C.ht C.hm) I.kIn J e (fun z => nomatch z) fun tk => ⟨.bl b, H, I.kept (t' := tk) fun _ _ z => z, rfl, q⟩
theorem call_isETP {X : Cx} {a D : Addr} {oe : Obj} {d : Option Addr} (C : ExcC X.K D) (hz : L2.Zc (.ref D) d oe) (hf : ∃ vs, oe.data = .fields vs) (hp : (a, oe) ∈ X.pn) : CallR X (.builtin "isinstance") (rIsET X.K D a d) := by
  intro pins s σ H xs us Q I r h
  obtain ⟨hd, tp, cs, ws, b, rfl, hT, k, e, q⟩ := h
  cases r with
  | cons rx rr =>
    cases rr with
    | cons rt rr =>
      cases rr
      cases rx
      cases rt
      obtain ⟨hget, _⟩ := I.pin (a, oe) (List.mem_append_left _ hp)
      obtain ⟨od, J⟩ := instX (X := X) hget hz hf I.hok hd
      obtain ⟨_, its, rv, o, h1, h2, n, h3⟩ := (show ObjOk X.prog X.w H s.heap tp (.tup cs) from I.hok tp _ hT)
      have e3 := ClsV.all k rv
      subst e3
      obtain ⟨oc, od, dt, sl⟩ := o
      simp only at h2 h3
      subst h2 h3
      exact PySem.W.kia_tup (kitx_excX C.hg C.hk C.hs C.hd C.ha C.hn C.ht C.hm) I.kIn J h1 e (fun z => nomatch z) fun tk => ⟨.bl b, H, I.kept (t' := tk) fun _ _ z => z, rfl, q⟩
/-- the first argument is the caught one -/
theorem ok_isE0P {X : Cx} {x : Exn} {ad dd : Addr} {oe : Obj} {tab : Str → D → Option Bool} {d' : D} {k : Bool} (ca : Cau ad dd oe X.K x) (hp : (ad, oe) ∈ X.pn) (ht : TabOk X.K tab) (e2 : isX1 tab x.cls d' = some k) :
    ∃ R, CallR X (.builtin "isinstance") R ∧ ∀ (A : List Addr) (C : Cs) (H : Hp) (w : V), dOk (x.fs.map fun _ => dd) H → RepE X.K A C H (.v d') w → ∀ q : VK, q (.bl k) H → R [.ref ad, w] H q := by
  have single : tab x.cls d' = some k → (∀ l, d' ≠ .tup l) → ∃ R, CallR X (.builtin "isinstance") R ∧ ∀ (A : List Addr) (C : Cs) (H : Hp) (w : V), dOk (x.fs.map fun _ => dd) H → RepE X.K A C H (.v d') w → ∀ q : VK, q (.bl k) H → R [.ref ad, w] H q := fun ht' _ => by
    obtain ⟨Cc, u, hu, hk⟩ := ht x.cls d' k ht'
    refine ⟨_, call_isEXP Cc ca.z.zc ca.f hp, fun A C H w hd r2 q hq => ?_⟩
    unfold clsV at hu
    split at hu
    · cases hu
      have e3 : w = .ref _ := r2
      subst e3
      exact ⟨hd, .ref _, _, k, rfl, fun u hu => hu, hk, hq⟩
    · cases hu
      have e3 : w = .ty _ := r2
      subst e3
      exact ⟨hd, .ty _, _, k, rfl, fun u hu => hu, hk, hq⟩
    · cases hu
  cases d' with
  | tup l =>
    -- a tuple of classes
    have many : ∀ {l : List D} {k : Bool}, (l.foldr (fun d r => match tab x.cls d, r with
        | some b, some r => some (b || r)
        | _, _ => none) (some false)) = some k → l = [] ∨ (ExcC X.K (He.ga X.K x.cls) ∧ ∃ us, PySem.W.kitAny X.K (.ref (He.ga X.K x.cls)) us = some k ∧ ∀ M vs, RepL X.K M l vs → Paired ClsV vs us) := by
      intro l
      induction l with
      | nil => intro k h; exact .inl rfl
      | cons d l ih =>
        intro k h
        right
        rw [List.foldr_cons] at h
        split at h
        · rename_i bb rr e4 e5
          cases h
          obtain ⟨Cc, u, hu, hk⟩ := ht x.cls d bb e4
          have one : ∀ M v, Rep X.K M d v → ClsV v u := fun M v hv => by
            unfold clsV at hu
            split at hu
            · cases hu
              rw [show v = .ref _ from hv]
              exact .own _
            · cases hu
              rw [show v = .ty _ from hv]
              exact .ty _
            · cases hu
          rcases ih e5 with rfl | ⟨_, us, hus, hr⟩
          · cases e5
            refine ⟨Cc, [u], kitAny_or hk kitAny_nil, fun M vs hv => ?_⟩
            obtain ⟨v, r, e, h1, h2⟩ := hv
            subst e
            rw [show r = [] from h2]
            exact .cons (one M v h1) .nil
          · refine ⟨Cc, u :: us, kitAny_or hk hus, fun M vs hv => ?_⟩
            obtain ⟨v, r, e, h1, h2⟩ := hv
            subst e
            exact .cons (one M v h1) (hr M r h2)
        · cases h
    cases l with
    | nil => cases e2
    | cons d0 l =>
    rcases many (l := d0 :: l) e2 with z | ⟨Cc, us, hus, hr⟩
    · cases z
    · refine ⟨_, call_isETP Cc ca.z.zc ca.f hp, fun A C H w hd r2 q hq => ?_⟩
      obtain ⟨tp, ws, rfl, hT, hv⟩ := r2
      exact ⟨hd, tp, ws, us, k, rfl, mk_of hT, hr _ _ hv, hus, hq⟩
  | _ => exact single e2 (fun l z => by cases z)
theorem ok_isEP {X : Cx} {x : Exn} {ad dd : Addr} {tab : Str → D → Option Bool} (bs : Bears X ad dd x) (ht : TabOk X.K tab) : OkCall X (.builtin "isinstance") (fIsE ad dd x tab) := fun xs C r C' h => by
  obtain ⟨oe, ca, hp⟩ := bs
  unfold fIsE at h
  split at h
  · rename_i a' d'
    split at h
    · rename_i hc
      obtain ⟨rfl, hfs⟩ := hc
      cases e2 : isX1 tab x.cls d' with
      | none => rw [e2] at h; cases h
      | some k =>
        rw [e2] at h
        cases h
        obtain ⟨R, h1, h2⟩ := ok_isE0P ca hp ht e2
        refine ⟨R, h1, fun b A G s H vs S ra q hq => ?_⟩
        obtain ⟨v, w, rfl, r1, r2⟩ := two_ ra
        have e1 : v = .ref a' := r1
        subst e1
        exact h2 A C H w (by rw [hfs]; exact .inl rfl) r2 q (hq _ A H S rfl)
    · cases h
  · rename_i a' d0 fs d'
    split at h
    · rename_i hc
      obtain ⟨rfl, rfl, hfs⟩ := hc
      cases e2 : isX1 tab x.cls d' with
      | none => rw [e2] at h; cases h
      | some k =>
        rw [e2] at h
        cases h
        obtain ⟨R, h1, h2⟩ := ok_isE0P ca hp ht e2
        refine ⟨R, h1, fun b A G s H vs S ra q hq => ?_⟩
        obtain ⟨v, w, rfl, r1, r2⟩ := two_ ra
        obtain ⟨e1, fvs, h3, h4⟩ := r1
        subst e1
        obtain ⟨fs', efs⟩ := Option.isSome_iff_exists.mp hfs
        exact h2 A C H w (by rw [efs]; exact .inr ⟨d0, fvs, rfl, mk_of h3⟩) r2 q (hq _ A H S rfl)
    · cases h
  · cases h
end
end R
/-! # zip of two lists while an exception is handled -/
namespace HT
open PySem PySem.Spec PyProof.Rows HotX
section
variable {prog : Program} {w : World} {A : Around} {E : Value → Shared → Prop} {s : Shared}
theorem nextOf_end {it l : Addr} {i : Nat} {items} {Q : Value → Shared → Prop} (q : Qt A s.heap) (hn : ∀ x1, A.handled = some (.ref x1) → x1 ≠ it)
    (hit : s.heap.IsListIter it l i) (hl : s.heap.IsList l items) (hx : items[i]? = none)
    (hE : ∀ h' e, Heap.ExtBut it s.heap h' → (∃ o, h'.get? e = some o ∧ o.cls = .type "StopIteration") → E (.ref e) { s with heap := h' }) : wpAny (model prog w) A (Builtin.SmallTypes.nextOf (.ref it)) Q E s := by
  obtain ⟨o, ho, hc, hd⟩ := id hit
  obtain ⟨ol, hol, _, nl, hdl⟩ := hl
  unfold Builtin.SmallTypes.nextOf
  refine wpAny_bind (wpAny_callSpecial?_slot (name := Str.ofString "__next__") hit.typeIs slot_listiter_next
    (wpAny_call_entry slot_listiter_next hit.typeIs entry_listiter_next ?_ (args_listiter_next _)))
  show wpAny _ _ (field (.ref it) 0 >>= _) _ _ s
  refine wpAny_bind (wpAny_field ho hd (x := .ref l) rfl ?_)
  show wpAny _ _ (if (Value.ref l == Value.none) = true then _ else _) _ _ s
  rw [if_neg (show ¬ ((Value.ref l == Value.none) = true) from Bool.false_ne_true)]
  show wpAny _ _ (field (.ref it) 1 >>= _) _ _ s
  refine wpAny_bind (wpAny_field ho hd (x := .int i 0) rfl ?_)
  show wpAny _ _ (seqItems? (.ref l) >>= _) _ _ s
  refine wpAny_bind (wpAny_seqItems hol hdl ?_)
  simp only [Int.toNat_natCast, hx]
  refine wpAny_bind (wpAny_rule (wpAny_bind (wpAny_setField ho hd (by simp) ?_)))
  show wpAny _ _ (newExc (.type "StopIteration") [] >>= _) _ _ _
  have k1 : ∀ b o, b ≠ it → s.heap.get? b = some o → (s.heap.update it (Obj.mapFields (·.setIfInBounds 0 .none))).get? b = some o := fun b o hb e => by
    rw [Heap.get?_update_other _ _ (Ne.symm hb)]
    exact e
  exact wpAny_bind (stop_tail (A := A.in1) (Qt.up (A := A.in1) q hn k1) fun a h' k hc => hE h' a (fun b o hb e => k b o (k1 b o hb e)) hc)
theorem zip_stop {z TI TO i1 i2 l1 l2 : Addr} {k1 k2 : Nat} {xs ys : Array Value} {a b : Value} {Q : Fin → Shared → Prop} (q : Qt A s.heap) (hn : ∀ x1, A.handled = some (.ref x1) → x1 ≠ z ∧ x1 ≠ TO ∧ x1 ≠ i1 ∧ x1 ≠ i2) (D : ZipApart z TI TO i1 i2 l1 l2)
    (hz : IsZip s.heap z TI TO .none) (hTI : IsPair s.heap TI (.ref i1) (.ref i2)) (hTO : IsPair s.heap TO a b)
    (h1 : s.heap.IsListIter i1 l1 k1) (h2 : s.heap.IsListIter i2 l2 k2) (hl1 : s.heap.IsList l1 xs) (hl2 : s.heap.IsList l2 ys) (hend : xs[k1]? = none ∨ ys[k2]? = none)
    (hE : ∀ h' e, (∀ c o, c ≠ z → c ≠ TO → c ≠ i1 → c ≠ i2 → s.heap.get? c = some o → h'.get? c = some o) → (∃ o, h'.get? e = some o ∧ o.cls = .type "StopIteration") → E (.ref e) { s with heap := h' }) :
    wpAny (model prog w) A (Builtin.«zip.__next__» ⟨[.ref z], []⟩) Q E s := by
  show wpAny _ _ (field (.ref z) 2 >>= _) _ _ _
  refine wpAny_bind (wpAny_field hz rfl (x := .bool false) rfl ?_)
  show wpAny _ _ (field (.ref z) 3 >>= _) _ _ _
  refine wpAny_bind (wpAny_field hz rfl (x := .ref TI) rfl ?_)
  refine wpAny_bind (wpAny_seqItems hTI rfl ?_)
  show wpAny _ _ (Builtin.SmallTypes.ownedTupleIsFree (.ref z) >>= _) _ _ _
  refine wpAny_bind ?_
  unfold Builtin.SmallTypes.ownedTupleIsFree
  refine wpAny_bind (wpAny_field hz rfl (x := .none) rfl (wpAny_pure ?_))
  simp only [if_true]
  refine wpAny_bind (wpAny_rule ?_)
  refine wpAny_bind (wpAny_field hz rfl (x := .ref TO) rfl ?_)
  refine wpAny_bind (wpAny_setField_rec hz (by simp) fun h₁ hz₁ hs₁ => ?_)
  replace hz₁ : IsZip h₁ z TI TO .ellipsis := hz₁
  have q1 : Qt A h₁ := Qt.up (it := z) q (fun x1 e => (hn x1 e).1) fun c o c1 e => hs₁.extBut _ _ c1 e
  refine wpAny_bind ?_
  simp only [List.zipIdx_cons, List.zipIdx_nil, List.forIn_cons, List.forIn_nil]
  refine wpAny_bind (wpAny_bind (wpAny_onRaise ?_))
  show wpAny _ _ (Builtin.SmallTypes.nextOf (.ref i1) >>= _) _ _ _
  cases hx : xs[k1]? with
  | none =>
    refine wpAny_bind (nextOf_end q1 (fun x1 e => (hn x1 e).2.2.1) (h1.extBut hs₁.extBut D.i1z) (hl1.extBut hs₁.extBut D.l1z) hx fun h₂ e hs₂ he => ?_)
    obtain ⟨oe, hoe, hce⟩ := he
    have hz₂ : IsZip h₂ z TI TO .ellipsis := hs₂ _ _ D.i1z.symm hz₁
    have hez : e ≠ z := fun x => by subst x; rw [hz₂] at hoe; cases hoe; simp at hce
    exact wpAny_setField_rec hz₂ (by simp) fun h₃ _ hs₃ => hE h₃ e (fun c o c1 _ c3 _ x => hs₃.extBut _ _ c1 (hs₂ _ _ c3 (hs₁.extBut _ _ c1 x))) ⟨oe, hs₃.extBut _ _ hez hoe, hce⟩
  | some x =>
    have hy : ys[k2]? = none := by
      rcases hend with h | h
      · rw [hx] at h
        cases h
      · exact h
    refine wpAny_bind (wpAny_nextOf_list_item (h1.extBut hs₁.extBut D.i1z) (hl1.extBut hs₁.extBut D.l1z) hx fun h₂ h1₂ hs₂ => wpAny_pure ?_)
    have q2 : Qt A h₂ := Qt.up (it := i1) q1 (fun x1 e => (hn x1 e).2.2.1) fun c o c1 e => hs₂.extBut _ _ c1 e
    have hTO₂ : IsPair h₂ TO a b := hs₂.extBut _ _ D.TOi1 (hs₁.extBut _ _ D.TOz hTO)
    refine wpAny_bind (wpAny_seqItems hTO₂ rfl ?_)
    refine wpAny_bind (wpAny_updateSeq_pair hTO₂ fun h₃ hTO₃ hs₃ => ?_)
    have q3 : Qt A h₃ := Qt.up (it := TO) q2 (fun x1 e => (hn x1 e).2.1) fun c o c1 e => hs₃.extBut _ _ c1 e
    refine wpAny_bind (wpAny_letGo (wpAny_pure ?_))
    refine wpAny_bind (wpAny_bind (wpAny_onRaise ?_))
    show wpAny _ _ (Builtin.SmallTypes.nextOf (.ref i2) >>= _) _ _ _
    refine wpAny_bind (nextOf_end q3 (fun x1 e => (hn x1 e).2.2.2) (((h2.extBut hs₁.extBut D.i2z).extBut hs₂.extBut D.i12.symm).extBut hs₃.extBut D.TOi2.symm)
      (((hl2.extBut hs₁.extBut D.l2z).extBut hs₂.extBut D.l2i1).extBut hs₃.extBut D.l2TO) hy fun h₄ e hs₄ he => ?_)
    obtain ⟨oe, hoe, hce⟩ := he
    have hz₄ : IsZip h₄ z TI TO .ellipsis := hs₄ _ _ D.i2z.symm (hs₃.extBut _ _ D.TOz.symm (hs₂.extBut _ _ D.i1z.symm hz₁))
    have hez : e ≠ z := fun x => by subst x; rw [hz₄] at hoe; cases hoe; simp at hce
    exact wpAny_setField_rec hz₄ (by simp) fun h₅ _ hs₅ => hE h₅ e (fun c o c1 c2 c3 c4 x => hs₅.extBut _ _ c1 (hs₄ _ _ c4 (hs₃.extBut _ _ c2 (hs₂.extBut _ _ c3 (hs₁.extBut _ _ c1 x))))) ⟨oe, hs₅.extBut _ _ hez hoe, hce⟩
theorem zip_end {z TI TO i1 i2 l1 l2 : Addr} {k1 k2 : Nat} {xs ys : Array Value} {a b : Value} {Q : Option Value → Shared → Prop} (q : Qt A s.heap) (hn : ∀ x1, A.handled = some (.ref x1) → x1 ≠ z ∧ x1 ≠ TO ∧ x1 ≠ i1 ∧ x1 ≠ i2) (D : ZipApart z TI TO i1 i2 l1 l2)
    (hz : IsZip s.heap z TI TO .none) (hTI : IsPair s.heap TI (.ref i1) (.ref i2)) (hTO : IsPair s.heap TO a b)
    (h1 : s.heap.IsListIter i1 l1 k1) (h2 : s.heap.IsListIter i2 l2 k2) (hl1 : s.heap.IsList l1 xs) (hl2 : s.heap.IsList l2 ys) (hend : xs[k1]? = none ∨ ys[k2]? = none)
    (hQ : ∀ h', (∀ c o, c ≠ z → c ≠ TO → c ≠ i1 → c ≠ i2 → s.heap.get? c = some o → h'.get? c = some o) → Q none { s with heap := h' }) : wpAny (model prog w) A (pyNext (.ref z)) Q E s := by
  have hT : s.TypeIs (.ref z) "zip" := ⟨_, hz, rfl⟩
  unfold pyNext
  refine wpAny_bind (wpAny_attempt (wpAny_callSpecial?_slot (name := Str.ofString "__next__") hT F.slot_zip_next
    (wpAny_call_entry F.slot_zip_next hT F.entry_zip_next (zip_stop (A := A.in1) q hn D hz hTI hTO h1 h2 hl1 hl2 hend fun h' e hk he => ?_) (F.args_zip_next_1 _))))
  obtain ⟨o, ho, hc⟩ := he
  refine wpAny_bind (wpAny_isInstance (T := "StopIteration") (b := true) ⟨o, ho, hc⟩ isSubtype_stop ?_)
  exact wpAny_pure (hQ _ hk)
end
section
open L2 L2H
theorem turnH_zip {P : Program} {w : World} {K : PySem.W.Frag} {elts : List Expr} {kk : Nat} {tpos : Pos} {a b z TI TO i1 i2 : Addr} (D : ZipApart z TI TO i1 i2 a b) :
    TurnH P w K (.Tuple elts kk tpos) (Itz K a b) [z, TI, TO, i1, i2] z (fun i h => IsZip h z TI TO .none ∧ IsPair h TI (.ref i1) (.ref i2) ∧ (∃ x y, IsPair h TO x y) ∧ h.IsListIter i1 a i ∧ h.IsListIter i2 b i) where
  mem := (turn_zip (P := P) (w := w) (K := K) (elts := elts) (kk := kk) (tpos := tpos) D).mem
  obj := (turn_zip (P := P) (w := w) (K := K) (elts := elts) (kk := kk) (tpos := tpos) D).obj
  keep := (turn_zip (P := P) (w := w) (K := K) (elts := elts) (kk := kk) (tpos := tpos) D).keep
  item := by
    intro X hP hw hK hc i pins s σ H E I hf st hg
    subst hP hw hK
    obtain ⟨hz, hTI, ⟨x0, y0, hTO⟩, h1, h2⟩ := st
    obtain ⟨xs, ys, x, y, hqx, hqy, hx, hy⟩ := hg
    obtain ⟨its, rv, p, _⟩ := I.list hqx
    obtain ⟨its2, rv2, p2, _⟩ := I.list hqy
    obtain ⟨u, hu, ru⟩ := rv.get hx
    obtain ⟨u2, hu2, ru2⟩ := rv2.get hy
    have hzl : z < s.heap.objs.size := Heap.lt_size hz
    refine wpAny_pyNext_zip_item D hz hTI hTO h1 h2 p.isList p2.isList (x := u) (y := u2) (by simpa using hu) (by simpa using hu2) fun h' z' TO' h1' h2' hT hsz hk => ?_
    refine ⟨_, rfl, wpAny_letOwnedTupleGo_zip (s := { s with heap := h' }) z' fun h'' z'' sb => ?_⟩
    have hT2 : h''.get? s.heap.objs.size = some { cls := .type "tuple", data := .seq #[u, u2] } := (sb.2 _ (Nat.ne_of_gt hzl)).trans hT
    have new : ObjOk X.prog X.w (upd H s.heap.objs.size (.tup [x, y])) h'' s.heap.objs.size (.tup [x, y]) :=
      ⟨by show 2 ≤ sizeLine; decide, [u, u2], .cons ru (.cons ru2 .nil), ⟨_, hT2, rfl, _, rfl⟩⟩
    have I1 : Inv X pins σ (upd H s.heap.objs.size (.tup [x, y])) { s with heap := h'' } :=
      I.turnedNew (t' := s.toks) (ch := [z, TI, TO, i1, i2]) (fun c o hb q => (sb.2 c (fun q' => hb (by simp [q']))).trans (hk c o (fun q' => hb (by simp [q'])) (fun q' => hb (by simp [q'])) (fun q' => hb (by simp [q'])) (fun q' => hb (by simp [q'])) q)) hf (Nat.le_refl _) new
    refine ⟨.ref s.heap.objs.size, _, I1, rfl, ⟨_, x, y, rfl, I.hok.fresh (Nat.le_refl _), rfl, fun l hl => by rw [I.list_inj hl hqx]; exact hx, fun l hl => by rw [I.list_inj hl hqy]; exact hy⟩, ⟨z'', ?_, ⟨u, u2, ?_⟩, ?_, ?_⟩, fun c hcm => ?_⟩
    · exact (sb.2 _ D.TIz).trans (hk _ _ D.TIz D.TITO D.TIi1 D.TIi2 hTI)
    · exact (sb.2 _ D.TOz).trans TO'
    · exact h1'.at fun o q => (sb.2 _ D.i1z).trans q
    · exact h2'.at fun o q => (sb.2 _ D.i2z).trans q
    · have hlt : c < s.heap.objs.size := by
        have e' : c = z ∨ c = TI ∨ c = TO ∨ c = i1 ∨ c = i2 := by simpa using hcm
        rcases e' with q | q | q | q | q
        · rw [q]; exact hzl
        · rw [q]; exact Heap.lt_size hTI
        · rw [q]; exact Heap.lt_size hTO
        · rw [q]; obtain ⟨_, e1, _⟩ := h1; exact Heap.lt_size e1
        · rw [q]; obtain ⟨_, e2, _⟩ := h2; exact Heap.lt_size e2
      rw [upd_ne (Nat.ne_of_lt hlt)]
      exact (hf c hcm).1
  done := by
    intro X hP hw hK hc i pins s σ H E I hf st hg
    subst hP hw hK
    obtain ⟨hz, hTI, ⟨x0, y0, hTO⟩, h1, h2⟩ := st
    obtain ⟨xs, ys, hqx, hqy, hend⟩ := hg
    obtain ⟨its, rv, p, _⟩ := I.list hqx
    obtain ⟨its2, rv2, p2, _⟩ := I.list hqy
    have l1 := rv.length
    have l2 := rv2.length
    have he : its.toArray[i]? = none ∨ its2.toArray[i]? = none := hend.imp (fun q => by simp; omega) fun q => by simp; omega
    exact zip_end (qt_of hc I) (fun x1 e => ⟨ne_of hc (hf z (by simp)) x1 e, ne_of hc (hf TO (by simp)) x1 e, ne_of hc (hf i1 (by simp)) x1 e, ne_of hc (hf i2 (by simp)) x1 e⟩) D hz hTI hTO h1 h2 p.isList p2.isList he fun h' hk =>
      ⟨rfl, I.turnedL (t' := s.toks) (ch := [z, TI, TO, i1, i2]) (fun c o hb q => hk c o (fun q' => hb (by simp [q'])) (fun q' => hb (by simp [q'])) (fun q' => hb (by simp [q'])) (fun q' => hb (by simp [q'])) q) hf⟩
  self := fun A i s Q E st h => wpAny_pyIter_zip st.1 h
theorem pi_zipH {X : Cx} {e e2 : Expr} {ta : TA} {p pos tpos : Pos} {elts : List Expr} {kk : Nat} (hg : Gl X "zip") (hm : X.mg "zip" = none) (ha : PA X [e, e2] ta)
    (hs : starEach [e, e2] X.env = (false, eval e X.env) :: starEach [e2] X.env := by rfl) (hpl : (backTo pos (starEach [e2] X.env)).any (·.1) = false := by rfl) :
    PIH X (.Tuple elts kk tpos) (.Call (.Name "zip" p) [e, e2] [] pos) (L2.iZip X.K ta) := by
  refine ⟨fun pins s σ H R I h => ?_⟩
  refine Call_ (ld_blt I hg hm PyProof.Rows.boot_zip (PyProof.Rows.callWith_type1 (thn (ha.run pos pins s σ H _ I h) fun us s1 ⟨vs, H1, I1, r1, q1⟩ => ?_) hs hpl))
  obtain ⟨a, b, xs, ys, ex, hqx, hqy, q⟩ := q1
  subst ex
  cases r1 with
  | cons r rr =>
    cases rr with
    | cons r' rr =>
      cases rr
      cases r
      cases r'
      obtain ⟨its, rv, p1, _⟩ := I1.list hqx
      obtain ⟨its2, rv2, p2, _⟩ := I1.list hqy
      have la : a < s1.heap.objs.size := p1.lt
      have lb : b < s1.heap.objs.size := p2.lt
      refine call_zip_2 p1.isList p2.isList fun h' hz hTI hTO h1 h2 hsz hk => wpAny_pyIter_zip hz ?_
      have I2 : Inv X pins σ H1 { s1 with heap := h' } := I1.kept (t' := s1.toks) hk
      refine ⟨s1.heap.objs.size + 4, [s1.heap.objs.size + 4, s1.heap.objs.size + 2, s1.heap.objs.size + 3, s1.heap.objs.size, s1.heap.objs.size + 1], _, _, H1, rfl, I2, turnH_zip (PySem.W.ktu_apart s1.heap.objs.size a b la lb), ⟨hz, hTI, ⟨_, _, hTO⟩, h1, h2⟩, fun c hcm => ?_, q⟩
      have hle : s1.heap.objs.size ≤ c := by
        have e' : c = s1.heap.objs.size + 4 ∨ c = s1.heap.objs.size + 2 ∨ c = s1.heap.objs.size + 3 ∨ c = s1.heap.objs.size ∨ c = s1.heap.objs.size + 1 := by simpa using hcm
        rcases e' with z | z | z | z | z <;> rw [z] <;> first | exact Nat.le_refl _ | exact Nat.le_add_right _ _
      exact I1.fpOk hle (I1.hok.fresh hle)
end
end HT
namespace R
open PySem L2
section
variable {X : Cx} {tg e e2 : Expr} {p p2 : Pos}
theorem ii_zipH {q tpos : Pos} {elts : List Expr} {kk : Nat} {fa : FA} (h : ImA X [e, e2] fa) (hg : Gl X "zip") (hm : X.mg "zip" = none) (hs : starEach [e, e2] X.env = (false, eval e X.env) :: starEach [e2] X.env := by rfl) (hpl : (backTo p (starEach [e2] X.env)).any (·.1) = false := by rfl) :
    ImIH X (.Tuple elts kk tpos) (.Call (.Name "zip" q) [e, e2] [] p) (iZip fa) := fun b A G C s H W S tk o ho k q => by
  refine ⟨_, HT.pi_zipH hg hm wA_ok hs hpl, ?_⟩
  rcases bind_inv ho with ⟨x, C1, h1, rfl⟩ | ⟨r, C1, h1, h2⟩
  · exact h.er S tk h1 q _
  · split at h2
    · rename_i r r2
      split at h2
      · rename_i l l2 e1 e2
        cases h2
        refine h.ok S tk h1 fun us A1 H1 S1 g1 rr => ?_
        obtain ⟨v, w, rfl, r1, rw1⟩ := two_ rr
        obtain ⟨a, vs, ev, hq, hv⟩ := viewS_ok S1 e1 r1
        obtain ⟨a2, ws, ew, hq2, hv2⟩ := viewS_ok S1 e2 rw1
        subst ev ew
        refine ⟨a, a2, vs, ws, rfl, hq, hq2, q.ok _ _ rfl _ A1 H1 S1 ⟨⟨e1, e2⟩, fun b' A' G' C' s' H' S' g' hw i hi => ?_, fun b' A' G' C' s' H' S' g' hw => ?_, fun b' A' G' C' s' H' S' g' hw i e x H'' he y => ?_⟩⟩
        · obtain ⟨a', vs', ev', hq', hv'⟩ := viewS_ok S' hw.1 (r1.go g')
          obtain ⟨b', ws', ew', hq2', hv2'⟩ := viewS_ok S' hw.2 (rw1.go g')
          cases ev'
          cases ew'
          have hi2 : i < l.length ∧ i < l2.length := by
            have : i < (List.zipWith (fun x y => mkTup [x, y]) l l2).length := hi
            rw [List.length_zipWith] at this
            omega
          have hi' : i < vs'.length := by rw [← hv'.length]; exact hi2.1
          have hj' : i < ws'.length := by rw [← hv2'.length]; exact hi2.2
          exact ⟨vs', ws', vs'[i], ws'[i], hq', hq2', by simp [hi'], by simp [hj']⟩
        · obtain ⟨a', vs', ev', hq', hv'⟩ := viewS_ok S' hw.1 (r1.go g')
          obtain ⟨b', ws', ew', hq2', hv2'⟩ := viewS_ok S' hw.2 (rw1.go g')
          cases ev'
          cases ew'
          refine ⟨vs', ws', hq', hq2', ?_⟩
          rw [← hv'.length, ← hv2'.length]
          show l.length ≤ (List.zipWith (fun x y => mkTup [x, y]) l l2).length ∨ l2.length ≤ (List.zipWith (fun x y => mkTup [x, y]) l l2).length
          rw [List.length_zipWith]
          omega
        · obtain ⟨a', vs', ev', hq', hv'⟩ := viewS_ok S' hw.1 (r1.go g')
          obtain ⟨b', ws', ew', hq2', hv2'⟩ := viewS_ok S' hw.2 (rw1.go g')
          cases ev'
          cases ew'
          have he' : (List.zipWith (fun x y => mkTup [x, y]) l l2)[i]? = some e := he
          rw [List.getElem?_zipWith] at he'
          cases e5 : l[i]? with
          | none => rw [e5] at he'; simp at he'
          | some d0 =>
            cases e6 : l2[i]? with
            | none => rw [e5, e6] at he'; simp at he'
            | some d1 =>
              rw [e5, e6] at he'
              have hd : e = mkTup [d0, d1] := by simpa using he'.symm
              subst hd
              obtain ⟨T, x0, y0, ex, hT, eH, y, y'⟩ := y
              subst ex eH
              obtain ⟨w, h5, h6⟩ := hv'.get e5
              obtain ⟨w2, h7, h8⟩ := hv2'.get e6
              have z := y vs' hq'
              rw [h5] at z
              cases z
              have z := y' ws' hq2'
              rw [h7] at z
              cases z
              exact ⟨Evl.Ex.new hT, mkTup_new S' hT (.cons h6 (.cons h8 .nil))⟩
      · cases h2
    · cases h2
end
end R
/-! # for .. in zip(a list, a dict): the dict's keys -/
namespace R
open PySem PySem.Spec PyProof.Rows L2
section
variable {prog : Program} {w : World} {A : Around} {E : Value → Shared → Prop} {s : Shared} {z TI TO i j l m : Addr} {c d n ep : Nat} {xs : Array Value} {a b x : Value} {od : Obj} {es : Array DictEntry} {en : DictEntry}
theorem kEb {g g' : Heap} {j m i : Addr} {d n ep : Nat} (h : g.IsKeyIter j m d n ep) (e : Heap.ExtBut i g g') (ne : j ≠ i) : g'.IsKeyIter j m d n ep := h.at fun o q => e _ _ ne q
theorem nk_item {Q : Value → Shared → Prop} (hit : s.heap.IsKeyIter j m d n ep) (hod : s.heap.get? m = some od) (hdd : od.data = .dict es ep) (hsz : es.size = n) (hx : es[d]? = some en)
    (hQ : ∀ h', h'.IsKeyIter j m (d + 1) n ep → Heap.SameBut j s.heap h' → Q en.key { s with heap := h' }) : wpAny (model prog w) A (Builtin.SmallTypes.nextOf (.ref j)) Q E s := by
  obtain ⟨o, ho, hc, hd⟩ := id hit
  unfold Builtin.SmallTypes.nextOf
  refine wpAny_bind (wpAny_callSpecial?_slot (name := Str.ofString "__next__") hit.typeIs F.slot_dict_keyiterator_next
    (wpAny_call_entry F.slot_dict_keyiterator_next hit.typeIs F.entry_dict_keyiterator_next ?_ (F.args_dict_keyiterator_next_1 _)))
  refine wpAny_bind (wpAny_pure ?_)
  refine wpAny_bind ?_
  refine wpAny_bind ?_
  first | refine wpAny_bind (wpAny_typeNameOfWhole_keyiter hit.typeIs (wpAny_pure ?_)) | refine wpAny_bind (wpAny_typeNameOf_keyiter hit.typeIs (wpAny_pure ?_))
  refine wpAny_bind (wpAny_fieldsOf ho hd ?_)
  have hown : Builtin.Dict_items.ownsTuple "dict_keyiterator" = false := by decide
  simp only [hown, Bool.false_eq_true, if_false]
  show wpAny _ _ (if (Value.ref m == Value.none) = true then _ else _) _ _ s
  rw [if_neg (show ¬ ((Value.ref m == Value.none) = true) from Bool.false_ne_true)]
  refine wpAny_bind (wpAny_pure ?_)
  refine wpAny_bind (wpAny_dictEntries hod hdd ?_)
  rw [if_neg (by rw [hsz]; simp)]
  refine wpAny_bind (wpAny_pure ?_)
  refine wpAny_bind (wpAny_dictEpoch hod hdd ?_)
  rw [if_neg (by simp)]
  refine wpAny_pure ?_
  obtain ⟨hlt', hen⟩ := Array.getElem?_eq_some_iff.mp hx
  simp only [show ¬ ((d : Int) < 0) from by omega, if_false, Int.toNat_natCast, Array.getElem?_eq_getElem hlt']
  refine wpAny_bind ?_
  first | refine wpAny_bind (wpAny_typeNameOfWhole_keyiter hit.typeIs (wpAny_pure ?_)) | refine wpAny_bind (wpAny_typeNameOf_keyiter hit.typeIs (wpAny_pure ?_))
  refine wpAny_bind (wpAny_isOneOf_keyiter hit.typeIs ?_)
  show wpAny _ _ (setField (.ref j) 1 (rawInt ((d : Int) + 1)) >>= _) _ _ s
  refine wpAny_bind (wpAny_setField ho hd (by simp) ?_)
  have hit' : (s.heap.update j (Obj.mapFields (·.setIfInBounds 1 (rawInt ((d : Int) + 1))))).IsKeyIter j m (d + 1) n ep :=
    ⟨_, Heap.get?_update_self _ ho (Obj.isFreed_of_fields (Obj.data_mapFields hd _)), (Obj.cls_mapFields ..).trans hc, by rw [Obj.data_mapFields hd]; simp [rawInt]⟩
  refine wpAny_bind (wpAny_holding ?_)
  refine wpAny_bind (wpAny_isOneOf_keyiter (s := { s with heap := s.heap.update j (Obj.mapFields (·.setIfInBounds 1 (rawInt ((d : Int) + 1)))) }) hit'.typeIs ?_)
  show wpAny _ _ (pure es[d].key) _ _ _
  rw [hen]
  exact wpAny_pure (wpAny_pure ⟨_, rfl, wpAny_pure (hQ _ hit' (Heap.SameBut.update ..))⟩)
theorem nk_end {Q : Value → Shared → Prop} (hh : A.handled = none) (hit : s.heap.IsKeyIter j m d n ep) (hod : s.heap.get? m = some od) (hdd : od.data = .dict es ep) (hsz : es.size = n) (hge : n ≤ d)
    (hE : ∀ h' e, Heap.ExtBut j s.heap h' → (∃ o, h'.get? e = some o ∧ o.cls = .type "StopIteration") → E (.ref e) { s with heap := h' }) : wpAny (model prog w) A (Builtin.SmallTypes.nextOf (.ref j)) Q E s := by
  obtain ⟨o, ho, hc, hd⟩ := id hit
  unfold Builtin.SmallTypes.nextOf
  refine wpAny_bind (wpAny_callSpecial?_slot (name := Str.ofString "__next__") hit.typeIs F.slot_dict_keyiterator_next
    (wpAny_call_entry F.slot_dict_keyiterator_next hit.typeIs F.entry_dict_keyiterator_next ?_ (F.args_dict_keyiterator_next_1 _)))
  refine wpAny_bind (wpAny_pure ?_)
  refine wpAny_bind ?_
  refine wpAny_bind ?_
  first | refine wpAny_bind (wpAny_typeNameOfWhole_keyiter hit.typeIs (wpAny_pure ?_)) | refine wpAny_bind (wpAny_typeNameOf_keyiter hit.typeIs (wpAny_pure ?_))
  refine wpAny_bind (wpAny_fieldsOf ho hd ?_)
  have hown : Builtin.Dict_items.ownsTuple "dict_keyiterator" = false := by decide
  simp only [hown, Bool.false_eq_true, if_false]
  show wpAny _ _ (if (Value.ref m == Value.none) = true then _ else _) _ _ s
  rw [if_neg (show ¬ ((Value.ref m == Value.none) = true) from Bool.false_ne_true)]
  refine wpAny_bind (wpAny_pure ?_)
  refine wpAny_bind (wpAny_dictEntries hod hdd ?_)
  rw [if_neg (by rw [hsz]; simp)]
  refine wpAny_bind (wpAny_pure ?_)
  refine wpAny_bind (wpAny_dictEpoch hod hdd ?_)
  rw [if_neg (by simp)]
  refine wpAny_pure ?_
  have hge' : es.size ≤ d := by rw [hsz]; exact hge
  simp only [show ¬ ((d : Int) < 0) from by omega, if_false, Int.toNat_natCast, Array.getElem?_eq_none hge']
  refine wpAny_bind ?_
  first | refine wpAny_bind (wpAny_typeNameOfWhole_keyiter hit.typeIs (wpAny_pure ?_)) | refine wpAny_bind (wpAny_typeNameOf_keyiter hit.typeIs (wpAny_pure ?_))
  show wpAny _ _ (setField (.ref j) 0 .none >>= _) _ _ s
  refine wpAny_bind (wpAny_setField ho hd (by simp) ?_)
  show wpAny _ _ (newExc (.type "StopIteration") [] >>= _) _ _ _
  have k1 : ∀ b o, b ≠ j → s.heap.get? b = some o → (s.heap.update j (Obj.mapFields (·.setIfInBounds 0 .none))).get? b = some o := fun b o hb e => by
    rw [Heap.get?_update_other _ _ (Ne.symm hb)]
    exact e
  exact wpAny_bind (HT.stop_tail (A := A.in1) (.inl hh) fun a h' k hc => hE h' a (fun b o hb e => k b o (k1 b o hb e)) hc)
theorem zk_item {t : Bool} {Q : Value → Shared → Prop} (D : ZipApart z TI TO i j l m) (hz : IsZip s.heap z TI TO .none) (hI : IsPair s.heap TI (.ref i) (.ref j)) (hO : IsPair s.heap TO a b)
    (wi : InI t s.heap i l c) (wj : s.heap.IsKeyIter j m d n ep) (ql : InQ t s.heap l xs) (qm : s.heap.get? m = some od) (hdd : od.data = .dict es ep) (hsz : es.size = n) (hx : xs[c]? = some x) (hy : es[d]? = some en)
    (q : ∀ g, IsZip g z TI TO (rawInt s.heap.objs.size) → IsPair g TO x en.key → InI t g i l (c + 1) → g.IsKeyIter j m (d + 1) n ep → IsPair g s.heap.objs.size x en.key → (∀ e o, e ≠ z → e ≠ TO → e ≠ i → e ≠ j → s.heap.get? e = some o → g.get? e = some o) → Q (.ref s.heap.objs.size) { s with heap := g }) :
    wpAny (model prog w) A (Builtin.«zip.__next__» ⟨[.ref z], []⟩) (fun r s' => ∃ v, r = .done (.ret v) ∧ Q v s') E s := by
  show wpAny _ _ (field (.ref z) 2 >>= fun _ => _) _ _ _
  refine wpAny_bind (wpAny_field hz rfl (x := .bool false) rfl ?_)
  show wpAny _ _ (field (.ref z) 3 >>= fun _ => _) _ _ _
  refine wpAny_bind (wpAny_field hz rfl (x := .ref TI) rfl (wpAny_bind (wpAny_seqItems hI rfl ?_)))
  show wpAny _ _ (Builtin.SmallTypes.ownedTupleIsFree (.ref z) >>= fun _ => _) _ _ _
  unfold Builtin.SmallTypes.ownedTupleIsFree
  refine wpAny_bind (wpAny_bind (wpAny_field hz rfl (x := .none) rfl (wpAny_pure ?_)))
  rw [if_pos rfl]
  refine wpAny_bind (wpAny_rule (wpAny_bind (wpAny_field hz rfl (x := .ref TO) rfl (wpAny_bind (wpAny_setField_rec hz (by simp) fun g1 z1 s1 => ?_)))))
  have z1' : IsZip g1 z TI TO .ellipsis := z1
  have e1 := s1.extBut
  refine wpAny_bind ?_
  simp only [List.zipIdx_cons, List.zipIdx_nil, List.forIn_cons, List.forIn_nil]
  refine wpAny_bind (wpAny_bind (wpAny_onRaise ?_))
  show wpAny _ _ (Builtin.SmallTypes.nextOf (.ref i) >>= fun _ => _) _ _ _
  refine wpAny_bind (in_item (wi.eb e1 D.i1z) (ql.eb e1 D.l1z) hx fun g2 wi2 s2 => wpAny_pure ?_)
  have e2 := s2.extBut
  have o2 : IsPair g2 TO a b := e2 _ _ D.TOi1 (e1 _ _ D.TOz hO)
  refine wpAny_bind (wpAny_seqItems o2 rfl (wpAny_bind (wpAny_updateSeq_pair o2 fun g3 p3 s3 => wpAny_bind (wpAny_letGo (wpAny_pure ?_)))))
  have o3 : IsPair g3 TO x b := p3
  have e3 := s3.extBut
  refine wpAny_bind (wpAny_bind (wpAny_onRaise ?_))
  show wpAny _ _ (Builtin.SmallTypes.nextOf (.ref j) >>= fun _ => _) _ _ _
  refine wpAny_bind (nk_item (kEb (kEb (kEb wj e1 D.i2z) e2 D.i12.symm) e3 D.TOi2.symm) (e3 _ _ D.l2TO (e2 _ _ D.l2i1 (e1 _ _ D.l2z qm))) hdd hsz hy fun g4 wj4 s4 => wpAny_pure ?_)
  have e4 := s4.extBut
  have o4 : IsPair g4 TO x b := e4 _ _ D.TOi2 o3
  refine wpAny_bind (wpAny_seqItems o4 rfl (wpAny_bind (wpAny_updateSeq_pair o4 fun g5 p5 s5 => wpAny_bind (wpAny_letGo (wpAny_pure (wpAny_pure ?_))))))
  have o5 : IsPair g5 TO x en.key := p5
  have e5 := s5.extBut
  refine wpAny_bind (wpAny_seqItems o5 rfl (wpAny_bind (wpAny_newTuple ?_)))
  have size5 : g5.objs.size = s.heap.objs.size := by rw [s5.1, s4.1, s3.1, s2.1, s1.1]
  have stay : ∀ e o, e ≠ z → e ≠ TO → e ≠ i → e ≠ j → s.heap.get? e = some o → g5.get? e = some o := fun e o n1 n2 n3 n4 h => e5 _ _ n2 (e4 _ _ n4 (e3 _ _ n2 (e2 _ _ n3 (e1 _ _ n1 h))))
  have z5 : IsZip g5 z TI TO .ellipsis := e5 _ _ D.TOz.symm (e4 _ _ D.i2z.symm (e3 _ _ D.TOz.symm (e2 _ _ D.i1z.symm z1')))
  have wi5 : InI t g5 i l (c + 1) := ((wi2.eb e3 D.TOi1.symm).eb e4 D.i12).eb e5 D.TOi1.symm
  have wj5 : g5.IsKeyIter j m (d + 1) n ep := kEb wj4 e5 D.TOi2.symm
  have zl : z < g5.objs.size := Heap.lt_size z5
  show wpAny _ _ (Builtin.SmallTypes.ownedTupleHandOut (.ref z) (.ref g5.objs.size) >>= fun _ => _) _ _ _
  unfold Builtin.SmallTypes.ownedTupleHandOut
  have z6 : IsZip (g5.push { cls := .type "tuple", data := .seq #[x, en.key] }) z TI TO .ellipsis := Heap.get?_push_of_some _ z5
  refine wpAny_bind (wpAny_bind (wpAny_setField_rec z6 (by simp) fun g7 z7 s7 => ?_))
  have z7' : IsZip g7 z TI TO (rawInt g5.objs.size) := z7
  refine wpAny_setField_rec z7' (by simp) fun g8 z8 s8 => ?_
  have z8' : IsZip g8 z TI TO (rawInt g5.objs.size) := z8
  have up : ∀ e o, e ≠ z → g5.get? e = some o → g8.get? e = some o := fun e o n h => s8.extBut _ _ n (s7.extBut _ _ n (Heap.get?_push_of_some _ h))
  have new8 : IsPair g8 g5.objs.size x en.key := s8.extBut _ _ (Nat.ne_of_gt zl) (s7.extBut _ _ (Nat.ne_of_gt zl) (Heap.get?_push_size _ rfl))
  rw [size5] at z8' new8
  refine wpAny_pure ⟨_, rfl, ?_⟩
  show Q (.ref g5.objs.size) _
  rw [size5]
  exact q g8 z8' (up _ _ D.TOz o5) (wi5.at' fun o => up _ o D.i1z) (wj5.at fun o => up _ o D.i2z) new8 fun e o n1 n2 n3 n4 h => up e o n1 (stay e o n1 n2 n3 n4 h)
theorem zk_end {t : Bool} {Q : PySem.Fin → Shared → Prop} (hh : A.handled = none) (D : ZipApart z TI TO i j l m) (hz : IsZip s.heap z TI TO .none) (hI : IsPair s.heap TI (.ref i) (.ref j)) (hO : IsPair s.heap TO a b)
    (wi : InI t s.heap i l c) (wj : s.heap.IsKeyIter j m d n ep) (ql : InQ t s.heap l xs) (qm : s.heap.get? m = some od) (hdd : od.data = .dict es ep) (hsz : es.size = n) (he : xs[c]? = none ∨ n ≤ d)
    (q : ∀ g e, (∀ e o, e ≠ z → e ≠ TO → e ≠ i → e ≠ j → s.heap.get? e = some o → g.get? e = some o) → (∃ o, g.get? e = some o ∧ o.cls = .type "StopIteration") → E (.ref e) { s with heap := g }) :
    wpAny (model prog w) A (Builtin.«zip.__next__» ⟨[.ref z], []⟩) Q E s := by
  show wpAny _ _ (field (.ref z) 2 >>= fun _ => _) _ _ _
  refine wpAny_bind (wpAny_field hz rfl (x := .bool false) rfl ?_)
  show wpAny _ _ (field (.ref z) 3 >>= fun _ => _) _ _ _
  refine wpAny_bind (wpAny_field hz rfl (x := .ref TI) rfl (wpAny_bind (wpAny_seqItems hI rfl ?_)))
  show wpAny _ _ (Builtin.SmallTypes.ownedTupleIsFree (.ref z) >>= fun _ => _) _ _ _
  unfold Builtin.SmallTypes.ownedTupleIsFree
  refine wpAny_bind (wpAny_bind (wpAny_field hz rfl (x := .none) rfl (wpAny_pure ?_)))
  rw [if_pos rfl]
  refine wpAny_bind (wpAny_rule (wpAny_bind (wpAny_field hz rfl (x := .ref TO) rfl (wpAny_bind (wpAny_setField_rec hz (by simp) fun g1 z1 s1 => ?_)))))
  have z1' : IsZip g1 z TI TO .ellipsis := z1
  have e1 := s1.extBut
  refine wpAny_bind ?_
  simp only [List.zipIdx_cons, List.zipIdx_nil, List.forIn_cons, List.forIn_nil]
  refine wpAny_bind (wpAny_bind (wpAny_onRaise ?_))
  show wpAny _ _ (Builtin.SmallTypes.nextOf (.ref i) >>= fun _ => _) _ _ _
  cases ex : xs[c]? with
  | none =>
    refine wpAny_bind (in_end hh (wi.eb e1 D.i1z) (ql.eb e1 D.l1z) ex fun g2 e e2 ⟨o, ho, hc⟩ => ?_)
    have z2 : IsZip g2 z TI TO .ellipsis := e2 _ _ D.i1z.symm z1'
    have ne : e ≠ z := fun k => by
      rw [k, z2] at ho
      cases ho
      simp at hc
    exact wpAny_setField_rec z2 (by simp) fun g3 _ s3 => q g3 e (fun k o n1 _ n3 _ h => s3.extBut _ _ n1 (e2 _ _ n3 (e1 _ _ n1 h))) ⟨o, s3.extBut _ _ ne ho, hc⟩
  | some x =>
    have ey : n ≤ d := he.resolve_left fun k => by rw [ex] at k; cases k
    refine wpAny_bind (in_item (wi.eb e1 D.i1z) (ql.eb e1 D.l1z) ex fun g2 wi2 s2 => wpAny_pure ?_)
    have e2 := s2.extBut
    have o2 : IsPair g2 TO a b := e2 _ _ D.TOi1 (e1 _ _ D.TOz hO)
    refine wpAny_bind (wpAny_seqItems o2 rfl (wpAny_bind (wpAny_updateSeq_pair o2 fun g3 p3 s3 => wpAny_bind (wpAny_letGo (wpAny_pure ?_)))))
    have e3 := s3.extBut
    refine wpAny_bind (wpAny_bind (wpAny_onRaise ?_))
    show wpAny _ _ (Builtin.SmallTypes.nextOf (.ref j) >>= fun _ => _) _ _ _
    refine wpAny_bind (nk_end hh (kEb (kEb (kEb wj e1 D.i2z) e2 D.i12.symm) e3 D.TOi2.symm) (e3 _ _ D.l2TO (e2 _ _ D.l2i1 (e1 _ _ D.l2z qm))) hdd hsz ey fun g4 e e4 ⟨o, ho, hc⟩ => ?_)
    have z4 : IsZip g4 z TI TO .ellipsis := e4 _ _ D.i2z.symm (e3 _ _ D.TOz.symm (e2 _ _ D.i1z.symm z1'))
    have ne : e ≠ z := fun k => by
      rw [k, z4] at ho
      cases ho
      simp at hc
    exact wpAny_setField_rec z4 (by simp) fun g5 _ s5 => q g5 e (fun k o n1 n2 n3 n4 h => s5.extBut _ _ n1 (e4 _ _ n4 (e3 _ _ n2 (e2 _ _ n3 (e1 _ _ n1 h))))) ⟨o, s5.extBut _ _ ne ho, hc⟩
theorem zk_next {t : Bool} {Q : Option Value → Shared → Prop} (D : ZipApart z TI TO i j l m) (hz : IsZip s.heap z TI TO .none) (hI : IsPair s.heap TI (.ref i) (.ref j)) (hO : IsPair s.heap TO a b)
    (wi : InI t s.heap i l c) (wj : s.heap.IsKeyIter j m d n ep) (ql : InQ t s.heap l xs) (qm : s.heap.get? m = some od) (hdd : od.data = .dict es ep) (hsz : es.size = n) (hx : xs[c]? = some x) (hy : es[d]? = some en)
    (q : ∀ g, IsZip g z TI TO (rawInt s.heap.objs.size) → IsPair g TO x en.key → InI t g i l (c + 1) → g.IsKeyIter j m (d + 1) n ep → IsPair g s.heap.objs.size x en.key → (∀ e o, e ≠ z → e ≠ TO → e ≠ i → e ≠ j → s.heap.get? e = some o → g.get? e = some o) → Q (some (.ref s.heap.objs.size)) { s with heap := g }) :
    wpAny (model prog w) A (pyNext (.ref z)) Q E s := by
  have ty : s.TypeIs (.ref z) "zip" := ⟨_, hz, rfl⟩
  unfold pyNext
  refine wpAny_bind (wpAny_attempt (wpAny_callSpecial?_slot (name := Str.ofString "__next__") ty F.slot_zip_next (wpAny_call_entry F.slot_zip_next ty F.entry_zip_next ?_ (F.args_zip_next_1 _))))
  exact zk_item D hz hI hO wi wj ql qm hdd hsz hx hy fun g a1 a2 a3 a4 a5 a6 => wpAny_pure (q g a1 a2 a3 a4 a5 a6)
theorem zk_stop {t : Bool} {Q : Option Value → Shared → Prop} (hh : A.handled = none) (D : ZipApart z TI TO i j l m) (hz : IsZip s.heap z TI TO .none) (hI : IsPair s.heap TI (.ref i) (.ref j)) (hO : IsPair s.heap TO a b)
    (wi : InI t s.heap i l c) (wj : s.heap.IsKeyIter j m d n ep) (ql : InQ t s.heap l xs) (qm : s.heap.get? m = some od) (hdd : od.data = .dict es ep) (hsz : es.size = n) (he : xs[c]? = none ∨ n ≤ d)
    (q : ∀ g, (∀ e o, e ≠ z → e ≠ TO → e ≠ i → e ≠ j → s.heap.get? e = some o → g.get? e = some o) → Q none { s with heap := g }) : wpAny (model prog w) A (pyNext (.ref z)) Q E s := by
  have ty : s.TypeIs (.ref z) "zip" := ⟨_, hz, rfl⟩
  unfold pyNext
  refine wpAny_bind (wpAny_attempt (wpAny_callSpecial?_slot (name := Str.ofString "__next__") ty F.slot_zip_next (wpAny_call_entry F.slot_zip_next ty F.entry_zip_next ?_ (F.args_zip_next_1 _))))
  exact zk_end hh D hz hI hO wi wj ql qm hdd hsz he fun g e k ⟨o, ho, hc⟩ => wpAny_bind (wpAny_isInstance (T := "StopIteration") (b := true) ⟨o, ho, hc⟩ isSubtype_stop (wpAny_pure (q g k)))
end
def lkH (g : Heap) (l m : Addr) (nn ep : Nat) : Heap := ((((g.push { cls := .type "list_iterator", data := .fields #[.ref l, .int 0 0] }).push { cls := .type "dict_keyiterator", data := .fields #[.ref m, .int 0 0, .int nn 0, .int ep 0] }).push { cls := .type "tuple", data := .seq #[.ref g.objs.size, .ref (g.push { cls := .type "list_iterator", data := .fields #[.ref l, .int 0 0] }).objs.size] }).push { cls := .type "tuple", data := .seq #[.none, .none] }).push { cls := .type "zip", data := .fields #[.none, .bool false, .bool false, .ref ((g.push { cls := .type "list_iterator", data := .fields #[.ref l, .int 0 0] }).push { cls := .type "dict_keyiterator", data := .fields #[.ref m, .int 0 0, .int nn 0, .int ep 0] }).objs.size, .ref (((g.push { cls := .type "list_iterator", data := .fields #[.ref l, .int 0 0] }).push { cls := .type "dict_keyiterator", data := .fields #[.ref m, .int 0 0, .int nn 0, .int ep 0] }).push { cls := .type "tuple", data := .seq #[.ref g.objs.size, .ref (g.push { cls := .type "list_iterator", data := .fields #[.ref l, .int 0 0] }).objs.size] }).objs.size] }
theorem meets_zipLK (l m : Addr) (xs : Array Value) (od : Obj) (es : Array DictEntry) (nn ep : Nat) : Meets (Builtin.«zip.__new__» ⟨[.type "zip", .ref l, .ref m], []⟩) (fun _ R s => s.heap.IsList l xs ∧ (m == sysModules) = false ∧ s.heap.get? m = some od ∧ od.ExactDict ∧ od.data = .dict es ep ∧ es.size = nn ∧ R (.ok (.ret (.ref (s.heap.objs.size + 4)))) { s with heap := lkH s.heap l m nn ep }) :=
  .of_wp fun prog w A R s h => by
    obtain ⟨hp, g, d, tk, os⟩ := s
    obtain ⟨ql, hs, qm, hx, hdt, hsz, h⟩ := h
    subst hsz
    have sz := sub_zip
    have q1 : Heap.IsList (Shared.heap ⟨hp, g, d, tk, os⟩) l xs := ql
    have q2 : (Shared.heap ⟨hp.push { cls := .type "list_iterator", data := .fields #[.ref l, .int 0 0] }, g, d, tk, os⟩).get? m = some od := Heap.get?_push_of_some _ qm
    wp_walk using wpAny_pyIter_list q1, iter_keys hs q2 hx hdt
    refine ⟨_, rfl, ?_⟩
    have e : hp.objs.size + 4 = ((((hp.push { cls := .type "list_iterator", data := .fields #[.ref l, .int 0 0] }).push { cls := .type "dict_keyiterator", data := .fields #[.ref m, .int 0 0, .int es.size 0, .int ep 0] }).push { cls := .type "tuple", data := .seq #[.ref hp.objs.size, .ref (hp.push { cls := .type "list_iterator", data := .fields #[.ref l, .int 0 0] }).objs.size] }).push { cls := .type "tuple", data := .seq #[.none, .none] }).objs.size := by
      rw [Heap.size_push, Heap.size_push, Heap.size_push, Heap.size_push]
    have h2 := h
    show R _ _
    rw [show (Shared.heap ⟨hp, g, d, tk, os⟩).objs.size + 4 = _ from e] at h2
    exact h2
section
variable {prog : Program} {w : World} {A : Around} {E : Value → Shared → Prop} {s : Shared} {l m : Addr} {xs : Array Value} {od : Obj} {es : Array DictEntry} {nn ep : Nat}
theorem call_zipLK {Q : Value → Shared → Prop} (ql : s.heap.IsList l xs) (hs : (m == sysModules) = false) (qm : s.heap.get? m = some od) (hx : od.ExactDict) (hdt : od.data = .dict es ep) (hsz : es.size = nn)
    (q : ∀ g, IsZip g (s.heap.objs.size + 4) (s.heap.objs.size + 2) (s.heap.objs.size + 3) .none → IsPair g (s.heap.objs.size + 2) (.ref s.heap.objs.size) (.ref (s.heap.objs.size + 1)) → IsPair g (s.heap.objs.size + 3) .none .none →
      InI false g s.heap.objs.size l 0 → g.IsKeyIter (s.heap.objs.size + 1) m 0 nn ep → (∀ c o, s.heap.get? c = some o → g.get? c = some o) → Q (.ref (s.heap.objs.size + 4)) { s with heap := g }) : wpAny (model prog w) A (call (.type "zip") [.ref l, .ref m]) Q E s := by
  refine callType_new F.called_zip (by decide) (F.typeCall_zip_2 _ _) (F.newCall_zip_2 _ _) (fun obj => F.args_object_init_3 obj _ _) F.entry_zip_new (meets_zipLK l m xs od es nn ep) ⟨ql, hs, qm, hx, hdt, hsz, ?_⟩
  generalize hn : s.heap.objs.size = n at *
  have z1 : (s.heap.push { cls := .type "list_iterator", data := .fields #[.ref l, .int 0 0] }).objs.size = n + 1 := by rw [Heap.size_push, hn]
  have z2 : ((s.heap.push { cls := .type "list_iterator", data := .fields #[.ref l, .int 0 0] }).push { cls := .type "dict_keyiterator", data := .fields #[.ref m, .int 0 0, .int nn 0, .int ep 0] }).objs.size = n + 2 := by rw [Heap.size_push, z1]
  have e0 : lkH s.heap l m nn ep = ((((s.heap.push { cls := .type "list_iterator", data := .fields #[.ref l, .int 0 0] }).push { cls := .type "dict_keyiterator", data := .fields #[.ref m, .int 0 0, .int nn 0, .int ep 0] }).push { cls := .type "tuple", data := .seq #[.ref n, .ref (n + 1)] }).push { cls := .type "tuple", data := .seq #[.none, .none] }).push { cls := .type "zip", data := .fields #[.none, .bool false, .bool false, .ref (n + 2), .ref (n + 3)] } := by
    unfold lkH
    rw [hn, z1, z2, Heap.size_push, z2]
  rw [e0]
  generalize h1e : s.heap.push { cls := .type "list_iterator", data := .fields #[.ref l, .int 0 0] } = h1 at *
  have g1 : h1.get? n = some { cls := .type "list_iterator", data := .fields #[.ref l, .int 0 0] } := by rw [← h1e, ← hn]; exact Heap.get?_push_size _ rfl
  have k1 : ∀ c o, s.heap.get? c = some o → h1.get? c = some o := fun c o e => by rw [← h1e]; exact Heap.get?_push_of_some _ e
  generalize h2e : h1.push { cls := .type "dict_keyiterator", data := .fields #[.ref m, .int 0 0, .int nn 0, .int ep 0] } = h2 at *
  have g2 : h2.get? (n + 1) = some { cls := .type "dict_keyiterator", data := .fields #[.ref m, .int 0 0, .int nn 0, .int ep 0] } := by rw [← h2e, ← z1]; exact Heap.get?_push_size _ rfl
  have k2 : ∀ c o, h1.get? c = some o → h2.get? c = some o := fun c o e => by rw [← h2e]; exact Heap.get?_push_of_some _ e
  generalize h3e : h2.push { cls := .type "tuple", data := .seq #[.ref n, .ref (n + 1)] } = h3 at *
  have z3 : h3.objs.size = n + 3 := by rw [← h3e, Heap.size_push, z2]
  have g3 : h3.get? (n + 2) = some { cls := .type "tuple", data := .seq #[.ref n, .ref (n + 1)] } := by rw [← h3e, ← z2]; exact Heap.get?_push_size _ rfl
  have k3 : ∀ c o, h2.get? c = some o → h3.get? c = some o := fun c o e => by rw [← h3e]; exact Heap.get?_push_of_some _ e
  generalize h4e : h3.push { cls := .type "tuple", data := .seq #[.none, .none] } = h4 at *
  have z4 : h4.objs.size = n + 4 := by rw [← h4e, Heap.size_push, z3]
  have g4 : h4.get? (n + 3) = some { cls := .type "tuple", data := .seq #[.none, .none] } := by rw [← h4e, ← z3]; exact Heap.get?_push_size _ rfl
  have k4 : ∀ c o, h3.get? c = some o → h4.get? c = some o := fun c o e => by rw [← h4e]; exact Heap.get?_push_of_some _ e
  generalize h5e : h4.push { cls := .type "zip", data := .fields #[.none, .bool false, .bool false, .ref (n + 2), .ref (n + 3)] } = h5 at *
  have g5 : h5.get? (n + 4) = some { cls := .type "zip", data := .fields #[.none, .bool false, .bool false, .ref (n + 2), .ref (n + 3)] } := by rw [← h5e, ← z4]; exact Heap.get?_push_size _ rfl
  have k5 : ∀ c o, h4.get? c = some o → h5.get? c = some o := fun c o e => by rw [← h5e]; exact Heap.get?_push_of_some _ e
  exact ⟨⟨_, g5, rfl⟩, q h5 g5 (k5 _ _ (k4 _ _ g3)) (k5 _ _ g4) ⟨_, k5 _ _ (k4 _ _ (k3 _ _ (k2 _ _ g1))), rfl, rfl⟩ ⟨_, k5 _ _ (k4 _ _ (k3 _ _ g2)), rfl, rfl⟩ fun c o e => k5 _ _ (k4 _ _ (k3 _ _ (k2 _ _ (k1 _ _ e))))⟩
end
/-- the list at a, the keys of the dict at d -/
def ItLK (K : PySem.W.Frag) (a d : Addr) (o : Obj) (kvs : List (Key × V)) : It where
  go n H := ∃ (xs : List V) (x : V), SqL K H a xs ∧ xs[n]? = some x ∧ H d = some (.frz o (.dK kvs)) ∧ n < kvs.length
  yld n H v H' := ∃ T x k u, v = .ref T ∧ H T = none ∧ H' = upd H T (.tup [x, kV k]) ∧ (∀ xs, SqL K H a xs → xs[n]? = some x) ∧ kvs[n]? = some (k, u)
  stop n H := ∃ xs : List V, SqL K H a xs ∧ H d = some (.frz o (.dK kvs)) ∧ (xs.length ≤ n ∨ kvs.length ≤ n)
def lkAt (a d z TI TO i j : Addr) (nn ep n : Nat) (g : Heap) : Prop := IsZip g z TI TO .none ∧ IsPair g TI (.ref i) (.ref j) ∧ (∃ x y, IsPair g TO x y) ∧ InI false g i a n ∧ g.IsKeyIter j d n nn ep
theorem lkAt.has {a d z TI TO i j c : Addr} {nn ep n : Nat} {g : Heap} (h : lkAt a d z TI TO i j nn ep n g) (hc : c ∈ [z, TI, TO, i, j]) : ∃ o, g.get? c = some o ∧ ∀ v, o.data ≠ .cell v := by
  obtain ⟨h1, h2, ⟨x, y, h3⟩, h4, h5⟩ := h
  simp only [List.mem_cons, List.not_mem_nil, or_false] at hc
  rcases hc with rfl | rfl | rfl | rfl | rfl
  · exact ⟨_, h1, fun v k => nomatch k⟩
  · exact ⟨_, h2, fun v k => nomatch k⟩
  · exact ⟨_, h3, fun v k => nomatch k⟩
  · exact h4.has
  · obtain ⟨o, e, _, q⟩ := h5
    exact ⟨o, e, fun v k => by rw [q] at k; cases k⟩
theorem turn_zipLK {P : Program} {w : World} {K : PySem.W.Frag} {elts : List Expr} {kk : Nat} {tpos : Pos} {a d z TI TO i j : Addr} {o : Obj} {kvs : List (Key × V)} {es : Array DictEntry} {ep : Nat} (D : ZipApart z TI TO i j a d) (hod : o.data = .dict es ep) :
    Turn P w K (.Tuple elts kk tpos) (ItLK K a d o kvs) [z, TI, TO, i, j] z (lkAt a d z TI TO i j kvs.length ep) where
  mem := List.mem_cons_self
  obj := fun n g st c hc => st.has hc
  keep := fun n g g' ⟨h1, h2, ⟨x, y, h3⟩, h4, h5⟩ k => ⟨k z (by simp) _ h1, k TI (by simp) _ h2, ⟨x, y, k TO (by simp) _ h3⟩, h4.at' (k i (by simp)), h5.at (k j (by simp))⟩
  item := by
    rintro X rfl rfl rfl hc n pins s σ H E I hf st ⟨xs, x, hqx, hx, hd, hn⟩
    have old : ∀ c ∈ [z, TI, TO, i, j], c < s.heap.objs.size := fun c hcm => let ⟨_, e, _⟩ := st.has hcm; Heap.lt_size e
    obtain ⟨h1, h2, ⟨x0, y0, h3⟩, h4, h5⟩ := st
    obtain ⟨us, ru, pu, _⟩ := I.list hqx
    obtain ⟨u, hu, rx⟩ := ru.get hx
    obtain ⟨hs, hgd, hxd, es', ep', vs, hdt, hsz, kv, hm⟩ := I.frzK hd
    obtain ⟨rfl, rfl⟩ := dict_ep hod hdt
    obtain ⟨⟨k, v⟩, hkv⟩ : ∃ p, kvs[n]? = some p := ⟨kvs[n], List.getElem?_eq_getElem hn⟩
    obtain ⟨u2, hu2, _⟩ := kv_get kv hkv
    obtain ⟨od, es2, hod2, _, hdd2, hk, hpr, hno⟩ := id hm
    rw [hgd] at hod2
    cases hod2
    obtain ⟨rfl, _⟩ := dict_ep hdt hdd2
    have hlt : n < es2.size := by rw [hsz]; exact hn
    have hkey : (mixKind X.prog X.w).is k es2[n].key = true := (hpr.get? (e := es2[n]) (by simp [hlt]) hu2).1
    refine zk_next (t := false) (xs := us.toArray) (x := u) (en := es2[n]) D h1 h2 h3 h4 h5 pu.isList hgd hdt hsz (by simpa using hu) (Array.getElem?_eq_getElem hlt) fun g z1 o1 w1 w2 t1 k1 => ?_
    refine ⟨_, rfl, wpAny_letOwnedTupleGo_zip (s := { s with heap := g }) z1 fun g2 z2 sb => ?_⟩
    have zl : z < s.heap.objs.size := old z List.mem_cons_self
    have t2 : g2.get? s.heap.objs.size = some { cls := .type "tuple", data := .seq #[u, es2[n].key] } := (sb.2 _ (Nat.ne_of_gt zl)).trans t1
    have I2 : Inv X pins (σ := σ) (upd H s.heap.objs.size (.tup [x, kV k])) { s with heap := g2 } := I.turnedNew (t' := s.toks) (ch := [z, TI, TO, i, j])
      (fun c o hn e => by
        simp only [List.mem_cons, List.not_mem_nil, or_false, not_or] at hn
        exact (sb.2 c hn.1).trans (k1 c o hn.1 hn.2.2.1 hn.2.2.2.1 hn.2.2.2.2 e)) hf (Nat.le_refl _) ⟨by show 2 ≤ sizeLine; decide, [u, es2[n].key], .cons rx (.cons (relV_key (show keyIs k es2[n].key = true from hkey)) .nil), ⟨_, t2, rfl, _, rfl⟩⟩
    refine ⟨.ref s.heap.objs.size, _, I2, rfl, ⟨_, x, k, v, rfl, I.hok.fresh (Nat.le_refl _), rfl, fun l hl => by rw [I.list_inj hl hqx]; exact hx, hkv⟩, ⟨z2, (sb.2 _ D.TIz).trans (k1 _ _ D.TIz D.TITO D.TIi1 D.TIi2 h2), ⟨u, es2[n].key, (sb.2 _ D.TOz).trans o1⟩, w1.at' fun o e => (sb.2 _ D.i1z).trans e, w2.at fun o e => (sb.2 _ D.i2z).trans e⟩, fun c hcm => ?_⟩
    rw [upd_ne (Nat.ne_of_lt (old c hcm))]
    exact (hf c hcm).1
  done := by
    rintro X rfl rfl rfl hc n pins s σ H E I hf ⟨h1, h2, ⟨x0, y0, h3⟩, h4, h5⟩ ⟨xs, hqx, hd, hend⟩
    obtain ⟨us, ru, pu, _⟩ := I.list hqx
    obtain ⟨hs, hgd, hxd, es', ep', vs, hdt, hsz, kv, hm⟩ := I.frzK hd
    obtain ⟨rfl, rfl⟩ := dict_ep hod hdt
    have l1 := ru.length
    refine zk_stop (t := false) (xs := us.toArray) (I.ok.hd hc) D h1 h2 h3 h4 h5 pu.isList hgd hdt hsz (hend.imp (fun k => by simp; omega) id) fun g k1 => ⟨rfl, I.turnedL (t' := s.toks) (ch := [z, TI, TO, i, j]) (fun c o hn e => ?_) hf⟩
    simp only [List.mem_cons, List.not_mem_nil, or_false, not_or] at hn
    exact k1 c o hn.1 hn.2.2.1 hn.2.2.2.1 hn.2.2.2.2 e
  self := fun A n s Q E st h => wpAny_pyIter_zip st.1 h
def iZipLK (K : PySem.W.Frag) (ta : TA) : TI := fun σ H R => ta σ H fun vs H1 => ∃ a d o kvs xs, vs = [.ref a, .ref d] ∧ SqL K H1 a xs ∧ H1 d = some (.frz o (.dK kvs)) ∧ R (ItLK K a d o kvs) H1
theorem pi_zipLK {X : Cx} {e e2 : Expr} {ta : TA} {p pos tpos : Pos} {elts : List Expr} {kk : Nat} (hg : Gl X "zip") (hm : X.mg "zip" = none) (ha : PA X [e, e2] ta)
    (hs : starEach [e, e2] X.env = (false, eval e X.env) :: starEach [e2] X.env := by rfl) (hpl : (backTo pos (starEach [e2] X.env)).any (·.1) = false := by rfl) : PI X (.Tuple elts kk tpos) (.Call (.Name "zip" p) [e, e2] [] pos) (iZipLK X.K ta) := by
  refine ⟨fun pins s σ H R I h => Call_ (ld_blt I hg hm PyProof.Rows.boot_zip (PyProof.Rows.callWith_type1 (thn (ha.run pos pins s σ H _ I h) fun us s1 ⟨vs, H1, I1, r1, a, d, o, kvs, xs, ex, hqx, hd, q⟩ => ?_) hs hpl))⟩
  subst ex
  obtain ⟨v1, r1, w1, r2⟩ : ∃ v1 v2, us = [v1, v2] ∧ v1 = .ref a ∧ v2 = .ref d := by
    cases r1 with
    | cons r rr => cases rr with
      | cons r' rr => cases rr; cases r; cases r'; exact ⟨_, _, rfl, rfl, rfl⟩
  obtain ⟨rfl, rfl⟩ := r2
  subst w1
  obtain ⟨as, ra, pa, _⟩ := I1.list hqx
  obtain ⟨hs1, hgd, hxd, es, ep, vs, hdt, hsz, kv, hm1⟩ := I1.frzK hd
  refine call_zipLK pa.isList hs1 hgd hxd hdt hsz fun g z1 i1 o1 w1 w2 k1 => wpAny_pyIter_zip z1 ?_
  refine ⟨s1.heap.objs.size + 4, [s1.heap.objs.size + 4, s1.heap.objs.size + 2, s1.heap.objs.size + 3, s1.heap.objs.size, s1.heap.objs.size + 1], _, _, H1, rfl, I1.kept (t' := s1.toks) k1, turn_zipLK (PySem.W.ktu_apart s1.heap.objs.size a d pa.lt (Heap.lt_size hgd)) hdt, ⟨z1, i1, ⟨_, _, o1⟩, w1, w2⟩, fun c hc => ?_, q⟩
  have le : s1.heap.objs.size ≤ c := by
    simp only [List.mem_cons, List.not_mem_nil, or_false] at hc
    rcases hc with rfl | rfl | rfl | rfl | rfl
    · exact Nat.le_add_right _ _
    · exact Nat.le_add_right _ _
    · exact Nat.le_add_right _ _
    · exact Nat.le_refl _
    · exact Nat.le_add_right _ _
  exact I1.fpOk le (I1.hok.fresh le)
/-! ### as a mirror -/
noncomputable def sForZ (tg : FG) (fe fe2 : FE) (body : FS) : FS := fun G C => sBind (fe G C) G fun r1 C1 => sBind (fe2 G C1) G fun r2 C2 => match r2 with
  | .at n => match C2[n]? with
    | some (some (.dk none l)) => match viewS C2 r1 with
      | some l1 => allH fun ho => unlk n l ho (loopF tg body (fun C' => isLk C' n l ho ∧ viewS C' r1 = some l1) (List.zipWith (fun x p => mkTup [x, kEl p.1]) l1 l) G (C2.set n (some (.dk (some ho) l))))
      | none => none
    | _ => none
  | _ => none
theorem loopF_w {tg : FG} {body : FS} {w : Cs → Prop} {l : List El} {G : Gs} {C : Cs} {o : Fl × Gs × Cs} (h : loopF tg body w l G C = some o) : w C := by
  cases l with
  | nil =>
    unfold loopF at h
    split at h
    · assumption
    · cases h
  | cons x l =>
    unfold loopF at h
    split at h
    · assumption
    · cases h
theorem is_forZ {X : Cx} {e e2 : Expr} {p q0 p2 tpos : Pos} {elts : List Expr} {kk : Nat} {ns : List Nat} {gf : FG} {fe fe2 : FE} {fb : FS} {body : List Stmt} (he : ImE X e fe) (he2 : ImE X e2 fe2) (hg : ImG X (.Tuple elts kk tpos) ns gf) (hb : ImB X body fb) (hgl : Gl X "zip") (hmz : X.mg "zip" = none) (hc : X.calm = true) (hp : PassesOwn (model X.prog X.w) X.A X.env X.xe)
    (hst : starEach [e, e2] X.env = (false, eval e X.env) :: starEach [e2] X.env := by rfl) (hst2 : starEach [e2] X.env = (false, eval e2 X.env) :: starEach [] X.env := by rfl) (hpl : (backTo p (starEach [e2] X.env)).any (·.1) = false := by rfl)
    (hs : ∀ x, foldedSetIterable (.Call (.Name "zip" q0) [e, e2] [] p) X.env x = pure x := by intro _; rfl) : ImS X (.For (.Tuple elts kk tpos) (.Call (.Name "zip" q0) [e, e2] [] p) body [] p2) (sForZ gf fe fe2 fb) := fun b A G C s H W S tk o h D q => by
  obtain ⟨fl, G2, C2⟩ := o
  rcases sBind_inv h with ⟨x, C1, h1, h2⟩ | ⟨r1, C1, h1, h⟩
  · cases h2
    exact ⟨_, ps_for hp hc (pi_zipLK hgl hmz (pa_cons wE_ok (pa_cons wE_ok pa_nil hst2) hst) hst hpl) wG_ok wB_ok hs, he.erS S tk h1 q _⟩
  rcases sBind_inv h with ⟨x, C1', h3, h4⟩ | ⟨r2, C1', h3, h⟩
  · cases h4
    exact ⟨_, ps_for hp hc (pi_zipLK hgl hmz (pa_cons wE_ok (pa_cons wE_ok pa_nil hst2) hst) hst hpl) wG_ok wB_ok hs, he.ok S tk h1 fun v A1 H1 S1 g1 r1' => he2.erS S1 tk h3 q _⟩
  · refine ⟨_, ps_unl (ps_for hp hc (pi_zipLK hgl hmz (pa_cons wE_ok (pa_cons (pe_lockA wE_ok) pa_nil hst2) hst) hst hpl) wG_ok wB_ok hs), he.ok S tk h1 fun v A1 H1 S1 g1 rv => he2.ok S1 tk h3 fun v2 A2 H2 S2 g2 rw2 => ?_⟩
    split at h
    · rename_i n
      split at h
      · rename_i l hC
        split at h
        · rename_i l1 hv1
          obtain ⟨a2, hA, ev2⟩ := rw2
          subst ev2
          obtain ⟨vs, h5, h6⟩ := S2.cell n a2 _ hA hC
          refine .inr ⟨a2, _, h5, trivial, fun od nf => ?_⟩
          obtain ⟨hne, C3, h7, h8, rfl⟩ := unlk_inv (of_allH h (.frz od (.dK vs)))
          have SL := lock_c (od := od) S2 hA hC h6
          obtain ⟨hlk, hvw⟩ := loopF_w h7
          have rr : RepE X.K A2 (C1'.set n (some (.dk (some (.frz od (.dK vs))) l))) (upd H2 a2 (.frz od (.dK vs))) r1 v := (rv.go g2).go (goSet hA hC)
          obtain ⟨a1, xs, ev1, hq1, hx1⟩ := viewS_ok SL hvw rr
          subst ev1
          have len : (List.zipWith (fun (x : El) (p : Key × El) => mkTup [x, kEl p.1]) l1 l).length = min l1.length l.length := List.length_zipWith
          have hl2 := h6.length
          refine ⟨a1, a2, od, vs, xs, rfl, hq1, upd_same, ?_⟩
          refine for_core SL.now ⟨⟨hlk, hvw⟩, fun b' A' G' C' s' H' S' g' w' i hi => ?_, fun b' A' G' C' s' H' S' g' w' => ?_, fun b' A' G' C' s' H' S' g' w' i x y H'' hx hy => ?_⟩ h7 hg hb tk (po_un hne q fun A3 s3 H3 T => ?_)
          · obtain ⟨_, xs', e', hq', hx'⟩ := viewS_ok S' w'.2 (rr.go g')
            cases e'
            obtain ⟨_, _, _, h9, _⟩ := lk_at S' (pre_get g'.pre hA) w'.1
            have hi' : i < min l1.length l.length := len ▸ hi
            have i1 : i < xs'.length := by rw [← hx'.length]; omega
            exact ⟨xs', xs'[i], hq', List.getElem?_eq_getElem i1, h9, by omega⟩
          · obtain ⟨_, xs', e', hq', hx'⟩ := viewS_ok S' w'.2 (rr.go g')
            cases e'
            obtain ⟨_, _, _, h9, _⟩ := lk_at S' (pre_get g'.pre hA) w'.1
            refine ⟨xs', hq', h9, ?_⟩
            show xs'.length ≤ (List.zipWith (fun (x : El) (p : Key × El) => mkTup [x, kEl p.1]) l1 l).length ∨ vs.length ≤ (List.zipWith (fun (x : El) (p : Key × El) => mkTup [x, kEl p.1]) l1 l).length
            rw [len, ← hx'.length, ← hl2]
            omega
          · obtain ⟨_, xs', e', hq', hx'⟩ := viewS_ok S' w'.2 (rr.go g')
            cases e'
            have he' : (List.zipWith (fun (x : El) (p : Key × El) => mkTup [x, kEl p.1]) l1 l)[i]? = some x := hx
            rw [List.getElem?_zipWith] at he'
            cases ea : l1[i]? with
            | none => rw [ea] at he'; simp at he'
            | some d0 =>
              cases eb : l[i]? with
              | none => rw [ea, eb] at he'; simp at he'
              | some pr =>
                rw [ea, eb] at he'
                obtain rfl : mkTup [d0, kEl pr.1] = x := by simpa using he'
                obtain ⟨T, x0, k, u, rfl, hT, rfl, y1, y2⟩ := hy
                obtain ⟨w1, k1, k2⟩ := hx'.get ea
                obtain ⟨qq, k3, k4⟩ := h6.get eb
                obtain rfl : w1 = x0 := Option.some.inj (k1.symm.trans (y1 xs' hq'))
                have e3 := Option.some.inj (k3.symm.trans y2)
                have e4 : pr.1 = k := by
                  have := k4.1
                  rw [e3] at this
                  exact this
                rw [e4]
                exact ⟨Evl.Ex.new hT, mkTup_new S' hT (.cons k2 (.cons (rep_kEl k) .nil))⟩
          · obtain ⟨k1, k2, k3⟩ := unlock_c (SL.back T) (pre_get T.pre hA) h8
            exact ⟨_, .inr ⟨a2, od, _, k1, nf, rfl⟩, k2, fun r v z => z.go k3⟩
        · cases h
      · cases h
    · cases h
/-! ### its law -/
section
variable {tg : FG} {fe fe2 : FE} {body : FS} {g : Option El} {G : Gs} {C : Cs} {T : Fl → Gs → Cs → Prop} {r1 r2 : El} {n : Nat} {l : List (Key × El)} {l1 : List El}
noncomputable def wfZ (tg : FG) (body : FS) (r1 r2 : El) (G : Gs) (C2 : Cs) (T : Fl → Gs → Cs → Prop) : Prop := wps (match r2 with
  | .at n => match C2[n]? with
    | some (some (.dk none l)) => match viewS C2 r1 with
      | some l1 => allH fun ho => unlk n l ho (loopF tg body (fun C' => isLk C' n l ho ∧ viewS C' r1 = some l1) (List.zipWith (fun x p => mkTup [x, kEl p.1]) l1 l) G (C2.set n (some (.dk (some ho) l))))
      | none => none
    | _ => none
  | _ => none) T
theorem ws_forZ : wps (sForZ tg fe fe2 body (g :: G) C) T = wp (fe (g :: G) C) (fun r1 C1 => wp (fe2 (g :: G) C1) (fun r2 C2 => wfZ tg body r1 r2 (g :: G) C2 T) (fun x C => T (.er x) (g :: G) C)) (fun x C => T (.er x) (g :: G) C) := by
  unfold sForZ wfZ
  simp only [ws_bind]
  all_goals rfl
theorem wfZ_at (fl0 : Fl) (G0 : Gs) (C0 : Cs) (hx : ∀ x, fl0 ≠ .er x) (hC : C[n]? = some (some (.dk none l))) (hv : viewS C r1 = some l1) (h0 : C0[n]? = some (some (.dk none l)))
    (h : ∀ ho, wl tg body (fun C' => isLk C' n l ho ∧ viewS C' r1 = some l1) (List.zipWith (fun x p => mkTup [x, kEl p.1]) l1 l) G (C.set n (some (.dk (some ho) l))) (fun fl G' C' => fl = fl0 ∧ G' = G0 ∧ C' = C0.set n (some (.dk (some ho) l)))) (hq : T fl0 G0 C0) : wfZ tg body r1 (.at n) G C T := by
  unfold wfZ
  dsimp only
  rw [hC]
  dsimp only
  rw [hv]
  dsimp only
  rw [allH_of (r := (fl0, G0, C0)) fun ho => ?_]
  · exact hq
  · have h1 := h ho
    unfold wl at h1
    rcases e : loopF tg body (fun C' => isLk C' n l ho ∧ viewS C' r1 = some l1) (List.zipWith (fun x p => mkTup [x, kEl p.1]) l1 l) G (C.set n (some (.dk (some ho) l))) with _ | ⟨fl, G2, C2⟩
    · rw [e] at h1; exact h1.elim
    · rw [e] at h1
      obtain ⟨h2, h3, h4⟩ := h1
      subst h2 h3 h4
      unfold unlk
      cases fl with
      | er x => exact absurd rfl (hx x)
      | nx => rw [e]; dsimp only; rw [if_pos (isLk_set h0), unl_set h0]
      | rt r => rw [e]; dsimp only; rw [if_pos (isLk_set h0), unl_set h0]
      | bk => rw [e]; dsimp only; rw [if_pos (isLk_set h0), unl_set h0]
      | ct => rw [e]; dsimp only; rw [if_pos (isLk_set h0), unl_set h0]
end
end R
/-! # isinstance of own instances; list.count of texts -/
namespace R
open PySem PySem.Spec PyProof.Rows L2
structure InsX (K : Fg) (C : Addr) : Prop where
  ha : PySem.W.findIn K (.ref C) "__class__" = some (some (.builtin "object.__class__"))
  hn : PySem.W.specialIn K (.builtin "object.__class__") "__get__" = some (some (.builtin "getset_descriptor.__get__"))
  ht : PySem.W.takesIn K (.builtin "object.__class__") = some true
  hm : PySem.W.mroIn K C (.type "object") = some true
theorem insB_ok {K : Fg} {C : Addr} (h : insB K C = true) : InsX K C := by
  obtain ⟨h1, h⟩ := Bool.and_eq_true_iff.mp h
  obtain ⟨h2, h⟩ := Bool.and_eq_true_iff.mp h
  obtain ⟨h3, h4⟩ := Bool.and_eq_true_iff.mp h
  exact ⟨of_decide_eq_true h1, of_decide_eq_true h2, of_decide_eq_true h3, of_decide_eq_true h4⟩
/-- the table of instances tells the truth -/
def IsiOk (K : Fg) (tab : Str → D → Option Bool) : Prop := ∀ y d b, tab y d = some b → (Cls K (He.ga K y) ∧ InsX K (He.ga K y)) ∧ ∃ u, clsV K d = some u ∧ PySem.W.kitOne K (.ref (He.ga K y)) u = some b
def fIsI (tab : Str → D → Option Bool) : ON := fun xs C => match xs with
  | [x, .v d] => match viewI C x with
    | some (n, _) => (tab n d).map fun k => (.v (.bl k), C)
    | none => none
  | _ => none
theorem ok_isI {X : Cx} {tab : Str → D → Option Bool} (ht : IsiOk X.K tab) : OkCall X (.builtin "isinstance") (fIsI tab) := fun xs C r C' h => by
  unfold fIsI at h
  split at h
  · rename_i x d
    split at h
    · rename_i n fs e1
      cases e2 : tab n d with
      | none => rw [e2] at h; cases h
      | some k =>
        rw [e2] at h
        cases h
        obtain ⟨⟨cl, ix⟩, u, hu, hk⟩ := ht n d k e2
        refine ⟨_, call_isi, fun b A G s H vs S ra q hq => ?_⟩
        obtain ⟨v, w, rfl, r1, r2⟩ := two_ ra
        obtain ⟨a, dx, vs, ev, h3, h4⟩ := viewI_ok S e1 r1
        subst ev
        refine ⟨.ref a, w, .ref (He.ga X.K n), u, k, rfl, ?_, .base (.ins h3 cl ix.ha ix.hn ix.ht ix.hm), hk, hq _ A H S rfl⟩
        unfold clsV at hu
        split at hu
        · cases hu
          rw [show w = .ref _ from r2]
          exact .own _
        · cases hu
          rw [show w = .ty _ from r2]
          exact .ty _
        · cases hu
    · cases h
  · cases h
theorem f_isIi {tab : Str → D → Option Bool} {x : El} {d : D} {C : Cs} {q : El × Cs → Prop} : wo (fIsI tab [x, .v d] C) q = wo (viewI C x) fun nf => wo (tab nf.1 d) fun k => q (.v (.bl k), C) := by
  unfold fIsI
  dsimp only
  cases viewI C x with
  | none => rfl
  | some nf =>
    obtain ⟨n, fs⟩ := nf
    show wo ((tab n d).map fun k => (El.v (.bl k), C)) q = wo (tab n d) fun k => q (.v (.bl k), C)
    cases tab n d <;> rfl
/-! ### list.count of texts -/
def rCntS (K : PySem.W.Frag) : V → List V → Hp → VK → Prop := fun x xs H Q => ∃ (p : Addr) (ns : List Str) (k : Str), x = .ref p ∧ xs = [.str k] ∧ SqL K H p (ns.map V.str) ∧ Q (.int (ns.count k : Nat)) H
theorem count_isStr {k : Str} : ∀ {us : List Value} {ns : List Str}, PyProof.Rows.StrsAre us ns → us.countP (PyProof.Rows.isStrOf k) = ns.count k
  | _, _, .nil => rfl
  | _, _, .cons n t h => by
    have ih := count_isStr (k := k) h
    rw [List.countP_cons, List.count_cons, ih] <;> rfl
theorem mt_countS {X : Cx} : MtR X "list.count" (rCntS X.K) := by
  intro pins s σ H x xs v us Q I rx rxs h
  obtain ⟨p, ns, k, rfl, rfl, hs, q⟩ := h
  cases rx
  obtain ⟨u, rfl, ru⟩ := rxs.one
  obtain ⟨t, rfl⟩ := ru
  obtain ⟨its, rv, ⟨⟨cls, dd, data, sl⟩, n, ho, hc, hdn, hd⟩, hlen⟩ := I.list hs
  simp only at hc hd
  subst hc hd
  have hi := Vals.strs rv
  refine call_meets PySem.F.slot_list_count ⟨_, ho, rfl⟩ PySem.F.entry_list_count (PySem.F.args_list_count_2 _ _)
    (SeqAt.list_countAt p its.toArray n dd sl (.str k t) (PyProof.Rows.isStrOf k)) ⟨ho, fun y hy => (PyProof.Rows.eq_isStrOf k t hi y (by simpa using hy)).at _ _, ?_⟩
  have ec : its.toArray.toList.countP (PyProof.Rows.isStrOf k) = ns.count k := count_isStr hi
  refine ⟨.int (ns.count k : Nat), H, I.tok _, ⟨s.toks, ?_⟩, q⟩
  show Value.int ((its.toArray.toList.countP (PyProof.Rows.isStrOf k) : Nat) : Int) s.toks = Value.int ((ns.count k : Nat) : Int) s.toks
  rw [ec]
def mCount : OM := fun x xs C => match xs with
  | [.v (.str k)] => match viewS C x with
    | some l => match strsE l with
      | some ns => some (.v (.int ((ns.count k : Nat) : Int)), C)
      | none => none
    | none => none
  | _ => none
theorem ok_count {X : Cx} : OkMt X "list.count" mCount := fun x xs C r C' h => by
  unfold mCount at h
  split at h
  · rename_i k
    split at h
    · rename_i l e1
      split at h
      · rename_i ns e2
        cases h
        refine ⟨_, mt_countS, fun b A G s H v vs S r1 r2 k' q => ?_⟩
        obtain ⟨a, ws, ev, h1, h2⟩ := viewS_ok S e1 r1
        obtain ⟨u, rfl, ru⟩ := one_ r2
        rw [strsE_ok e2 h2] at h1
        exact ⟨a, ns, k, ev, congrArg (fun z => [z]) ru, h1, q _ A H S rfl⟩
      · cases h
    · cases h
  · cases h
theorem strsE_mp : ∀ {ns : List Str}, strsE (ns.map fun s => El.v (.str s)) = some ns
  | [] => rfl
  | a :: ns => by
    rw [List.map_cons]
    unfold strsE
    rw [strsE_mp]
    rfl
theorem count_strs {C : Cs} {ns : List Str} {k : Str} {q : El × Cs → Prop} : wo (mCount (.v (.lst (ns.map D.str))) [.v (.str k)] C) q = q (.v (.int ((ns.count k : Nat) : Int)), C) := by
  have hv : viewS C (.v (.lst (ns.map D.str))) = some (ns.map fun s => El.v (.str s)) := by
    show some ((ns.map D.str).map El.v) = _
    rw [List.map_map]
    rfl
  unfold mCount
  dsimp only
  rw [hv]
  dsimp only
  rw [strsE_mp]
  rfl
end R
namespace W
open PySem L2 R
def hit (x y : Str) : Option Bool := tabX [("PostError", "IntoHouse", true), ("PostError", "NoName", true), ("PostError", "NoNumber", true), ("PostError", "NoPost", true), ("PostError", "OneHouse", true), ("PostError", "PostError", true), ("PostError", "RingMade", true), ("PostError", "Taken", true), ("PostError", "TooMany", true)] x y
def isTab : List (Str × D × Bool) := ("NoName", .cls "NoName", true) :: ("Taken", .cls "NoName", false) :: ("OneHouse", .cls "NoName", false) :: ("TooMany", .cls "NoName", false) :: ("NoName", .cls "Taken", false) :: ("Taken", .cls "Taken", true) :: ("OneHouse", .cls "Taken", false) :: ("TooMany", .cls "Taken", false) :: ("NoName", .cls "OneHouse", false) :: ("Taken", .cls "OneHouse", false) :: ("OneHouse", .cls "OneHouse", true) :: ("TooMany", .cls "OneHouse", false) :: ("NoName", .cls "TooMany", false) :: ("Taken", .cls "TooMany", false) :: ("OneHouse", .cls "TooMany", false) :: ("TooMany", .cls "TooMany", true) :: ("NoName", .cls "NoPost", false) :: ("Taken", .cls "NoPost", false) :: ("OneHouse", .cls "NoPost", false) :: ("TooMany", .cls "NoPost", false) :: ("NoName", .cls "IntoHouse", false) :: ("Taken", .cls "IntoHouse", false) :: ("OneHouse", .cls "IntoHouse", false) :: ("TooMany", .cls "IntoHouse", false) :: ("NoName", .ty "ValueError", true) :: ("Taken", .ty "ValueError", true) :: ("OneHouse", .ty "ValueError", true) :: ("TooMany", .ty "ValueError", true) :: []
def isT (y : Str) (d : D) : Option Bool := tabT isTab y d
theorem lk_name_name {x0 : El} : lookE "name" [("name", x0)] = some x0 := by first | (simp only [lookE]; done) | (simp only [lookE]; rfl)
theorem pu_name {r : El} : putE "name" r [] = ([("name", r)] : List (Str × El)) := by first | (simp only [putE]; done) | (simp only [putE]; rfl)
theorem px_name_name {x0 r : El} : putE "name" r [("name", x0)] = ([("name", r)] : List (Str × El)) := by first | (simp only [putE]; done) | (simp only [putE]; rfl)
theorem ln_name_kind {x0 : El} : (lookE "kind" [("name", x0)]).isNone = true := by first | (simp only [lookE]; done) | (simp only [lookE]; rfl)
theorem ln_name_reads {x0 : El} : (lookE "reads" [("name", x0)]).isNone = true := by first | (simp only [lookE]; done) | (simp only [lookE]; rfl)
theorem ln_name_hears {x0 : El} : (lookE "hears" [("name", x0)]).isNone = true := by first | (simp only [lookE]; done) | (simp only [lookE]; rfl)
theorem lk_by_name_by_number_given_by_name {x0 x1 x2 : El} : lookE "by_name" [("by_name", x0), ("by_number", x1), ("given", x2)] = some x0 := by first | (simp only [lookE]; done) | (simp only [lookE]; rfl)
theorem pu_by_name {r : El} : putE "by_name" r [] = ([("by_name", r)] : List (Str × El)) := by first | (simp only [putE]; done) | (simp only [putE]; rfl)
theorem px_by_name_by_number_given_by_name {x0 x1 x2 r : El} : putE "by_name" r [("by_name", x0), ("by_number", x1), ("given", x2)] = ([("by_name", r), ("by_number", x1), ("given", x2)] : List (Str × El)) := by first | (simp only [putE]; done) | (simp only [putE]; rfl)
theorem lk_by_name_by_number_given_by_number {x0 x1 x2 : El} : lookE "by_number" [("by_name", x0), ("by_number", x1), ("given", x2)] = some x1 := by first | (simp only [lookE]; done) | (simp only [lookE]; rfl)
theorem pu_by_name_by_number {x0 r : El} : putE "by_number" r [("by_name", x0)] = ([("by_name", x0), ("by_number", r)] : List (Str × El)) := by first | (simp only [putE]; done) | (simp only [putE]; rfl)
theorem px_by_name_by_number_given_by_number {x0 x1 x2 r : El} : putE "by_number" r [("by_name", x0), ("by_number", x1), ("given", x2)] = ([("by_name", x0), ("by_number", r), ("given", x2)] : List (Str × El)) := by first | (simp only [putE]; done) | (simp only [putE]; rfl)
theorem lk_by_name_by_number_given_given {x0 x1 x2 : El} : lookE "given" [("by_name", x0), ("by_number", x1), ("given", x2)] = some x2 := by first | (simp only [lookE]; done) | (simp only [lookE]; rfl)
theorem pu_by_name_by_number_given {x0 x1 r : El} : putE "given" r [("by_name", x0), ("by_number", x1)] = ([("by_name", x0), ("by_number", x1), ("given", r)] : List (Str × El)) := by first | (simp only [putE]; done) | (simp only [putE]; rfl)
theorem px_by_name_by_number_given_given {x0 x1 x2 r : El} : putE "given" r [("by_name", x0), ("by_number", x1), ("given", x2)] = ([("by_name", x0), ("by_number", x1), ("given", r)] : List (Str × El)) := by first | (simp only [putE]; done) | (simp only [putE]; rfl)
theorem ln_by_name_by_number_given_put_in {x0 x1 x2 : El} : (lookE "put_in" [("by_name", x0), ("by_number", x1), ("given", x2)]).isNone = true := by first | (simp only [lookE]; done) | (simp only [lookE]; rfl)
theorem ln_by_name_by_number_given_house {x0 x1 x2 : El} : (lookE "house" [("by_name", x0), ("by_number", x1), ("given", x2)]).isNone = true := by first | (simp only [lookE]; done) | (simp only [lookE]; rfl)
theorem ln_by_name_by_number_given_post {x0 x1 x2 : El} : (lookE "post" [("by_name", x0), ("by_number", x1), ("given", x2)]).isNone = true := by first | (simp only [lookE]; done) | (simp only [lookE]; rfl)
theorem ln_by_name_by_number_given_listener {x0 x1 x2 : El} : (lookE "listener" [("by_name", x0), ("by_number", x1), ("given", x2)]).isNone = true := by first | (simp only [lookE]; done) | (simp only [lookE]; rfl)
theorem ln_by_name_by_number_given_find {x0 x1 x2 : El} : (lookE "find" [("by_name", x0), ("by_number", x1), ("given", x2)]).isNone = true := by first | (simp only [lookE]; done) | (simp only [lookE]; rfl)
theorem ln_by_name_by_number_given_leads {x0 x1 x2 : El} : (lookE "leads" [("by_name", x0), ("by_number", x1), ("given", x2)]).isNone = true := by first | (simp only [lookE]; done) | (simp only [lookE]; rfl)
theorem ln_by_name_by_number_given_tie {x0 x1 x2 : El} : (lookE "tie" [("by_name", x0), ("by_number", x1), ("given", x2)]).isNone = true := by first | (simp only [lookE]; done) | (simp only [lookE]; rfl)
theorem ln_by_name_by_number_given_cut_tie {x0 x1 x2 : El} : (lookE "cut_tie" [("by_name", x0), ("by_number", x1), ("given", x2)]).isNone = true := by first | (simp only [lookE]; done) | (simp only [lookE]; rfl)
theorem ln_by_name_by_number_given_posts {x0 x1 x2 : El} : (lookE "posts" [("by_name", x0), ("by_number", x1), ("given", x2)]).isNone = true := by first | (simp only [lookE]; done) | (simp only [lookE]; rfl)
theorem ln_by_name_by_number_given_names {x0 x1 x2 : El} : (lookE "names" [("by_name", x0), ("by_number", x1), ("given", x2)]).isNone = true := by first | (simp only [lookE]; done) | (simp only [lookE]; rfl)
theorem ln_by_name_by_number_given_listeners {x0 x1 x2 : El} : (lookE "listeners" [("by_name", x0), ("by_number", x1), ("given", x2)]).isNone = true := by first | (simp only [lookE]; done) | (simp only [lookE]; rfl)
theorem ln_by_name_by_number_given_home {x0 x1 x2 : El} : (lookE "home" [("by_name", x0), ("by_number", x1), ("given", x2)]).isNone = true := by first | (simp only [lookE]; done) | (simp only [lookE]; rfl)
theorem ln_by_name_by_number_given_ties {x0 x1 x2 : El} : (lookE "ties" [("by_name", x0), ("by_number", x1), ("given", x2)]).isNone = true := by first | (simp only [lookE]; done) | (simp only [lookE]; rfl)
theorem ln_by_name_by_number_given_into {x0 x1 x2 : El} : (lookE "into" [("by_name", x0), ("by_number", x1), ("given", x2)]).isNone = true := by first | (simp only [lookE]; done) | (simp only [lookE]; rfl)
theorem ln_by_name_by_number_given_out_of {x0 x1 x2 : El} : (lookE "out_of" [("by_name", x0), ("by_number", x1), ("given", x2)]).isNone = true := by first | (simp only [lookE]; done) | (simp only [lookE]; rfl)
theorem ln_by_name_by_number_given_next_of {x0 x1 x2 : El} : (lookE "next_of" [("by_name", x0), ("by_number", x1), ("given", x2)]).isNone = true := by first | (simp only [lookE]; done) | (simp only [lookE]; rfl)
theorem ln_by_name_by_number_given_ordered {x0 x1 x2 : El} : (lookE "ordered" [("by_name", x0), ("by_number", x1), ("given", x2)]).isNone = true := by first | (simp only [lookE]; done) | (simp only [lookE]; rfl)
theorem cc_Net_Net : (["Net"] : List Str).contains "Net" = true := by decide +kernel
theorem cc_Post_House_Listener_Post : (["Post", "House", "Listener"] : List Str).contains "Post" = true := by decide +kernel
theorem cc_Post_House_Listener_House : (["Post", "House", "Listener"] : List Str).contains "House" = true := by decide +kernel
theorem cc_Post_House_Listener_Listener : (["Post", "House", "Listener"] : List Str).contains "Listener" = true := by decide +kernel
theorem mt_Post_House_Listener_Post {x0 x1 x2 : Fn × List D} : mtab [("Post", x0), ("House", x1), ("Listener", x2)] "Post" = some x0 := by first | (simp only [mtab]; done) | (simp only [mtab]; rfl)
theorem mt_Post_House_Listener_House {x0 x1 x2 : Fn × List D} : mtab [("Post", x0), ("House", x1), ("Listener", x2)] "House" = some x1 := by first | (simp only [mtab]; done) | (simp only [mtab]; rfl)
theorem mt_Post_House_Listener_Listener {x0 x1 x2 : Fn × List D} : mtab [("Post", x0), ("House", x1), ("Listener", x2)] "Listener" = some x2 := by first | (simp only [mtab]; done) | (simp only [mtab]; rfl)
theorem mt_Net_Net {x0 : Fn × List D} : mtab [("Net", x0)] "Net" = some x0 := by first | (simp only [mtab]; done) | (simp only [mtab]; rfl)
theorem hit_PostError_IntoHouse : hit "PostError" "IntoHouse" = some true := by decide +kernel
theorem hit_PostError_NoName : hit "PostError" "NoName" = some true := by decide +kernel
theorem hit_PostError_NoNumber : hit "PostError" "NoNumber" = some true := by decide +kernel
theorem hit_PostError_NoPost : hit "PostError" "NoPost" = some true := by decide +kernel
theorem hit_PostError_OneHouse : hit "PostError" "OneHouse" = some true := by decide +kernel
theorem hit_PostError_PostError : hit "PostError" "PostError" = some true := by decide +kernel
theorem hit_PostError_RingMade : hit "PostError" "RingMade" = some true := by decide +kernel
theorem hit_PostError_Taken : hit "PostError" "Taken" = some true := by decide +kernel
theorem hit_PostError_TooMany : hit "PostError" "TooMany" = some true := by decide +kernel
def isITab : List (Str × D × Bool) := ("Post", .cls "Post", true) :: ("House", .cls "Post", true) :: ("Listener", .cls "Post", true) :: ("Post", .cls "House", false) :: ("House", .cls "House", true) :: ("Listener", .cls "House", false) :: ("Post", .cls "Listener", false) :: ("House", .cls "Listener", false) :: ("Listener", .cls "Listener", true) :: []
def isTI (y : Str) (d : D) : Option Bool := tabT isITab y d
theorem isI_Post_Post : isTI "Post" (.cls "Post") = some true := by unfold isTI isITab; simp only [tabT, sameD]; decide +kernel
theorem isI_House_Post : isTI "House" (.cls "Post") = some true := by unfold isTI isITab; simp only [tabT, sameD]; decide +kernel
theorem isI_Listener_Post : isTI "Listener" (.cls "Post") = some true := by unfold isTI isITab; simp only [tabT, sameD]; decide +kernel
theorem isI_Post_House : isTI "Post" (.cls "House") = some false := by unfold isTI isITab; simp only [tabT, sameD]; decide +kernel
theorem isI_House_House : isTI "House" (.cls "House") = some true := by unfold isTI isITab; simp only [tabT, sameD]; decide +kernel
theorem isI_Listener_House : isTI "Listener" (.cls "House") = some false := by unfold isTI isITab; simp only [tabT, sameD]; decide +kernel
theorem isI_Post_Listener : isTI "Post" (.cls "Listener") = some false := by unfold isTI isITab; simp only [tabT, sameD]; decide +kernel
theorem isI_House_Listener : isTI "House" (.cls "Listener") = some false := by unfold isTI isITab; simp only [tabT, sameD]; decide +kernel
theorem isI_Listener_Listener : isTI "Listener" (.cls "Listener") = some true := by unfold isTI isITab; simp only [tabT, sameD]; decide +kernel
theorem isT_NoName_NoName : isT "NoName" (.cls "NoName") = some true := by unfold isT isTab; simp only [tabT, sameD]; decide +kernel
theorem isT_Taken_NoName : isT "Taken" (.cls "NoName") = some false := by unfold isT isTab; simp only [tabT, sameD]; decide +kernel
theorem isT_OneHouse_NoName : isT "OneHouse" (.cls "NoName") = some false := by unfold isT isTab; simp only [tabT, sameD]; decide +kernel
theorem isT_TooMany_NoName : isT "TooMany" (.cls "NoName") = some false := by unfold isT isTab; simp only [tabT, sameD]; decide +kernel
theorem isT_NoName_Taken : isT "NoName" (.cls "Taken") = some false := by unfold isT isTab; simp only [tabT, sameD]; decide +kernel
theorem isT_Taken_Taken : isT "Taken" (.cls "Taken") = some true := by unfold isT isTab; simp only [tabT, sameD]; decide +kernel
theorem isT_OneHouse_Taken : isT "OneHouse" (.cls "Taken") = some false := by unfold isT isTab; simp only [tabT, sameD]; decide +kernel
theorem isT_TooMany_Taken : isT "TooMany" (.cls "Taken") = some false := by unfold isT isTab; simp only [tabT, sameD]; decide +kernel
theorem isT_NoName_OneHouse : isT "NoName" (.cls "OneHouse") = some false := by unfold isT isTab; simp only [tabT, sameD]; decide +kernel
theorem isT_Taken_OneHouse : isT "Taken" (.cls "OneHouse") = some false := by unfold isT isTab; simp only [tabT, sameD]; decide +kernel
theorem isT_OneHouse_OneHouse : isT "OneHouse" (.cls "OneHouse") = some true := by unfold isT isTab; simp only [tabT, sameD]; decide +kernel
theorem isT_TooMany_OneHouse : isT "TooMany" (.cls "OneHouse") = some false := by unfold isT isTab; simp only [tabT, sameD]; decide +kernel
theorem isT_NoName_TooMany : isT "NoName" (.cls "TooMany") = some false := by unfold isT isTab; simp only [tabT, sameD]; decide +kernel
theorem isT_Taken_TooMany : isT "Taken" (.cls "TooMany") = some false := by unfold isT isTab; simp only [tabT, sameD]; decide +kernel
theorem isT_OneHouse_TooMany : isT "OneHouse" (.cls "TooMany") = some false := by unfold isT isTab; simp only [tabT, sameD]; decide +kernel
theorem isT_TooMany_TooMany : isT "TooMany" (.cls "TooMany") = some true := by unfold isT isTab; simp only [tabT, sameD]; decide +kernel
theorem isT_NoName_NoPost : isT "NoName" (.cls "NoPost") = some false := by unfold isT isTab; simp only [tabT, sameD]; decide +kernel
theorem isT_Taken_NoPost : isT "Taken" (.cls "NoPost") = some false := by unfold isT isTab; simp only [tabT, sameD]; decide +kernel
theorem isT_OneHouse_NoPost : isT "OneHouse" (.cls "NoPost") = some false := by unfold isT isTab; simp only [tabT, sameD]; decide +kernel
theorem isT_TooMany_NoPost : isT "TooMany" (.cls "NoPost") = some false := by unfold isT isTab; simp only [tabT, sameD]; decide +kernel
theorem isT_NoName_IntoHouse : isT "NoName" (.cls "IntoHouse") = some false := by unfold isT isTab; simp only [tabT, sameD]; decide +kernel
theorem isT_Taken_IntoHouse : isT "Taken" (.cls "IntoHouse") = some false := by unfold isT isTab; simp only [tabT, sameD]; decide +kernel
theorem isT_OneHouse_IntoHouse : isT "OneHouse" (.cls "IntoHouse") = some false := by unfold isT isTab; simp only [tabT, sameD]; decide +kernel
theorem isT_TooMany_IntoHouse : isT "TooMany" (.cls "IntoHouse") = some false := by unfold isT isTab; simp only [tabT, sameD]; decide +kernel
theorem isT_NoName_ValueError : isT "NoName" (.ty "ValueError") = some true := by unfold isT isTab; simp only [tabT, sameD]; decide +kernel
theorem isT_Taken_ValueError : isT "Taken" (.ty "ValueError") = some true := by unfold isT isTab; simp only [tabT, sameD]; decide +kernel
theorem isT_OneHouse_ValueError : isT "OneHouse" (.ty "ValueError") = some true := by unfold isT isTab; simp only [tabT, sameD]; decide +kernel
theorem isT_TooMany_ValueError : isT "TooMany" (.ty "ValueError") = some true := by unfold isT isTab; simp only [tabT, sameD]; decide +kernel
noncomputable def b_Net__init_ : FS :=
 (sCons (sFld "by_name" ["Net"] eDict (eVar 0))
 (sCons (sFld "by_number" ["Net"] eDict (eVar 0))
 (sCons (sFld "given" ["Net"] (eC (.int 0)) (eVar 0))
 sNil)))
theorem ex_Net__init_ : ∃ m : Fn, m = mkFn 1 1 2 b_Net__init_ := ⟨_, rfl⟩
noncomputable def m_Net__init_ : Fn := Classical.choose ex_Net__init_
theorem me_Net__init_ : m_Net__init_ = mkFn 1 1 2 b_Net__init_ := Classical.choose_spec ex_Net__init_
theorem o_Net__init_ {a0 : El} {C : Cs} {Q : El → Cs → Prop} {E : Exn → Cs → Prop} : wp (m_Net__init_ [a0] C) Q E = wps (b_Net__init_ [some a0] C) (endF 2 C Q E) := by rw [me_Net__init_]; exact w_open rfl rfl
noncomputable def b_Post_kind : FS :=
 (sCons (sRet (eC (.str "post")))
 sNil)
theorem ex_Post_kind : ∃ m : Fn, m = mkFn 1 1 0 b_Post_kind := ⟨_, rfl⟩
noncomputable def m_Post_kind : Fn := Classical.choose ex_Post_kind
theorem me_Post_kind : m_Post_kind = mkFn 1 1 0 b_Post_kind := Classical.choose_spec ex_Post_kind
theorem o_Post_kind {a0 : El} {C : Cs} {Q : El → Cs → Prop} {E : Exn → Cs → Prop} : wp (m_Post_kind [a0] C) Q E = wps (b_Post_kind [some a0] C) (endF 0 C Q E) := by rw [me_Post_kind]; exact w_open rfl rfl
noncomputable def b_House_kind : FS :=
 (sCons (sRet (eC (.str "house")))
 sNil)
theorem ex_House_kind : ∃ m : Fn, m = mkFn 1 1 0 b_House_kind := ⟨_, rfl⟩
noncomputable def m_House_kind : Fn := Classical.choose ex_House_kind
theorem me_House_kind : m_House_kind = mkFn 1 1 0 b_House_kind := Classical.choose_spec ex_House_kind
theorem o_House_kind {a0 : El} {C : Cs} {Q : El → Cs → Prop} {E : Exn → Cs → Prop} : wp (m_House_kind [a0] C) Q E = wps (b_House_kind [some a0] C) (endF 0 C Q E) := by rw [me_House_kind]; exact w_open rfl rfl
noncomputable def b_Listener_kind : FS :=
 (sCons (sRet (eC (.str "listener")))
 sNil)
theorem ex_Listener_kind : ∃ m : Fn, m = mkFn 1 1 0 b_Listener_kind := ⟨_, rfl⟩
noncomputable def m_Listener_kind : Fn := Classical.choose ex_Listener_kind
theorem me_Listener_kind : m_Listener_kind = mkFn 1 1 0 b_Listener_kind := Classical.choose_spec ex_Listener_kind
theorem o_Listener_kind {a0 : El} {C : Cs} {Q : El → Cs → Prop} {E : Exn → Cs → Prop} : wp (m_Listener_kind [a0] C) Q E = wps (b_Listener_kind [some a0] C) (endF 0 C Q E) := by rw [me_Listener_kind]; exact w_open rfl rfl
noncomputable def b_Net_home : FS :=
 (sCons (sForD .v (gN 1) (eFld "by_name" ["Net"] (eVar 0))
 (sCons (sIf (eCmp bEq (eMeth0 "kind" [("Post", m_Post_kind, []), ("House", m_House_kind, []), ("Listener", m_Listener_kind, [])] (eVar 1)) (eC (.str "house")))
 (sCons (sRet (eFld "name" ["Post", "House", "Listener"] (eVar 1)))
 sNil)
 sNil)
 sNil))
 (sCons (sRet (eC .non))
 sNil))
theorem ex_Net_home : ∃ m : Fn, m = mkFn 1 2 0 b_Net_home := ⟨_, rfl⟩
noncomputable def m_Net_home : Fn := Classical.choose ex_Net_home
theorem me_Net_home : m_Net_home = mkFn 1 2 0 b_Net_home := Classical.choose_spec ex_Net_home
theorem o_Net_home {a0 : El} {C : Cs} {Q : El → Cs → Prop} {E : Exn → Cs → Prop} : wp (m_Net_home [a0] C) Q E = wps (b_Net_home [some a0, none] C) (endF 0 C Q E) := by rw [me_Net_home]; exact w_open rfl rfl
noncomputable def b_Post_reads : FS :=
 (sCons (sRet (eC (.bl false)))
 sNil)
theorem ex_Post_reads : ∃ m : Fn, m = mkFn 1 1 0 b_Post_reads := ⟨_, rfl⟩
noncomputable def m_Post_reads : Fn := Classical.choose ex_Post_reads
theorem me_Post_reads : m_Post_reads = mkFn 1 1 0 b_Post_reads := Classical.choose_spec ex_Post_reads
theorem o_Post_reads {a0 : El} {C : Cs} {Q : El → Cs → Prop} {E : Exn → Cs → Prop} : wp (m_Post_reads [a0] C) Q E = wps (b_Post_reads [some a0] C) (endF 0 C Q E) := by rw [me_Post_reads]; exact w_open rfl rfl
noncomputable def b_Listener_reads : FS :=
 (sCons (sRet (eC (.bl true)))
 sNil)
theorem ex_Listener_reads : ∃ m : Fn, m = mkFn 1 1 0 b_Listener_reads := ⟨_, rfl⟩
noncomputable def m_Listener_reads : Fn := Classical.choose ex_Listener_reads
theorem me_Listener_reads : m_Listener_reads = mkFn 1 1 0 b_Listener_reads := Classical.choose_spec ex_Listener_reads
theorem o_Listener_reads {a0 : El} {C : Cs} {Q : El → Cs → Prop} {E : Exn → Cs → Prop} : wp (m_Listener_reads [a0] C) Q E = wps (b_Listener_reads [some a0] C) (endF 0 C Q E) := by rw [me_Listener_reads]; exact w_open rfl rfl
noncomputable def b_Net_listeners_vc : FS :=
 (sCons (sRet (eLcD true [1] .v (gN 1) (eFld "by_name" ["Net"] (eVar 0)) (tV (eMeth0 "reads" [("Post", m_Post_reads, []), ("House", m_Post_reads, []), ("Listener", m_Listener_reads, [])] (eVar 1))) (eFld "name" ["Post", "House", "Listener"] (eVar 1))))
 sNil)
theorem ex_Net_listeners_vc : ∃ m : Fn, m = mkFnT .l1 1 2 b_Net_listeners_vc := ⟨_, rfl⟩
noncomputable def m_Net_listeners_vc : Fn := Classical.choose ex_Net_listeners_vc
theorem me_Net_listeners_vc : m_Net_listeners_vc = mkFnT .l1 1 2 b_Net_listeners_vc := Classical.choose_spec ex_Net_listeners_vc
theorem o_Net_listeners_vc {a0 : El} {C : Cs} {Q : El → Cs → Prop} {E : Exn → Cs → Prop} : wp (m_Net_listeners_vc [a0] C) Q E = wps (b_Net_listeners_vc [some a0, none] C) (endT .l1 C Q E) := by rw [me_Net_listeners_vc]; exact w_openT rfl rfl
noncomputable def m_Net_listeners : Fn := frz m_Net_listeners_vc
noncomputable def b_Net_put_in : FS :=
 (sCons (sAsg 2 (eFld "name" ["Post", "House", "Listener"] (eVar 1)))
 (sCons (sIf (tOr (tNot (eCh bLe bLe (eC (.int 1)) (eFn fLen (aCons (eVar 2) aNil)) (eC (.int 8)))) (tNot (tV (eFn fAll (aCons (eLc false [3] (gN 3) (iStr (eVar 2)) tTrue (eB (eCmp bIn (eVar 3) (eC (.str "abcdefghijklmnopqrstuvwxyz"))))) aNil)))))
 (sCons (sRaise "NoName")
 sNil)
 sNil)
 (sCons (sIf (eCmp bIn (eVar 2) (eFld "by_name" ["Net"] (eVar 0)))
 (sCons (sRaise "Taken")
 sNil)
 sNil)
 (sCons (sIf (tAnd (eCmp bEq (eMeth0 "kind" [("Post", m_Post_kind, []), ("House", m_House_kind, []), ("Listener", m_Listener_kind, [])] (eVar 1)) (eC (.str "house"))) (eCmp bIsNot (eMeth0 "home" [("Net", m_Net_home, [])] (eVar 0)) (eC .non)))
 (sCons (sRaise "OneHouse")
 sNil)
 sNil)
 (sCons (sIf (tOr (eCmp bGe (eFn fLen (aCons (eFld "by_name" ["Net"] (eVar 0)) aNil)) (eC (.int 20))) (tAnd (tV (eMeth0 "reads" [("Post", m_Post_reads, []), ("House", m_Post_reads, []), ("Listener", m_Listener_reads, [])] (eVar 1))) (eCmp bGe (eFn fLen (aCons (eMeth0 "listeners" [("Net", m_Net_listeners, [])] (eVar 0)) aNil)) (eC (.int 8)))))
 (sCons (sRaise "TooMany")
 sNil)
 sNil)
 (sCons (sPut (eVar 1) (eFld "by_name" ["Net"] (eVar 0)) (eVar 2))
 sNil))))))
theorem ex_Net_put_in : ∃ m : Fn, m = mkFn 2 4 0 b_Net_put_in := ⟨_, rfl⟩
noncomputable def m_Net_put_in : Fn := Classical.choose ex_Net_put_in
theorem me_Net_put_in : m_Net_put_in = mkFn 2 4 0 b_Net_put_in := Classical.choose_spec ex_Net_put_in
theorem o_Net_put_in {a0 a1 : El} {C : Cs} {Q : El → Cs → Prop} {E : Exn → Cs → Prop} : wp (m_Net_put_in [a0, a1] C) Q E = wps (b_Net_put_in [some a0, some a1, none, none] C) (endF 0 C Q E) := by rw [me_Net_put_in]; exact w_open rfl rfl
noncomputable def b_Post__init_ : FS :=
 (sCons (sFld "name" ["Post", "House", "Listener"] (eVar 1) (eVar 0))
 sNil)
theorem ex_Post__init_ : ∃ m : Fn, m = mkFn 2 2 0 b_Post__init_ := ⟨_, rfl⟩
noncomputable def m_Post__init_ : Fn := Classical.choose ex_Post__init_
theorem me_Post__init_ : m_Post__init_ = mkFn 2 2 0 b_Post__init_ := Classical.choose_spec ex_Post__init_
theorem o_Post__init_ {a0 a1 : El} {C : Cs} {Q : El → Cs → Prop} {E : Exn → Cs → Prop} : wp (m_Post__init_ [a0, a1] C) Q E = wps (b_Post__init_ [some a0, some a1] C) (endF 0 C Q E) := by rw [me_Post__init_]; exact w_open rfl rfl
noncomputable def b_Net_house : FS :=
 (sCons (sExp (eMeth "put_in" [("Net", m_Net_put_in, [])] (eVar 0) (aCons (eMake "House" m_Post__init_ [] false (aCons (eVar 1) aNil)) aNil)))
 sNil)
theorem ex_Net_house : ∃ m : Fn, m = mkFn 2 2 0 b_Net_house := ⟨_, rfl⟩
noncomputable def m_Net_house : Fn := Classical.choose ex_Net_house
theorem me_Net_house : m_Net_house = mkFn 2 2 0 b_Net_house := Classical.choose_spec ex_Net_house
theorem o_Net_house {a0 a1 : El} {C : Cs} {Q : El → Cs → Prop} {E : Exn → Cs → Prop} : wp (m_Net_house [a0, a1] C) Q E = wps (b_Net_house [some a0, some a1] C) (endF 0 C Q E) := by rw [me_Net_house]; exact w_open rfl rfl
noncomputable def b_Net_listener : FS :=
 (sCons (sExp (eMeth "put_in" [("Net", m_Net_put_in, [])] (eVar 0) (aCons (eMake "Listener" m_Post__init_ [] false (aCons (eVar 1) aNil)) aNil)))
 sNil)
theorem ex_Net_listener : ∃ m : Fn, m = mkFn 2 2 0 b_Net_listener := ⟨_, rfl⟩
noncomputable def m_Net_listener : Fn := Classical.choose ex_Net_listener
theorem me_Net_listener : m_Net_listener = mkFn 2 2 0 b_Net_listener := Classical.choose_spec ex_Net_listener
theorem o_Net_listener {a0 a1 : El} {C : Cs} {Q : El → Cs → Prop} {E : Exn → Cs → Prop} : wp (m_Net_listener [a0, a1] C) Q E = wps (b_Net_listener [some a0, some a1] C) (endF 0 C Q E) := by rw [me_Net_listener]; exact w_open rfl rfl
noncomputable def b_Net_post : FS :=
 (sCons (sExp (eMeth "put_in" [("Net", m_Net_put_in, [])] (eVar 0) (aCons (eMake "Post" m_Post__init_ [] false (aCons (eVar 1) aNil)) aNil)))
 sNil)
theorem ex_Net_post : ∃ m : Fn, m = mkFn 2 2 0 b_Net_post := ⟨_, rfl⟩
noncomputable def m_Net_post : Fn := Classical.choose ex_Net_post
theorem me_Net_post : m_Net_post = mkFn 2 2 0 b_Net_post := Classical.choose_spec ex_Net_post
theorem o_Net_post {a0 a1 : El} {C : Cs} {Q : El → Cs → Prop} {E : Exn → Cs → Prop} : wp (m_Net_post [a0, a1] C) Q E = wps (b_Net_post [some a0, some a1] C) (endF 0 C Q E) := by rw [me_Net_post]; exact w_open rfl rfl
noncomputable def b_Net_posts_vc : FS :=
 (sCons (sRet (eVals true (eFld "by_name" ["Net"] (eVar 0))))
 sNil)
theorem ex_Net_posts_vc : ∃ m : Fn, m = mkFnT .l1 1 1 b_Net_posts_vc := ⟨_, rfl⟩
noncomputable def m_Net_posts_vc : Fn := Classical.choose ex_Net_posts_vc
theorem me_Net_posts_vc : m_Net_posts_vc = mkFnT .l1 1 1 b_Net_posts_vc := Classical.choose_spec ex_Net_posts_vc
theorem o_Net_posts_vc {a0 : El} {C : Cs} {Q : El → Cs → Prop} {E : Exn → Cs → Prop} : wp (m_Net_posts_vc [a0] C) Q E = wps (b_Net_posts_vc [some a0] C) (endT .l1 C Q E) := by rw [me_Net_posts_vc]; exact w_openT rfl rfl
noncomputable def b_Net_names_vc : FS :=
 (sCons (sRet (eFn (fList true) (aCons (eFld "by_name" ["Net"] (eVar 0)) aNil)))
 sNil)
theorem ex_Net_names_vc : ∃ m : Fn, m = mkFnT .l1 1 1 b_Net_names_vc := ⟨_, rfl⟩
noncomputable def m_Net_names_vc : Fn := Classical.choose ex_Net_names_vc
theorem me_Net_names_vc : m_Net_names_vc = mkFnT .l1 1 1 b_Net_names_vc := Classical.choose_spec ex_Net_names_vc
theorem o_Net_names_vc {a0 : El} {C : Cs} {Q : El → Cs → Prop} {E : Exn → Cs → Prop} : wp (m_Net_names_vc [a0] C) Q E = wps (b_Net_names_vc [some a0] C) (endT .l1 C Q E) := by rw [me_Net_names_vc]; exact w_openT rfl rfl
noncomputable def m_Net_names : Fn := frz m_Net_names_vc
noncomputable def b_Post_hears : FS :=
 (sCons (sRet (eC (.bl true)))
 sNil)
theorem ex_Post_hears : ∃ m : Fn, m = mkFn 1 1 0 b_Post_hears := ⟨_, rfl⟩
noncomputable def m_Post_hears : Fn := Classical.choose ex_Post_hears
theorem me_Post_hears : m_Post_hears = mkFn 1 1 0 b_Post_hears := Classical.choose_spec ex_Post_hears
theorem o_Post_hears {a0 : El} {C : Cs} {Q : El → Cs → Prop} {E : Exn → Cs → Prop} : wp (m_Post_hears [a0] C) Q E = wps (b_Post_hears [some a0] C) (endF 0 C Q E) := by rw [me_Post_hears]; exact w_open rfl rfl
noncomputable def b_House_hears : FS :=
 (sCons (sRet (eC (.bl false)))
 sNil)
theorem ex_House_hears : ∃ m : Fn, m = mkFn 1 1 0 b_House_hears := ⟨_, rfl⟩
noncomputable def m_House_hears : Fn := Classical.choose ex_House_hears
theorem me_House_hears : m_House_hears = mkFn 1 1 0 b_House_hears := Classical.choose_spec ex_House_hears
theorem o_House_hears {a0 : El} {C : Cs} {Q : El → Cs → Prop} {E : Exn → Cs → Prop} : wp (m_House_hears [a0] C) Q E = wps (b_House_hears [some a0] C) (endF 0 C Q E) := by rw [me_House_hears]; exact w_open rfl rfl
noncomputable def m_Net_posts : Fn := frz m_Net_posts_vc
noncomputable def b_Net_ties_vc : FS :=
 (sCons (sRet (eLc true [1] (gN 1) (iLst (eFn (fSorted false) (aCons (eFld "by_number" ["Net"] (eVar 0)) aNil))) tTrue (eIx (eFld "by_number" ["Net"] (eVar 0)) (eVar 1))))
 sNil)
theorem ex_Net_ties_vc : ∃ m : Fn, m = mkFnT .l1 1 2 b_Net_ties_vc := ⟨_, rfl⟩
noncomputable def m_Net_ties_vc : Fn := Classical.choose ex_Net_ties_vc
theorem me_Net_ties_vc : m_Net_ties_vc = mkFnT .l1 1 2 b_Net_ties_vc := Classical.choose_spec ex_Net_ties_vc
theorem o_Net_ties_vc {a0 : El} {C : Cs} {Q : El → Cs → Prop} {E : Exn → Cs → Prop} : wp (m_Net_ties_vc [a0] C) Q E = wps (b_Net_ties_vc [some a0, none] C) (endT .l1 C Q E) := by rw [me_Net_ties_vc]; exact w_openT rfl rfl
noncomputable def m_Net_ties : Fn := frz m_Net_ties_vc
end W
namespace W
open PySem L2 R
noncomputable def b__law_cell_at : FS :=
 (sCons (sIf (eCmp bLt (eVar 1) (eFn fLen (aCons (eVar 0) aNil)))
 (sCons (sRet (eIx (eVar 0) (eVar 1)))
 sNil)
 sNil)
 (sCons (sRet (eC (.int 0)))
 sNil))
theorem ex__law_cell_at : ∃ m : Fn, m = mkFn 2 2 0 b__law_cell_at := ⟨_, rfl⟩
noncomputable def m__law_cell_at : Fn := Classical.choose ex__law_cell_at
theorem me__law_cell_at : m__law_cell_at = mkFn 2 2 0 b__law_cell_at := Classical.choose_spec ex__law_cell_at
theorem o__law_cell_at {a0 a1 : El} {C : Cs} {Q : El → Cs → Prop} {E : Exn → Cs → Prop} : wp (m__law_cell_at [a0, a1] C) Q E = wps (b__law_cell_at [some a0, some a1] C) (endF 0 C Q E) := by rw [me__law_cell_at]; exact w_open rfl rfl
noncomputable def b__law_mixed : FS :=
 (sCons (sAsg 2 (eBin oMod (eBin oMul (eBin oAdd (eBin oAdd (eVar 0) (eBin oMul (eC (.int 7919)) (eVar 1))) (eC (.int 1))) (eC (.int 48271))) (eC (.int 2147483647))))
 (sCons (sRet (eBin oMod (eBin oMul (eVar 2) (eBin oAdd (eBin oDiv (eVar 2) (eC (.int 1009))) (eC (.int 69621)))) (eC (.int 2147483647))))
 sNil))
theorem ex__law_mixed : ∃ m : Fn, m = mkFn 2 3 0 b__law_mixed := ⟨_, rfl⟩
noncomputable def m__law_mixed : Fn := Classical.choose ex__law_mixed
theorem me__law_mixed : m__law_mixed = mkFn 2 3 0 b__law_mixed := Classical.choose_spec ex__law_mixed
theorem o__law_mixed {a0 a1 : El} {C : Cs} {Q : El → Cs → Prop} {E : Exn → Cs → Prop} : wp (m__law_mixed [a0, a1] C) Q E = wps (b__law_mixed [some a0, some a1, none] C) (endF 0 C Q E) := by rw [me__law_mixed]; exact w_open rfl rfl
noncomputable def b__law_name : FS :=
 (sCons (sAsg 2 (eBm "str" mJoin (eC (.str "")) (aCons (eLc false [7] (gN 7) (iRng1 (aCons (eBin oAdd (eC (.int 1)) (eBin oMod (eVar 0) (eC (.int 6)))) aNil)) tTrue (eIx (eC (.str "abcdefghijklmnopqrstuvwxyz")) (eBin oMod (eCall m__law_mixed [] (aCons (eVar 0) (aCons (eVar 7) aNil))) (eC (.int 26))))) aNil)))
 (sCons (sAsg 3 (eBin oMod (eCall m__law_mixed [] (aCons (eVar 1) (aCons (eC (.int 1)) aNil))) (eC (.int 10))))
 (sCons (sAsg 4 (eIx (eC (.str "abcdefghijklmnopqrstuvwxyz")) (eBin oMod (eCall m__law_mixed [] (aCons (eVar 1) (aCons (eC (.int 2)) aNil))) (eC (.int 26)))))
 (sCons (sAsg 5 (eBin oMod (eBin oDiv (eVar 0) (eC (.int 6))) (eFn fLen (aCons (eVar 2) aNil))))
 (sCons (sIf (eCmp bLt (eVar 3) (eC (.int 6)))
 (sCons (sRet (eBin oAdd (eBin oAdd (eCut false (eVar 2) pNone (pSome (eVar 5))) (eVar 4)) (eCut false (eVar 2) (pSome (eBin oAdd (eVar 5) (eC (.int 1)))) pNone)))
 sNil)
 sNil)
 (sCons (sIf (eCmp bLt (eVar 3) (eC (.int 9)))
 (sCons (sRet (eBin oAdd (eVar 2) (eVar 4)))
 sNil)
 sNil)
 (sCons (sAsg 6 (eLst (aCons (eC (.str "")) (aCons (eBin oAdd (eVar 2) (eC (.str "xxxxxxxx"))) (aCons (eBin oAdd (eBin oAdd (eCut false (eVar 2) pNone (pSome (eVar 5))) (eC (.str "Q"))) (eCut false (eVar 2) (pSome (eBin oAdd (eVar 5) (eC (.int 1)))) pNone)) (aCons (eBin oAdd (eC (.str " ")) (eVar 2)) (aCons (eBin oAdd (eVar 2) (eC (.str "1"))) (aCons (eC (.str "a b")) aNil))))))))
 (sCons (sRet (eIx (eVar 6) (eBin oMod (eCall m__law_mixed [] (aCons (eVar 1) (aCons (eC (.int 3)) aNil))) (eC (.int 6)))))
 sNil))))))))
theorem ex__law_name : ∃ m : Fn, m = mkFn 2 8 0 b__law_name := ⟨_, rfl⟩
noncomputable def m__law_name : Fn := Classical.choose ex__law_name
theorem me__law_name : m__law_name = mkFn 2 8 0 b__law_name := Classical.choose_spec ex__law_name
theorem o__law_name {a0 a1 : El} {C : Cs} {Q : El → Cs → Prop} {E : Exn → Cs → Prop} : wp (m__law_name [a0, a1] C) Q E = wps (b__law_name [some a0, some a1, none, none, none, none, none, none] C) (endF 0 C Q E) := by rw [me__law_name]; exact w_open rfl rfl
noncomputable def b__law_due : FS :=
 (sCons (sIf (tOr (tNot (eCh bLe bLe (eC (.int 1)) (eFn fLen (aCons (eVar 1) aNil)) (eC (.int 8)))) (eCmp bNe (eLc false [4] (gN 4) (iStr (eVar 1)) (eCmp bNotIn (eVar 4) (eC (.str "abcdefghijklmnopqrstuvwxyz"))) (eVar 4)) (eLst aNil)))
 (sCons (sRet (eC (.str "name")))
 sNil)
 sNil)
 (sCons (sIf (eCmp bIn (eVar 1) (eVar 0))
 (sCons (sRet (eC (.str "taken")))
 sNil)
 sNil)
 (sCons (sAsg 3 (eVals false (eVar 0)))
 (sCons (sIf (tAnd (eCmp bEq (eVar 2) (eC (.str "house"))) (eCmp bIn (eC (.str "house")) (eVar 3)))
 (sCons (sRet (eC (.str "house")))
 sNil)
 sNil)
 (sCons (sIf (tOr (eCmp bGe (eFn fLen (aCons (eVar 3) aNil)) (eC (.int 20))) (tAnd (eCmp bEq (eVar 2) (eC (.str "listener"))) (eCmp bGe (eBm "list" mCount (eVar 3) (aCons (eC (.str "listener")) aNil)) (eC (.int 8)))))
 (sCons (sRet (eC (.str "many")))
 sNil)
 sNil)
 (sCons (sRet (eC (.str "done")))
 sNil))))))
theorem ex__law_due : ∃ m : Fn, m = mkFn 3 5 0 b__law_due := ⟨_, rfl⟩
noncomputable def m__law_due : Fn := Classical.choose ex__law_due
theorem me__law_due : m__law_due = mkFn 3 5 0 b__law_due := Classical.choose_spec ex__law_due
theorem o__law_due {a0 a1 a2 : El} {C : Cs} {Q : El → Cs → Prop} {E : Exn → Cs → Prop} : wp (m__law_due [a0, a1, a2] C) Q E = wps (b__law_due [some a0, some a1, some a2, none, none] C) (endF 0 C Q E) := by rw [me__law_due]; exact w_open rfl rfl
noncomputable def b__law_word_vx (ad dd : Addr) (ex : Exn) : FS :=
 (sCons (sAsg 1 (eLst (aCons (eFn (fIsE ad dd ex isT) (aCons (eVar 0) (aCons (eC (.cls "NoName")) aNil))) (aCons (eFn (fIsE ad dd ex isT) (aCons (eVar 0) (aCons (eC (.cls "Taken")) aNil))) (aCons (eFn (fIsE ad dd ex isT) (aCons (eVar 0) (aCons (eC (.cls "OneHouse")) aNil))) (aCons (eFn (fIsE ad dd ex isT) (aCons (eVar 0) (aCons (eC (.cls "TooMany")) aNil))) aNil))))))
 (sCons (sLc 2 (eLc false [3, 4] (gTp (gCons (gN 3) (gCons (gN 4) gNil)) 2) (iZip (aCons (eLst (aCons (eC (.str "name")) (aCons (eC (.str "taken")) (aCons (eC (.str "house")) (aCons (eC (.str "many")) aNil))))) (aCons (eVar 1) aNil))) (tV (eVar 4)) (eVar 3)))
 (sCons (sIf (tOr (eCmp bNe (eFn fLen (aCons (eVar 2) aNil)) (eC (.int 1))) (tOr (tV (eFn (fIsE ad dd ex isT) (aCons (eVar 0) (aCons (eTup (aCons (eC (.cls "NoPost")) (aCons (eC (.cls "IntoHouse")) aNil))) aNil)))) (tNot (tV (eFn (fIsE ad dd ex isT) (aCons (eVar 0) (aCons (eC (.ty "ValueError")) aNil)))))))
 (sCons (sRet (eC (.str "other")))
 sNil)
 sNil)
 (sCons (sRet (eIx (eVar 2) (eC (.int 0))))
 sNil))))
theorem ex__law_word_vx (ad dd : Addr) (ex : Exn) : ∃ m : Fn, m = mkFn 1 5 0 (b__law_word_vx ad dd ex) := ⟨_, rfl⟩
noncomputable def m__law_word_vx (ad dd : Addr) (ex : Exn) : Fn := Classical.choose (ex__law_word_vx ad dd ex)
theorem me__law_word_vx (ad dd : Addr) (ex : Exn) : (m__law_word_vx ad dd ex) = mkFn 1 5 0 (b__law_word_vx ad dd ex) := Classical.choose_spec (ex__law_word_vx ad dd ex)
theorem o__law_word_vx {ad dd : Addr} {ex : Exn} {a0 : El} {C : Cs} {Q : El → Cs → Prop} {E : Exn → Cs → Prop} : wp ((m__law_word_vx ad dd ex) [a0] C) Q E = wps ((b__law_word_vx ad dd ex) [some a0, none, none, none, none] C) (endF 0 C Q E) := by rw [me__law_word_vx]; exact w_open rfl rfl
noncomputable def b__law_put : FS :=
 (sCons (sAsg 3 (eC .non))
 (sCons (sAsg 4 (eC (.str "done")))
 (sCons (sTry [⟨hit "PostError", some 5, fun ad dd ex => (sCons (sAsg 4 (eCall (m__law_word_vx ad dd ex) [] (aCons (eVar 5) aNil)))
 sNil)⟩]
 (sCons (sIf (eCmp bEq (eVar 2) (eC (.str "house")))
 (sCons (sAsg 3 (eMeth "house" [("Net", m_Net_house, [])] (eVar 0) (aCons (eVar 1) aNil)))
 sNil)
 (sCons (sIf (eCmp bEq (eVar 2) (eC (.str "listener")))
 (sCons (sAsg 3 (eMeth "listener" [("Net", m_Net_listener, [])] (eVar 0) (aCons (eVar 1) aNil)))
 sNil)
 (sCons (sAsg 3 (eMeth "post" [("Net", m_Net_post, [])] (eVar 0) (aCons (eVar 1) aNil)))
 sNil))
 sNil))
 sNil))
 (sCons (sIf (eCmp bIsNot (eVar 3) (eC .non))
 (sCons (sRet (eC (.str "told")))
 sNil)
 sNil)
 (sCons (sRet (eVar 4))
 sNil)))))
theorem ex__law_put : ∃ m : Fn, m = mkFn 3 6 0 b__law_put := ⟨_, rfl⟩
noncomputable def m__law_put : Fn := Classical.choose ex__law_put
theorem me__law_put : m__law_put = mkFn 3 6 0 b__law_put := Classical.choose_spec ex__law_put
theorem o__law_put {a0 a1 a2 : El} {C : Cs} {Q : El → Cs → Prop} {E : Exn → Cs → Prop} : wp (m__law_put [a0, a1, a2] C) Q E = wps (b__law_put [some a0, some a1, some a2, none, none, none] C) (endF 0 C Q E) := by rw [me__law_put]; exact w_open rfl rfl
noncomputable def b__law_is : FS :=
 (sCons (sAsg 3 (eLst (aCons (eFn (fIsI isTI) (aCons (eVar 0) (aCons (eC (.cls "Post")) aNil))) (aCons (eFn (fIsI isTI) (aCons (eVar 0) (aCons (eC (.cls "House")) aNil))) (aCons (eFn (fIsI isTI) (aCons (eVar 0) (aCons (eC (.cls "Listener")) aNil))) aNil)))))
 (sCons (sIf (tOr (eCmp bNe (eVar 3) (eLst (aCons (eC (.bl true)) (aCons (eB (eCmp bEq (eVar 2) (eC (.str "house")))) (aCons (eB (eCmp bEq (eVar 2) (eC (.str "listener")))) aNil))))) (tOr (eCmp bNe (eFld "name" ["Post", "House", "Listener"] (eVar 0)) (eVar 1)) (eCmp bNe (eMeth0 "kind" [("Post", m_Post_kind, []), ("House", m_House_kind, []), ("Listener", m_Listener_kind, [])] (eVar 0)) (eVar 2))))
 (sCons (sRet (eC (.bl false)))
 sNil)
 sNil)
 (sCons (sFor (gTp (gCons (gN 4) (gCons (gN 5) gNil)) 2) (iLst (eLst (aCons (eTup (aCons (eMeth0 "reads" [("Post", m_Post_reads, []), ("House", m_Post_reads, []), ("Listener", m_Listener_reads, [])] (eVar 0)) (aCons (eB (eCmp bEq (eVar 2) (eC (.str "listener")))) aNil))) (aCons (eTup (aCons (eMeth0 "hears" [("Post", m_Post_hears, []), ("House", m_House_hears, []), ("Listener", m_Post_hears, [])] (eVar 0)) (aCons (eB (eCmp bNe (eVar 2) (eC (.str "house")))) aNil))) aNil))))
 (sCons (sIf (tOr (tNot (tV (eFn fIsB (aCons (eVar 4) (aCons (eC (.ty "bool")) aNil))))) (eCmp bNe (eVar 4) (eVar 5)))
 (sCons (sRet (eC (.bl false)))
 sNil)
 sNil)
 sNil))
 (sCons (sRet (eC (.bl true)))
 sNil))))
theorem ex__law_is : ∃ m : Fn, m = mkFn 3 6 0 b__law_is := ⟨_, rfl⟩
noncomputable def m__law_is : Fn := Classical.choose ex__law_is
theorem me__law_is : m__law_is = mkFn 3 6 0 b__law_is := Classical.choose_spec ex__law_is
theorem o__law_is {a0 a1 a2 : El} {C : Cs} {Q : El → Cs → Prop} {E : Exn → Cs → Prop} : wp (m__law_is [a0, a1, a2] C) Q E = wps (b__law_is [some a0, some a1, some a2, none, none, none] C) (endF 0 C Q E) := by rw [me__law_is]; exact w_open rfl rfl
noncomputable def tb__law_stands_3 : FS :=
 (sCons (sIf (eCmp bNe (eMeth0 "listeners" [("Net", m_Net_listeners, [])] (eVar 0)) (eLcD false [4] .k (gN 4) (eVar 1) (eCmp bEq (eIx (eVar 1) (eVar 4)) (eC (.str "listener"))) (eVar 4)))
 (sCons (sRet (eC (.bl false)))
 sNil)
 sNil)
 (sCons (sAsg 5 (eBin oAdd (eLcD false [4] .k (gN 4) (eVar 1) (eCmp bEq (eIx (eVar 1) (eVar 4)) (eC (.str "house"))) (eVar 4)) (eLst (aCons (eC .non) aNil))))
 (sCons (sExp (eBm0 "list" mClear (eVar 2)))
 (sCons (sExp (eBm "list" mAppend (eMeth0 "names" [("Net", m_Net_names_vc, [])] (eVar 0)) (aCons (eC (.str "zz")) aNil)))
 (sCons (sExp (eBm "list" mAppend (eMeth0 "listeners" [("Net", m_Net_listeners_vc, [])] (eVar 0)) (aCons (eC (.str "zz")) aNil)))
 (sCons (sRet (eAnd (eB (eCmp bEq (eMeth0 "home" [("Net", m_Net_home, [])] (eVar 0)) (eIx (eVar 5) (eC (.int 0))))) (eAnd (eB (eCmp bEq (eFn fLen (aCons (eMeth0 "posts" [("Net", m_Net_posts, [])] (eVar 0)) aNil)) (eFn fLen (aCons (eVar 1) aNil)))) (eB (eCmp bEq (eMeth0 "names" [("Net", m_Net_names, [])] (eVar 0)) (eFn (fList false) (aCons (eVar 1) aNil)))))))
 sNil))))))
theorem tx__law_stands_3 : ∃ t : FS, t = tb__law_stands_3 := ⟨_, rfl⟩
noncomputable def t__law_stands_3 : FS := Classical.choose tx__law_stands_3
theorem te__law_stands_3 : t__law_stands_3 = tb__law_stands_3 := Classical.choose_spec tx__law_stands_3
noncomputable def b__law_stands : FS :=
 (sCons (sAsg 2 (eMeth0 "posts" [("Net", m_Net_posts_vc, [])] (eVar 0)))
 (sCons (sIf (tOr (tNot (tV (eFn fIsB (aCons (eVar 2) (aCons (eC (.ty "list")) aNil))))) (tOr (eCmp bNe (eFn fLen (aCons (eVar 2) aNil)) (eFn fLen (aCons (eVar 1) aNil))) (eCmp bNe (eMeth0 "names" [("Net", m_Net_names, [])] (eVar 0)) (eFn (fList false) (aCons (eVar 1) aNil)))))
 (sCons (sRet (eC (.bl false)))
 sNil)
 sNil)
 (sCons (sForZ (gTp (gCons (gN 3) (gCons (gN 4) gNil)) 2) (eVar 2) (eVar 1)
 (sCons (sIf (tNot (tV (eCall m__law_is [] (aCons (eVar 3) (aCons (eVar 4) (aCons (eIx (eVar 1) (eVar 4)) aNil))))))
 (sCons (sRet (eC (.bl false)))
 sNil)
 sNil)
 sNil))
 t__law_stands_3)))
theorem ex__law_stands : ∃ m : Fn, m = mkFn 2 6 0 b__law_stands := ⟨_, rfl⟩
noncomputable def m__law_stands : Fn := Classical.choose ex__law_stands
theorem me__law_stands : m__law_stands = mkFn 2 6 0 b__law_stands := Classical.choose_spec ex__law_stands
theorem o__law_stands {a0 a1 : El} {C : Cs} {Q : El → Cs → Prop} {E : Exn → Cs → Prop} : wp (m__law_stands [a0, a1] C) Q E = wps (b__law_stands [some a0, some a1, none, none, none, none] C) (endF 0 C Q E) := by rw [me__law_stands]; exact w_open rfl rfl
noncomputable def b_law : FS :=
 (sCons (sAsg 1 (eCall m__law_cell_at [] (aCons (eVar 0) (aCons (eC (.int 0)) aNil))))
 (sCons (sAsg 2 (eMake0 "Net" m_Net__init_ [] true))
 (sCons (sAsg 3 eDict)
 (sCons (sFor (gN 4) (iLst (eCut false (eVar 0) (pSome (eC (.int 1))) (pSome (eC (.int 41)))))
 (sCons (sAsg 5 (eCall m__law_name [] (aCons (eVar 1) (aCons (eVar 4) aNil))))
 (sCons (sAsg 6 (eIx (eLst (aCons (eC (.str "house")) (aCons (eC (.str "listener")) (aCons (eC (.str "post")) (aCons (eC (.str "post")) (aCons (eC (.str "listener")) aNil)))))) (eBin oMod (eCall m__law_mixed [] (aCons (eVar 4) (aCons (eC (.int 4)) aNil))) (eBin oAdd (eC (.int 3)) (eBin oMod (eBin oDiv (eVar 1) (eC (.int 3))) (eC (.int 3)))))))
 (sCons (sIf (tAnd (eCmp bEq (eBin oMod (eVar 1) (eC (.int 4))) (eC (.int 3))) (eCmp bGt (eBin oMod (eCall m__law_mixed [] (aCons (eVar 4) (aCons (eC (.int 5)) aNil))) (eC (.int 3))) (eC (.int 0))))
 (sCons (sAsg 6 (eC (.str "listener")))
 sNil)
 sNil)
 (sCons (sAsg 7 (eCall m__law_due [] (aCons (eVar 3) (aCons (eVar 5) (aCons (eVar 6) aNil)))))
 (sCons (sIf (eCmp bNe (eCall m__law_put [] (aCons (eVar 2) (aCons (eVar 5) (aCons (eVar 6) aNil)))) (eVar 7))
 (sCons (sRet (eC (.bl false)))
 sNil)
 sNil)
 (sCons (sIf (eCmp bEq (eVar 7) (eC (.str "done")))
 (sCons (sPut (eVar 6) (eVar 3) (eVar 5))
 sNil)
 sNil)
 (sCons (sIf (tNot (tV (eCall m__law_stands [] (aCons (eVar 2) (aCons (eVar 3) aNil)))))
 (sCons (sRet (eC (.bl false)))
 sNil)
 sNil)
 sNil))))))))
 (sCons (sRet (eAnd (eB (eCmp bEq (eMeth0 "ties" [("Net", m_Net_ties, [])] (eVar 2)) (eLst aNil))) (eB (eCmp bIs (eMeth0 "home" [("Net", m_Net_home, [])] (eMake0 "Net" m_Net__init_ [] true)) (eC .non)))))
 sNil)))))
theorem ex_law : ∃ m : Fn, m = mkFn 1 8 0 b_law := ⟨_, rfl⟩
noncomputable def m_law : Fn := Classical.choose ex_law
theorem me_law : m_law = mkFn 1 8 0 b_law := Classical.choose_spec ex_law
theorem o_law {a0 : El} {C : Cs} {Q : El → Cs → Prop} {E : Exn → Cs → Prop} : wp (m_law [a0] C) Q E = wps (b_law [some a0, none, none, none, none, none, none, none] C) (endF 0 C Q E) := by rw [me_law]; exact w_open rfl rfl
end W
namespace W
open PySem L2 R
local macro_rules | `(tactic| walk_at "vis") => `(tactic| first | exact Or.inl rfl | exact Or.inr (Or.inl rfl) | exact Or.inr (Or.inr rfl))
local macro_rules | `(tactic| walk_at "loc") => `(tactic| first | exact Or.inl rfl | exact Or.inr rfl)
abbrev PO (X : Cx) : Prop := PassesOwn (model X.prog X.w) X.A X.env X.xe
structure Wd (K : PySem.W.Frag) (mg : Str → Option Value) : Prop where
  bl : Bl mg
  c_LETTERS : ∃ t, mg "LETTERS" = some (.str "abcdefghijklmnopqrstuvwxyz" t)
  c_MOST_POSTS : ∃ t, mg "MOST_POSTS" = some (.int 20 t)
  c_MOST_LISTENERS : ∃ t, mg "MOST_LISTENERS" = some (.int 8 t)
  g_PostError : mg "PostError" = some (.ref (He.ga K "PostError"))
  x_PostError : Xc K mg "PostError"
  g_NoName : mg "NoName" = some (.ref (He.ga K "NoName"))
  x_NoName : Xc K mg "NoName"
  g_Taken : mg "Taken" = some (.ref (He.ga K "Taken"))
  x_Taken : Xc K mg "Taken"
  g_OneHouse : mg "OneHouse" = some (.ref (He.ga K "OneHouse"))
  x_OneHouse : Xc K mg "OneHouse"
  g_NoPost : mg "NoPost" = some (.ref (He.ga K "NoPost"))
  g_IntoHouse : mg "IntoHouse" = some (.ref (He.ga K "IntoHouse"))
  x_IntoHouse : Xc K mg "IntoHouse"
  g_RingMade : mg "RingMade" = some (.ref (He.ga K "RingMade"))
  x_RingMade : Xc K mg "RingMade"
  g_NoNumber : mg "NoNumber" = some (.ref (He.ga K "NoNumber"))
  x_NoNumber : Xc K mg "NoNumber"
  g_TooMany : mg "TooMany" = some (.ref (He.ga K "TooMany"))
  x_TooMany : Xc K mg "TooMany"
  g_Post : mg "Post" = some (.ref (He.ga K "Post"))
  cl_Post : Cls K (He.ga K "Post")
  g_House : mg "House" = some (.ref (He.ga K "House"))
  cl_House : Cls K (He.ga K "House")
  g_Listener : mg "Listener" = some (.ref (He.ga K "Listener"))
  cl_Listener : Cls K (He.ga K "Listener")
  g_Net : mg "Net" = some (.ref (He.ga K "Net"))
  cl_Net : Cls K (He.ga K "Net")
  na_Net_by_name : NoAttr K (He.ga K "Net") "by_name"
  na_Net_by_number : NoAttr K (He.ga K "Net") "by_number"
  na_Net_given : NoAttr K (He.ga K "Net") "given"
  na_Post_name : NoAttr K (He.ga K "Post") "name"
  na_House_name : NoAttr K (He.ga K "House") "name"
  na_Listener_name : NoAttr K (He.ga K "Listener") "name"
  exm_IntoHouse_PostError : PySem.W.exmOne K (.ref (He.ga K "IntoHouse")) (.ref (He.ga K "PostError")) = some true
  exm_NoName_PostError : PySem.W.exmOne K (.ref (He.ga K "NoName")) (.ref (He.ga K "PostError")) = some true
  exm_NoNumber_PostError : PySem.W.exmOne K (.ref (He.ga K "NoNumber")) (.ref (He.ga K "PostError")) = some true
  exm_NoPost_PostError : PySem.W.exmOne K (.ref (He.ga K "NoPost")) (.ref (He.ga K "PostError")) = some true
  exm_OneHouse_PostError : PySem.W.exmOne K (.ref (He.ga K "OneHouse")) (.ref (He.ga K "PostError")) = some true
  exm_PostError_PostError : PySem.W.exmOne K (.ref (He.ga K "PostError")) (.ref (He.ga K "PostError")) = some true
  exm_RingMade_PostError : PySem.W.exmOne K (.ref (He.ga K "RingMade")) (.ref (He.ga K "PostError")) = some true
  exm_Taken_PostError : PySem.W.exmOne K (.ref (He.ga K "Taken")) (.ref (He.ga K "PostError")) = some true
  exm_TooMany_PostError : PySem.W.exmOne K (.ref (He.ga K "TooMany")) (.ref (He.ga K "PostError")) = some true
  ix_Post : InsX K (He.ga K "Post")
  ki_Post_Post : PySem.W.kitOne K (.ref (He.ga K "Post")) (.ref (He.ga K "Post")) = some true
  ix_House : InsX K (He.ga K "House")
  ki_House_Post : PySem.W.kitOne K (.ref (He.ga K "House")) (.ref (He.ga K "Post")) = some true
  ix_Listener : InsX K (He.ga K "Listener")
  ki_Listener_Post : PySem.W.kitOne K (.ref (He.ga K "Listener")) (.ref (He.ga K "Post")) = some true
  ki_Post_House : PySem.W.kitOne K (.ref (He.ga K "Post")) (.ref (He.ga K "House")) = some false
  ki_House_House : PySem.W.kitOne K (.ref (He.ga K "House")) (.ref (He.ga K "House")) = some true
  ki_Listener_House : PySem.W.kitOne K (.ref (He.ga K "Listener")) (.ref (He.ga K "House")) = some false
  ki_Post_Listener : PySem.W.kitOne K (.ref (He.ga K "Post")) (.ref (He.ga K "Listener")) = some false
  ki_House_Listener : PySem.W.kitOne K (.ref (He.ga K "House")) (.ref (He.ga K "Listener")) = some false
  ki_Listener_Listener : PySem.W.kitOne K (.ref (He.ga K "Listener")) (.ref (He.ga K "Listener")) = some true
  e_NoName : ExcC K (He.ga K "NoName")
  kt_NoName_NoName : PySem.W.kitOne K (.ref (He.ga K "NoName")) (.ref (He.ga K "NoName")) = some true
  e_Taken : ExcC K (He.ga K "Taken")
  kt_Taken_NoName : PySem.W.kitOne K (.ref (He.ga K "Taken")) (.ref (He.ga K "NoName")) = some false
  e_OneHouse : ExcC K (He.ga K "OneHouse")
  kt_OneHouse_NoName : PySem.W.kitOne K (.ref (He.ga K "OneHouse")) (.ref (He.ga K "NoName")) = some false
  e_TooMany : ExcC K (He.ga K "TooMany")
  kt_TooMany_NoName : PySem.W.kitOne K (.ref (He.ga K "TooMany")) (.ref (He.ga K "NoName")) = some false
  kt_NoName_Taken : PySem.W.kitOne K (.ref (He.ga K "NoName")) (.ref (He.ga K "Taken")) = some false
  kt_Taken_Taken : PySem.W.kitOne K (.ref (He.ga K "Taken")) (.ref (He.ga K "Taken")) = some true
  kt_OneHouse_Taken : PySem.W.kitOne K (.ref (He.ga K "OneHouse")) (.ref (He.ga K "Taken")) = some false
  kt_TooMany_Taken : PySem.W.kitOne K (.ref (He.ga K "TooMany")) (.ref (He.ga K "Taken")) = some false
  kt_NoName_OneHouse : PySem.W.kitOne K (.ref (He.ga K "NoName")) (.ref (He.ga K "OneHouse")) = some false
  kt_Taken_OneHouse : PySem.W.kitOne K (.ref (He.ga K "Taken")) (.ref (He.ga K "OneHouse")) = some false
  kt_OneHouse_OneHouse : PySem.W.kitOne K (.ref (He.ga K "OneHouse")) (.ref (He.ga K "OneHouse")) = some true
  kt_TooMany_OneHouse : PySem.W.kitOne K (.ref (He.ga K "TooMany")) (.ref (He.ga K "OneHouse")) = some false
  kt_NoName_TooMany : PySem.W.kitOne K (.ref (He.ga K "NoName")) (.ref (He.ga K "TooMany")) = some false
  kt_Taken_TooMany : PySem.W.kitOne K (.ref (He.ga K "Taken")) (.ref (He.ga K "TooMany")) = some false
  kt_OneHouse_TooMany : PySem.W.kitOne K (.ref (He.ga K "OneHouse")) (.ref (He.ga K "TooMany")) = some false
  kt_TooMany_TooMany : PySem.W.kitOne K (.ref (He.ga K "TooMany")) (.ref (He.ga K "TooMany")) = some true
  kt_NoName_NoPost : PySem.W.kitOne K (.ref (He.ga K "NoName")) (.ref (He.ga K "NoPost")) = some false
  kt_Taken_NoPost : PySem.W.kitOne K (.ref (He.ga K "Taken")) (.ref (He.ga K "NoPost")) = some false
  kt_OneHouse_NoPost : PySem.W.kitOne K (.ref (He.ga K "OneHouse")) (.ref (He.ga K "NoPost")) = some false
  kt_TooMany_NoPost : PySem.W.kitOne K (.ref (He.ga K "TooMany")) (.ref (He.ga K "NoPost")) = some false
  kt_NoName_IntoHouse : PySem.W.kitOne K (.ref (He.ga K "NoName")) (.ref (He.ga K "IntoHouse")) = some false
  kt_Taken_IntoHouse : PySem.W.kitOne K (.ref (He.ga K "Taken")) (.ref (He.ga K "IntoHouse")) = some false
  kt_OneHouse_IntoHouse : PySem.W.kitOne K (.ref (He.ga K "OneHouse")) (.ref (He.ga K "IntoHouse")) = some false
  kt_TooMany_IntoHouse : PySem.W.kitOne K (.ref (He.ga K "TooMany")) (.ref (He.ga K "IntoHouse")) = some false
  kt_NoName_ValueError : PySem.W.kitOne K (.ref (He.ga K "NoName")) (.type "ValueError") = some true
  kt_Taken_ValueError : PySem.W.kitOne K (.ref (He.ga K "Taken")) (.type "ValueError") = some true
  kt_OneHouse_ValueError : PySem.W.kitOne K (.ref (He.ga K "OneHouse")) (.type "ValueError") = some true
  kt_TooMany_ValueError : PySem.W.kitOne K (.ref (He.ga K "TooMany")) (.type "ValueError") = some true
  g__law_cell_at : mg "_law_cell_at" = some (.ref (He.ga K "_law_cell_at"))
  g__law_mixed : mg "_law_mixed" = some (.ref (He.ga K "_law_mixed"))
  g__law_name : mg "_law_name" = some (.ref (He.ga K "_law_name"))
  g__law_due : mg "_law_due" = some (.ref (He.ga K "_law_due"))
  me_Post_kind : Meth K (He.ga K "Post") "kind" (He.ma K (He.ga K "Post") "kind")
  me_House_kind : Meth K (He.ga K "House") "kind" (He.ma K (He.ga K "House") "kind")
  me_Listener_kind : Meth K (He.ga K "Listener") "kind" (He.ma K (He.ga K "Listener") "kind")
  me_Post_reads : Meth K (He.ga K "Post") "reads" (He.ma K (He.ga K "Post") "reads")
  me_House_reads : Meth K (He.ga K "House") "reads" (He.ma K (He.ga K "House") "reads")
  mi_House_reads : He.ma K (He.ga K "House") "reads" = He.ma K (He.ga K "Post") "reads"
  me_Listener_reads : Meth K (He.ga K "Listener") "reads" (He.ma K (He.ga K "Listener") "reads")
  me_Net_home : Meth K (He.ga K "Net") "home" (He.ma K (He.ga K "Net") "home")
  me_Net_listeners : Meth K (He.ga K "Net") "listeners" (He.ma K (He.ga K "Net") "listeners")
  me_Net_put_in : Meth K (He.ga K "Net") "put_in" (He.ma K (He.ga K "Net") "put_in")
  mk_House : Mk K (He.ga K "House") (He.ma K (He.ga K "House") "__init__")
  mi_House : He.ma K (He.ga K "House") "__init__" = He.ma K (He.ga K "Post") "__init__"
  mk_Listener : Mk K (He.ga K "Listener") (He.ma K (He.ga K "Listener") "__init__")
  mi_Listener : He.ma K (He.ga K "Listener") "__init__" = He.ma K (He.ga K "Post") "__init__"
  mk_Post : Mk K (He.ga K "Post") (He.ma K (He.ga K "Post") "__init__")
  g__law_word : mg "_law_word" = some (.ref (He.ga K "_law_word"))
  g__law_put : mg "_law_put" = some (.ref (He.ga K "_law_put"))
  me_Net_house : Meth K (He.ga K "Net") "house" (He.ma K (He.ga K "Net") "house")
  me_Net_listener : Meth K (He.ga K "Net") "listener" (He.ma K (He.ga K "Net") "listener")
  me_Net_post : Meth K (He.ga K "Net") "post" (He.ma K (He.ga K "Net") "post")
  g__law_is : mg "_law_is" = some (.ref (He.ga K "_law_is"))
  me_Post_hears : Meth K (He.ga K "Post") "hears" (He.ma K (He.ga K "Post") "hears")
  me_House_hears : Meth K (He.ga K "House") "hears" (He.ma K (He.ga K "House") "hears")
  me_Listener_hears : Meth K (He.ga K "Listener") "hears" (He.ma K (He.ga K "Listener") "hears")
  mi_Listener_hears : He.ma K (He.ga K "Listener") "hears" = He.ma K (He.ga K "Post") "hears"
  g__law_stands : mg "_law_stands" = some (.ref (He.ga K "_law_stands"))
  me_Net_posts : Meth K (He.ga K "Net") "posts" (He.ma K (He.ga K "Net") "posts")
  me_Net_names : Meth K (He.ga K "Net") "names" (He.ma K (He.ga K "Net") "names")
  mk_Net : Mk K (He.ga K "Net") (He.ma K (He.ga K "Net") "__init__")
  me_Net_ties : Meth K (He.ga K "Net") "ties" (He.ma K (He.ga K "Net") "ties")
theorem Wd.hit_PostError {K : PySem.W.Frag} {mg : Str → Option Value} (T : Wd K mg) : ∀ y b, hit "PostError" y = some b → PySem.W.exmOne K (.ref (He.ga K y)) (.ref (He.ga K "PostError")) = some b :=
  fun y b h => tabX_ok (Q := fun x y b => x = "PostError" → PySem.W.exmOne K (.ref (He.ga K y)) (.ref (He.ga K "PostError")) = some b) (by
    intro t ht hx
    simp only [List.mem_cons, List.not_mem_nil, or_false] at ht
    rcases ht with rfl | rfl | rfl | rfl | rfl | rfl | rfl | rfl | rfl
    · exact T.exm_IntoHouse_PostError
    · exact T.exm_NoName_PostError
    · exact T.exm_NoNumber_PostError
    · exact T.exm_NoPost_PostError
    · exact T.exm_OneHouse_PostError
    · exact T.exm_PostError_PostError
    · exact T.exm_RingMade_PostError
    · exact T.exm_Taken_PostError
    · exact T.exm_TooMany_PostError) h rfl
theorem Wd.isI {K : PySem.W.Frag} {mg : Str → Option Value} (T : Wd K mg) : IsiOk K isTI :=
  fun y d b h => tabT_ok (Q := fun y d b => (Cls K (He.ga K y) ∧ InsX K (He.ga K y)) ∧ ∃ u, clsV K d = some u ∧ PySem.W.kitOne K (.ref (He.ga K y)) u = some b) (by
    intro t ht
    unfold isITab at ht
    simp only [List.mem_cons, List.not_mem_nil, or_false] at ht
    rcases ht with rfl | rfl | rfl | rfl | rfl | rfl | rfl | rfl | rfl
    · exact ⟨⟨T.cl_Post, T.ix_Post⟩, _, rfl, T.ki_Post_Post⟩
    · exact ⟨⟨T.cl_House, T.ix_House⟩, _, rfl, T.ki_House_Post⟩
    · exact ⟨⟨T.cl_Listener, T.ix_Listener⟩, _, rfl, T.ki_Listener_Post⟩
    · exact ⟨⟨T.cl_Post, T.ix_Post⟩, _, rfl, T.ki_Post_House⟩
    · exact ⟨⟨T.cl_House, T.ix_House⟩, _, rfl, T.ki_House_House⟩
    · exact ⟨⟨T.cl_Listener, T.ix_Listener⟩, _, rfl, T.ki_Listener_House⟩
    · exact ⟨⟨T.cl_Post, T.ix_Post⟩, _, rfl, T.ki_Post_Listener⟩
    · exact ⟨⟨T.cl_House, T.ix_House⟩, _, rfl, T.ki_House_Listener⟩
    · exact ⟨⟨T.cl_Listener, T.ix_Listener⟩, _, rfl, T.ki_Listener_Listener⟩) h
theorem Wd.isT {K : PySem.W.Frag} {mg : Str → Option Value} (T : Wd K mg) : TabOk K isT :=
  fun y d b h => tabT_ok (Q := fun y d b => ExcC K (He.ga K y) ∧ ∃ u, clsV K d = some u ∧ PySem.W.kitOne K (.ref (He.ga K y)) u = some b) (by
    intro t ht
    unfold isTab at ht
    simp only [List.mem_cons, List.not_mem_nil, or_false] at ht
    rcases ht with rfl | rfl | rfl | rfl | rfl | rfl | rfl | rfl | rfl | rfl | rfl | rfl | rfl | rfl | rfl | rfl | rfl | rfl | rfl | rfl | rfl | rfl | rfl | rfl | rfl | rfl | rfl | rfl
    · exact ⟨T.e_NoName, _, rfl, T.kt_NoName_NoName⟩
    · exact ⟨T.e_Taken, _, rfl, T.kt_Taken_NoName⟩
    · exact ⟨T.e_OneHouse, _, rfl, T.kt_OneHouse_NoName⟩
    · exact ⟨T.e_TooMany, _, rfl, T.kt_TooMany_NoName⟩
    · exact ⟨T.e_NoName, _, rfl, T.kt_NoName_Taken⟩
    · exact ⟨T.e_Taken, _, rfl, T.kt_Taken_Taken⟩
    · exact ⟨T.e_OneHouse, _, rfl, T.kt_OneHouse_Taken⟩
    · exact ⟨T.e_TooMany, _, rfl, T.kt_TooMany_Taken⟩
    · exact ⟨T.e_NoName, _, rfl, T.kt_NoName_OneHouse⟩
    · exact ⟨T.e_Taken, _, rfl, T.kt_Taken_OneHouse⟩
    · exact ⟨T.e_OneHouse, _, rfl, T.kt_OneHouse_OneHouse⟩
    · exact ⟨T.e_TooMany, _, rfl, T.kt_TooMany_OneHouse⟩
    · exact ⟨T.e_NoName, _, rfl, T.kt_NoName_TooMany⟩
    · exact ⟨T.e_Taken, _, rfl, T.kt_Taken_TooMany⟩
    · exact ⟨T.e_OneHouse, _, rfl, T.kt_OneHouse_TooMany⟩
    · exact ⟨T.e_TooMany, _, rfl, T.kt_TooMany_TooMany⟩
    · exact ⟨T.e_NoName, _, rfl, T.kt_NoName_NoPost⟩
    · exact ⟨T.e_Taken, _, rfl, T.kt_Taken_NoPost⟩
    · exact ⟨T.e_OneHouse, _, rfl, T.kt_OneHouse_NoPost⟩
    · exact ⟨T.e_TooMany, _, rfl, T.kt_TooMany_NoPost⟩
    · exact ⟨T.e_NoName, _, rfl, T.kt_NoName_IntoHouse⟩
    · exact ⟨T.e_Taken, _, rfl, T.kt_Taken_IntoHouse⟩
    · exact ⟨T.e_OneHouse, _, rfl, T.kt_OneHouse_IntoHouse⟩
    · exact ⟨T.e_TooMany, _, rfl, T.kt_TooMany_IntoHouse⟩
    · exact ⟨T.e_NoName, _, rfl, T.kt_NoName_ValueError⟩
    · exact ⟨T.e_Taken, _, rfl, T.kt_Taken_ValueError⟩
    · exact ⟨T.e_OneHouse, _, rfl, T.kt_OneHouse_ValueError⟩
    · exact ⟨T.e_TooMany, _, rfl, T.kt_TooMany_ValueError⟩) h
theorem Wd.fld_by_name {K : PySem.W.Frag} {mg : Str → Option Value} (T : Wd K mg) : ∀ n, (["Net"] : List Str).contains n = true → Cls K (He.ga K n) ∧ NoAttr K (He.ga K n) "by_name" := by
  intro n h
  simp only [List.contains_cons, List.contains_nil, Bool.or_false, Bool.or_eq_true, beq_iff_eq] at h
  subst h
  exact ⟨T.cl_Net, T.na_Net_by_name⟩
theorem Wd.fld_by_number {K : PySem.W.Frag} {mg : Str → Option Value} (T : Wd K mg) : ∀ n, (["Net"] : List Str).contains n = true → Cls K (He.ga K n) ∧ NoAttr K (He.ga K n) "by_number" := by
  intro n h
  simp only [List.contains_cons, List.contains_nil, Bool.or_false, Bool.or_eq_true, beq_iff_eq] at h
  subst h
  exact ⟨T.cl_Net, T.na_Net_by_number⟩
theorem Wd.fld_given {K : PySem.W.Frag} {mg : Str → Option Value} (T : Wd K mg) : ∀ n, (["Net"] : List Str).contains n = true → Cls K (He.ga K n) ∧ NoAttr K (He.ga K n) "given" := by
  intro n h
  simp only [List.contains_cons, List.contains_nil, Bool.or_false, Bool.or_eq_true, beq_iff_eq] at h
  subst h
  exact ⟨T.cl_Net, T.na_Net_given⟩
theorem Wd.fld_name {K : PySem.W.Frag} {mg : Str → Option Value} (T : Wd K mg) : ∀ n, (["Post", "House", "Listener"] : List Str).contains n = true → Cls K (He.ga K n) ∧ NoAttr K (He.ga K n) "name" := by
  intro n h
  simp only [List.contains_cons, List.contains_nil, Bool.or_false, Bool.or_eq_true, beq_iff_eq] at h
  rcases h with rfl | rfl | rfl
  · exact ⟨T.cl_Post, T.na_Post_name⟩
  · exact ⟨T.cl_House, T.na_House_name⟩
  · exact ⟨T.cl_Listener, T.na_Listener_name⟩
section
variable {P : Program} {w : World} {K : PySem.W.Frag} {mg : Str → Option Value} {base : Heap} {f : Addr} {fd : FuncData}
abbrev N__law_cell_at : List Str := ["_law_script", "_law_k"]
theorem sc__law_cell_at : FnScope ["_law_script", "_law_k"] ["_law_script", "_law_k"] (defScope s__law_cell_at) := ⟨rfl, rfl, rfl, by decide +kernel, rfl, by decide +kernel, by decide +kernel⟩
abbrev N_Net__init_ : List Str := ["self"]
theorem sc_Net__init_ : FnScope ["self"] ["self"] (defScope s_Net__init_) := ⟨rfl, rfl, rfl, by decide +kernel, rfl, by decide +kernel, by decide +kernel⟩
abbrev N__law_mixed : List Str := ["_law_cell", "_law_k", "_law_number"]
theorem sc__law_mixed : FnScope ["_law_cell", "_law_k", "_law_number"] ["_law_cell", "_law_k"] (defScope s__law_mixed) := ⟨rfl, rfl, rfl, by decide +kernel, rfl, by decide +kernel, by decide +kernel⟩
abbrev N__law_name : List Str := ["_law_first", "_law_cell", "_law_stem", "_law_way", "_law_letter", "_law_at", "_law_some", "_law_k"]
theorem sc__law_name : FnScope ["_law_first", "_law_cell", "_law_stem", "_law_way", "_law_letter", "_law_at", "_law_some", "_law_k"] ["_law_first", "_law_cell"] (defScope s__law_name) := ⟨rfl, rfl, rfl, by decide +kernel, rfl, by decide +kernel, by decide +kernel⟩
abbrev N__law_due : List Str := ["_law_kinds", "_law_name_here", "_law_kind", "_law_words", "_law_sign"]
theorem sc__law_due : FnScope ["_law_kinds", "_law_name_here", "_law_kind", "_law_words", "_law_sign"] ["_law_kinds", "_law_name_here", "_law_kind"] (defScope s__law_due) := ⟨rfl, rfl, rfl, by decide +kernel, rfl, by decide +kernel, by decide +kernel⟩
abbrev N_Post_kind : List Str := ["self"]
theorem sc_Post_kind : FnScope ["self"] ["self"] (defScope s_Post_kind) := ⟨rfl, rfl, rfl, by decide +kernel, rfl, by decide +kernel, by decide +kernel⟩
abbrev N_House_kind : List Str := ["self"]
theorem sc_House_kind : FnScope ["self"] ["self"] (defScope s_House_kind) := ⟨rfl, rfl, rfl, by decide +kernel, rfl, by decide +kernel, by decide +kernel⟩
abbrev N_Listener_kind : List Str := ["self"]
theorem sc_Listener_kind : FnScope ["self"] ["self"] (defScope s_Listener_kind) := ⟨rfl, rfl, rfl, by decide +kernel, rfl, by decide +kernel, by decide +kernel⟩
abbrev N_Net_home : List Str := ["self", "one"]
theorem sc_Net_home : FnScope ["self", "one"] ["self"] (defScope s_Net_home) := ⟨rfl, rfl, rfl, by decide +kernel, rfl, by decide +kernel, by decide +kernel⟩
abbrev N_Post_reads : List Str := ["self"]
theorem sc_Post_reads : FnScope ["self"] ["self"] (defScope s_Post_reads) := ⟨rfl, rfl, rfl, by decide +kernel, rfl, by decide +kernel, by decide +kernel⟩
abbrev N_Listener_reads : List Str := ["self"]
theorem sc_Listener_reads : FnScope ["self"] ["self"] (defScope s_Listener_reads) := ⟨rfl, rfl, rfl, by decide +kernel, rfl, by decide +kernel, by decide +kernel⟩
abbrev N_Net_listeners : List Str := ["self", "one"]
theorem sc_Net_listeners : FnScope ["self", "one"] ["self"] (defScope s_Net_listeners) := ⟨rfl, rfl, rfl, by decide +kernel, rfl, by decide +kernel, by decide +kernel⟩
abbrev N_Net_put_in : List Str := ["self", "made", "name", "sign"]
theorem sc_Net_put_in : FnScope ["self", "made", "name", "sign"] ["self", "made"] (defScope s_Net_put_in) := ⟨rfl, rfl, rfl, by decide +kernel, rfl, by decide +kernel, by decide +kernel⟩
abbrev N_Post__init_ : List Str := ["self", "name"]
theorem sc_Post__init_ : FnScope ["self", "name"] ["self", "name"] (defScope s_Post__init_) := ⟨rfl, rfl, rfl, by decide +kernel, rfl, by decide +kernel, by decide +kernel⟩
abbrev N_Net_house : List Str := ["self", "name"]
theorem sc_Net_house : FnScope ["self", "name"] ["self", "name"] (defScope s_Net_house) := ⟨rfl, rfl, rfl, by decide +kernel, rfl, by decide +kernel, by decide +kernel⟩
abbrev N_Net_listener : List Str := ["self", "name"]
theorem sc_Net_listener : FnScope ["self", "name"] ["self", "name"] (defScope s_Net_listener) := ⟨rfl, rfl, rfl, by decide +kernel, rfl, by decide +kernel, by decide +kernel⟩
abbrev N_Net_post : List Str := ["self", "name"]
theorem sc_Net_post : FnScope ["self", "name"] ["self", "name"] (defScope s_Net_post) := ⟨rfl, rfl, rfl, by decide +kernel, rfl, by decide +kernel, by decide +kernel⟩
abbrev N__law_word : List Str := ["_law_e", "_law_found", "_law_words", "_law_word_here", "_law_true"]
theorem sc__law_word : FnScope ["_law_e", "_law_found", "_law_words", "_law_word_here", "_law_true"] ["_law_e"] (defScope s__law_word) := ⟨rfl, rfl, rfl, by decide +kernel, rfl, by decide +kernel, by decide +kernel⟩
abbrev N__law_put : List Str := ["_law_net", "_law_name_here", "_law_kind", "_law_told", "_law_word_here", "_law_e"]
theorem sc__law_put : FnScope ["_law_net", "_law_name_here", "_law_kind", "_law_told", "_law_word_here", "_law_e"] ["_law_net", "_law_name_here", "_law_kind"] (defScope s__law_put) := ⟨rfl, rfl, rfl, by decide +kernel, rfl, by decide +kernel, by decide +kernel⟩
abbrev N_Net_posts : List Str := ["self"]
theorem sc_Net_posts : FnScope ["self"] ["self"] (defScope s_Net_posts) := ⟨rfl, rfl, rfl, by decide +kernel, rfl, by decide +kernel, by decide +kernel⟩
abbrev N_Net_names : List Str := ["self"]
theorem sc_Net_names : FnScope ["self"] ["self"] (defScope s_Net_names) := ⟨rfl, rfl, rfl, by decide +kernel, rfl, by decide +kernel, by decide +kernel⟩
abbrev N_Post_hears : List Str := ["self"]
theorem sc_Post_hears : FnScope ["self"] ["self"] (defScope s_Post_hears) := ⟨rfl, rfl, rfl, by decide +kernel, rfl, by decide +kernel, by decide +kernel⟩
abbrev N_House_hears : List Str := ["self"]
theorem sc_House_hears : FnScope ["self"] ["self"] (defScope s_House_hears) := ⟨rfl, rfl, rfl, by decide +kernel, rfl, by decide +kernel, by decide +kernel⟩
abbrev N__law_is : List Str := ["_law_one", "_law_name_here", "_law_kind", "_law_classes", "_law_found", "_law_due_here"]
theorem sc__law_is : FnScope ["_law_one", "_law_name_here", "_law_kind", "_law_classes", "_law_found", "_law_due_here"] ["_law_one", "_law_name_here", "_law_kind"] (defScope s__law_is) := ⟨rfl, rfl, rfl, by decide +kernel, rfl, by decide +kernel, by decide +kernel⟩
abbrev N__law_stands : List Str := ["_law_net", "_law_kinds", "_law_posts", "_law_one", "_law_name_here", "_law_homes"]
theorem sc__law_stands : FnScope ["_law_net", "_law_kinds", "_law_posts", "_law_one", "_law_name_here", "_law_homes"] ["_law_net", "_law_kinds"] (defScope s__law_stands) := ⟨rfl, rfl, rfl, by decide +kernel, rfl, by decide +kernel, by decide +kernel⟩
abbrev N_Net_ties : List Str := ["self", "number"]
theorem sc_Net_ties : FnScope ["self", "number"] ["self"] (defScope s_Net_ties) := ⟨rfl, rfl, rfl, by decide +kernel, rfl, by decide +kernel, by decide +kernel⟩
abbrev N_law : List Str := ["_law_script", "_law_first", "_law_net", "_law_kinds", "_law_cell", "_law_name_here", "_law_kind", "_law_due_here"]
theorem sc_law : FnScope ["_law_script", "_law_first", "_law_net", "_law_kinds", "_law_cell", "_law_name_here", "_law_kind", "_law_due_here"] ["_law_script"] (defScope s_law) := ⟨rfl, rfl, rfl, by decide +kernel, rfl, by decide +kernel, by decide +kernel⟩
set_option maxHeartbeats 8000000 in
theorem ok__law_cell_at (T : Wd K mg) (F : FunD K "_law_cell_at" "_law_cell_at" (defArgs s__law_cell_at) (defBody s__law_cell_at) (defScope s__law_cell_at) [] [] f fd) :
    FnOk P w K mg base (L2N.CX P w) 1 f fd ["_law_script", "_law_k"] (spM K m__law_cell_at) :=
 by
 rw [me__law_cell_at]
 exact fn_M (keep := 0) F sc__law_cell_at fun cdv A outer s H E hr => by
  have pown : PO (cxOf (L2N.CX P w) P w K mg base N__law_cell_at "_law_cell_at" (defScope s__law_cell_at) f cdv A outer s H E) := passes_of rfl
  have nd := sc__law_cell_at.nd
  have hu1 : (cxOf (L2N.CX P w) P w K mg base N__law_cell_at "_law_cell_at" (defScope s__law_cell_at) f cdv A outer s H E).A.units + 1 < cLine := hr.u1
  exact (ib_cons (is_if (it_cmp (im_var 1 rfl (by walk_at "vis")) (im_blt (ia_cons (im_var 0 rfl (by walk_at "vis")) ia_nil) ok_len (by rfl) T.bl.len boot_len) ok_lt) (ib_cons (is_ret (im_ix (im_var 0 rfl (by walk_at "vis")) (im_var 1 rfl (by walk_at "vis")) hu1)) ib_nil) ib_nil) (ib_cons (is_ret im_int) ib_nil))
set_option maxHeartbeats 8000000 in
theorem ok_Net__init_ (T : Wd K mg) (F : FunD K "__init__" "Net.__init__" (defArgs s_Net__init_) (defBody s_Net__init_) (defScope s_Net__init_) [] [] f fd) :
    FnOk P w K mg base (L2N.CX P w) 1 f fd ["self"] (spM K m_Net__init_) :=
 by
 rw [me_Net__init_]
 exact fn_M (keep := 2) F sc_Net__init_ fun cdv A outer s H E hr => by
  have pown : PO (cxOf (L2N.CX P w) P w K mg base N_Net__init_ "Net.__init__" (defScope s_Net__init_) f cdv A outer s H E) := passes_of rfl
  have nd := sc_Net__init_.nd
  exact (ib_cons (is_fld im_dict (im_var 0 rfl (by walk_at "vis")) (T.fld_by_name)) (ib_cons (is_fld im_dict (im_var 0 rfl (by walk_at "vis")) (T.fld_by_number)) (ib_cons (is_fld im_int (im_var 0 rfl (by walk_at "vis")) (T.fld_given)) ib_nil)))
set_option maxHeartbeats 8000000 in
theorem ok__law_mixed (T : Wd K mg) (F : FunD K "_law_mixed" "_law_mixed" (defArgs s__law_mixed) (defBody s__law_mixed) (defScope s__law_mixed) [] [] f fd) :
    FnOk P w K mg base (L2N.CX P w) 1 f fd ["_law_cell", "_law_k"] (spM K m__law_mixed) :=
 by
 rw [me__law_mixed]
 exact fn_M (keep := 0) F sc__law_mixed fun cdv A outer s H E hr => by
  have pown : PO (cxOf (L2N.CX P w) P w K mg base N__law_mixed "_law_mixed" (defScope s__law_mixed) f cdv A outer s H E) := passes_of rfl
  have nd := sc__law_mixed.nd
  exact (ib_cons (is_asg 2 (im_bin (im_bin (im_bin (im_bin (im_var 0 rfl (by walk_at "vis")) (im_bin im_int (im_var 1 rfl (by walk_at "vis")) ok_mul) ok_add) im_int ok_add) im_int ok_mul) im_int ok_mod) nd rfl (by walk_at "loc")) (ib_cons (is_ret (im_bin (im_bin (im_var 2 rfl (by walk_at "vis")) (im_bin (im_bin (im_var 2 rfl (by walk_at "vis")) im_int ok_div) im_int ok_add) ok_mul) im_int ok_mod)) ib_nil))
set_option maxHeartbeats 8000000 in
theorem ok__law_name (T : Wd K mg) (g__law_mixed : Gf P w K mg base "_law_mixed" 1 [] (spM K m__law_mixed)) (F : FunD K "_law_name" "_law_name" (defArgs s__law_name) (defBody s__law_name) (defScope s__law_name) [] [] f fd) :
    FnOk P w K mg base (L2N.CX P w) 2 f fd ["_law_first", "_law_cell"] (spM K m__law_name) :=
 by
 rw [me__law_name]
 exact fn_M (keep := 0) F sc__law_name fun cdv A outer s H E hr => by
  have pown : PO (cxOf (L2N.CX P w) P w K mg base N__law_name "_law_name" (defScope s__law_name) f cdv A outer s H E) := passes_of rfl
  have nd := sc__law_name.nd
  have hu1 : (cxOf (L2N.CX P w) P w K mg base N__law_name "_law_name" (defScope s__law_name) f cdv A outer s H E).A.units + 1 < cLine := hr.u1
  have hr1 : Room 1 (cxOf (L2N.CX P w) P w K mg base N__law_name "_law_name" (defScope s__law_name) f cdv A outer s H E).A := hr.mono (by decide)
  exact (ib_cons (is_asg 2 (im_bm PySem.F.plainAttrs_str PySem.F.slot_str_join PySem.F.type_str_join ok_join im_str (ia_cons (im_lc [("_law_k", 7)] false (ii_range1 (ia_cons (im_bin im_int (im_bin (im_var 0 rfl (by walk_at "vis")) im_int ok_mod) ok_add) ia_nil) (by rfl) T.bl.range) (fun _ _ _ _ _ => (ig_name 7 nd rfl (by walk_at "loc"))) (fun _ _ _ _ _ => its_nil) (fun _ _ _ _ _ => (im_ix im_str (im_bin (im_call g__law_mixed (ia_cons (im_var 0 rfl (by walk_at "vis")) (ia_cons (im_var 7 rfl (by walk_at "vis")) ia_nil)) hr1 (by rfl)) im_int ok_mod) hu1)) rfl nd (blkOk_by (N := (["_law_first", "_law_cell", "_law_stem", "_law_way", "_law_letter", "_law_at", "_law_some", "_law_k"] : List Str)) (sc := defScope s__law_name) (by decide +kernel))) ia_nil)) nd rfl (by walk_at "loc")) (ib_cons (is_asg 3 (im_bin (im_call g__law_mixed (ia_cons (im_var 1 rfl (by walk_at "vis")) (ia_cons im_int ia_nil)) hr1 (by rfl)) im_int ok_mod) nd rfl (by walk_at "loc")) (ib_cons (is_asg 4 (im_ix im_str (im_bin (im_call g__law_mixed (ia_cons (im_var 1 rfl (by walk_at "vis")) (ia_cons im_int ia_nil)) hr1 (by rfl)) im_int ok_mod) hu1) nd rfl (by walk_at "loc")) (ib_cons (is_asg 5 (im_bin (im_bin (im_var 0 rfl (by walk_at "vis")) im_int ok_div) (im_blt (ia_cons (im_var 2 rfl (by walk_at "vis")) ia_nil) ok_len (by rfl) T.bl.len boot_len) ok_mod) nd rfl (by walk_at "loc")) (ib_cons (is_if (it_cmp (im_var 3 rfl (by walk_at "vis")) im_int ok_lt) (ib_cons (is_ret (im_bin (im_bin (im_cut false (im_var 2 rfl (by walk_at "vis")) ip_none (ip_some (im_var 5 rfl (by walk_at "vis")))) (im_var 4 rfl (by walk_at "vis")) ok_add) (im_cut false (im_var 2 rfl (by walk_at "vis")) (ip_some (im_bin (im_var 5 rfl (by walk_at "vis")) im_int ok_add)) ip_none) ok_add)) ib_nil) ib_nil) (ib_cons (is_if (it_cmp (im_var 3 rfl (by walk_at "vis")) im_int ok_lt) (ib_cons (is_ret (im_bin (im_var 2 rfl (by walk_at "vis")) (im_var 4 rfl (by walk_at "vis")) ok_add)) ib_nil) ib_nil) (ib_cons (is_asg 6 (im_lst (ia_cons im_str (ia_cons (im_bin (im_var 2 rfl (by walk_at "vis")) im_str ok_add) (ia_cons (im_bin (im_bin (im_cut false (im_var 2 rfl (by walk_at "vis")) ip_none (ip_some (im_var 5 rfl (by walk_at "vis")))) im_str ok_add) (im_cut false (im_var 2 rfl (by walk_at "vis")) (ip_some (im_bin (im_var 5 rfl (by walk_at "vis")) im_int ok_add)) ip_none) ok_add) (ia_cons (im_bin im_str (im_var 2 rfl (by walk_at "vis")) ok_add) (ia_cons (im_bin (im_var 2 rfl (by walk_at "vis")) im_str ok_add) (ia_cons im_str ia_nil))))))) nd rfl (by walk_at "loc")) (ib_cons (is_ret (im_ix (im_var 6 rfl (by walk_at "vis")) (im_bin (im_call g__law_mixed (ia_cons (im_var 1 rfl (by walk_at "vis")) (ia_cons im_int ia_nil)) hr1 (by rfl)) im_int ok_mod) hu1)) ib_nil))))))))
set_option maxHeartbeats 8000000 in
theorem ok__law_due (T : Wd K mg) (F : FunD K "_law_due" "_law_due" (defArgs s__law_due) (defBody s__law_due) (defScope s__law_due) [] [] f fd) :
    FnOk P w K mg base (L2N.CX P w) 1 f fd ["_law_kinds", "_law_name_here", "_law_kind"] (spM K m__law_due) :=
 by
 rw [me__law_due]
 exact fn_M (keep := 0) F sc__law_due fun cdv A outer s H E hr => by
  have pown : PO (cxOf (L2N.CX P w) P w K mg base N__law_due "_law_due" (defScope s__law_due) f cdv A outer s H E) := passes_of rfl
  have nd := sc__law_due.nd
  have hu64 : (cxOf (L2N.CX P w) P w K mg base N__law_due "_law_due" (defScope s__law_due) f cdv A outer s H E).A.units + 64 < cLine := hr.u64
  have hu65 : (cxOf (L2N.CX P w) P w K mg base N__law_due "_law_due" (defScope s__law_due) f cdv A outer s H E).A.units + 65 < cLine := hr.u65
  exact (ib_cons (is_if (ImW.it (iw_or (it_not (it_ch im_int (im_blt (ia_cons (im_var 1 rfl (by walk_at "vis")) ia_nil) ok_len (by rfl) T.bl.len boot_len) im_int ok_le ok_le)) (iw_or1 (it_cmp (im_lc [("_law_sign", 4)] false (ii_str (im_var 1 rfl (by walk_at "vis"))) (fun _ _ _ _ _ => (ig_name 4 nd rfl (by walk_at "loc"))) (fun _ _ _ _ _ => (its_one (it_nin (im_var 4 rfl (by walk_at "vis")) im_str hu65))) (fun _ _ _ _ _ => (im_var 4 rfl (by walk_at "vis"))) rfl nd (blkOk_by (N := (["_law_kinds", "_law_name_here", "_law_kind", "_law_words", "_law_sign"] : List Str)) (sc := defScope s__law_due) (by decide +kernel))) (im_lst ia_nil) (ok_ne hu64))))) (ib_cons (is_ret im_str) ib_nil) ib_nil) (ib_cons (is_if (it_in (im_var 1 rfl (by walk_at "vis")) (im_var 0 rfl (by walk_at "vis")) hu65) (ib_cons (is_ret im_str) ib_nil) ib_nil) (ib_cons (is_asg 3 (im_vals false (im_var 0 rfl (by walk_at "vis")) rfl (by rfl) T.bl.list (by decide +kernel)) nd rfl (by walk_at "loc")) (ib_cons (is_if (ImW.it (iw_and (it_cmp (im_var 2 rfl (by walk_at "vis")) im_str (ok_eq hu64)) (iw_and1 (it_in im_str (im_var 3 rfl (by walk_at "vis")) hu65)))) (ib_cons (is_ret im_str) ib_nil) ib_nil) (ib_cons (is_if (ImW.it (iw_or (it_cmp (im_blt (ia_cons (im_var 3 rfl (by walk_at "vis")) ia_nil) ok_len (by rfl) T.bl.len boot_len) im_int ok_ge) (iw_or1 (ImW.it (iw_and (it_cmp (im_var 2 rfl (by walk_at "vis")) im_str (ok_eq hu64)) (iw_and1 (it_cmp (im_bm PySem.F.plainAttrs_list PySem.F.slot_list_count PySem.F.type_list_count ok_count (im_var 3 rfl (by walk_at "vis")) (ia_cons im_str ia_nil)) im_int ok_ge))))))) (ib_cons (is_ret im_str) ib_nil) ib_nil) (ib_cons (is_ret im_str) ib_nil))))))
set_option maxHeartbeats 8000000 in
theorem ok_Post_kind (T : Wd K mg) (F : FunD K "kind" "Post.kind" (defArgs s_Post_kind) (defBody s_Post_kind) (defScope s_Post_kind) [] [] f fd) :
    FnOk P w K mg base (L2N.CX P w) 1 f fd ["self"] (spM K m_Post_kind) :=
 by
 rw [me_Post_kind]
 exact fn_M (keep := 0) F sc_Post_kind fun cdv A outer s H E hr => by
  have pown : PO (cxOf (L2N.CX P w) P w K mg base N_Post_kind "Post.kind" (defScope s_Post_kind) f cdv A outer s H E) := passes_of rfl
  have nd := sc_Post_kind.nd
  exact (ib_cons (is_ret im_str) ib_nil)
set_option maxHeartbeats 8000000 in
theorem ok_House_kind (T : Wd K mg) (F : FunD K "kind" "House.kind" (defArgs s_House_kind) (defBody s_House_kind) (defScope s_House_kind) [] [] f fd) :
    FnOk P w K mg base (L2N.CX P w) 1 f fd ["self"] (spM K m_House_kind) :=
 by
 rw [me_House_kind]
 exact fn_M (keep := 0) F sc_House_kind fun cdv A outer s H E hr => by
  have pown : PO (cxOf (L2N.CX P w) P w K mg base N_House_kind "House.kind" (defScope s_House_kind) f cdv A outer s H E) := passes_of rfl
  have nd := sc_House_kind.nd
  exact (ib_cons (is_ret im_str) ib_nil)
set_option maxHeartbeats 8000000 in
theorem ok_Listener_kind (T : Wd K mg) (F : FunD K "kind" "Listener.kind" (defArgs s_Listener_kind) (defBody s_Listener_kind) (defScope s_Listener_kind) [] [] f fd) :
    FnOk P w K mg base (L2N.CX P w) 1 f fd ["self"] (spM K m_Listener_kind) :=
 by
 rw [me_Listener_kind]
 exact fn_M (keep := 0) F sc_Listener_kind fun cdv A outer s H E hr => by
  have pown : PO (cxOf (L2N.CX P w) P w K mg base N_Listener_kind "Listener.kind" (defScope s_Listener_kind) f cdv A outer s H E) := passes_of rfl
  have nd := sc_Listener_kind.nd
  exact (ib_cons (is_ret im_str) ib_nil)
set_option maxHeartbeats 8000000 in
theorem ok_Net_home (T : Wd K mg) (gm_Post_kind : Gm P w K mg base (He.ga K "Post") "kind" 1 [] (spM K m_Post_kind)) (gm_House_kind : Gm P w K mg base (He.ga K "House") "kind" 1 [] (spM K m_House_kind)) (gm_Listener_kind : Gm P w K mg base (He.ga K "Listener") "kind" 1 [] (spM K m_Listener_kind)) (F : FunD K "home" "Net.home" (defArgs s_Net_home) (defBody s_Net_home) (defScope s_Net_home) [] [] f fd) :
    FnOk P w K mg base (L2N.CX P w) 2 f fd ["self"] (spM K m_Net_home) :=
 by
 rw [me_Net_home]
 exact fn_M (keep := 0) F sc_Net_home fun cdv A outer s H E hr => by
  have pown : PO (cxOf (L2N.CX P w) P w K mg base N_Net_home "Net.home" (defScope s_Net_home) f cdv A outer s H E) := passes_of rfl
  have nd := sc_Net_home.nd
  have hu64 : (cxOf (L2N.CX P w) P w K mg base N_Net_home "Net.home" (defScope s_Net_home) f cdv A outer s H E).A.units + 64 < cLine := hr.u64
  have hr1 : Room 1 (cxOf (L2N.CX P w) P w K mg base N_Net_home "Net.home" (defScope s_Net_home) f cdv A outer s H E).A := hr.mono (by decide)
  exact (ib_cons (is_forD .v (im_fld (im_var 0 rfl (by walk_at "vis")) (T.fld_by_name)) (fun _ h => pi_dv h) (ig_name 1 nd rfl (by walk_at "loc")) (ib_cons (is_if (it_cmp (im_meth0 (k := 1) (MOk.cons (gm_Post_kind.mono (by decide)) (MOk.cons (gm_House_kind.mono (by decide)) (MOk.cons (gm_Listener_kind.mono (by decide)) MOk.nil))) (im_var 1 rfl (by walk_at "vis")) hr1) im_str (ok_eq hu64)) (ib_cons (is_ret (im_fld (im_var 1 rfl (by walk_at "vis")) (T.fld_name))) ib_nil) ib_nil) ib_nil) rfl pown) (ib_cons (is_ret im_non) ib_nil))
set_option maxHeartbeats 8000000 in
theorem ok_Post_reads (T : Wd K mg) (F : FunD K "reads" "Post.reads" (defArgs s_Post_reads) (defBody s_Post_reads) (defScope s_Post_reads) [] [] f fd) :
    FnOk P w K mg base (L2N.CX P w) 1 f fd ["self"] (spM K m_Post_reads) :=
 by
 rw [me_Post_reads]
 exact fn_M (keep := 0) F sc_Post_reads fun cdv A outer s H E hr => by
  have pown : PO (cxOf (L2N.CX P w) P w K mg base N_Post_reads "Post.reads" (defScope s_Post_reads) f cdv A outer s H E) := passes_of rfl
  have nd := sc_Post_reads.nd
  exact (ib_cons (is_ret im_bl) ib_nil)
set_option maxHeartbeats 8000000 in
theorem ok_Listener_reads (T : Wd K mg) (F : FunD K "reads" "Listener.reads" (defArgs s_Listener_reads) (defBody s_Listener_reads) (defScope s_Listener_reads) [] [] f fd) :
    FnOk P w K mg base (L2N.CX P w) 1 f fd ["self"] (spM K m_Listener_reads) :=
 by
 rw [me_Listener_reads]
 exact fn_M (keep := 0) F sc_Listener_reads fun cdv A outer s H E hr => by
  have pown : PO (cxOf (L2N.CX P w) P w K mg base N_Listener_reads "Listener.reads" (defScope s_Listener_reads) f cdv A outer s H E) := passes_of rfl
  have nd := sc_Listener_reads.nd
  exact (ib_cons (is_ret im_bl) ib_nil)
set_option maxHeartbeats 8000000 in
theorem ok_Net_listeners_vc (T : Wd K mg) (gm_Post_reads : Gm P w K mg base (He.ga K "Post") "reads" 1 [] (spM K m_Post_reads)) (gm_House_reads : Gm P w K mg base (He.ga K "House") "reads" 1 [] (spM K m_Post_reads)) (gm_Listener_reads : Gm P w K mg base (He.ga K "Listener") "reads" 1 [] (spM K m_Listener_reads)) (F : FunD K "listeners" "Net.listeners" (defArgs s_Net_listeners) (defBody s_Net_listeners) (defScope s_Net_listeners) [] [] f fd) :
    FnOk P w K mg base (L2N.CX P w) 2 f fd ["self"] (spM K m_Net_listeners_vc) :=
 by
 rw [me_Net_listeners_vc]
 exact fn_MT (tk := .l1) F sc_Net_listeners fun cdv A outer s H E hr => by
  have pown : PO (cxOf (L2N.CX P w) P w K mg base N_Net_listeners "Net.listeners" (defScope s_Net_listeners) f cdv A outer s H E) := passes_of rfl
  have nd := sc_Net_listeners.nd
  have hr1 : Room 1 (cxOf (L2N.CX P w) P w K mg base N_Net_listeners "Net.listeners" (defScope s_Net_listeners) f cdv A outer s H E).A := hr.mono (by decide)
  exact (ib_cons (is_ret (im_lcD .v [("one", 1)] true (im_fld (im_var 0 rfl (by walk_at "vis")) (T.fld_by_name)) (fun _ h => pi_dv h) (fun _ _ _ _ _ => (ig_name 1 nd rfl (by walk_at "loc"))) (fun _ _ _ _ _ => (its_one (it_val (im_meth0 (k := 1) (MOk.cons (gm_Post_reads.mono (by decide)) (MOk.cons (gm_House_reads.mono (by decide)) (MOk.cons (gm_Listener_reads.mono (by decide)) MOk.nil))) (im_var 1 rfl (by walk_at "vis")) hr1)))) (fun _ _ _ _ _ => (im_fld (im_var 1 rfl (by walk_at "vis")) (T.fld_name))) rfl nd (blkOk_by (N := (["self", "one"] : List Str)) (sc := defScope s_Net_listeners) (by decide +kernel)))) ib_nil)
theorem ok_Net_listeners (T : Wd K mg) {ps : List Str} (h : FnOk P w K mg base (L2N.CX P w) 2 f fd ps (spM K m_Net_listeners_vc)) : FnOk P w K mg base (L2N.CX P w) 2 f fd ps (spM K m_Net_listeners) := fn_frz h
set_option maxHeartbeats 8000000 in
theorem ok_Net_put_in (T : Wd K mg) (gm_Post_kind : Gm P w K mg base (He.ga K "Post") "kind" 1 [] (spM K m_Post_kind)) (gm_House_kind : Gm P w K mg base (He.ga K "House") "kind" 1 [] (spM K m_House_kind)) (gm_Listener_kind : Gm P w K mg base (He.ga K "Listener") "kind" 1 [] (spM K m_Listener_kind)) (gm_Net_home : Gm P w K mg base (He.ga K "Net") "home" 2 [] (spM K m_Net_home)) (gm_Post_reads : Gm P w K mg base (He.ga K "Post") "reads" 1 [] (spM K m_Post_reads)) (gm_House_reads : Gm P w K mg base (He.ga K "House") "reads" 1 [] (spM K m_Post_reads)) (gm_Listener_reads : Gm P w K mg base (He.ga K "Listener") "reads" 1 [] (spM K m_Listener_reads)) (gm_Net_listeners : Gm P w K mg base (He.ga K "Net") "listeners" 2 [] (spM K m_Net_listeners)) (F : FunD K "put_in" "Net.put_in" (defArgs s_Net_put_in) (defBody s_Net_put_in) (defScope s_Net_put_in) [] [] f fd) :
    FnOk P w K mg base (L2N.CX P w) 3 f fd ["self", "made"] (spM K m_Net_put_in) :=
 by
 rw [me_Net_put_in]
 exact fn_M (keep := 0) F sc_Net_put_in fun cdv A outer s H E hr => by
  have pown : PO (cxOf (L2N.CX P w) P w K mg base N_Net_put_in "Net.put_in" (defScope s_Net_put_in) f cdv A outer s H E) := passes_of rfl
  have nd := sc_Net_put_in.nd
  have hu64 : (cxOf (L2N.CX P w) P w K mg base N_Net_put_in "Net.put_in" (defScope s_Net_put_in) f cdv A outer s H E).A.units + 64 < cLine := hr.u64
  have hu65 : (cxOf (L2N.CX P w) P w K mg base N_Net_put_in "Net.put_in" (defScope s_Net_put_in) f cdv A outer s H E).A.units + 65 < cLine := hr.u65
  have hu1 : (cxOf (L2N.CX P w) P w K mg base N_Net_put_in "Net.put_in" (defScope s_Net_put_in) f cdv A outer s H E).A.units + 1 < cLine := hr.u1
  have hr1 : Room 1 (cxOf (L2N.CX P w) P w K mg base N_Net_put_in "Net.put_in" (defScope s_Net_put_in) f cdv A outer s H E).A := hr.mono (by decide)
  have hr2 : Room 2 (cxOf (L2N.CX P w) P w K mg base N_Net_put_in "Net.put_in" (defScope s_Net_put_in) f cdv A outer s H E).A := hr.mono (by decide)
  exact (ib_cons (is_asg 2 (im_fld (im_var 1 rfl (by walk_at "vis")) (T.fld_name)) nd rfl (by walk_at "loc")) (ib_cons (is_if (ImW.it (iw_or (it_not (it_ch im_int (im_blt (ia_cons (im_var 2 rfl (by walk_at "vis")) ia_nil) ok_len (by rfl) T.bl.len boot_len) im_int ok_le ok_le)) (iw_or1 (it_not (it_val (im_blt (ia_cons (im_lc [("sign", 3)] false (ii_str (im_var 2 rfl (by walk_at "vis"))) (fun _ _ _ _ _ => (ig_name 3 nd rfl (by walk_at "loc"))) (fun _ _ _ _ _ => its_nil) (fun _ _ _ _ _ => (im_in (im_var 3 rfl (by walk_at "vis")) (im_gS (by rfl) T.c_LETTERS) hu65)) rfl nd (blkOk_by (N := (["self", "made", "name", "sign"] : List Str)) (sc := defScope s_Net_put_in) (by decide +kernel))) ia_nil) (ok_all rfl) (by rfl) T.bl.all (by decide +kernel))))))) (ib_cons (is_raise T.x_NoName (by rfl) rfl) ib_nil) ib_nil) (ib_cons (is_if (it_in (im_var 2 rfl (by walk_at "vis")) (im_fld (im_var 0 rfl (by walk_at "vis")) (T.fld_by_name)) hu65) (ib_cons (is_raise T.x_Taken (by rfl) rfl) ib_nil) ib_nil) (ib_cons (is_if (ImW.it (iw_and (it_cmp (im_meth0 (k := 1) (MOk.cons (gm_Post_kind.mono (by decide)) (MOk.cons (gm_House_kind.mono (by decide)) (MOk.cons (gm_Listener_kind.mono (by decide)) MOk.nil))) (im_var 1 rfl (by walk_at "vis")) hr1) im_str (ok_eq hu64)) (iw_and1 (it_cmp (im_meth0 (k := 2) (MOk.cons (gm_Net_home.mono (by decide)) MOk.nil) (im_var 0 rfl (by walk_at "vis")) hr2) im_non ok_isNot)))) (ib_cons (is_raise T.x_OneHouse (by rfl) rfl) ib_nil) ib_nil) (ib_cons (is_if (ImW.it (iw_or (it_cmp (im_blt (ia_cons (im_fld (im_var 0 rfl (by walk_at "vis")) (T.fld_by_name)) ia_nil) ok_len (by rfl) T.bl.len boot_len) (im_gI (by rfl) T.c_MOST_POSTS) ok_ge) (iw_or1 (ImW.it (iw_and (it_val (im_meth0 (k := 1) (MOk.cons (gm_Post_reads.mono (by decide)) (MOk.cons (gm_House_reads.mono (by decide)) (MOk.cons (gm_Listener_reads.mono (by decide)) MOk.nil))) (im_var 1 rfl (by walk_at "vis")) hr1)) (iw_and1 (it_cmp (im_blt (ia_cons (im_meth0 (k := 2) (MOk.cons (gm_Net_listeners.mono (by decide)) MOk.nil) (im_var 0 rfl (by walk_at "vis")) hr2) ia_nil) ok_len (by rfl) T.bl.len boot_len) (im_gI (by rfl) T.c_MOST_LISTENERS) ok_ge))))))) (ib_cons (is_raise T.x_TooMany (by rfl) rfl) ib_nil) ib_nil) (ib_cons (is_put (im_var 1 rfl (by walk_at "vis")) (im_fld (im_var 0 rfl (by walk_at "vis")) (T.fld_by_name)) (im_var 2 rfl (by walk_at "vis")) hu1) ib_nil))))))
set_option maxHeartbeats 8000000 in
theorem ok_Post__init_ (T : Wd K mg) (F : FunD K "__init__" "Post.__init__" (defArgs s_Post__init_) (defBody s_Post__init_) (defScope s_Post__init_) [] [] f fd) :
    FnOk P w K mg base (L2N.CX P w) 1 f fd ["self", "name"] (spM K m_Post__init_) :=
 by
 rw [me_Post__init_]
 exact fn_M (keep := 0) F sc_Post__init_ fun cdv A outer s H E hr => by
  have pown : PO (cxOf (L2N.CX P w) P w K mg base N_Post__init_ "Post.__init__" (defScope s_Post__init_) f cdv A outer s H E) := passes_of rfl
  have nd := sc_Post__init_.nd
  exact (ib_cons (is_fld (im_var 1 rfl (by walk_at "vis")) (im_var 0 rfl (by walk_at "vis")) (T.fld_name)) ib_nil)
set_option maxHeartbeats 8000000 in
theorem ok_Net_house (T : Wd K mg) (gm_Net_put_in : Gm P w K mg base (He.ga K "Net") "put_in" 3 [] (spM K m_Net_put_in)) (gc_House : Gc P w K mg base "House" 1 [] (spM K m_Post__init_)) (F : FunD K "house" "Net.house" (defArgs s_Net_house) (defBody s_Net_house) (defScope s_Net_house) [] [] f fd) :
    FnOk P w K mg base (L2N.CX P w) 4 f fd ["self", "name"] (spM K m_Net_house) :=
 by
 rw [me_Net_house]
 exact fn_M (keep := 0) F sc_Net_house fun cdv A outer s H E hr => by
  have pown : PO (cxOf (L2N.CX P w) P w K mg base N_Net_house "Net.house" (defScope s_Net_house) f cdv A outer s H E) := passes_of rfl
  have nd := sc_Net_house.nd
  have hr2 : Room 2 (cxOf (L2N.CX P w) P w K mg base N_Net_house "Net.house" (defScope s_Net_house) f cdv A outer s H E).A := hr.mono (by decide)
  have hr3 : Room 3 (cxOf (L2N.CX P w) P w K mg base N_Net_house "Net.house" (defScope s_Net_house) f cdv A outer s H E).A := hr.mono (by decide)
  exact (ib_cons (is_exp (im_meth (k := 3) (MOk.cons (gm_Net_put_in.mono (by decide)) MOk.nil) (im_var 0 rfl (by walk_at "vis")) (ia_cons (im_make gc_House (ia_cons (im_var 1 rfl (by walk_at "vis")) ia_nil) hr2 (by rfl)) ia_nil) hr3)) ib_nil)
set_option maxHeartbeats 8000000 in
theorem ok_Net_listener (T : Wd K mg) (gm_Net_put_in : Gm P w K mg base (He.ga K "Net") "put_in" 3 [] (spM K m_Net_put_in)) (gc_Listener : Gc P w K mg base "Listener" 1 [] (spM K m_Post__init_)) (F : FunD K "listener" "Net.listener" (defArgs s_Net_listener) (defBody s_Net_listener) (defScope s_Net_listener) [] [] f fd) :
    FnOk P w K mg base (L2N.CX P w) 4 f fd ["self", "name"] (spM K m_Net_listener) :=
 by
 rw [me_Net_listener]
 exact fn_M (keep := 0) F sc_Net_listener fun cdv A outer s H E hr => by
  have pown : PO (cxOf (L2N.CX P w) P w K mg base N_Net_listener "Net.listener" (defScope s_Net_listener) f cdv A outer s H E) := passes_of rfl
  have nd := sc_Net_listener.nd
  have hr2 : Room 2 (cxOf (L2N.CX P w) P w K mg base N_Net_listener "Net.listener" (defScope s_Net_listener) f cdv A outer s H E).A := hr.mono (by decide)
  have hr3 : Room 3 (cxOf (L2N.CX P w) P w K mg base N_Net_listener "Net.listener" (defScope s_Net_listener) f cdv A outer s H E).A := hr.mono (by decide)
  exact (ib_cons (is_exp (im_meth (k := 3) (MOk.cons (gm_Net_put_in.mono (by decide)) MOk.nil) (im_var 0 rfl (by walk_at "vis")) (ia_cons (im_make gc_Listener (ia_cons (im_var 1 rfl (by walk_at "vis")) ia_nil) hr2 (by rfl)) ia_nil) hr3)) ib_nil)
set_option maxHeartbeats 8000000 in
theorem ok_Net_post (T : Wd K mg) (gm_Net_put_in : Gm P w K mg base (He.ga K "Net") "put_in" 3 [] (spM K m_Net_put_in)) (gc_Post : Gc P w K mg base "Post" 1 [] (spM K m_Post__init_)) (F : FunD K "post" "Net.post" (defArgs s_Net_post) (defBody s_Net_post) (defScope s_Net_post) [] [] f fd) :
    FnOk P w K mg base (L2N.CX P w) 4 f fd ["self", "name"] (spM K m_Net_post) :=
 by
 rw [me_Net_post]
 exact fn_M (keep := 0) F sc_Net_post fun cdv A outer s H E hr => by
  have pown : PO (cxOf (L2N.CX P w) P w K mg base N_Net_post "Net.post" (defScope s_Net_post) f cdv A outer s H E) := passes_of rfl
  have nd := sc_Net_post.nd
  have hr2 : Room 2 (cxOf (L2N.CX P w) P w K mg base N_Net_post "Net.post" (defScope s_Net_post) f cdv A outer s H E).A := hr.mono (by decide)
  have hr3 : Room 3 (cxOf (L2N.CX P w) P w K mg base N_Net_post "Net.post" (defScope s_Net_post) f cdv A outer s H E).A := hr.mono (by decide)
  exact (ib_cons (is_exp (im_meth (k := 3) (MOk.cons (gm_Net_put_in.mono (by decide)) MOk.nil) (im_var 0 rfl (by walk_at "vis")) (ia_cons (im_make gc_Post (ia_cons (im_var 1 rfl (by walk_at "vis")) ia_nil) hr2 (by rfl)) ia_nil) hr3)) ib_nil)
set_option maxHeartbeats 8000000 in
theorem okX__law_word_vx (T : Wd K mg) (F : FunD K "_law_word" "_law_word" (defArgs s__law_word) (defBody s__law_word) (defScope s__law_word) [] [] f fd) (ad dd : Addr) (ex : Exn) :
    HT.FnHx P w K mg base (L2N.CX P w) (CauP K ad dd ex) 1 f fd ["_law_e"] (spM K (m__law_word_vx ad dd ex)) :=
 by
 rw [me__law_word_vx]
 exact fn_MHx (keep := 0) F sc__law_word fun cdv A outer s H E p hot hF hr => by
  have pown : PO (L2H.cxH (L2N.CX P w) P w K mg base N__law_word "_law_word" (defScope s__law_word) f cdv A outer s H E p) := passes_of rfl
  have hc : L2H.HotC (L2H.cxH (L2N.CX P w) P w K mg base N__law_word "_law_word" (defScope s__law_word) f cdv A outer s H E p) := HT.hot_cx hot
  have bs : Bears (L2H.cxH (L2N.CX P w) P w K mg base N__law_word "_law_word" (defScope s__law_word) f cdv A outer s H E p) ad dd ex := bears_cxH hF
  have nd := sc__law_word.nd
  have hu64 : (L2H.cxH (L2N.CX P w) P w K mg base N__law_word "_law_word" (defScope s__law_word) f cdv A outer s H E p).A.units + 64 < cLine := roomH_u hr (by decide)
  have hu1 : (L2H.cxH (L2N.CX P w) P w K mg base N__law_word "_law_word" (defScope s__law_word) f cdv A outer s H E p).A.units + 1 < cLine := roomH_u hr (by decide)
  exact (ib_cons (is_asg 1 (im_lst (ia_cons (im_blt (ia_cons (im_var 0 rfl (by walk_at "vis")) (ia_cons (im_cls (by rfl) T.g_NoName) ia_nil)) (ok_isEP bs T.isT) (by rfl) T.bl.isinstance PyProof.Rows.boot_isinstance) (ia_cons (im_blt (ia_cons (im_var 0 rfl (by walk_at "vis")) (ia_cons (im_cls (by rfl) T.g_Taken) ia_nil)) (ok_isEP bs T.isT) (by rfl) T.bl.isinstance PyProof.Rows.boot_isinstance) (ia_cons (im_blt (ia_cons (im_var 0 rfl (by walk_at "vis")) (ia_cons (im_cls (by rfl) T.g_OneHouse) ia_nil)) (ok_isEP bs T.isT) (by rfl) T.bl.isinstance PyProof.Rows.boot_isinstance) (ia_cons (im_blt (ia_cons (im_var 0 rfl (by walk_at "vis")) (ia_cons (im_cls (by rfl) T.g_TooMany) ia_nil)) (ok_isEP bs T.isT) (by rfl) T.bl.isinstance PyProof.Rows.boot_isinstance) ia_nil))))) nd rfl (by walk_at "loc")) (ib_cons (is_lcH 2 [("_law_word_here", 3), ("_law_true", 4)] false (ii_zipH (ia_cons (im_lst (ia_cons im_str (ia_cons im_str (ia_cons im_str (ia_cons im_str ia_nil))))) (ia_cons (im_var 1 rfl (by walk_at "vis")) ia_nil)) (by rfl) T.bl.zip) (fun _ _ _ _ _ => (ig_tupH (blk_hot hc) (igs_cons (ig_name 3 nd rfl (by walk_at "loc")) (igs_cons (ig_name 4 nd rfl (by walk_at "loc")) igs_nil)))) (fun _ _ _ _ _ => (its_one (it_val (im_var 4 rfl (by walk_at "vis"))))) (fun _ _ _ _ _ => (im_var 3 rfl (by walk_at "vis"))) hc nd rfl rfl (blkOk_by (N := (["_law_e", "_law_found", "_law_words", "_law_word_here", "_law_true"] : List Str)) (sc := defScope s__law_word) (by decide +kernel)) rfl (by decide +kernel)) (ib_cons (is_if (ImW.it (iw_or (it_cmp (im_blt (ia_cons (im_var 2 rfl (by walk_at "vis")) ia_nil) ok_len (by rfl) T.bl.len boot_len) im_int (ok_ne hu64)) (iw_or (it_val (im_blt (ia_cons (im_var 0 rfl (by walk_at "vis")) (ia_cons (im_tup (ia_cons (im_cls (by rfl) T.g_NoPost) (ia_cons (im_cls (by rfl) T.g_IntoHouse) ia_nil))) ia_nil)) (ok_isEP bs T.isT) (by rfl) T.bl.isinstance PyProof.Rows.boot_isinstance)) (iw_or1 (it_not (it_val (im_blt (ia_cons (im_var 0 rfl (by walk_at "vis")) (ia_cons (im_ty (by rfl) T.bl.verr (by exact rfl)) ia_nil)) (ok_isEP bs T.isT) (by rfl) T.bl.isinstance PyProof.Rows.boot_isinstance))))))) (ib_cons (is_ret im_str) ib_nil) ib_nil) (ib_cons (is_ret (im_ix (im_var 2 rfl (by walk_at "vis")) im_int hu1)) ib_nil))))
set_option maxHeartbeats 8000000 in
theorem ok__law_put (T : Wd K mg) (gm_Net_house : Gm P w K mg base (He.ga K "Net") "house" 4 [] (spM K m_Net_house)) (gm_Net_listener : Gm P w K mg base (He.ga K "Net") "listener" 4 [] (spM K m_Net_listener)) (gm_Net_post : Gm P w K mg base (He.ga K "Net") "post" 4 [] (spM K m_Net_post)) (gX__law_word_vx : ∀ (ad dd : Addr) (ex : Exn), GfHx P w K mg base (CauP K ad dd ex) "_law_word" 1 [] (spM K (m__law_word_vx ad dd ex))) (F : FunD K "_law_put" "_law_put" (defArgs s__law_put) (defBody s__law_put) (defScope s__law_put) [] [] f fd) :
    FnOk P w K mg base (L2N.CX P w) 5 f fd ["_law_net", "_law_name_here", "_law_kind"] (spM K m__law_put) :=
 by
 rw [me__law_put]
 exact fn_M (keep := 0) F sc__law_put fun cdv A outer s H E hr => by
  have pown : PO (cxOf (L2N.CX P w) P w K mg base N__law_put "_law_put" (defScope s__law_put) f cdv A outer s H E) := passes_of rfl
  have nd := sc__law_put.nd
  have hu64 : (cxOf (L2N.CX P w) P w K mg base N__law_put "_law_put" (defScope s__law_put) f cdv A outer s H E).A.units + 64 < cLine := hr.u64
  have hr1 : Room 1 (cxOf (L2N.CX P w) P w K mg base N__law_put "_law_put" (defScope s__law_put) f cdv A outer s H E).A := hr.mono (by decide)
  have hr4 : Room 4 (cxOf (L2N.CX P w) P w K mg base N__law_put "_law_put" (defScope s__law_put) f cdv A outer s H E).A := hr.mono (by decide)
  exact (ib_cons (is_asg 3 im_non nd rfl (by walk_at "loc")) (ib_cons (is_asg 4 im_str nd rfl (by walk_at "loc")) (ib_cons (is_try rfl rfl (fun pn xe pown => (ib_cons (is_if (it_cmp (im_var 2 rfl (by walk_at "vis")) im_str (ok_eq hu64)) (ib_cons (is_asg 3 (im_meth (k := 4) (MOk.cons (gm_Net_house.mono (by decide)) MOk.nil) (im_var 0 rfl (by walk_at "vis")) (ia_cons (im_var 1 rfl (by walk_at "vis")) ia_nil) hr4) nd rfl (by walk_at "loc")) ib_nil) (ib_cons (is_if (it_cmp (im_var 2 rfl (by walk_at "vis")) im_str (ok_eq hu64)) (ib_cons (is_asg 3 (im_meth (k := 4) (MOk.cons (gm_Net_listener.mono (by decide)) MOk.nil) (im_var 0 rfl (by walk_at "vis")) (ia_cons (im_var 1 rfl (by walk_at "vis")) ia_nil) hr4) nd rfl (by walk_at "loc")) ib_nil) (ib_cons (is_asg 3 (im_meth (k := 4) (MOk.cons (gm_Net_post.mono (by decide)) MOk.nil) (im_var 0 rfl (by walk_at "vis")) (ia_cons (im_var 1 rfl (by walk_at "vis")) ia_nil) hr4) nd rfl (by walk_at "loc")) ib_nil)) ib_nil)) ib_nil)) (.as nd rfl rfl ⟨by rfl, by decide, .inl T.g_PostError⟩ (T.hit_PostError) (fun ad dd oe pn ex ca => (ib_cons (is_asg 4 (im_callHx (gX__law_word_vx _ _ _) (ia_cons (im_var 5 rfl (by walk_at "vis")) ia_nil) (hotF_su ca) ⟨hr1.dp, hr1.un⟩ (by rfl)) nd rfl (by walk_at "loc")) ib_nil)) .nil)) (ib_cons (is_if (it_cmp (im_var 3 rfl (by walk_at "vis")) im_non ok_isNot) (ib_cons (is_ret im_str) ib_nil) ib_nil) (ib_cons (is_ret (im_var 4 rfl (by walk_at "vis"))) ib_nil)))))
set_option maxHeartbeats 8000000 in
theorem ok_Net_posts_vc (T : Wd K mg) (F : FunD K "posts" "Net.posts" (defArgs s_Net_posts) (defBody s_Net_posts) (defScope s_Net_posts) [] [] f fd) :
    FnOk P w K mg base (L2N.CX P w) 1 f fd ["self"] (spM K m_Net_posts_vc) :=
 by
 rw [me_Net_posts_vc]
 exact fn_MT (tk := .l1) F sc_Net_posts fun cdv A outer s H E hr => by
  have pown : PO (cxOf (L2N.CX P w) P w K mg base N_Net_posts "Net.posts" (defScope s_Net_posts) f cdv A outer s H E) := passes_of rfl
  have nd := sc_Net_posts.nd
  exact (ib_cons (is_ret (im_vals true (im_fld (im_var 0 rfl (by walk_at "vis")) (T.fld_by_name)) rfl (by rfl) T.bl.list (by decide +kernel))) ib_nil)
set_option maxHeartbeats 8000000 in
theorem ok_Net_names_vc (T : Wd K mg) (F : FunD K "names" "Net.names" (defArgs s_Net_names) (defBody s_Net_names) (defScope s_Net_names) [] [] f fd) :
    FnOk P w K mg base (L2N.CX P w) 1 f fd ["self"] (spM K m_Net_names_vc) :=
 by
 rw [me_Net_names_vc]
 exact fn_MT (tk := .l1) F sc_Net_names fun cdv A outer s H E hr => by
  have pown : PO (cxOf (L2N.CX P w) P w K mg base N_Net_names "Net.names" (defScope s_Net_names) f cdv A outer s H E) := passes_of rfl
  have nd := sc_Net_names.nd
  exact (ib_cons (is_ret (im_bty (ia_cons (im_fld (im_var 0 rfl (by walk_at "vis")) (T.fld_by_name)) ia_nil) (ok_list true rfl) (by rfl) T.bl.list (by decide +kernel))) ib_nil)
theorem ok_Net_names (T : Wd K mg) {ps : List Str} (h : FnOk P w K mg base (L2N.CX P w) 1 f fd ps (spM K m_Net_names_vc)) : FnOk P w K mg base (L2N.CX P w) 1 f fd ps (spM K m_Net_names) := fn_frz h
set_option maxHeartbeats 8000000 in
theorem ok_Post_hears (T : Wd K mg) (F : FunD K "hears" "Post.hears" (defArgs s_Post_hears) (defBody s_Post_hears) (defScope s_Post_hears) [] [] f fd) :
    FnOk P w K mg base (L2N.CX P w) 1 f fd ["self"] (spM K m_Post_hears) :=
 by
 rw [me_Post_hears]
 exact fn_M (keep := 0) F sc_Post_hears fun cdv A outer s H E hr => by
  have pown : PO (cxOf (L2N.CX P w) P w K mg base N_Post_hears "Post.hears" (defScope s_Post_hears) f cdv A outer s H E) := passes_of rfl
  have nd := sc_Post_hears.nd
  exact (ib_cons (is_ret im_bl) ib_nil)
set_option maxHeartbeats 8000000 in
theorem ok_House_hears (T : Wd K mg) (F : FunD K "hears" "House.hears" (defArgs s_House_hears) (defBody s_House_hears) (defScope s_House_hears) [] [] f fd) :
    FnOk P w K mg base (L2N.CX P w) 1 f fd ["self"] (spM K m_House_hears) :=
 by
 rw [me_House_hears]
 exact fn_M (keep := 0) F sc_House_hears fun cdv A outer s H E hr => by
  have pown : PO (cxOf (L2N.CX P w) P w K mg base N_House_hears "House.hears" (defScope s_House_hears) f cdv A outer s H E) := passes_of rfl
  have nd := sc_House_hears.nd
  exact (ib_cons (is_ret im_bl) ib_nil)
set_option maxHeartbeats 8000000 in
theorem ok__law_is (T : Wd K mg) (gm_Post_kind : Gm P w K mg base (He.ga K "Post") "kind" 1 [] (spM K m_Post_kind)) (gm_House_kind : Gm P w K mg base (He.ga K "House") "kind" 1 [] (spM K m_House_kind)) (gm_Listener_kind : Gm P w K mg base (He.ga K "Listener") "kind" 1 [] (spM K m_Listener_kind)) (gm_Post_reads : Gm P w K mg base (He.ga K "Post") "reads" 1 [] (spM K m_Post_reads)) (gm_House_reads : Gm P w K mg base (He.ga K "House") "reads" 1 [] (spM K m_Post_reads)) (gm_Listener_reads : Gm P w K mg base (He.ga K "Listener") "reads" 1 [] (spM K m_Listener_reads)) (gm_Post_hears : Gm P w K mg base (He.ga K "Post") "hears" 1 [] (spM K m_Post_hears)) (gm_House_hears : Gm P w K mg base (He.ga K "House") "hears" 1 [] (spM K m_House_hears)) (gm_Listener_hears : Gm P w K mg base (He.ga K "Listener") "hears" 1 [] (spM K m_Post_hears)) (F : FunD K "_law_is" "_law_is" (defArgs s__law_is) (defBody s__law_is) (defScope s__law_is) [] [] f fd) :
    FnOk P w K mg base (L2N.CX P w) 2 f fd ["_law_one", "_law_name_here", "_law_kind"] (spM K m__law_is) :=
 by
 rw [me__law_is]
 exact fn_M (keep := 0) F sc__law_is fun cdv A outer s H E hr => by
  have pown : PO (cxOf (L2N.CX P w) P w K mg base N__law_is "_law_is" (defScope s__law_is) f cdv A outer s H E) := passes_of rfl
  have nd := sc__law_is.nd
  have hu64 : (cxOf (L2N.CX P w) P w K mg base N__law_is "_law_is" (defScope s__law_is) f cdv A outer s H E).A.units + 64 < cLine := hr.u64
  have hr1 : Room 1 (cxOf (L2N.CX P w) P w K mg base N__law_is "_law_is" (defScope s__law_is) f cdv A outer s H E).A := hr.mono (by decide)
  exact (ib_cons (is_asg 3 (im_lst (ia_cons (im_blt (ia_cons (im_var 0 rfl (by walk_at "vis")) (ia_cons (im_cls (by rfl) T.g_Post) ia_nil)) (ok_isI T.isI) (by rfl) T.bl.isinstance PyProof.Rows.boot_isinstance) (ia_cons (im_blt (ia_cons (im_var 0 rfl (by walk_at "vis")) (ia_cons (im_cls (by rfl) T.g_House) ia_nil)) (ok_isI T.isI) (by rfl) T.bl.isinstance PyProof.Rows.boot_isinstance) (ia_cons (im_blt (ia_cons (im_var 0 rfl (by walk_at "vis")) (ia_cons (im_cls (by rfl) T.g_Listener) ia_nil)) (ok_isI T.isI) (by rfl) T.bl.isinstance PyProof.Rows.boot_isinstance) ia_nil)))) nd rfl (by walk_at "loc")) (ib_cons (is_if (ImW.it (iw_or (it_cmp (im_var 3 rfl (by walk_at "vis")) (im_lst (ia_cons im_bl (ia_cons (im_cmp (im_var 2 rfl (by walk_at "vis")) im_str (ok_eq hu64)) (ia_cons (im_cmp (im_var 2 rfl (by walk_at "vis")) im_str (ok_eq hu64)) ia_nil)))) (ok_ne hu64)) (iw_or (it_cmp (im_fld (im_var 0 rfl (by walk_at "vis")) (T.fld_name)) (im_var 1 rfl (by walk_at "vis")) (ok_ne hu64)) (iw_or1 (it_cmp (im_meth0 (k := 1) (MOk.cons (gm_Post_kind.mono (by decide)) (MOk.cons (gm_House_kind.mono (by decide)) (MOk.cons (gm_Listener_kind.mono (by decide)) MOk.nil))) (im_var 0 rfl (by walk_at "vis")) hr1) (im_var 2 rfl (by walk_at "vis")) (ok_ne hu64)))))) (ib_cons (is_ret im_bl) ib_nil) ib_nil) (ib_cons (is_for (ii_list (im_lst (ia_cons (im_tup (ia_cons (im_meth0 (k := 1) (MOk.cons (gm_Post_reads.mono (by decide)) (MOk.cons (gm_House_reads.mono (by decide)) (MOk.cons (gm_Listener_reads.mono (by decide)) MOk.nil))) (im_var 0 rfl (by walk_at "vis")) hr1) (ia_cons (im_cmp (im_var 2 rfl (by walk_at "vis")) im_str (ok_eq hu64)) ia_nil))) (ia_cons (im_tup (ia_cons (im_meth0 (k := 1) (MOk.cons (gm_Post_hears.mono (by decide)) (MOk.cons (gm_House_hears.mono (by decide)) (MOk.cons (gm_Listener_hears.mono (by decide)) MOk.nil))) (im_var 0 rfl (by walk_at "vis")) hr1) (ia_cons (im_cmp (im_var 2 rfl (by walk_at "vis")) im_str (ok_ne hu64)) ia_nil))) ia_nil)))) (ig_tup rfl (igs_cons (ig_name 4 nd rfl (by walk_at "loc")) (igs_cons (ig_name 5 nd rfl (by walk_at "loc")) igs_nil))) (ib_cons (is_if (ImW.it (iw_or (it_not (it_val (im_blt (ia_cons (im_var 4 rfl (by walk_at "vis")) (ia_cons (im_ty (by rfl) T.bl.bool (by exact rfl)) ia_nil)) ok_isB (by rfl) T.bl.isinstance PyProof.Rows.boot_isinstance))) (iw_or1 (it_cmp (im_var 4 rfl (by walk_at "vis")) (im_var 5 rfl (by walk_at "vis")) (ok_ne hu64))))) (ib_cons (is_ret im_bl) ib_nil) ib_nil) ib_nil) rfl pown) (ib_cons (is_ret im_bl) ib_nil))))
theorem ok_Net_posts (T : Wd K mg) {ps : List Str} (h : FnOk P w K mg base (L2N.CX P w) 1 f fd ps (spM K m_Net_posts_vc)) : FnOk P w K mg base (L2N.CX P w) 1 f fd ps (spM K m_Net_posts) := fn_frz h
set_option maxHeartbeats 8000000 in
theorem ok__law_stands (T : Wd K mg) (gm_Net_posts_c : Gm P w K mg base (He.ga K "Net") "posts" 1 [] (spM K m_Net_posts_vc)) (gm_Net_names : Gm P w K mg base (He.ga K "Net") "names" 1 [] (spM K m_Net_names)) (g__law_is : Gf P w K mg base "_law_is" 2 [] (spM K m__law_is)) (gm_Net_listeners : Gm P w K mg base (He.ga K "Net") "listeners" 2 [] (spM K m_Net_listeners)) (gm_Net_names_c : Gm P w K mg base (He.ga K "Net") "names" 1 [] (spM K m_Net_names_vc)) (gm_Net_listeners_c : Gm P w K mg base (He.ga K "Net") "listeners" 2 [] (spM K m_Net_listeners_vc)) (gm_Net_home : Gm P w K mg base (He.ga K "Net") "home" 2 [] (spM K m_Net_home)) (gm_Net_posts : Gm P w K mg base (He.ga K "Net") "posts" 1 [] (spM K m_Net_posts)) (F : FunD K "_law_stands" "_law_stands" (defArgs s__law_stands) (defBody s__law_stands) (defScope s__law_stands) [] [] f fd) :
    FnOk P w K mg base (L2N.CX P w) 3 f fd ["_law_net", "_law_kinds"] (spM K m__law_stands) :=
 by
 rw [me__law_stands]
 exact fn_M (keep := 0) F sc__law_stands fun cdv A outer s H E hr => by
  have pown : PO (cxOf (L2N.CX P w) P w K mg base N__law_stands "_law_stands" (defScope s__law_stands) f cdv A outer s H E) := passes_of rfl
  have nd := sc__law_stands.nd
  have hu64 : (cxOf (L2N.CX P w) P w K mg base N__law_stands "_law_stands" (defScope s__law_stands) f cdv A outer s H E).A.units + 64 < cLine := hr.u64
  have hu1 : (cxOf (L2N.CX P w) P w K mg base N__law_stands "_law_stands" (defScope s__law_stands) f cdv A outer s H E).A.units + 1 < cLine := hr.u1
  have hr1 : Room 1 (cxOf (L2N.CX P w) P w K mg base N__law_stands "_law_stands" (defScope s__law_stands) f cdv A outer s H E).A := hr.mono (by decide)
  have hr2 : Room 2 (cxOf (L2N.CX P w) P w K mg base N__law_stands "_law_stands" (defScope s__law_stands) f cdv A outer s H E).A := hr.mono (by decide)
  unfold b__law_stands
  rw [te__law_stands_3]
  unfold tb__law_stands_3
  exact (ib_cons (is_asg 2 (im_meth0 (k := 1) (MOk.cons (gm_Net_posts_c.mono (by decide)) MOk.nil) (im_var 0 rfl (by walk_at "vis")) hr1) nd rfl (by walk_at "loc")) (ib_cons (is_if (ImW.it (iw_or (it_not (it_val (im_blt (ia_cons (im_var 2 rfl (by walk_at "vis")) (ia_cons (im_ty (by rfl) T.bl.list (by exact rfl)) ia_nil)) ok_isB (by rfl) T.bl.isinstance PyProof.Rows.boot_isinstance))) (iw_or (it_cmp (im_blt (ia_cons (im_var 2 rfl (by walk_at "vis")) ia_nil) ok_len (by rfl) T.bl.len boot_len) (im_blt (ia_cons (im_var 1 rfl (by walk_at "vis")) ia_nil) ok_len (by rfl) T.bl.len boot_len) (ok_ne hu64)) (iw_or1 (it_cmp (im_meth0 (k := 1) (MOk.cons (gm_Net_names.mono (by decide)) MOk.nil) (im_var 0 rfl (by walk_at "vis")) hr1) (im_bty (ia_cons (im_var 1 rfl (by walk_at "vis")) ia_nil) (ok_list false rfl) (by rfl) T.bl.list (by decide +kernel)) (ok_ne hu64)))))) (ib_cons (is_ret im_bl) ib_nil) ib_nil) (ib_cons (is_forZ (im_var 2 rfl (by walk_at "vis")) (im_var 1 rfl (by walk_at "vis")) (ig_tup rfl (igs_cons (ig_name 3 nd rfl (by walk_at "loc")) (igs_cons (ig_name 4 nd rfl (by walk_at "loc")) igs_nil))) (ib_cons (is_if (it_not (it_val (im_call g__law_is (ia_cons (im_var 3 rfl (by walk_at "vis")) (ia_cons (im_var 4 rfl (by walk_at "vis")) (ia_cons (im_ix (im_var 1 rfl (by walk_at "vis")) (im_var 4 rfl (by walk_at "vis")) hu1) ia_nil))) hr2 (by rfl)))) (ib_cons (is_ret im_bl) ib_nil) ib_nil) ib_nil) (by rfl) T.bl.zip rfl pown) (ib_cons (is_if (it_cmp (im_meth0 (k := 2) (MOk.cons (gm_Net_listeners.mono (by decide)) MOk.nil) (im_var 0 rfl (by walk_at "vis")) hr2) (im_lcD .k [("_law_name_here", 4)] false (im_var 1 rfl (by walk_at "vis")) (fun _ h => pi_dk h) (fun _ _ _ _ _ => (ig_name 4 nd rfl (by walk_at "loc"))) (fun _ _ _ _ _ => (its_one (it_cmp (im_ix (im_var 1 rfl (by walk_at "vis")) (im_var 4 rfl (by walk_at "vis")) hu1) im_str (ok_eq hu64)))) (fun _ _ _ _ _ => (im_var 4 rfl (by walk_at "vis"))) rfl nd (blkOk_by (N := (["_law_net", "_law_kinds", "_law_posts", "_law_one", "_law_name_here", "_law_homes"] : List Str)) (sc := defScope s__law_stands) (by decide +kernel))) (ok_ne hu64)) (ib_cons (is_ret im_bl) ib_nil) ib_nil) (ib_cons (is_asg 5 (im_bin (im_lcD .k [("_law_name_here", 4)] false (im_var 1 rfl (by walk_at "vis")) (fun _ h => pi_dk h) (fun _ _ _ _ _ => (ig_name 4 nd rfl (by walk_at "loc"))) (fun _ _ _ _ _ => (its_one (it_cmp (im_ix (im_var 1 rfl (by walk_at "vis")) (im_var 4 rfl (by walk_at "vis")) hu1) im_str (ok_eq hu64)))) (fun _ _ _ _ _ => (im_var 4 rfl (by walk_at "vis"))) rfl nd (blkOk_by (N := (["_law_net", "_law_kinds", "_law_posts", "_law_one", "_law_name_here", "_law_homes"] : List Str)) (sc := defScope s__law_stands) (by decide +kernel))) (im_lst (ia_cons im_non ia_nil)) ok_add) nd rfl (by walk_at "loc")) (ib_cons (is_exp (im_bm0 (T := "list") PySem.F.plainAttrs_list PySem.F.slot_list_clear PySem.F.type_list_clear ok_clear (im_var 2 rfl (by walk_at "vis")) (fun R hR => pe_bm0 PySem.F.plainAttrs_list PySem.F.slot_list_clear PySem.F.type_list_clear hR wE_ok))) (ib_cons (is_exp (im_bm PySem.F.plainAttrs_list PySem.F.slot_list_append PySem.F.type_list_append ok_append (im_meth0 (k := 1) (MOk.cons (gm_Net_names_c.mono (by decide)) MOk.nil) (im_var 0 rfl (by walk_at "vis")) hr1) (ia_cons im_str ia_nil))) (ib_cons (is_exp (im_bm PySem.F.plainAttrs_list PySem.F.slot_list_append PySem.F.type_list_append ok_append (im_meth0 (k := 2) (MOk.cons (gm_Net_listeners_c.mono (by decide)) MOk.nil) (im_var 0 rfl (by walk_at "vis")) hr2) (ia_cons im_str ia_nil))) (ib_cons (is_ret (im_and (im_cmp (im_meth0 (k := 2) (MOk.cons (gm_Net_home.mono (by decide)) MOk.nil) (im_var 0 rfl (by walk_at "vis")) hr2) (im_ix (im_var 5 rfl (by walk_at "vis")) im_int hu1) (ok_eq hu64)) (im_and (im_cmp (im_blt (ia_cons (im_meth0 (k := 1) (MOk.cons (gm_Net_posts.mono (by decide)) MOk.nil) (im_var 0 rfl (by walk_at "vis")) hr1) ia_nil) ok_len (by rfl) T.bl.len boot_len) (im_blt (ia_cons (im_var 1 rfl (by walk_at "vis")) ia_nil) ok_len (by rfl) T.bl.len boot_len) (ok_eq hu64)) (im_one (im_cmp (im_meth0 (k := 1) (MOk.cons (gm_Net_names.mono (by decide)) MOk.nil) (im_var 0 rfl (by walk_at "vis")) hr1) (im_bty (ia_cons (im_var 1 rfl (by walk_at "vis")) ia_nil) (ok_list false rfl) (by rfl) T.bl.list (by decide +kernel)) (ok_eq hu64)))))) ib_nil)))))))))
set_option maxHeartbeats 8000000 in
theorem ok_Net_ties_vc (T : Wd K mg) (F : FunD K "ties" "Net.ties" (defArgs s_Net_ties) (defBody s_Net_ties) (defScope s_Net_ties) [] [] f fd) :
    FnOk P w K mg base (L2N.CX P w) 1 f fd ["self"] (spM K m_Net_ties_vc) :=
 by
 rw [me_Net_ties_vc]
 exact fn_MT (tk := .l1) F sc_Net_ties fun cdv A outer s H E hr => by
  have pown : PO (cxOf (L2N.CX P w) P w K mg base N_Net_ties "Net.ties" (defScope s_Net_ties) f cdv A outer s H E) := passes_of rfl
  have nd := sc_Net_ties.nd
  have hu1 : (cxOf (L2N.CX P w) P w K mg base N_Net_ties "Net.ties" (defScope s_Net_ties) f cdv A outer s H E).A.units + 1 < cLine := hr.u1
  exact (ib_cons (is_ret (im_lc [("number", 1)] true (ii_list (im_blt (ia_cons (im_fld (im_var 0 rfl (by walk_at "vis")) (T.fld_by_number)) ia_nil) (ok_sorted false rfl) (by rfl) T.bl.sorted (by decide +kernel))) (fun _ _ _ _ _ => (ig_name 1 nd rfl (by walk_at "loc"))) (fun _ _ _ _ _ => its_nil) (fun _ _ _ _ _ => (im_ix (im_fld (im_var 0 rfl (by walk_at "vis")) (T.fld_by_number)) (im_var 1 rfl (by walk_at "vis")) hu1)) rfl nd (blkOk_by (N := (["self", "number"] : List Str)) (sc := defScope s_Net_ties) (by decide +kernel)))) ib_nil)
theorem ok_Net_ties (T : Wd K mg) {ps : List Str} (h : FnOk P w K mg base (L2N.CX P w) 1 f fd ps (spM K m_Net_ties_vc)) : FnOk P w K mg base (L2N.CX P w) 1 f fd ps (spM K m_Net_ties) := fn_frz h
set_option maxHeartbeats 8000000 in
theorem ok_law (T : Wd K mg) (g__law_cell_at : Gf P w K mg base "_law_cell_at" 1 [] (spM K m__law_cell_at)) (gc_Net : Gc P w K mg base "Net" 1 [] (spM K m_Net__init_)) (g__law_name : Gf P w K mg base "_law_name" 2 [] (spM K m__law_name)) (g__law_mixed : Gf P w K mg base "_law_mixed" 1 [] (spM K m__law_mixed)) (g__law_due : Gf P w K mg base "_law_due" 1 [] (spM K m__law_due)) (g__law_put : Gf P w K mg base "_law_put" 5 [] (spM K m__law_put)) (g__law_stands : Gf P w K mg base "_law_stands" 3 [] (spM K m__law_stands)) (gm_Net_ties : Gm P w K mg base (He.ga K "Net") "ties" 1 [] (spM K m_Net_ties)) (gm_Net_home : Gm P w K mg base (He.ga K "Net") "home" 2 [] (spM K m_Net_home)) (F : FunD K "law" "law" (defArgs s_law) (defBody s_law) (defScope s_law) [] [] f fd) :
    FnOk P w K mg base (L2N.CX P w) 6 f fd ["_law_script"] (spM K m_law) :=
 by
 rw [me_law]
 exact fn_M (keep := 0) F sc_law fun cdv A outer s H E hr => by
  have pown : PO (cxOf (L2N.CX P w) P w K mg base N_law "law" (defScope s_law) f cdv A outer s H E) := passes_of rfl
  have nd := sc_law.nd
  have hu64 : (cxOf (L2N.CX P w) P w K mg base N_law "law" (defScope s_law) f cdv A outer s H E).A.units + 64 < cLine := hr.u64
  have hu1 : (cxOf (L2N.CX P w) P w K mg base N_law "law" (defScope s_law) f cdv A outer s H E).A.units + 1 < cLine := hr.u1
  have hr1 : Room 1 (cxOf (L2N.CX P w) P w K mg base N_law "law" (defScope s_law) f cdv A outer s H E).A := hr.mono (by decide)
  have hr2 : Room 2 (cxOf (L2N.CX P w) P w K mg base N_law "law" (defScope s_law) f cdv A outer s H E).A := hr.mono (by decide)
  have hr3 : Room 3 (cxOf (L2N.CX P w) P w K mg base N_law "law" (defScope s_law) f cdv A outer s H E).A := hr.mono (by decide)
  have hr5 : Room 5 (cxOf (L2N.CX P w) P w K mg base N_law "law" (defScope s_law) f cdv A outer s H E).A := hr.mono (by decide)
  exact (ib_cons (is_asg 1 (im_call g__law_cell_at (ia_cons (im_var 0 rfl (by walk_at "vis")) (ia_cons im_int ia_nil)) hr1 (by rfl)) nd rfl (by walk_at "loc")) (ib_cons (is_asg 2 (im_make0 gc_Net hr2 (by rfl)) nd rfl (by walk_at "loc")) (ib_cons (is_asg 3 im_dict nd rfl (by walk_at "loc")) (ib_cons (is_for (ii_list (im_cut false (im_var 0 rfl (by walk_at "vis")) (ip_some im_int) (ip_some im_int))) (ig_name 4 nd rfl (by walk_at "loc")) (ib_cons (is_asg 5 (im_call g__law_name (ia_cons (im_var 1 rfl (by walk_at "vis")) (ia_cons (im_var 4 rfl (by walk_at "vis")) ia_nil)) hr2 (by rfl)) nd rfl (by walk_at "loc")) (ib_cons (is_asg 6 (im_ix (im_lst (ia_cons im_str (ia_cons im_str (ia_cons im_str (ia_cons im_str (ia_cons im_str ia_nil)))))) (im_bin (im_call g__law_mixed (ia_cons (im_var 4 rfl (by walk_at "vis")) (ia_cons im_int ia_nil)) hr1 (by rfl)) (im_bin im_int (im_bin (im_bin (im_var 1 rfl (by walk_at "vis")) im_int ok_div) im_int ok_mod) ok_add) ok_mod) hu1) nd rfl (by walk_at "loc")) (ib_cons (is_if (ImW.it (iw_and (it_cmp (im_bin (im_var 1 rfl (by walk_at "vis")) im_int ok_mod) im_int (ok_eq hu64)) (iw_and1 (it_cmp (im_bin (im_call g__law_mixed (ia_cons (im_var 4 rfl (by walk_at "vis")) (ia_cons im_int ia_nil)) hr1 (by rfl)) im_int ok_mod) im_int ok_gt)))) (ib_cons (is_asg 6 im_str nd rfl (by walk_at "loc")) ib_nil) ib_nil) (ib_cons (is_asg 7 (im_call g__law_due (ia_cons (im_var 3 rfl (by walk_at "vis")) (ia_cons (im_var 5 rfl (by walk_at "vis")) (ia_cons (im_var 6 rfl (by walk_at "vis")) ia_nil))) hr1 (by rfl)) nd rfl (by walk_at "loc")) (ib_cons (is_if (it_cmp (im_call g__law_put (ia_cons (im_var 2 rfl (by walk_at "vis")) (ia_cons (im_var 5 rfl (by walk_at "vis")) (ia_cons (im_var 6 rfl (by walk_at "vis")) ia_nil))) hr5 (by rfl)) (im_var 7 rfl (by walk_at "vis")) (ok_ne hu64)) (ib_cons (is_ret im_bl) ib_nil) ib_nil) (ib_cons (is_if (it_cmp (im_var 7 rfl (by walk_at "vis")) im_str (ok_eq hu64)) (ib_cons (is_put (im_var 6 rfl (by walk_at "vis")) (im_var 3 rfl (by walk_at "vis")) (im_var 5 rfl (by walk_at "vis")) hu1) ib_nil) ib_nil) (ib_cons (is_if (it_not (it_val (im_call g__law_stands (ia_cons (im_var 2 rfl (by walk_at "vis")) (ia_cons (im_var 3 rfl (by walk_at "vis")) ia_nil)) hr3 (by rfl)))) (ib_cons (is_ret im_bl) ib_nil) ib_nil) ib_nil))))))) rfl pown) (ib_cons (is_ret (im_and (im_cmp (im_meth0 (k := 1) (MOk.cons (gm_Net_ties.mono (by decide)) MOk.nil) (im_var 2 rfl (by walk_at "vis")) hr1) (im_lst ia_nil) (ok_eq hu64)) (im_one (im_cmp (im_meth0 (k := 2) (MOk.cons (gm_Net_home.mono (by decide)) MOk.nil) (im_make0 gc_Net hr2 (by rfl)) hr2) im_non ok_is)))) ib_nil)))))
end
/-! ### the top -/
theorem exb_0 {K : PySem.W.Frag} (h : exb K = true) : (insB K (He.ga K "Post")) = true := (Bool.and_eq_true_iff.mp h).1
theorem exb_1 {K : PySem.W.Frag} (h : exb K = true) : (decide (PySem.W.kitOne K (.ref (He.ga K "Post")) (.ref (He.ga K "Post")) = some true)) = true := (Bool.and_eq_true_iff.mp (Bool.and_eq_true_iff.mp h).2).1
theorem exb_2 {K : PySem.W.Frag} (h : exb K = true) : (insB K (He.ga K "House")) = true := (Bool.and_eq_true_iff.mp (Bool.and_eq_true_iff.mp (Bool.and_eq_true_iff.mp h).2).2).1
theorem exb_3 {K : PySem.W.Frag} (h : exb K = true) : (decide (PySem.W.kitOne K (.ref (He.ga K "House")) (.ref (He.ga K "Post")) = some true)) = true := (Bool.and_eq_true_iff.mp (Bool.and_eq_true_iff.mp (Bool.and_eq_true_iff.mp (Bool.and_eq_true_iff.mp h).2).2).2).1
theorem exb_4 {K : PySem.W.Frag} (h : exb K = true) : (insB K (He.ga K "Listener")) = true := (Bool.and_eq_true_iff.mp (Bool.and_eq_true_iff.mp (Bool.and_eq_true_iff.mp (Bool.and_eq_true_iff.mp (Bool.and_eq_true_iff.mp h).2).2).2).2).1
theorem exb_5 {K : PySem.W.Frag} (h : exb K = true) : (decide (PySem.W.kitOne K (.ref (He.ga K "Listener")) (.ref (He.ga K "Post")) = some true)) = true := (Bool.and_eq_true_iff.mp (Bool.and_eq_true_iff.mp (Bool.and_eq_true_iff.mp (Bool.and_eq_true_iff.mp (Bool.and_eq_true_iff.mp (Bool.and_eq_true_iff.mp h).2).2).2).2).2).1
theorem exb_6 {K : PySem.W.Frag} (h : exb K = true) : (decide (PySem.W.kitOne K (.ref (He.ga K "Post")) (.ref (He.ga K "House")) = some false)) = true := (Bool.and_eq_true_iff.mp (Bool.and_eq_true_iff.mp (Bool.and_eq_true_iff.mp (Bool.and_eq_true_iff.mp (Bool.and_eq_true_iff.mp (Bool.and_eq_true_iff.mp (Bool.and_eq_true_iff.mp h).2).2).2).2).2).2).1
theorem exb_7 {K : PySem.W.Frag} (h : exb K = true) : (decide (PySem.W.kitOne K (.ref (He.ga K "House")) (.ref (He.ga K "House")) = some true)) = true := (Bool.and_eq_true_iff.mp (Bool.and_eq_true_iff.mp (Bool.and_eq_true_iff.mp (Bool.and_eq_true_iff.mp (Bool.and_eq_true_iff.mp (Bool.and_eq_true_iff.mp (Bool.and_eq_true_iff.mp (Bool.and_eq_true_iff.mp h).2).2).2).2).2).2).2).1
theorem exb_8 {K : PySem.W.Frag} (h : exb K = true) : (decide (PySem.W.kitOne K (.ref (He.ga K "Listener")) (.ref (He.ga K "House")) = some false)) = true := (Bool.and_eq_true_iff.mp (Bool.and_eq_true_iff.mp (Bool.and_eq_true_iff.mp (Bool.and_eq_true_iff.mp (Bool.and_eq_true_iff.mp (Bool.and_eq_true_iff.mp (Bool.and_eq_true_iff.mp (Bool.and_eq_true_iff.mp (Bool.and_eq_true_iff.mp h).2).2).2).2).2).2).2).2).1
theorem exb_9 {K : PySem.W.Frag} (h : exb K = true) : (decide (PySem.W.kitOne K (.ref (He.ga K "Post")) (.ref (He.ga K "Listener")) = some false)) = true := (Bool.and_eq_true_iff.mp (Bool.and_eq_true_iff.mp (Bool.and_eq_true_iff.mp (Bool.and_eq_true_iff.mp (Bool.and_eq_true_iff.mp (Bool.and_eq_true_iff.mp (Bool.and_eq_true_iff.mp (Bool.and_eq_true_iff.mp (Bool.and_eq_true_iff.mp (Bool.and_eq_true_iff.mp h).2).2).2).2).2).2).2).2).2).1
theorem exb_10 {K : PySem.W.Frag} (h : exb K = true) : (decide (PySem.W.kitOne K (.ref (He.ga K "House")) (.ref (He.ga K "Listener")) = some false)) = true := (Bool.and_eq_true_iff.mp (Bool.and_eq_true_iff.mp (Bool.and_eq_true_iff.mp (Bool.and_eq_true_iff.mp (Bool.and_eq_true_iff.mp (Bool.and_eq_true_iff.mp (Bool.and_eq_true_iff.mp (Bool.and_eq_true_iff.mp (Bool.and_eq_true_iff.mp (Bool.and_eq_true_iff.mp (Bool.and_eq_true_iff.mp h).2).2).2).2).2).2).2).2).2).2).1
theorem exb_11 {K : PySem.W.Frag} (h : exb K = true) : (decide (PySem.W.kitOne K (.ref (He.ga K "Listener")) (.ref (He.ga K "Listener")) = some true)) = true := (Bool.and_eq_true_iff.mp (Bool.and_eq_true_iff.mp (Bool.and_eq_true_iff.mp (Bool.and_eq_true_iff.mp (Bool.and_eq_true_iff.mp (Bool.and_eq_true_iff.mp (Bool.and_eq_true_iff.mp (Bool.and_eq_true_iff.mp (Bool.and_eq_true_iff.mp (Bool.and_eq_true_iff.mp (Bool.and_eq_true_iff.mp (Bool.and_eq_true_iff.mp h).2).2).2).2).2).2).2).2).2).2).2).1
theorem exb_12 {K : PySem.W.Frag} (h : exb K = true) : (excB K (He.ga K "NoName")) = true := (Bool.and_eq_true_iff.mp (Bool.and_eq_true_iff.mp (Bool.and_eq_true_iff.mp (Bool.and_eq_true_iff.mp (Bool.and_eq_true_iff.mp (Bool.and_eq_true_iff.mp (Bool.and_eq_true_iff.mp (Bool.and_eq_true_iff.mp (Bool.and_eq_true_iff.mp (Bool.and_eq_true_iff.mp (Bool.and_eq_true_iff.mp (Bool.and_eq_true_iff.mp (Bool.and_eq_true_iff.mp h).2).2).2).2).2).2).2).2).2).2).2).2).1
theorem exb_13 {K : PySem.W.Frag} (h : exb K = true) : (decide (PySem.W.kitOne K (.ref (He.ga K "NoName")) (.ref (He.ga K "NoName")) = some true)) = true := (Bool.and_eq_true_iff.mp (Bool.and_eq_true_iff.mp (Bool.and_eq_true_iff.mp (Bool.and_eq_true_iff.mp (Bool.and_eq_true_iff.mp (Bool.and_eq_true_iff.mp (Bool.and_eq_true_iff.mp (Bool.and_eq_true_iff.mp (Bool.and_eq_true_iff.mp (Bool.and_eq_true_iff.mp (Bool.and_eq_true_iff.mp (Bool.and_eq_true_iff.mp (Bool.and_eq_true_iff.mp (Bool.and_eq_true_iff.mp h).2).2).2).2).2).2).2).2).2).2).2).2).2).1
theorem exb_14 {K : PySem.W.Frag} (h : exb K = true) : (excB K (He.ga K "Taken")) = true := (Bool.and_eq_true_iff.mp (Bool.and_eq_true_iff.mp (Bool.and_eq_true_iff.mp (Bool.and_eq_true_iff.mp (Bool.and_eq_true_iff.mp (Bool.and_eq_true_iff.mp (Bool.and_eq_true_iff.mp (Bool.and_eq_true_iff.mp (Bool.and_eq_true_iff.mp (Bool.and_eq_true_iff.mp (Bool.and_eq_true_iff.mp (Bool.and_eq_true_iff.mp (Bool.and_eq_true_iff.mp (Bool.and_eq_true_iff.mp (Bool.and_eq_true_iff.mp h).2).2).2).2).2).2).2).2).2).2).2).2).2).2).1
theorem exb_15 {K : PySem.W.Frag} (h : exb K = true) : (decide (PySem.W.kitOne K (.ref (He.ga K "Taken")) (.ref (He.ga K "NoName")) = some false)) = true := (Bool.and_eq_true_iff.mp (Bool.and_eq_true_iff.mp (Bool.and_eq_true_iff.mp (Bool.and_eq_true_iff.mp (Bool.and_eq_true_iff.mp (Bool.and_eq_true_iff.mp (Bool.and_eq_true_iff.mp (Bool.and_eq_true_iff.mp (Bool.and_eq_true_iff.mp (Bool.and_eq_true_iff.mp (Bool.and_eq_true_iff.mp (Bool.and_eq_true_iff.mp (Bool.and_eq_true_iff.mp (Bool.and_eq_true_iff.mp (Bool.and_eq_true_iff.mp (Bool.and_eq_true_iff.mp h).2).2).2).2).2).2).2).2).2).2).2).2).2).2).2).1
theorem exb_16 {K : PySem.W.Frag} (h : exb K = true) : (excB K (He.ga K "OneHouse")) = true := (Bool.and_eq_true_iff.mp (Bool.and_eq_true_iff.mp (Bool.and_eq_true_iff.mp (Bool.and_eq_true_iff.mp (Bool.and_eq_true_iff.mp (Bool.and_eq_true_iff.mp (Bool.and_eq_true_iff.mp (Bool.and_eq_true_iff.mp (Bool.and_eq_true_iff.mp (Bool.and_eq_true_iff.mp (Bool.and_eq_true_iff.mp (Bool.and_eq_true_iff.mp (Bool.and_eq_true_iff.mp (Bool.and_eq_true_iff.mp (Bool.and_eq_true_iff.mp (Bool.and_eq_true_iff.mp (Bool.and_eq_true_iff.mp h).2).2).2).2).2).2).2).2).2).2).2).2).2).2).2).2).1
theorem exb_17 {K : PySem.W.Frag} (h : exb K = true) : (decide (PySem.W.kitOne K (.ref (He.ga K "OneHouse")) (.ref (He.ga K "NoName")) = some false)) = true := (Bool.and_eq_true_iff.mp (Bool.and_eq_true_iff.mp (Bool.and_eq_true_iff.mp (Bool.and_eq_true_iff.mp (Bool.and_eq_true_iff.mp (Bool.and_eq_true_iff.mp (Bool.and_eq_true_iff.mp (Bool.and_eq_true_iff.mp (Bool.and_eq_true_iff.mp (Bool.and_eq_true_iff.mp (Bool.and_eq_true_iff.mp (Bool.and_eq_true_iff.mp (Bool.and_eq_true_iff.mp (Bool.and_eq_true_iff.mp (Bool.and_eq_true_iff.mp (Bool.and_eq_true_iff.mp (Bool.and_eq_true_iff.mp (Bool.and_eq_true_iff.mp h).2).2).2).2).2).2).2).2).2).2).2).2).2).2).2).2).2).1
theorem exb_18 {K : PySem.W.Frag} (h : exb K = true) : (excB K (He.ga K "TooMany")) = true := (Bool.and_eq_true_iff.mp (Bool.and_eq_true_iff.mp (Bool.and_eq_true_iff.mp (Bool.and_eq_true_iff.mp (Bool.and_eq_true_iff.mp (Bool.and_eq_true_iff.mp (Bool.and_eq_true_iff.mp (Bool.and_eq_true_iff.mp (Bool.and_eq_true_iff.mp (Bool.and_eq_true_iff.mp (Bool.and_eq_true_iff.mp (Bool.and_eq_true_iff.mp (Bool.and_eq_true_iff.mp (Bool.and_eq_true_iff.mp (Bool.and_eq_true_iff.mp (Bool.and_eq_true_iff.mp (Bool.and_eq_true_iff.mp (Bool.and_eq_true_iff.mp (Bool.and_eq_true_iff.mp h).2).2).2).2).2).2).2).2).2).2).2).2).2).2).2).2).2).2).1
theorem exb_19 {K : PySem.W.Frag} (h : exb K = true) : (decide (PySem.W.kitOne K (.ref (He.ga K "TooMany")) (.ref (He.ga K "NoName")) = some false)) = true := (Bool.and_eq_true_iff.mp (Bool.and_eq_true_iff.mp (Bool.and_eq_true_iff.mp (Bool.and_eq_true_iff.mp (Bool.and_eq_true_iff.mp (Bool.and_eq_true_iff.mp (Bool.and_eq_true_iff.mp (Bool.and_eq_true_iff.mp (Bool.and_eq_true_iff.mp (Bool.and_eq_true_iff.mp (Bool.and_eq_true_iff.mp (Bool.and_eq_true_iff.mp (Bool.and_eq_true_iff.mp (Bool.and_eq_true_iff.mp (Bool.and_eq_true_iff.mp (Bool.and_eq_true_iff.mp (Bool.and_eq_true_iff.mp (Bool.and_eq_true_iff.mp (Bool.and_eq_true_iff.mp (Bool.and_eq_true_iff.mp h).2).2).2).2).2).2).2).2).2).2).2).2).2).2).2).2).2).2).2).1
theorem exb_20 {K : PySem.W.Frag} (h : exb K = true) : (decide (PySem.W.kitOne K (.ref (He.ga K "NoName")) (.ref (He.ga K "Taken")) = some false)) = true := (Bool.and_eq_true_iff.mp (Bool.and_eq_true_iff.mp (Bool.and_eq_true_iff.mp (Bool.and_eq_true_iff.mp (Bool.and_eq_true_iff.mp (Bool.and_eq_true_iff.mp (Bool.and_eq_true_iff.mp (Bool.and_eq_true_iff.mp (Bool.and_eq_true_iff.mp (Bool.and_eq_true_iff.mp (Bool.and_eq_true_iff.mp (Bool.and_eq_true_iff.mp (Bool.and_eq_true_iff.mp (Bool.and_eq_true_iff.mp (Bool.and_eq_true_iff.mp (Bool.and_eq_true_iff.mp (Bool.and_eq_true_iff.mp (Bool.and_eq_true_iff.mp (Bool.and_eq_true_iff.mp (Bool.and_eq_true_iff.mp (Bool.and_eq_true_iff.mp h).2).2).2).2).2).2).2).2).2).2).2).2).2).2).2).2).2).2).2).2).1
theorem exb_21 {K : PySem.W.Frag} (h : exb K = true) : (decide (PySem.W.kitOne K (.ref (He.ga K "Taken")) (.ref (He.ga K "Taken")) = some true)) = true := (Bool.and_eq_true_iff.mp (Bool.and_eq_true_iff.mp (Bool.and_eq_true_iff.mp (Bool.and_eq_true_iff.mp (Bool.and_eq_true_iff.mp (Bool.and_eq_true_iff.mp (Bool.and_eq_true_iff.mp (Bool.and_eq_true_iff.mp (Bool.and_eq_true_iff.mp (Bool.and_eq_true_iff.mp (Bool.and_eq_true_iff.mp (Bool.and_eq_true_iff.mp (Bool.and_eq_true_iff.mp (Bool.and_eq_true_iff.mp (Bool.and_eq_true_iff.mp (Bool.and_eq_true_iff.mp (Bool.and_eq_true_iff.mp (Bool.and_eq_true_iff.mp (Bool.and_eq_true_iff.mp (Bool.and_eq_true_iff.mp (Bool.and_eq_true_iff.mp (Bool.and_eq_true_iff.mp h).2).2).2).2).2).2).2).2).2).2).2).2).2).2).2).2).2).2).2).2).2).1
theorem exb_22 {K : PySem.W.Frag} (h : exb K = true) : (decide (PySem.W.kitOne K (.ref (He.ga K "OneHouse")) (.ref (He.ga K "Taken")) = some false)) = true := (Bool.and_eq_true_iff.mp (Bool.and_eq_true_iff.mp (Bool.and_eq_true_iff.mp (Bool.and_eq_true_iff.mp (Bool.and_eq_true_iff.mp (Bool.and_eq_true_iff.mp (Bool.and_eq_true_iff.mp (Bool.and_eq_true_iff.mp (Bool.and_eq_true_iff.mp (Bool.and_eq_true_iff.mp (Bool.and_eq_true_iff.mp (Bool.and_eq_true_iff.mp (Bool.and_eq_true_iff.mp (Bool.and_eq_true_iff.mp (Bool.and_eq_true_iff.mp (Bool.and_eq_true_iff.mp (Bool.and_eq_true_iff.mp (Bool.and_eq_true_iff.mp (Bool.and_eq_true_iff.mp (Bool.and_eq_true_iff.mp (Bool.and_eq_true_iff.mp (Bool.and_eq_true_iff.mp (Bool.and_eq_true_iff.mp h).2).2).2).2).2).2).2).2).2).2).2).2).2).2).2).2).2).2).2).2).2).2).1
theorem exb_23 {K : PySem.W.Frag} (h : exb K = true) : (decide (PySem.W.kitOne K (.ref (He.ga K "TooMany")) (.ref (He.ga K "Taken")) = some false)) = true := (Bool.and_eq_true_iff.mp (Bool.and_eq_true_iff.mp (Bool.and_eq_true_iff.mp (Bool.and_eq_true_iff.mp (Bool.and_eq_true_iff.mp (Bool.and_eq_true_iff.mp (Bool.and_eq_true_iff.mp (Bool.and_eq_true_iff.mp (Bool.and_eq_true_iff.mp (Bool.and_eq_true_iff.mp (Bool.and_eq_true_iff.mp (Bool.and_eq_true_iff.mp (Bool.and_eq_true_iff.mp (Bool.and_eq_true_iff.mp (Bool.and_eq_true_iff.mp (Bool.and_eq_true_iff.mp (Bool.and_eq_true_iff.mp (Bool.and_eq_true_iff.mp (Bool.and_eq_true_iff.mp (Bool.and_eq_true_iff.mp (Bool.and_eq_true_iff.mp (Bool.and_eq_true_iff.mp (Bool.and_eq_true_iff.mp (Bool.and_eq_true_iff.mp h).2).2).2).2).2).2).2).2).2).2).2).2).2).2).2).2).2).2).2).2).2).2).2).1
theorem exb_24 {K : PySem.W.Frag} (h : exb K = true) : (decide (PySem.W.kitOne K (.ref (He.ga K "NoName")) (.ref (He.ga K "OneHouse")) = some false)) = true := (Bool.and_eq_true_iff.mp (Bool.and_eq_true_iff.mp (Bool.and_eq_true_iff.mp (Bool.and_eq_true_iff.mp (Bool.and_eq_true_iff.mp (Bool.and_eq_true_iff.mp (Bool.and_eq_true_iff.mp (Bool.and_eq_true_iff.mp (Bool.and_eq_true_iff.mp (Bool.and_eq_true_iff.mp (Bool.and_eq_true_iff.mp (Bool.and_eq_true_iff.mp (Bool.and_eq_true_iff.mp (Bool.and_eq_true_iff.mp (Bool.and_eq_true_iff.mp (Bool.and_eq_true_iff.mp (Bool.and_eq_true_iff.mp (Bool.and_eq_true_iff.mp (Bool.and_eq_true_iff.mp (Bool.and_eq_true_iff.mp (Bool.and_eq_true_iff.mp (Bool.and_eq_true_iff.mp (Bool.and_eq_true_iff.mp (Bool.and_eq_true_iff.mp (Bool.and_eq_true_iff.mp h).2).2).2).2).2).2).2).2).2).2).2).2).2).2).2).2).2).2).2).2).2).2).2).2).1
theorem exb_25 {K : PySem.W.Frag} (h : exb K = true) : (decide (PySem.W.kitOne K (.ref (He.ga K "Taken")) (.ref (He.ga K "OneHouse")) = some false)) = true := (Bool.and_eq_true_iff.mp (Bool.and_eq_true_iff.mp (Bool.and_eq_true_iff.mp (Bool.and_eq_true_iff.mp (Bool.and_eq_true_iff.mp (Bool.and_eq_true_iff.mp (Bool.and_eq_true_iff.mp (Bool.and_eq_true_iff.mp (Bool.and_eq_true_iff.mp (Bool.and_eq_true_iff.mp (Bool.and_eq_true_iff.mp (Bool.and_eq_true_iff.mp (Bool.and_eq_true_iff.mp (Bool.and_eq_true_iff.mp (Bool.and_eq_true_iff.mp (Bool.and_eq_true_iff.mp (Bool.and_eq_true_iff.mp (Bool.and_eq_true_iff.mp (Bool.and_eq_true_iff.mp (Bool.and_eq_true_iff.mp (Bool.and_eq_true_iff.mp (Bool.and_eq_true_iff.mp (Bool.and_eq_true_iff.mp (Bool.and_eq_true_iff.mp (Bool.and_eq_true_iff.mp (Bool.and_eq_true_iff.mp h).2).2).2).2).2).2).2).2).2).2).2).2).2).2).2).2).2).2).2).2).2).2).2).2).2).1
theorem exb_26 {K : PySem.W.Frag} (h : exb K = true) : (decide (PySem.W.kitOne K (.ref (He.ga K "OneHouse")) (.ref (He.ga K "OneHouse")) = some true)) = true := (Bool.and_eq_true_iff.mp (Bool.and_eq_true_iff.mp (Bool.and_eq_true_iff.mp (Bool.and_eq_true_iff.mp (Bool.and_eq_true_iff.mp (Bool.and_eq_true_iff.mp (Bool.and_eq_true_iff.mp (Bool.and_eq_true_iff.mp (Bool.and_eq_true_iff.mp (Bool.and_eq_true_iff.mp (Bool.and_eq_true_iff.mp (Bool.and_eq_true_iff.mp (Bool.and_eq_true_iff.mp (Bool.and_eq_true_iff.mp (Bool.and_eq_true_iff.mp (Bool.and_eq_true_iff.mp (Bool.and_eq_true_iff.mp (Bool.and_eq_true_iff.mp (Bool.and_eq_true_iff.mp (Bool.and_eq_true_iff.mp (Bool.and_eq_true_iff.mp (Bool.and_eq_true_iff.mp (Bool.and_eq_true_iff.mp (Bool.and_eq_true_iff.mp (Bool.and_eq_true_iff.mp (Bool.and_eq_true_iff.mp (Bool.and_eq_true_iff.mp h).2).2).2).2).2).2).2).2).2).2).2).2).2).2).2).2).2).2).2).2).2).2).2).2).2).2).1
theorem exb_27 {K : PySem.W.Frag} (h : exb K = true) : (decide (PySem.W.kitOne K (.ref (He.ga K "TooMany")) (.ref (He.ga K "OneHouse")) = some false)) = true := (Bool.and_eq_true_iff.mp (Bool.and_eq_true_iff.mp (Bool.and_eq_true_iff.mp (Bool.and_eq_true_iff.mp (Bool.and_eq_true_iff.mp (Bool.and_eq_true_iff.mp (Bool.and_eq_true_iff.mp (Bool.and_eq_true_iff.mp (Bool.and_eq_true_iff.mp (Bool.and_eq_true_iff.mp (Bool.and_eq_true_iff.mp (Bool.and_eq_true_iff.mp (Bool.and_eq_true_iff.mp (Bool.and_eq_true_iff.mp (Bool.and_eq_true_iff.mp (Bool.and_eq_true_iff.mp (Bool.and_eq_true_iff.mp (Bool.and_eq_true_iff.mp (Bool.and_eq_true_iff.mp (Bool.and_eq_true_iff.mp (Bool.and_eq_true_iff.mp (Bool.and_eq_true_iff.mp (Bool.and_eq_true_iff.mp (Bool.and_eq_true_iff.mp (Bool.and_eq_true_iff.mp (Bool.and_eq_true_iff.mp (Bool.and_eq_true_iff.mp (Bool.and_eq_true_iff.mp h).2).2).2).2).2).2).2).2).2).2).2).2).2).2).2).2).2).2).2).2).2).2).2).2).2).2).2).1
theorem exb_28 {K : PySem.W.Frag} (h : exb K = true) : (decide (PySem.W.kitOne K (.ref (He.ga K "NoName")) (.ref (He.ga K "TooMany")) = some false)) = true := (Bool.and_eq_true_iff.mp (Bool.and_eq_true_iff.mp (Bool.and_eq_true_iff.mp (Bool.and_eq_true_iff.mp (Bool.and_eq_true_iff.mp (Bool.and_eq_true_iff.mp (Bool.and_eq_true_iff.mp (Bool.and_eq_true_iff.mp (Bool.and_eq_true_iff.mp (Bool.and_eq_true_iff.mp (Bool.and_eq_true_iff.mp (Bool.and_eq_true_iff.mp (Bool.and_eq_true_iff.mp (Bool.and_eq_true_iff.mp (Bool.and_eq_true_iff.mp (Bool.and_eq_true_iff.mp (Bool.and_eq_true_iff.mp (Bool.and_eq_true_iff.mp (Bool.and_eq_true_iff.mp (Bool.and_eq_true_iff.mp (Bool.and_eq_true_iff.mp (Bool.and_eq_true_iff.mp (Bool.and_eq_true_iff.mp (Bool.and_eq_true_iff.mp (Bool.and_eq_true_iff.mp (Bool.and_eq_true_iff.mp (Bool.and_eq_true_iff.mp (Bool.and_eq_true_iff.mp (Bool.and_eq_true_iff.mp h).2).2).2).2).2).2).2).2).2).2).2).2).2).2).2).2).2).2).2).2).2).2).2).2).2).2).2).2).1
theorem exb_29 {K : PySem.W.Frag} (h : exb K = true) : (decide (PySem.W.kitOne K (.ref (He.ga K "Taken")) (.ref (He.ga K "TooMany")) = some false)) = true := (Bool.and_eq_true_iff.mp (Bool.and_eq_true_iff.mp (Bool.and_eq_true_iff.mp (Bool.and_eq_true_iff.mp (Bool.and_eq_true_iff.mp (Bool.and_eq_true_iff.mp (Bool.and_eq_true_iff.mp (Bool.and_eq_true_iff.mp (Bool.and_eq_true_iff.mp (Bool.and_eq_true_iff.mp (Bool.and_eq_true_iff.mp (Bool.and_eq_true_iff.mp (Bool.and_eq_true_iff.mp (Bool.and_eq_true_iff.mp (Bool.and_eq_true_iff.mp (Bool.and_eq_true_iff.mp (Bool.and_eq_true_iff.mp (Bool.and_eq_true_iff.mp (Bool.and_eq_true_iff.mp (Bool.and_eq_true_iff.mp (Bool.and_eq_true_iff.mp (Bool.and_eq_true_iff.mp (Bool.and_eq_true_iff.mp (Bool.and_eq_true_iff.mp (Bool.and_eq_true_iff.mp (Bool.and_eq_true_iff.mp (Bool.and_eq_true_iff.mp (Bool.and_eq_true_iff.mp (Bool.and_eq_true_iff.mp (Bool.and_eq_true_iff.mp h).2).2).2).2).2).2).2).2).2).2).2).2).2).2).2).2).2).2).2).2).2).2).2).2).2).2).2).2).2).1
theorem exb_30 {K : PySem.W.Frag} (h : exb K = true) : (decide (PySem.W.kitOne K (.ref (He.ga K "OneHouse")) (.ref (He.ga K "TooMany")) = some false)) = true := (Bool.and_eq_true_iff.mp (Bool.and_eq_true_iff.mp (Bool.and_eq_true_iff.mp (Bool.and_eq_true_iff.mp (Bool.and_eq_true_iff.mp (Bool.and_eq_true_iff.mp (Bool.and_eq_true_iff.mp (Bool.and_eq_true_iff.mp (Bool.and_eq_true_iff.mp (Bool.and_eq_true_iff.mp (Bool.and_eq_true_iff.mp (Bool.and_eq_true_iff.mp (Bool.and_eq_true_iff.mp (Bool.and_eq_true_iff.mp (Bool.and_eq_true_iff.mp (Bool.and_eq_true_iff.mp (Bool.and_eq_true_iff.mp (Bool.and_eq_true_iff.mp (Bool.and_eq_true_iff.mp (Bool.and_eq_true_iff.mp (Bool.and_eq_true_iff.mp (Bool.and_eq_true_iff.mp (Bool.and_eq_true_iff.mp (Bool.and_eq_true_iff.mp (Bool.and_eq_true_iff.mp (Bool.and_eq_true_iff.mp (Bool.and_eq_true_iff.mp (Bool.and_eq_true_iff.mp (Bool.and_eq_true_iff.mp (Bool.and_eq_true_iff.mp (Bool.and_eq_true_iff.mp h).2).2).2).2).2).2).2).2).2).2).2).2).2).2).2).2).2).2).2).2).2).2).2).2).2).2).2).2).2).2).1
theorem exb_31 {K : PySem.W.Frag} (h : exb K = true) : (decide (PySem.W.kitOne K (.ref (He.ga K "TooMany")) (.ref (He.ga K "TooMany")) = some true)) = true := (Bool.and_eq_true_iff.mp (Bool.and_eq_true_iff.mp (Bool.and_eq_true_iff.mp (Bool.and_eq_true_iff.mp (Bool.and_eq_true_iff.mp (Bool.and_eq_true_iff.mp (Bool.and_eq_true_iff.mp (Bool.and_eq_true_iff.mp (Bool.and_eq_true_iff.mp (Bool.and_eq_true_iff.mp (Bool.and_eq_true_iff.mp (Bool.and_eq_true_iff.mp (Bool.and_eq_true_iff.mp (Bool.and_eq_true_iff.mp (Bool.and_eq_true_iff.mp (Bool.and_eq_true_iff.mp (Bool.and_eq_true_iff.mp (Bool.and_eq_true_iff.mp (Bool.and_eq_true_iff.mp (Bool.and_eq_true_iff.mp (Bool.and_eq_true_iff.mp (Bool.and_eq_true_iff.mp (Bool.and_eq_true_iff.mp (Bool.and_eq_true_iff.mp (Bool.and_eq_true_iff.mp (Bool.and_eq_true_iff.mp (Bool.and_eq_true_iff.mp (Bool.and_eq_true_iff.mp (Bool.and_eq_true_iff.mp (Bool.and_eq_true_iff.mp (Bool.and_eq_true_iff.mp (Bool.and_eq_true_iff.mp h).2).2).2).2).2).2).2).2).2).2).2).2).2).2).2).2).2).2).2).2).2).2).2).2).2).2).2).2).2).2).2).1
theorem exb_32 {K : PySem.W.Frag} (h : exb K = true) : (decide (PySem.W.kitOne K (.ref (He.ga K "NoName")) (.ref (He.ga K "NoPost")) = some false)) = true := (Bool.and_eq_true_iff.mp (Bool.and_eq_true_iff.mp (Bool.and_eq_true_iff.mp (Bool.and_eq_true_iff.mp (Bool.and_eq_true_iff.mp (Bool.and_eq_true_iff.mp (Bool.and_eq_true_iff.mp (Bool.and_eq_true_iff.mp (Bool.and_eq_true_iff.mp (Bool.and_eq_true_iff.mp (Bool.and_eq_true_iff.mp (Bool.and_eq_true_iff.mp (Bool.and_eq_true_iff.mp (Bool.and_eq_true_iff.mp (Bool.and_eq_true_iff.mp (Bool.and_eq_true_iff.mp (Bool.and_eq_true_iff.mp (Bool.and_eq_true_iff.mp (Bool.and_eq_true_iff.mp (Bool.and_eq_true_iff.mp (Bool.and_eq_true_iff.mp (Bool.and_eq_true_iff.mp (Bool.and_eq_true_iff.mp (Bool.and_eq_true_iff.mp (Bool.and_eq_true_iff.mp (Bool.and_eq_true_iff.mp (Bool.and_eq_true_iff.mp (Bool.and_eq_true_iff.mp (Bool.and_eq_true_iff.mp (Bool.and_eq_true_iff.mp (Bool.and_eq_true_iff.mp (Bool.and_eq_true_iff.mp (Bool.and_eq_true_iff.mp h).2).2).2).2).2).2).2).2).2).2).2).2).2).2).2).2).2).2).2).2).2).2).2).2).2).2).2).2).2).2).2).2).1
theorem exb_33 {K : PySem.W.Frag} (h : exb K = true) : (decide (PySem.W.kitOne K (.ref (He.ga K "Taken")) (.ref (He.ga K "NoPost")) = some false)) = true := (Bool.and_eq_true_iff.mp (Bool.and_eq_true_iff.mp (Bool.and_eq_true_iff.mp (Bool.and_eq_true_iff.mp (Bool.and_eq_true_iff.mp (Bool.and_eq_true_iff.mp (Bool.and_eq_true_iff.mp (Bool.and_eq_true_iff.mp (Bool.and_eq_true_iff.mp (Bool.and_eq_true_iff.mp (Bool.and_eq_true_iff.mp (Bool.and_eq_true_iff.mp (Bool.and_eq_true_iff.mp (Bool.and_eq_true_iff.mp (Bool.and_eq_true_iff.mp (Bool.and_eq_true_iff.mp (Bool.and_eq_true_iff.mp (Bool.and_eq_true_iff.mp (Bool.and_eq_true_iff.mp (Bool.and_eq_true_iff.mp (Bool.and_eq_true_iff.mp (Bool.and_eq_true_iff.mp (Bool.and_eq_true_iff.mp (Bool.and_eq_true_iff.mp (Bool.and_eq_true_iff.mp (Bool.and_eq_true_iff.mp (Bool.and_eq_true_iff.mp (Bool.and_eq_true_iff.mp (Bool.and_eq_true_iff.mp (Bool.and_eq_true_iff.mp (Bool.and_eq_true_iff.mp (Bool.and_eq_true_iff.mp (Bool.and_eq_true_iff.mp (Bool.and_eq_true_iff.mp h).2).2).2).2).2).2).2).2).2).2).2).2).2).2).2).2).2).2).2).2).2).2).2).2).2).2).2).2).2).2).2).2).2).1
theorem exb_34 {K : PySem.W.Frag} (h : exb K = true) : (decide (PySem.W.kitOne K (.ref (He.ga K "OneHouse")) (.ref (He.ga K "NoPost")) = some false)) = true := (Bool.and_eq_true_iff.mp (Bool.and_eq_true_iff.mp (Bool.and_eq_true_iff.mp (Bool.and_eq_true_iff.mp (Bool.and_eq_true_iff.mp (Bool.and_eq_true_iff.mp (Bool.and_eq_true_iff.mp (Bool.and_eq_true_iff.mp (Bool.and_eq_true_iff.mp (Bool.and_eq_true_iff.mp (Bool.and_eq_true_iff.mp (Bool.and_eq_true_iff.mp (Bool.and_eq_true_iff.mp (Bool.and_eq_true_iff.mp (Bool.and_eq_true_iff.mp (Bool.and_eq_true_iff.mp (Bool.and_eq_true_iff.mp (Bool.and_eq_true_iff.mp (Bool.and_eq_true_iff.mp (Bool.and_eq_true_iff.mp (Bool.and_eq_true_iff.mp (Bool.and_eq_true_iff.mp (Bool.and_eq_true_iff.mp (Bool.and_eq_true_iff.mp (Bool.and_eq_true_iff.mp (Bool.and_eq_true_iff.mp (Bool.and_eq_true_iff.mp (Bool.and_eq_true_iff.mp (Bool.and_eq_true_iff.mp (Bool.and_eq_true_iff.mp (Bool.and_eq_true_iff.mp (Bool.and_eq_true_iff.mp (Bool.and_eq_true_iff.mp (Bool.and_eq_true_iff.mp (Bool.and_eq_true_iff.mp h).2).2).2).2).2).2).2).2).2).2).2).2).2).2).2).2).2).2).2).2).2).2).2).2).2).2).2).2).2).2).2).2).2).2).1
theorem exb_35 {K : PySem.W.Frag} (h : exb K = true) : (decide (PySem.W.kitOne K (.ref (He.ga K "TooMany")) (.ref (He.ga K "NoPost")) = some false)) = true := (Bool.and_eq_true_iff.mp (Bool.and_eq_true_iff.mp (Bool.and_eq_true_iff.mp (Bool.and_eq_true_iff.mp (Bool.and_eq_true_iff.mp (Bool.and_eq_true_iff.mp (Bool.and_eq_true_iff.mp (Bool.and_eq_true_iff.mp (Bool.and_eq_true_iff.mp (Bool.and_eq_true_iff.mp (Bool.and_eq_true_iff.mp (Bool.and_eq_true_iff.mp (Bool.and_eq_true_iff.mp (Bool.and_eq_true_iff.mp (Bool.and_eq_true_iff.mp (Bool.and_eq_true_iff.mp (Bool.and_eq_true_iff.mp (Bool.and_eq_true_iff.mp (Bool.and_eq_true_iff.mp (Bool.and_eq_true_iff.mp (Bool.and_eq_true_iff.mp (Bool.and_eq_true_iff.mp (Bool.and_eq_true_iff.mp (Bool.and_eq_true_iff.mp (Bool.and_eq_true_iff.mp (Bool.and_eq_true_iff.mp (Bool.and_eq_true_iff.mp (Bool.and_eq_true_iff.mp (Bool.and_eq_true_iff.mp (Bool.and_eq_true_iff.mp (Bool.and_eq_true_iff.mp (Bool.and_eq_true_iff.mp (Bool.and_eq_true_iff.mp (Bool.and_eq_true_iff.mp (Bool.and_eq_true_iff.mp (Bool.and_eq_true_iff.mp h).2).2).2).2).2).2).2).2).2).2).2).2).2).2).2).2).2).2).2).2).2).2).2).2).2).2).2).2).2).2).2).2).2).2).2).1
theorem exb_36 {K : PySem.W.Frag} (h : exb K = true) : (decide (PySem.W.kitOne K (.ref (He.ga K "NoName")) (.ref (He.ga K "IntoHouse")) = some false)) = true := (Bool.and_eq_true_iff.mp (Bool.and_eq_true_iff.mp (Bool.and_eq_true_iff.mp (Bool.and_eq_true_iff.mp (Bool.and_eq_true_iff.mp (Bool.and_eq_true_iff.mp (Bool.and_eq_true_iff.mp (Bool.and_eq_true_iff.mp (Bool.and_eq_true_iff.mp (Bool.and_eq_true_iff.mp (Bool.and_eq_true_iff.mp (Bool.and_eq_true_iff.mp (Bool.and_eq_true_iff.mp (Bool.and_eq_true_iff.mp (Bool.and_eq_true_iff.mp (Bool.and_eq_true_iff.mp (Bool.and_eq_true_iff.mp (Bool.and_eq_true_iff.mp (Bool.and_eq_true_iff.mp (Bool.and_eq_true_iff.mp (Bool.and_eq_true_iff.mp (Bool.and_eq_true_iff.mp (Bool.and_eq_true_iff.mp (Bool.and_eq_true_iff.mp (Bool.and_eq_true_iff.mp (Bool.and_eq_true_iff.mp (Bool.and_eq_true_iff.mp (Bool.and_eq_true_iff.mp (Bool.and_eq_true_iff.mp (Bool.and_eq_true_iff.mp (Bool.and_eq_true_iff.mp (Bool.and_eq_true_iff.mp (Bool.and_eq_true_iff.mp (Bool.and_eq_true_iff.mp (Bool.and_eq_true_iff.mp (Bool.and_eq_true_iff.mp (Bool.and_eq_true_iff.mp h).2).2).2).2).2).2).2).2).2).2).2).2).2).2).2).2).2).2).2).2).2).2).2).2).2).2).2).2).2).2).2).2).2).2).2).2).1
theorem exb_37 {K : PySem.W.Frag} (h : exb K = true) : (decide (PySem.W.kitOne K (.ref (He.ga K "Taken")) (.ref (He.ga K "IntoHouse")) = some false)) = true := (Bool.and_eq_true_iff.mp (Bool.and_eq_true_iff.mp (Bool.and_eq_true_iff.mp (Bool.and_eq_true_iff.mp (Bool.and_eq_true_iff.mp (Bool.and_eq_true_iff.mp (Bool.and_eq_true_iff.mp (Bool.and_eq_true_iff.mp (Bool.and_eq_true_iff.mp (Bool.and_eq_true_iff.mp (Bool.and_eq_true_iff.mp (Bool.and_eq_true_iff.mp (Bool.and_eq_true_iff.mp (Bool.and_eq_true_iff.mp (Bool.and_eq_true_iff.mp (Bool.and_eq_true_iff.mp (Bool.and_eq_true_iff.mp (Bool.and_eq_true_iff.mp (Bool.and_eq_true_iff.mp (Bool.and_eq_true_iff.mp (Bool.and_eq_true_iff.mp (Bool.and_eq_true_iff.mp (Bool.and_eq_true_iff.mp (Bool.and_eq_true_iff.mp (Bool.and_eq_true_iff.mp (Bool.and_eq_true_iff.mp (Bool.and_eq_true_iff.mp (Bool.and_eq_true_iff.mp (Bool.and_eq_true_iff.mp (Bool.and_eq_true_iff.mp (Bool.and_eq_true_iff.mp (Bool.and_eq_true_iff.mp (Bool.and_eq_true_iff.mp (Bool.and_eq_true_iff.mp (Bool.and_eq_true_iff.mp (Bool.and_eq_true_iff.mp (Bool.and_eq_true_iff.mp (Bool.and_eq_true_iff.mp h).2).2).2).2).2).2).2).2).2).2).2).2).2).2).2).2).2).2).2).2).2).2).2).2).2).2).2).2).2).2).2).2).2).2).2).2).2).1
theorem exb_38 {K : PySem.W.Frag} (h : exb K = true) : (decide (PySem.W.kitOne K (.ref (He.ga K "OneHouse")) (.ref (He.ga K "IntoHouse")) = some false)) = true := (Bool.and_eq_true_iff.mp (Bool.and_eq_true_iff.mp (Bool.and_eq_true_iff.mp (Bool.and_eq_true_iff.mp (Bool.and_eq_true_iff.mp (Bool.and_eq_true_iff.mp (Bool.and_eq_true_iff.mp (Bool.and_eq_true_iff.mp (Bool.and_eq_true_iff.mp (Bool.and_eq_true_iff.mp (Bool.and_eq_true_iff.mp (Bool.and_eq_true_iff.mp (Bool.and_eq_true_iff.mp (Bool.and_eq_true_iff.mp (Bool.and_eq_true_iff.mp (Bool.and_eq_true_iff.mp (Bool.and_eq_true_iff.mp (Bool.and_eq_true_iff.mp (Bool.and_eq_true_iff.mp (Bool.and_eq_true_iff.mp (Bool.and_eq_true_iff.mp (Bool.and_eq_true_iff.mp (Bool.and_eq_true_iff.mp (Bool.and_eq_true_iff.mp (Bool.and_eq_true_iff.mp (Bool.and_eq_true_iff.mp (Bool.and_eq_true_iff.mp (Bool.and_eq_true_iff.mp (Bool.and_eq_true_iff.mp (Bool.and_eq_true_iff.mp (Bool.and_eq_true_iff.mp (Bool.and_eq_true_iff.mp (Bool.and_eq_true_iff.mp (Bool.and_eq_true_iff.mp (Bool.and_eq_true_iff.mp (Bool.and_eq_true_iff.mp (Bool.and_eq_true_iff.mp (Bool.and_eq_true_iff.mp (Bool.and_eq_true_iff.mp h).2).2).2).2).2).2).2).2).2).2).2).2).2).2).2).2).2).2).2).2).2).2).2).2).2).2).2).2).2).2).2).2).2).2).2).2).2).2).1
theorem exb_39 {K : PySem.W.Frag} (h : exb K = true) : (decide (PySem.W.kitOne K (.ref (He.ga K "TooMany")) (.ref (He.ga K "IntoHouse")) = some false)) = true := (Bool.and_eq_true_iff.mp (Bool.and_eq_true_iff.mp (Bool.and_eq_true_iff.mp (Bool.and_eq_true_iff.mp (Bool.and_eq_true_iff.mp (Bool.and_eq_true_iff.mp (Bool.and_eq_true_iff.mp (Bool.and_eq_true_iff.mp (Bool.and_eq_true_iff.mp (Bool.and_eq_true_iff.mp (Bool.and_eq_true_iff.mp (Bool.and_eq_true_iff.mp (Bool.and_eq_true_iff.mp (Bool.and_eq_true_iff.mp (Bool.and_eq_true_iff.mp (Bool.and_eq_true_iff.mp (Bool.and_eq_true_iff.mp (Bool.and_eq_true_iff.mp (Bool.and_eq_true_iff.mp (Bool.and_eq_true_iff.mp (Bool.and_eq_true_iff.mp (Bool.and_eq_true_iff.mp (Bool.and_eq_true_iff.mp (Bool.and_eq_true_iff.mp (Bool.and_eq_true_iff.mp (Bool.and_eq_true_iff.mp (Bool.and_eq_true_iff.mp (Bool.and_eq_true_iff.mp (Bool.and_eq_true_iff.mp (Bool.and_eq_true_iff.mp (Bool.and_eq_true_iff.mp (Bool.and_eq_true_iff.mp (Bool.and_eq_true_iff.mp (Bool.and_eq_true_iff.mp (Bool.and_eq_true_iff.mp (Bool.and_eq_true_iff.mp (Bool.and_eq_true_iff.mp (Bool.and_eq_true_iff.mp (Bool.and_eq_true_iff.mp (Bool.and_eq_true_iff.mp h).2).2).2).2).2).2).2).2).2).2).2).2).2).2).2).2).2).2).2).2).2).2).2).2).2).2).2).2).2).2).2).2).2).2).2).2).2).2).2).1
theorem exb_40 {K : PySem.W.Frag} (h : exb K = true) : (decide (PySem.W.kitOne K (.ref (He.ga K "NoName")) (.type "ValueError") = some true)) = true := (Bool.and_eq_true_iff.mp (Bool.and_eq_true_iff.mp (Bool.and_eq_true_iff.mp (Bool.and_eq_true_iff.mp (Bool.and_eq_true_iff.mp (Bool.and_eq_true_iff.mp (Bool.and_eq_true_iff.mp (Bool.and_eq_true_iff.mp (Bool.and_eq_true_iff.mp (Bool.and_eq_true_iff.mp (Bool.and_eq_true_iff.mp (Bool.and_eq_true_iff.mp (Bool.and_eq_true_iff.mp (Bool.and_eq_true_iff.mp (Bool.and_eq_true_iff.mp (Bool.and_eq_true_iff.mp (Bool.and_eq_true_iff.mp (Bool.and_eq_true_iff.mp (Bool.and_eq_true_iff.mp (Bool.and_eq_true_iff.mp (Bool.and_eq_true_iff.mp (Bool.and_eq_true_iff.mp (Bool.and_eq_true_iff.mp (Bool.and_eq_true_iff.mp (Bool.and_eq_true_iff.mp (Bool.and_eq_true_iff.mp (Bool.and_eq_true_iff.mp (Bool.and_eq_true_iff.mp (Bool.and_eq_true_iff.mp (Bool.and_eq_true_iff.mp (Bool.and_eq_true_iff.mp (Bool.and_eq_true_iff.mp (Bool.and_eq_true_iff.mp (Bool.and_eq_true_iff.mp (Bool.and_eq_true_iff.mp (Bool.and_eq_true_iff.mp (Bool.and_eq_true_iff.mp (Bool.and_eq_true_iff.mp (Bool.and_eq_true_iff.mp (Bool.and_eq_true_iff.mp (Bool.and_eq_true_iff.mp h).2).2).2).2).2).2).2).2).2).2).2).2).2).2).2).2).2).2).2).2).2).2).2).2).2).2).2).2).2).2).2).2).2).2).2).2).2).2).2).2).1
theorem exb_41 {K : PySem.W.Frag} (h : exb K = true) : (decide (PySem.W.kitOne K (.ref (He.ga K "Taken")) (.type "ValueError") = some true)) = true := (Bool.and_eq_true_iff.mp (Bool.and_eq_true_iff.mp (Bool.and_eq_true_iff.mp (Bool.and_eq_true_iff.mp (Bool.and_eq_true_iff.mp (Bool.and_eq_true_iff.mp (Bool.and_eq_true_iff.mp (Bool.and_eq_true_iff.mp (Bool.and_eq_true_iff.mp (Bool.and_eq_true_iff.mp (Bool.and_eq_true_iff.mp (Bool.and_eq_true_iff.mp (Bool.and_eq_true_iff.mp (Bool.and_eq_true_iff.mp (Bool.and_eq_true_iff.mp (Bool.and_eq_true_iff.mp (Bool.and_eq_true_iff.mp (Bool.and_eq_true_iff.mp (Bool.and_eq_true_iff.mp (Bool.and_eq_true_iff.mp (Bool.and_eq_true_iff.mp (Bool.and_eq_true_iff.mp (Bool.and_eq_true_iff.mp (Bool.and_eq_true_iff.mp (Bool.and_eq_true_iff.mp (Bool.and_eq_true_iff.mp (Bool.and_eq_true_iff.mp (Bool.and_eq_true_iff.mp (Bool.and_eq_true_iff.mp (Bool.and_eq_true_iff.mp (Bool.and_eq_true_iff.mp (Bool.and_eq_true_iff.mp (Bool.and_eq_true_iff.mp (Bool.and_eq_true_iff.mp (Bool.and_eq_true_iff.mp (Bool.and_eq_true_iff.mp (Bool.and_eq_true_iff.mp (Bool.and_eq_true_iff.mp (Bool.and_eq_true_iff.mp (Bool.and_eq_true_iff.mp (Bool.and_eq_true_iff.mp (Bool.and_eq_true_iff.mp h).2).2).2).2).2).2).2).2).2).2).2).2).2).2).2).2).2).2).2).2).2).2).2).2).2).2).2).2).2).2).2).2).2).2).2).2).2).2).2).2).2).1
theorem exb_42 {K : PySem.W.Frag} (h : exb K = true) : (decide (PySem.W.kitOne K (.ref (He.ga K "OneHouse")) (.type "ValueError") = some true)) = true := (Bool.and_eq_true_iff.mp (Bool.and_eq_true_iff.mp (Bool.and_eq_true_iff.mp (Bool.and_eq_true_iff.mp (Bool.and_eq_true_iff.mp (Bool.and_eq_true_iff.mp (Bool.and_eq_true_iff.mp (Bool.and_eq_true_iff.mp (Bool.and_eq_true_iff.mp (Bool.and_eq_true_iff.mp (Bool.and_eq_true_iff.mp (Bool.and_eq_true_iff.mp (Bool.and_eq_true_iff.mp (Bool.and_eq_true_iff.mp (Bool.and_eq_true_iff.mp (Bool.and_eq_true_iff.mp (Bool.and_eq_true_iff.mp (Bool.and_eq_true_iff.mp (Bool.and_eq_true_iff.mp (Bool.and_eq_true_iff.mp (Bool.and_eq_true_iff.mp (Bool.and_eq_true_iff.mp (Bool.and_eq_true_iff.mp (Bool.and_eq_true_iff.mp (Bool.and_eq_true_iff.mp (Bool.and_eq_true_iff.mp (Bool.and_eq_true_iff.mp (Bool.and_eq_true_iff.mp (Bool.and_eq_true_iff.mp (Bool.and_eq_true_iff.mp (Bool.and_eq_true_iff.mp (Bool.and_eq_true_iff.mp (Bool.and_eq_true_iff.mp (Bool.and_eq_true_iff.mp (Bool.and_eq_true_iff.mp (Bool.and_eq_true_iff.mp (Bool.and_eq_true_iff.mp (Bool.and_eq_true_iff.mp (Bool.and_eq_true_iff.mp (Bool.and_eq_true_iff.mp (Bool.and_eq_true_iff.mp (Bool.and_eq_true_iff.mp (Bool.and_eq_true_iff.mp h).2).2).2).2).2).2).2).2).2).2).2).2).2).2).2).2).2).2).2).2).2).2).2).2).2).2).2).2).2).2).2).2).2).2).2).2).2).2).2).2).2).2).1
theorem exb_43 {K : PySem.W.Frag} (h : exb K = true) : (decide (PySem.W.kitOne K (.ref (He.ga K "TooMany")) (.type "ValueError") = some true)) = true := (Bool.and_eq_true_iff.mp (Bool.and_eq_true_iff.mp (Bool.and_eq_true_iff.mp (Bool.and_eq_true_iff.mp (Bool.and_eq_true_iff.mp (Bool.and_eq_true_iff.mp (Bool.and_eq_true_iff.mp (Bool.and_eq_true_iff.mp (Bool.and_eq_true_iff.mp (Bool.and_eq_true_iff.mp (Bool.and_eq_true_iff.mp (Bool.and_eq_true_iff.mp (Bool.and_eq_true_iff.mp (Bool.and_eq_true_iff.mp (Bool.and_eq_true_iff.mp (Bool.and_eq_true_iff.mp (Bool.and_eq_true_iff.mp (Bool.and_eq_true_iff.mp (Bool.and_eq_true_iff.mp (Bool.and_eq_true_iff.mp (Bool.and_eq_true_iff.mp (Bool.and_eq_true_iff.mp (Bool.and_eq_true_iff.mp (Bool.and_eq_true_iff.mp (Bool.and_eq_true_iff.mp (Bool.and_eq_true_iff.mp (Bool.and_eq_true_iff.mp (Bool.and_eq_true_iff.mp (Bool.and_eq_true_iff.mp (Bool.and_eq_true_iff.mp (Bool.and_eq_true_iff.mp (Bool.and_eq_true_iff.mp (Bool.and_eq_true_iff.mp (Bool.and_eq_true_iff.mp (Bool.and_eq_true_iff.mp (Bool.and_eq_true_iff.mp (Bool.and_eq_true_iff.mp (Bool.and_eq_true_iff.mp (Bool.and_eq_true_iff.mp (Bool.and_eq_true_iff.mp (Bool.and_eq_true_iff.mp (Bool.and_eq_true_iff.mp (Bool.and_eq_true_iff.mp (Bool.and_eq_true_iff.mp h).2).2).2).2).2).2).2).2).2).2).2).2).2).2).2).2).2).2).2).2).2).2).2).2).2).2).2).2).2).2).2).2).2).2).2).2).2).2).2).2).2).2).2).1
theorem exb_44 {K : PySem.W.Frag} (h : exb K = true) : (decide (He.ma K (He.ga K "House") "reads" = He.ma K (He.ga K "Post") "reads")) = true := (Bool.and_eq_true_iff.mp (Bool.and_eq_true_iff.mp (Bool.and_eq_true_iff.mp (Bool.and_eq_true_iff.mp (Bool.and_eq_true_iff.mp (Bool.and_eq_true_iff.mp (Bool.and_eq_true_iff.mp (Bool.and_eq_true_iff.mp (Bool.and_eq_true_iff.mp (Bool.and_eq_true_iff.mp (Bool.and_eq_true_iff.mp (Bool.and_eq_true_iff.mp (Bool.and_eq_true_iff.mp (Bool.and_eq_true_iff.mp (Bool.and_eq_true_iff.mp (Bool.and_eq_true_iff.mp (Bool.and_eq_true_iff.mp (Bool.and_eq_true_iff.mp (Bool.and_eq_true_iff.mp (Bool.and_eq_true_iff.mp (Bool.and_eq_true_iff.mp (Bool.and_eq_true_iff.mp (Bool.and_eq_true_iff.mp (Bool.and_eq_true_iff.mp (Bool.and_eq_true_iff.mp (Bool.and_eq_true_iff.mp (Bool.and_eq_true_iff.mp (Bool.and_eq_true_iff.mp (Bool.and_eq_true_iff.mp (Bool.and_eq_true_iff.mp (Bool.and_eq_true_iff.mp (Bool.and_eq_true_iff.mp (Bool.and_eq_true_iff.mp (Bool.and_eq_true_iff.mp (Bool.and_eq_true_iff.mp (Bool.and_eq_true_iff.mp (Bool.and_eq_true_iff.mp (Bool.and_eq_true_iff.mp (Bool.and_eq_true_iff.mp (Bool.and_eq_true_iff.mp (Bool.and_eq_true_iff.mp (Bool.and_eq_true_iff.mp (Bool.and_eq_true_iff.mp (Bool.and_eq_true_iff.mp (Bool.and_eq_true_iff.mp h).2).2).2).2).2).2).2).2).2).2).2).2).2).2).2).2).2).2).2).2).2).2).2).2).2).2).2).2).2).2).2).2).2).2).2).2).2).2).2).2).2).2).2).2).1
theorem exb_45 {K : PySem.W.Frag} (h : exb K = true) : (decide (He.ma K (He.ga K "House") "__init__" = He.ma K (He.ga K "Post") "__init__")) = true := (Bool.and_eq_true_iff.mp (Bool.and_eq_true_iff.mp (Bool.and_eq_true_iff.mp (Bool.and_eq_true_iff.mp (Bool.and_eq_true_iff.mp (Bool.and_eq_true_iff.mp (Bool.and_eq_true_iff.mp (Bool.and_eq_true_iff.mp (Bool.and_eq_true_iff.mp (Bool.and_eq_true_iff.mp (Bool.and_eq_true_iff.mp (Bool.and_eq_true_iff.mp (Bool.and_eq_true_iff.mp (Bool.and_eq_true_iff.mp (Bool.and_eq_true_iff.mp (Bool.and_eq_true_iff.mp (Bool.and_eq_true_iff.mp (Bool.and_eq_true_iff.mp (Bool.and_eq_true_iff.mp (Bool.and_eq_true_iff.mp (Bool.and_eq_true_iff.mp (Bool.and_eq_true_iff.mp (Bool.and_eq_true_iff.mp (Bool.and_eq_true_iff.mp (Bool.and_eq_true_iff.mp (Bool.and_eq_true_iff.mp (Bool.and_eq_true_iff.mp (Bool.and_eq_true_iff.mp (Bool.and_eq_true_iff.mp (Bool.and_eq_true_iff.mp (Bool.and_eq_true_iff.mp (Bool.and_eq_true_iff.mp (Bool.and_eq_true_iff.mp (Bool.and_eq_true_iff.mp (Bool.and_eq_true_iff.mp (Bool.and_eq_true_iff.mp (Bool.and_eq_true_iff.mp (Bool.and_eq_true_iff.mp (Bool.and_eq_true_iff.mp (Bool.and_eq_true_iff.mp (Bool.and_eq_true_iff.mp (Bool.and_eq_true_iff.mp (Bool.and_eq_true_iff.mp (Bool.and_eq_true_iff.mp (Bool.and_eq_true_iff.mp (Bool.and_eq_true_iff.mp h).2).2).2).2).2).2).2).2).2).2).2).2).2).2).2).2).2).2).2).2).2).2).2).2).2).2).2).2).2).2).2).2).2).2).2).2).2).2).2).2).2).2).2).2).2).1
theorem exb_46 {K : PySem.W.Frag} (h : exb K = true) : (decide (He.ma K (He.ga K "Listener") "__init__" = He.ma K (He.ga K "Post") "__init__")) = true := (Bool.and_eq_true_iff.mp (Bool.and_eq_true_iff.mp (Bool.and_eq_true_iff.mp (Bool.and_eq_true_iff.mp (Bool.and_eq_true_iff.mp (Bool.and_eq_true_iff.mp (Bool.and_eq_true_iff.mp (Bool.and_eq_true_iff.mp (Bool.and_eq_true_iff.mp (Bool.and_eq_true_iff.mp (Bool.and_eq_true_iff.mp (Bool.and_eq_true_iff.mp (Bool.and_eq_true_iff.mp (Bool.and_eq_true_iff.mp (Bool.and_eq_true_iff.mp (Bool.and_eq_true_iff.mp (Bool.and_eq_true_iff.mp (Bool.and_eq_true_iff.mp (Bool.and_eq_true_iff.mp (Bool.and_eq_true_iff.mp (Bool.and_eq_true_iff.mp (Bool.and_eq_true_iff.mp (Bool.and_eq_true_iff.mp (Bool.and_eq_true_iff.mp (Bool.and_eq_true_iff.mp (Bool.and_eq_true_iff.mp (Bool.and_eq_true_iff.mp (Bool.and_eq_true_iff.mp (Bool.and_eq_true_iff.mp (Bool.and_eq_true_iff.mp (Bool.and_eq_true_iff.mp (Bool.and_eq_true_iff.mp (Bool.and_eq_true_iff.mp (Bool.and_eq_true_iff.mp (Bool.and_eq_true_iff.mp (Bool.and_eq_true_iff.mp (Bool.and_eq_true_iff.mp (Bool.and_eq_true_iff.mp (Bool.and_eq_true_iff.mp (Bool.and_eq_true_iff.mp (Bool.and_eq_true_iff.mp (Bool.and_eq_true_iff.mp (Bool.and_eq_true_iff.mp (Bool.and_eq_true_iff.mp (Bool.and_eq_true_iff.mp (Bool.and_eq_true_iff.mp (Bool.and_eq_true_iff.mp h).2).2).2).2).2).2).2).2).2).2).2).2).2).2).2).2).2).2).2).2).2).2).2).2).2).2).2).2).2).2).2).2).2).2).2).2).2).2).2).2).2).2).2).2).2).2).1
theorem exb_47 {K : PySem.W.Frag} (h : exb K = true) : (decide (He.ma K (He.ga K "Listener") "hears" = He.ma K (He.ga K "Post") "hears")) = true := (Bool.and_eq_true_iff.mp (Bool.and_eq_true_iff.mp (Bool.and_eq_true_iff.mp (Bool.and_eq_true_iff.mp (Bool.and_eq_true_iff.mp (Bool.and_eq_true_iff.mp (Bool.and_eq_true_iff.mp (Bool.and_eq_true_iff.mp (Bool.and_eq_true_iff.mp (Bool.and_eq_true_iff.mp (Bool.and_eq_true_iff.mp (Bool.and_eq_true_iff.mp (Bool.and_eq_true_iff.mp (Bool.and_eq_true_iff.mp (Bool.and_eq_true_iff.mp (Bool.and_eq_true_iff.mp (Bool.and_eq_true_iff.mp (Bool.and_eq_true_iff.mp (Bool.and_eq_true_iff.mp (Bool.and_eq_true_iff.mp (Bool.and_eq_true_iff.mp (Bool.and_eq_true_iff.mp (Bool.and_eq_true_iff.mp (Bool.and_eq_true_iff.mp (Bool.and_eq_true_iff.mp (Bool.and_eq_true_iff.mp (Bool.and_eq_true_iff.mp (Bool.and_eq_true_iff.mp (Bool.and_eq_true_iff.mp (Bool.and_eq_true_iff.mp (Bool.and_eq_true_iff.mp (Bool.and_eq_true_iff.mp (Bool.and_eq_true_iff.mp (Bool.and_eq_true_iff.mp (Bool.and_eq_true_iff.mp (Bool.and_eq_true_iff.mp (Bool.and_eq_true_iff.mp (Bool.and_eq_true_iff.mp (Bool.and_eq_true_iff.mp (Bool.and_eq_true_iff.mp (Bool.and_eq_true_iff.mp (Bool.and_eq_true_iff.mp (Bool.and_eq_true_iff.mp (Bool.and_eq_true_iff.mp (Bool.and_eq_true_iff.mp (Bool.and_eq_true_iff.mp (Bool.and_eq_true_iff.mp h).2).2).2).2).2).2).2).2).2).2).2).2).2).2).2).2).2).2).2).2).2).2).2).2).2).2).2).2).2).2).2).2).2).2).2).2).2).2).2).2).2).2).2).2).2).2).2
section
variable {P : Program} {w : World} {K : PySem.W.Frag} {mg : Str → Option Value} {base : Heap}
theorem wd_of {h : Heap} (X : K.In h) (G : h.Ns mainGlobals mg) (c : He.SaysD fas fns K) (hex : exb K = true) : Wd K mg where
  bl := ⟨He.free_ok X G (c.fact 0 rfl), He.free_ok X G (c.fact 1 rfl), He.free_ok X G (c.fact 2 rfl), He.free_ok X G (c.fact 3 rfl), He.free_ok X G (c.fact 4 rfl), He.free_ok X G (c.fact 5 rfl), He.free_ok X G (c.fact 6 rfl), He.free_ok X G (c.fact 7 rfl), He.free_ok X G (c.fact 8 rfl), He.free_ok X G (c.fact 9 rfl), He.free_ok X G (c.fact 10 rfl), He.free_ok X G (c.fact 11 rfl), He.free_ok X G (c.fact 12 rfl), He.free_ok X G (c.fact 13 rfl), He.free_ok X G (c.fact 14 rfl), He.free_ok X G (c.fact 15 rfl), He.free_ok X G (c.fact 16 rfl), He.free_ok X G (c.fact 17 rfl), He.free_ok X G (c.fact 18 rfl), He.free_ok X G (c.fact 19 rfl), He.free_ok X G (c.fact 20 rfl)⟩
  c_LETTERS := He.str_ok X G (c.fact 21 rfl)
  c_MOST_POSTS := He.int_ok X G (c.fact 22 rfl)
  c_MOST_LISTENERS := He.int_ok X G (c.fact 23 rfl)
  g_PostError := He.glo_ok X G (c.fact 24 rfl)
  x_PostError := ⟨He.glo_ok X G (c.fact 24 rfl), (He.exc_ok (c.fact 25 rfl)).1, (He.exc_ok (c.fact 25 rfl)).2.1, (He.exc_ok (c.fact 25 rfl)).2.2.1, (He.exc_ok (c.fact 25 rfl)).2.2.2⟩
  g_NoName := He.glo_ok X G (c.fact 26 rfl)
  x_NoName := ⟨He.glo_ok X G (c.fact 26 rfl), (He.exc_ok (c.fact 27 rfl)).1, (He.exc_ok (c.fact 27 rfl)).2.1, (He.exc_ok (c.fact 27 rfl)).2.2.1, (He.exc_ok (c.fact 27 rfl)).2.2.2⟩
  g_Taken := He.glo_ok X G (c.fact 28 rfl)
  x_Taken := ⟨He.glo_ok X G (c.fact 28 rfl), (He.exc_ok (c.fact 29 rfl)).1, (He.exc_ok (c.fact 29 rfl)).2.1, (He.exc_ok (c.fact 29 rfl)).2.2.1, (He.exc_ok (c.fact 29 rfl)).2.2.2⟩
  g_OneHouse := He.glo_ok X G (c.fact 30 rfl)
  x_OneHouse := ⟨He.glo_ok X G (c.fact 30 rfl), (He.exc_ok (c.fact 31 rfl)).1, (He.exc_ok (c.fact 31 rfl)).2.1, (He.exc_ok (c.fact 31 rfl)).2.2.1, (He.exc_ok (c.fact 31 rfl)).2.2.2⟩
  g_NoPost := He.glo_ok X G (c.fact 32 rfl)
  g_IntoHouse := He.glo_ok X G (c.fact 33 rfl)
  x_IntoHouse := ⟨He.glo_ok X G (c.fact 33 rfl), (He.exc_ok (c.fact 34 rfl)).1, (He.exc_ok (c.fact 34 rfl)).2.1, (He.exc_ok (c.fact 34 rfl)).2.2.1, (He.exc_ok (c.fact 34 rfl)).2.2.2⟩
  g_RingMade := He.glo_ok X G (c.fact 35 rfl)
  x_RingMade := ⟨He.glo_ok X G (c.fact 35 rfl), (He.exc_ok (c.fact 36 rfl)).1, (He.exc_ok (c.fact 36 rfl)).2.1, (He.exc_ok (c.fact 36 rfl)).2.2.1, (He.exc_ok (c.fact 36 rfl)).2.2.2⟩
  g_NoNumber := He.glo_ok X G (c.fact 37 rfl)
  x_NoNumber := ⟨He.glo_ok X G (c.fact 37 rfl), (He.exc_ok (c.fact 38 rfl)).1, (He.exc_ok (c.fact 38 rfl)).2.1, (He.exc_ok (c.fact 38 rfl)).2.2.1, (He.exc_ok (c.fact 38 rfl)).2.2.2⟩
  g_TooMany := He.glo_ok X G (c.fact 39 rfl)
  x_TooMany := ⟨He.glo_ok X G (c.fact 39 rfl), (He.exc_ok (c.fact 40 rfl)).1, (He.exc_ok (c.fact 40 rfl)).2.1, (He.exc_ok (c.fact 40 rfl)).2.2.1, (He.exc_ok (c.fact 40 rfl)).2.2.2⟩
  g_Post := He.glo_ok X G (c.fact 41 rfl)
  cl_Post := He.cls_ok (c.fact 42 rfl)
  g_House := He.glo_ok X G (c.fact 43 rfl)
  cl_House := He.cls_ok (c.fact 44 rfl)
  g_Listener := He.glo_ok X G (c.fact 45 rfl)
  cl_Listener := He.cls_ok (c.fact 46 rfl)
  g_Net := He.glo_ok X G (c.fact 47 rfl)
  cl_Net := He.cls_ok (c.fact 48 rfl)
  na_Net_by_name := He.noat_ok (c.fact 49 rfl)
  na_Net_by_number := He.noat_ok (c.fact 50 rfl)
  na_Net_given := He.noat_ok (c.fact 51 rfl)
  na_Post_name := He.noat_ok (c.fact 52 rfl)
  na_House_name := He.noat_ok (c.fact 53 rfl)
  na_Listener_name := He.noat_ok (c.fact 54 rfl)
  exm_IntoHouse_PostError := He.exm_ok (c.fact 55 rfl)
  exm_NoName_PostError := He.exm_ok (c.fact 56 rfl)
  exm_NoNumber_PostError := He.exm_ok (c.fact 57 rfl)
  exm_NoPost_PostError := He.exm_ok (c.fact 58 rfl)
  exm_OneHouse_PostError := He.exm_ok (c.fact 59 rfl)
  exm_PostError_PostError := He.exm_ok (c.fact 60 rfl)
  exm_RingMade_PostError := He.exm_ok (c.fact 61 rfl)
  exm_Taken_PostError := He.exm_ok (c.fact 62 rfl)
  exm_TooMany_PostError := He.exm_ok (c.fact 63 rfl)
  ix_Post := insB_ok (exb_0 hex)
  ki_Post_Post := of_decide_eq_true (exb_1 hex)
  ix_House := insB_ok (exb_2 hex)
  ki_House_Post := of_decide_eq_true (exb_3 hex)
  ix_Listener := insB_ok (exb_4 hex)
  ki_Listener_Post := of_decide_eq_true (exb_5 hex)
  ki_Post_House := of_decide_eq_true (exb_6 hex)
  ki_House_House := of_decide_eq_true (exb_7 hex)
  ki_Listener_House := of_decide_eq_true (exb_8 hex)
  ki_Post_Listener := of_decide_eq_true (exb_9 hex)
  ki_House_Listener := of_decide_eq_true (exb_10 hex)
  ki_Listener_Listener := of_decide_eq_true (exb_11 hex)
  e_NoName := excB_ok (exb_12 hex)
  kt_NoName_NoName := of_decide_eq_true (exb_13 hex)
  e_Taken := excB_ok (exb_14 hex)
  kt_Taken_NoName := of_decide_eq_true (exb_15 hex)
  e_OneHouse := excB_ok (exb_16 hex)
  kt_OneHouse_NoName := of_decide_eq_true (exb_17 hex)
  e_TooMany := excB_ok (exb_18 hex)
  kt_TooMany_NoName := of_decide_eq_true (exb_19 hex)
  kt_NoName_Taken := of_decide_eq_true (exb_20 hex)
  kt_Taken_Taken := of_decide_eq_true (exb_21 hex)
  kt_OneHouse_Taken := of_decide_eq_true (exb_22 hex)
  kt_TooMany_Taken := of_decide_eq_true (exb_23 hex)
  kt_NoName_OneHouse := of_decide_eq_true (exb_24 hex)
  kt_Taken_OneHouse := of_decide_eq_true (exb_25 hex)
  kt_OneHouse_OneHouse := of_decide_eq_true (exb_26 hex)
  kt_TooMany_OneHouse := of_decide_eq_true (exb_27 hex)
  kt_NoName_TooMany := of_decide_eq_true (exb_28 hex)
  kt_Taken_TooMany := of_decide_eq_true (exb_29 hex)
  kt_OneHouse_TooMany := of_decide_eq_true (exb_30 hex)
  kt_TooMany_TooMany := of_decide_eq_true (exb_31 hex)
  kt_NoName_NoPost := of_decide_eq_true (exb_32 hex)
  kt_Taken_NoPost := of_decide_eq_true (exb_33 hex)
  kt_OneHouse_NoPost := of_decide_eq_true (exb_34 hex)
  kt_TooMany_NoPost := of_decide_eq_true (exb_35 hex)
  kt_NoName_IntoHouse := of_decide_eq_true (exb_36 hex)
  kt_Taken_IntoHouse := of_decide_eq_true (exb_37 hex)
  kt_OneHouse_IntoHouse := of_decide_eq_true (exb_38 hex)
  kt_TooMany_IntoHouse := of_decide_eq_true (exb_39 hex)
  kt_NoName_ValueError := of_decide_eq_true (exb_40 hex)
  kt_Taken_ValueError := of_decide_eq_true (exb_41 hex)
  kt_OneHouse_ValueError := of_decide_eq_true (exb_42 hex)
  kt_TooMany_ValueError := of_decide_eq_true (exb_43 hex)
  g__law_cell_at := He.glo_ok X G (c.fact 64 rfl)
  g__law_mixed := He.glo_ok X G (c.fact 65 rfl)
  g__law_name := He.glo_ok X G (c.fact 66 rfl)
  g__law_due := He.glo_ok X G (c.fact 67 rfl)
  me_Post_kind := He.meth_ok (c.fact 68 rfl)
  me_House_kind := He.meth_ok (c.fact 69 rfl)
  me_Listener_kind := He.meth_ok (c.fact 70 rfl)
  me_Post_reads := He.meth_ok (c.fact 71 rfl)
  me_House_reads := He.meth_ok (c.fact 72 rfl)
  mi_House_reads := of_decide_eq_true (exb_44 hex)
  me_Listener_reads := He.meth_ok (c.fact 73 rfl)
  me_Net_home := He.meth_ok (c.fact 74 rfl)
  me_Net_listeners := He.meth_ok (c.fact 75 rfl)
  me_Net_put_in := He.meth_ok (c.fact 76 rfl)
  mk_House := He.mkr_ok (c.fact 77 rfl)
  mi_House := of_decide_eq_true (exb_45 hex)
  mk_Listener := He.mkr_ok (c.fact 78 rfl)
  mi_Listener := of_decide_eq_true (exb_46 hex)
  mk_Post := He.mkr_ok (c.fact 79 rfl)
  g__law_word := He.glo_ok X G (c.fact 80 rfl)
  g__law_put := He.glo_ok X G (c.fact 81 rfl)
  me_Net_house := He.meth_ok (c.fact 82 rfl)
  me_Net_listener := He.meth_ok (c.fact 83 rfl)
  me_Net_post := He.meth_ok (c.fact 84 rfl)
  g__law_is := He.glo_ok X G (c.fact 85 rfl)
  me_Post_hears := He.meth_ok (c.fact 86 rfl)
  me_House_hears := He.meth_ok (c.fact 87 rfl)
  me_Listener_hears := He.meth_ok (c.fact 88 rfl)
  mi_Listener_hears := of_decide_eq_true (exb_47 hex)
  g__law_stands := He.glo_ok X G (c.fact 89 rfl)
  me_Net_posts := He.meth_ok (c.fact 90 rfl)
  me_Net_names := He.meth_ok (c.fact 91 rfl)
  mk_Net := He.mkr_ok (c.fact 92 rfl)
  me_Net_ties := He.meth_ok (c.fact 93 rfl)
theorem facts {h : Heap} {f : Addr} (X : K.In h) (G : h.Ns mainGlobals mg) (hfa : mg ("law" : Str) = some (.ref f)) (c : He.SaysD fas fns K) (hex : exb K = true) :
    ∃ fd : FuncData, (∀ (s : Shared) (v : Value), BindsTo s fd ⟨[v], []⟩ [("_law_script", v)]) ∧ ∀ base : Heap, K.In base → base.Ns mainGlobals mg → FnOk P w K mg base (L2N.CX P w) 6 f fd ["_law_script"] (spM K m_law) := by
  have T : Wd K mg := wd_of X G c hex
  obtain ⟨fd__law_cell_at, F__law_cell_at⟩ := c.def_ 0 (d := d__law_cell_at) rfl
  obtain ⟨fd_Net__init_, F_Net__init_⟩ := c.def_ 1 (d := d_Net__init_) rfl
  obtain ⟨fd__law_mixed, F__law_mixed⟩ := c.def_ 2 (d := d__law_mixed) rfl
  obtain ⟨fd__law_name, F__law_name⟩ := c.def_ 3 (d := d__law_name) rfl
  obtain ⟨fd__law_due, F__law_due⟩ := c.def_ 4 (d := d__law_due) rfl
  obtain ⟨fd_Post_kind, F_Post_kind⟩ := c.def_ 5 (d := d_Post_kind) rfl
  obtain ⟨fd_House_kind, F_House_kind⟩ := c.def_ 6 (d := d_House_kind) rfl
  obtain ⟨fd_Listener_kind, F_Listener_kind⟩ := c.def_ 7 (d := d_Listener_kind) rfl
  obtain ⟨fd_Net_home, F_Net_home⟩ := c.def_ 8 (d := d_Net_home) rfl
  obtain ⟨fd_Post_reads, F_Post_reads⟩ := c.def_ 9 (d := d_Post_reads) rfl
  obtain ⟨fd_Listener_reads, F_Listener_reads⟩ := c.def_ 10 (d := d_Listener_reads) rfl
  obtain ⟨fd_Net_listeners, F_Net_listeners⟩ := c.def_ 11 (d := d_Net_listeners) rfl
  obtain ⟨fd_Net_put_in, F_Net_put_in⟩ := c.def_ 12 (d := d_Net_put_in) rfl
  obtain ⟨fd_Post__init_, F_Post__init_⟩ := c.def_ 13 (d := d_Post__init_) rfl
  obtain ⟨fd_Net_house, F_Net_house⟩ := c.def_ 14 (d := d_Net_house) rfl
  obtain ⟨fd_Net_listener, F_Net_listener⟩ := c.def_ 15 (d := d_Net_listener) rfl
  obtain ⟨fd_Net_post, F_Net_post⟩ := c.def_ 16 (d := d_Net_post) rfl
  obtain ⟨fd__law_word, F__law_word⟩ := c.def_ 17 (d := d__law_word) rfl
  obtain ⟨fd__law_put, F__law_put⟩ := c.def_ 18 (d := d__law_put) rfl
  obtain ⟨fd_Net_posts, F_Net_posts⟩ := c.def_ 19 (d := d_Net_posts) rfl
  obtain ⟨fd_Net_names, F_Net_names⟩ := c.def_ 20 (d := d_Net_names) rfl
  obtain ⟨fd_Post_hears, F_Post_hears⟩ := c.def_ 21 (d := d_Post_hears) rfl
  obtain ⟨fd_House_hears, F_House_hears⟩ := c.def_ 22 (d := d_House_hears) rfl
  obtain ⟨fd__law_is, F__law_is⟩ := c.def_ 23 (d := d__law_is) rfl
  obtain ⟨fd__law_stands, F__law_stands⟩ := c.def_ 24 (d := d__law_stands) rfl
  obtain ⟨fd_Net_ties, F_Net_ties⟩ := c.def_ 25 (d := d_Net_ties) rfl
  obtain ⟨fd_law, F_law⟩ := c.def_ 26 (d := d_law) rfl
  have e := hfa.symm.trans (He.glo_ok X G (x := "law") (c.fact 94 rfl))
  cases e
  have b := FunD.bindsA (ps := ["_law_script"]) F_law fun _ _ _ _ _ _ us hl => match us, hl with | [_], _ => rfl
  refine ⟨fd_law, fun s v => b s [v] rfl, fun base hKb hGb => ?_⟩
  have o__law_cell_at := ok__law_cell_at (P := P) (w := w) (base := base) T  F__law_cell_at
  have o_Net__init_ := ok_Net__init_ (P := P) (w := w) (base := base) T  F_Net__init_
  have o__law_mixed := ok__law_mixed (P := P) (w := w) (base := base) T  F__law_mixed
  have g__law_mixed : Gf P w K mg base "_law_mixed" 1 [] (spM K m__law_mixed) := ⟨_, _, _, [], [], o__law_mixed, T.g__law_mixed, F__law_mixed.kp, (FunD.bindsN (ps := ["_law_cell", "_law_k"]) F__law_mixed fun _ _ _ _ _ _ us hl => match us, hl with | [_, _], _ => rfl), .nil, fun _ => rfl⟩
  have o__law_name := ok__law_name (P := P) (w := w) (base := base) T g__law_mixed F__law_name
  have o__law_due := ok__law_due (P := P) (w := w) (base := base) T  F__law_due
  have o_Post_kind := ok_Post_kind (P := P) (w := w) (base := base) T  F_Post_kind
  have o_House_kind := ok_House_kind (P := P) (w := w) (base := base) T  F_House_kind
  have o_Listener_kind := ok_Listener_kind (P := P) (w := w) (base := base) T  F_Listener_kind
  have gm_Post_kind : Gm P w K mg base (He.ga K "Post") "kind" 1 [] (spM K m_Post_kind) := ⟨T.cl_Post, _, _, _, [], [], o_Post_kind, T.me_Post_kind, (FunD.bindsN (ps := ["self"]) F_Post_kind fun _ _ _ _ _ _ us hl => match us, hl with | [_], _ => rfl), .nil, fun _ => rfl⟩
  have gm_House_kind : Gm P w K mg base (He.ga K "House") "kind" 1 [] (spM K m_House_kind) := ⟨T.cl_House, _, _, _, [], [], o_House_kind, T.me_House_kind, (FunD.bindsN (ps := ["self"]) F_House_kind fun _ _ _ _ _ _ us hl => match us, hl with | [_], _ => rfl), .nil, fun _ => rfl⟩
  have gm_Listener_kind : Gm P w K mg base (He.ga K "Listener") "kind" 1 [] (spM K m_Listener_kind) := ⟨T.cl_Listener, _, _, _, [], [], o_Listener_kind, T.me_Listener_kind, (FunD.bindsN (ps := ["self"]) F_Listener_kind fun _ _ _ _ _ _ us hl => match us, hl with | [_], _ => rfl), .nil, fun _ => rfl⟩
  have o_Net_home := ok_Net_home (P := P) (w := w) (base := base) T gm_Post_kind gm_House_kind gm_Listener_kind F_Net_home
  have o_Post_reads := ok_Post_reads (P := P) (w := w) (base := base) T  F_Post_reads
  have o_Listener_reads := ok_Listener_reads (P := P) (w := w) (base := base) T  F_Listener_reads
  have gm_Post_reads : Gm P w K mg base (He.ga K "Post") "reads" 1 [] (spM K m_Post_reads) := ⟨T.cl_Post, _, _, _, [], [], o_Post_reads, T.me_Post_reads, (FunD.bindsN (ps := ["self"]) F_Post_reads fun _ _ _ _ _ _ us hl => match us, hl with | [_], _ => rfl), .nil, fun _ => rfl⟩
  have gm_House_reads : Gm P w K mg base (He.ga K "House") "reads" 1 [] (spM K m_Post_reads) := ⟨T.cl_House, _, _, _, [], [], o_Post_reads, (by have h := T.me_House_reads; rw [T.mi_House_reads] at h; exact h), (FunD.bindsN (ps := ["self"]) F_Post_reads fun _ _ _ _ _ _ us hl => match us, hl with | [_], _ => rfl), .nil, fun _ => rfl⟩
  have gm_Listener_reads : Gm P w K mg base (He.ga K "Listener") "reads" 1 [] (spM K m_Listener_reads) := ⟨T.cl_Listener, _, _, _, [], [], o_Listener_reads, T.me_Listener_reads, (FunD.bindsN (ps := ["self"]) F_Listener_reads fun _ _ _ _ _ _ us hl => match us, hl with | [_], _ => rfl), .nil, fun _ => rfl⟩
  have o_Net_listeners_vc := ok_Net_listeners_vc (P := P) (w := w) (base := base) T gm_Post_reads gm_House_reads gm_Listener_reads F_Net_listeners
  have o_Net_listeners := ok_Net_listeners (P := P) (w := w) (base := base) T o_Net_listeners_vc
  have gm_Net_home : Gm P w K mg base (He.ga K "Net") "home" 2 [] (spM K m_Net_home) := ⟨T.cl_Net, _, _, _, [], [], o_Net_home, T.me_Net_home, (FunD.bindsN (ps := ["self"]) F_Net_home fun _ _ _ _ _ _ us hl => match us, hl with | [_], _ => rfl), .nil, fun _ => rfl⟩
  have gm_Net_listeners : Gm P w K mg base (He.ga K "Net") "listeners" 2 [] (spM K m_Net_listeners) := ⟨T.cl_Net, _, _, _, [], [], o_Net_listeners, T.me_Net_listeners, (FunD.bindsN (ps := ["self"]) F_Net_listeners fun _ _ _ _ _ _ us hl => match us, hl with | [_], _ => rfl), .nil, fun _ => rfl⟩
  have o_Net_put_in := ok_Net_put_in (P := P) (w := w) (base := base) T gm_Post_kind gm_House_kind gm_Listener_kind gm_Net_home gm_Post_reads gm_House_reads gm_Listener_reads gm_Net_listeners F_Net_put_in
  have o_Post__init_ := ok_Post__init_ (P := P) (w := w) (base := base) T  F_Post__init_
  have gm_Net_put_in : Gm P w K mg base (He.ga K "Net") "put_in" 3 [] (spM K m_Net_put_in) := ⟨T.cl_Net, _, _, _, [], [], o_Net_put_in, T.me_Net_put_in, (FunD.bindsN (ps := ["self", "made"]) F_Net_put_in fun _ _ _ _ _ _ us hl => match us, hl with | [_, _], _ => rfl), .nil, fun _ => rfl⟩
  have gc_House : Gc P w K mg base "House" 1 [] (spM K m_Post__init_) := ⟨_, _, _, [], [], o_Post__init_, (by have h := T.mk_House; rw [T.mi_House] at h; exact h), T.g_House, (FunD.bindsN (ps := ["self", "name"]) F_Post__init_ fun _ _ _ _ _ _ us hl => match us, hl with | [_, _], _ => rfl), .nil, fun _ => rfl⟩
  have o_Net_house := ok_Net_house (P := P) (w := w) (base := base) T gm_Net_put_in gc_House F_Net_house
  have gc_Listener : Gc P w K mg base "Listener" 1 [] (spM K m_Post__init_) := ⟨_, _, _, [], [], o_Post__init_, (by have h := T.mk_Listener; rw [T.mi_Listener] at h; exact h), T.g_Listener, (FunD.bindsN (ps := ["self", "name"]) F_Post__init_ fun _ _ _ _ _ _ us hl => match us, hl with | [_, _], _ => rfl), .nil, fun _ => rfl⟩
  have o_Net_listener := ok_Net_listener (P := P) (w := w) (base := base) T gm_Net_put_in gc_Listener F_Net_listener
  have gc_Post : Gc P w K mg base "Post" 1 [] (spM K m_Post__init_) := ⟨_, _, _, [], [], o_Post__init_, T.mk_Post, T.g_Post, (FunD.bindsN (ps := ["self", "name"]) F_Post__init_ fun _ _ _ _ _ _ us hl => match us, hl with | [_, _], _ => rfl), .nil, fun _ => rfl⟩
  have o_Net_post := ok_Net_post (P := P) (w := w) (base := base) T gm_Net_put_in gc_Post F_Net_post
  have oX__law_word_vx := okX__law_word_vx (P := P) (w := w) (base := base) T  F__law_word
  have gm_Net_house : Gm P w K mg base (He.ga K "Net") "house" 4 [] (spM K m_Net_house) := ⟨T.cl_Net, _, _, _, [], [], o_Net_house, T.me_Net_house, (FunD.bindsN (ps := ["self", "name"]) F_Net_house fun _ _ _ _ _ _ us hl => match us, hl with | [_, _], _ => rfl), .nil, fun _ => rfl⟩
  have gm_Net_listener : Gm P w K mg base (He.ga K "Net") "listener" 4 [] (spM K m_Net_listener) := ⟨T.cl_Net, _, _, _, [], [], o_Net_listener, T.me_Net_listener, (FunD.bindsN (ps := ["self", "name"]) F_Net_listener fun _ _ _ _ _ _ us hl => match us, hl with | [_, _], _ => rfl), .nil, fun _ => rfl⟩
  have gm_Net_post : Gm P w K mg base (He.ga K "Net") "post" 4 [] (spM K m_Net_post) := ⟨T.cl_Net, _, _, _, [], [], o_Net_post, T.me_Net_post, (FunD.bindsN (ps := ["self", "name"]) F_Net_post fun _ _ _ _ _ _ us hl => match us, hl with | [_, _], _ => rfl), .nil, fun _ => rfl⟩
  have gX__law_word_vx : ∀ (ad dd : Addr) (ex : Exn), GfHx P w K mg base (CauP K ad dd ex) "_law_word" 1 [] (spM K (m__law_word_vx ad dd ex)) := fun ad dd ex => ⟨_, _, _, [], [], oX__law_word_vx ad dd ex, T.g__law_word, F__law_word.kp, (FunD.bindsN (ps := ["_law_e"]) F__law_word fun _ _ _ _ _ _ us hl => match us, hl with | [_], _ => rfl), .nil, fun _ => rfl⟩
  have o__law_put := ok__law_put (P := P) (w := w) (base := base) T gm_Net_house gm_Net_listener gm_Net_post gX__law_word_vx F__law_put
  have o_Net_posts_vc := ok_Net_posts_vc (P := P) (w := w) (base := base) T  F_Net_posts
  have o_Net_names_vc := ok_Net_names_vc (P := P) (w := w) (base := base) T  F_Net_names
  have o_Net_names := ok_Net_names (P := P) (w := w) (base := base) T o_Net_names_vc
  have o_Post_hears := ok_Post_hears (P := P) (w := w) (base := base) T  F_Post_hears
  have o_House_hears := ok_House_hears (P := P) (w := w) (base := base) T  F_House_hears
  have gm_Post_hears : Gm P w K mg base (He.ga K "Post") "hears" 1 [] (spM K m_Post_hears) := ⟨T.cl_Post, _, _, _, [], [], o_Post_hears, T.me_Post_hears, (FunD.bindsN (ps := ["self"]) F_Post_hears fun _ _ _ _ _ _ us hl => match us, hl with | [_], _ => rfl), .nil, fun _ => rfl⟩
  have gm_House_hears : Gm P w K mg base (He.ga K "House") "hears" 1 [] (spM K m_House_hears) := ⟨T.cl_House, _, _, _, [], [], o_House_hears, T.me_House_hears, (FunD.bindsN (ps := ["self"]) F_House_hears fun _ _ _ _ _ _ us hl => match us, hl with | [_], _ => rfl), .nil, fun _ => rfl⟩
  have gm_Listener_hears : Gm P w K mg base (He.ga K "Listener") "hears" 1 [] (spM K m_Post_hears) := ⟨T.cl_Listener, _, _, _, [], [], o_Post_hears, (by have h := T.me_Listener_hears; rw [T.mi_Listener_hears] at h; exact h), (FunD.bindsN (ps := ["self"]) F_Post_hears fun _ _ _ _ _ _ us hl => match us, hl with | [_], _ => rfl), .nil, fun _ => rfl⟩
  have o__law_is := ok__law_is (P := P) (w := w) (base := base) T gm_Post_kind gm_House_kind gm_Listener_kind gm_Post_reads gm_House_reads gm_Listener_reads gm_Post_hears gm_House_hears gm_Listener_hears F__law_is
  have o_Net_posts := ok_Net_posts (P := P) (w := w) (base := base) T o_Net_posts_vc
  have gm_Net_posts_c : Gm P w K mg base (He.ga K "Net") "posts" 1 [] (spM K m_Net_posts_vc) := ⟨T.cl_Net, _, _, _, [], [], o_Net_posts_vc, T.me_Net_posts, (FunD.bindsN (ps := ["self"]) F_Net_posts fun _ _ _ _ _ _ us hl => match us, hl with | [_], _ => rfl), .nil, fun _ => rfl⟩
  have gm_Net_names : Gm P w K mg base (He.ga K "Net") "names" 1 [] (spM K m_Net_names) := ⟨T.cl_Net, _, _, _, [], [], o_Net_names, T.me_Net_names, (FunD.bindsN (ps := ["self"]) F_Net_names fun _ _ _ _ _ _ us hl => match us, hl with | [_], _ => rfl), .nil, fun _ => rfl⟩
  have g__law_is : Gf P w K mg base "_law_is" 2 [] (spM K m__law_is) := ⟨_, _, _, [], [], o__law_is, T.g__law_is, F__law_is.kp, (FunD.bindsN (ps := ["_law_one", "_law_name_here", "_law_kind"]) F__law_is fun _ _ _ _ _ _ us hl => match us, hl with | [_, _, _], _ => rfl), .nil, fun _ => rfl⟩
  have gm_Net_names_c : Gm P w K mg base (He.ga K "Net") "names" 1 [] (spM K m_Net_names_vc) := ⟨T.cl_Net, _, _, _, [], [], o_Net_names_vc, T.me_Net_names, (FunD.bindsN (ps := ["self"]) F_Net_names fun _ _ _ _ _ _ us hl => match us, hl with | [_], _ => rfl), .nil, fun _ => rfl⟩
  have gm_Net_listeners_c : Gm P w K mg base (He.ga K "Net") "listeners" 2 [] (spM K m_Net_listeners_vc) := ⟨T.cl_Net, _, _, _, [], [], o_Net_listeners_vc, T.me_Net_listeners, (FunD.bindsN (ps := ["self"]) F_Net_listeners fun _ _ _ _ _ _ us hl => match us, hl with | [_], _ => rfl), .nil, fun _ => rfl⟩
  have gm_Net_posts : Gm P w K mg base (He.ga K "Net") "posts" 1 [] (spM K m_Net_posts) := ⟨T.cl_Net, _, _, _, [], [], o_Net_posts, T.me_Net_posts, (FunD.bindsN (ps := ["self"]) F_Net_posts fun _ _ _ _ _ _ us hl => match us, hl with | [_], _ => rfl), .nil, fun _ => rfl⟩
  have o__law_stands := ok__law_stands (P := P) (w := w) (base := base) T gm_Net_posts_c gm_Net_names g__law_is gm_Net_listeners gm_Net_names_c gm_Net_listeners_c gm_Net_home gm_Net_posts F__law_stands
  have o_Net_ties_vc := ok_Net_ties_vc (P := P) (w := w) (base := base) T  F_Net_ties
  have o_Net_ties := ok_Net_ties (P := P) (w := w) (base := base) T o_Net_ties_vc
  have g__law_cell_at : Gf P w K mg base "_law_cell_at" 1 [] (spM K m__law_cell_at) := ⟨_, _, _, [], [], o__law_cell_at, T.g__law_cell_at, F__law_cell_at.kp, (FunD.bindsN (ps := ["_law_script", "_law_k"]) F__law_cell_at fun _ _ _ _ _ _ us hl => match us, hl with | [_, _], _ => rfl), .nil, fun _ => rfl⟩
  have gc_Net : Gc P w K mg base "Net" 1 [] (spM K m_Net__init_) := ⟨_, _, _, [], [], o_Net__init_, T.mk_Net, T.g_Net, (FunD.bindsN (ps := ["self"]) F_Net__init_ fun _ _ _ _ _ _ us hl => match us, hl with | [_], _ => rfl), .nil, fun _ => rfl⟩
  have g__law_name : Gf P w K mg base "_law_name" 2 [] (spM K m__law_name) := ⟨_, _, _, [], [], o__law_name, T.g__law_name, F__law_name.kp, (FunD.bindsN (ps := ["_law_first", "_law_cell"]) F__law_name fun _ _ _ _ _ _ us hl => match us, hl with | [_, _], _ => rfl), .nil, fun _ => rfl⟩
  have g__law_due : Gf P w K mg base "_law_due" 1 [] (spM K m__law_due) := ⟨_, _, _, [], [], o__law_due, T.g__law_due, F__law_due.kp, (FunD.bindsN (ps := ["_law_kinds", "_law_name_here", "_law_kind"]) F__law_due fun _ _ _ _ _ _ us hl => match us, hl with | [_, _, _], _ => rfl), .nil, fun _ => rfl⟩
  have g__law_put : Gf P w K mg base "_law_put" 5 [] (spM K m__law_put) := ⟨_, _, _, [], [], o__law_put, T.g__law_put, F__law_put.kp, (FunD.bindsN (ps := ["_law_net", "_law_name_here", "_law_kind"]) F__law_put fun _ _ _ _ _ _ us hl => match us, hl with | [_, _, _], _ => rfl), .nil, fun _ => rfl⟩
  have g__law_stands : Gf P w K mg base "_law_stands" 3 [] (spM K m__law_stands) := ⟨_, _, _, [], [], o__law_stands, T.g__law_stands, F__law_stands.kp, (FunD.bindsN (ps := ["_law_net", "_law_kinds"]) F__law_stands fun _ _ _ _ _ _ us hl => match us, hl with | [_, _], _ => rfl), .nil, fun _ => rfl⟩
  have gm_Net_ties : Gm P w K mg base (He.ga K "Net") "ties" 1 [] (spM K m_Net_ties) := ⟨T.cl_Net, _, _, _, [], [], o_Net_ties, T.me_Net_ties, (FunD.bindsN (ps := ["self"]) F_Net_ties fun _ _ _ _ _ _ us hl => match us, hl with | [_], _ => rfl), .nil, fun _ => rfl⟩
  have o_law := ok_law (P := P) (w := w) (base := base) T g__law_cell_at gc_Net g__law_name g__law_mixed g__law_due g__law_put g__law_stands gm_Net_ties gm_Net_home F_law
  exact o_law
end
end W
namespace W
open PySem L2 R
local macro_rules | `(tactic| walk_at "ev") => `(tactic| simp (config := {failIfUnchanged := false}) only [lk_name_name, pu_name, px_name_name, ln_name_kind, ln_name_reads, ln_name_hears, lk_by_name_by_number_given_by_name, pu_by_name, px_by_name_by_number_given_by_name, lk_by_name_by_number_given_by_number, pu_by_name_by_number, px_by_name_by_number_given_by_number, lk_by_name_by_number_given_given, pu_by_name_by_number_given, px_by_name_by_number_given_given, ln_by_name_by_number_given_put_in, ln_by_name_by_number_given_house, ln_by_name_by_number_given_post, ln_by_name_by_number_given_listener, ln_by_name_by_number_given_find, ln_by_name_by_number_given_leads, ln_by_name_by_number_given_tie, ln_by_name_by_number_given_cut_tie, ln_by_name_by_number_given_posts, ln_by_name_by_number_given_names, ln_by_name_by_number_given_listeners, ln_by_name_by_number_given_home, ln_by_name_by_number_given_ties, ln_by_name_by_number_given_into, ln_by_name_by_number_given_out_of, ln_by_name_by_number_given_next_of, ln_by_name_by_number_given_ordered, cc_Net_Net, cc_Post_House_Listener_Post, cc_Post_House_Listener_House, cc_Post_House_Listener_Listener, mt_Post_House_Listener_Post, mt_Post_House_Listener_House, mt_Post_House_Listener_Listener, mt_Net_Net, hit_PostError_IntoHouse, hit_PostError_NoName, hit_PostError_NoNumber, hit_PostError_NoPost, hit_PostError_OneHouse, hit_PostError_PostError, hit_PostError_RingMade, hit_PostError_Taken, hit_PostError_TooMany, isI_Post_Post, isI_House_Post, isI_Listener_Post, isI_Post_House, isI_House_House, isI_Listener_House, isI_Post_Listener, isI_House_Listener, isI_Listener_Listener, f_isIi, isT_NoName_NoName, isT_Taken_NoName, isT_OneHouse_NoName, isT_TooMany_NoName, isT_NoName_Taken, isT_Taken_Taken, isT_OneHouse_Taken, isT_TooMany_Taken, isT_NoName_OneHouse, isT_Taken_OneHouse, isT_OneHouse_OneHouse, isT_TooMany_OneHouse, isT_NoName_TooMany, isT_Taken_TooMany, isT_OneHouse_TooMany, isT_TooMany_TooMany, isT_NoName_NoPost, isT_Taken_NoPost, isT_OneHouse_NoPost, isT_TooMany_NoPost, isT_NoName_IntoHouse, isT_Taken_IntoHouse, isT_OneHouse_IntoHouse, isT_TooMany_IntoHouse, isT_NoName_ValueError, isT_Taken_ValueError, isT_OneHouse_ValueError, isT_TooMany_ValueError, ↓w_step, ↓w_lenSet, ↓w_sortSet, newL_ints, o_repL, o_repC, rep_one, ↓ws_forT, ↓w_iZipT, zipTP_i, ↓ws_tryE, ↓clE_nx, ↓clE_er, ↓clE_rt, ↓clE_bk, ↓clE_ct, f_lsL, ↓ws_forZ, ↓w_ok, ↓w_er, ↓w_none, ↓ws_some, ↓ws_none, ↓w_C, ↓w_bin, ↓w_cmp, ↓w_B, ↓w_ch, ↓w_V, ↓w_not, ↓w_tnot, ↓w_and, ↓w_or, ↓w_ite, ↓ws_ite, ↓w_tand, ↓w_tor, ↓w_if, ↓w_neg, ↓w_anil, ↓w_acons, ↓w_lst, ↓w_tup, ↓w_lstC, ↓w_dict, ↓w_dictT, ↓w_ix, ↓w_pNone, ↓w_pSome, ↓w_cut, ↓w_fn, ↓w_fld, ↓w_call, ↓w_call0, ↓w_make, ↓w_make0, ↓w_meth, ↓w_meth0, ↓w_bm, ↓w_bm0, ↓ws_nil, ↓ws_pass, ↓ws_brk, ↓ws_cnt, ↓ws_retN, ↓ws_raise, ↓thenS_nx, ↓thenS_rt, ↓thenS_bk, ↓thenS_ct, ↓thenS_er, ↓ws_cons, ↓ws_exp, ↓ws_ret, ↓ws_if, ↓ws_to, ↓ws_put, ↓ws_fld, ↓ws_for, ↓forS_nx, ↓forS_ct, ↓forS_bk, ↓forS_rt, ↓forS_er, ↓w_iLst, ↓w_iTup, ↓w_iRng1, ↓w_iRng2, ↓w_iEnum, ↓w_iZip, ↓w_lc, ↓ws_par, ↓wo_gTp, ↓wo_gNil, ↓wo_gCons, ↓ws_try, ↓clF_nx, ↓clF_rt, ↓clF_bk, ↓clF_ct, ↓clF_er, ↓ws_cl0, ↓ws_cl1, ↓clH_t, ↓clH_f, ↓ws_onA, ↓ws_onB, ↓ws_un, ↓unT_nx, ↓unT_bk, ↓unT_ct, ↓unT_rt, ↓ws_no, ↓noT_nx, ↓noT_bk, ↓noT_ct, ↓noT_rt, ↓w_xf, ↓w_rev, ↓wl_nil', ↓wl_cons', ↓w_disp, ↓w_prs0, ↓w_prs1, ↓w_iStrG, ↓ws_raiseF, ↓w_lcD, ↓ws_forD, ↓w_pop1, ↓noX_nx, ↓noX_rt, ↓noX_bk, ↓noX_ct, ↓ws_swp, ↓w_vals, ↓w_var0, ↓ws_asg0, ↓ws_slc0, ↓wo_gN0, ↓ws_aug0, ↓w_var1, ↓ws_asg1, ↓ws_slc1, ↓wo_gN1, ↓ws_aug1, ↓w_var2, ↓ws_asg2, ↓ws_slc2, ↓wo_gN2, ↓ws_aug2, ↓w_var3, ↓ws_asg3, ↓ws_slc3, ↓wo_gN3, ↓ws_aug3, ↓w_var4, ↓ws_asg4, ↓ws_slc4, ↓wo_gN4, ↓ws_aug4, ↓w_var5, ↓ws_asg5, ↓ws_slc5, ↓wo_gN5, ↓ws_aug5, ↓w_var6, ↓ws_asg6, ↓ws_slc6, ↓wo_gN6, ↓ws_aug6, ↓w_var7, ↓ws_asg7, ↓ws_slc7, ↓wo_gN7, ↓ws_aug7, ↓w_var8, ↓ws_asg8, ↓ws_slc8, ↓wo_gN8, ↓ws_aug8, ↓w_var9, ↓ws_asg9, ↓ws_slc9, ↓wo_gN9, ↓ws_aug9, ↓w_var10, ↓ws_asg10, ↓ws_slc10, ↓wo_gN10, ↓ws_aug10, ↓w_var11, ↓ws_asg11, ↓ws_slc11, ↓wo_gN11, ↓ws_aug11, ↓w_var12, ↓ws_asg12, ↓ws_slc12, ↓wo_gN12, ↓ws_aug12, ↓w_var13, ↓ws_asg13, ↓ws_slc13, ↓wo_gN13, ↓ws_aug13, ↓w_var14, ↓ws_asg14, ↓ws_slc14, ↓wo_gN14, ↓ws_aug14, ↓w_var15, ↓ws_asg15, ↓ws_slc15, ↓wo_gN15, ↓ws_aug15, ↓w_var16, ↓ws_asg16, ↓ws_slc16, ↓wo_gN16, ↓ws_aug16, ↓w_var17, ↓ws_asg17, ↓ws_slc17, ↓wo_gN17, ↓ws_aug17, ↓w_var18, ↓ws_asg18, ↓ws_slc18, ↓wo_gN18, ↓ws_aug18, ↓w_var19, ↓ws_asg19, ↓ws_slc19, ↓wo_gN19, ↓ws_aug19, ↓w_var20, ↓ws_asg20, ↓ws_slc20, ↓wo_gN20, ↓ws_aug20, ↓w_var21, ↓ws_asg21, ↓ws_slc21, ↓wo_gN21, ↓ws_aug21, ↓w_var22, ↓ws_asg22, ↓ws_slc22, ↓wo_gN22, ↓ws_aug22, ↓w_var23, ↓ws_asg23, ↓ws_slc23, ↓wo_gN23, ↓ws_aug23, wo_some, wo_none, asB_bl, asI_int, rng1P_i, rng2P_i, enumP_i, zipP_i, wipe_nil, wipe_cons, o_add, o_addS, o_addL, o_sub, o_mul, o_div, o_mod, o_pow, b_lt, b_le, b_gt, b_ge, b_is, b_isn, b_eqI, b_neI, b_eqS, b_neS, b_eqB, b_neB, v_S, v_Sc, v_L, v_T, v_Tp, v_TL, v_I, obL_lst, v_Sat, v_Lat, obI_ins, v_Iat, i_lst, i_tup, i_tp, i_scr, i_dk, i_dkS, ixOb_lst, ixOb_dk, i_at, ixObS_dk, i_atS, n_lst, n_scr, n_tup, n_dk, lnOb_lst, lnOb_dk, lnOb_dt, n_at, f_len, f_intI, f_intB, f_str, f_min2, f_max2, f_divmod, f_sum, f_all, f_any, f_isI, f_isBl, f_isL, f_isT, f_isD, f_isN, f_isE, f_isEf, m_join, rev_L, rev_LC, exE_0, exE_1, xfV_1, lk_hd, isNon_non, isNon_int, isNon_lst, isNon_tup, isNon_str, isNon_at, isNon_dk, unV_nil, unV_v, unV_at, mkTup_2, mkTup_3, mkTup_4, mkTup_va, mkTup_av, intsE_map, intsE_mapD, blsE_mapD, strsE_mapD, unV_map, e_rtv, e_rtv0, e_nx, e_nx0, e_er, e_er0, e_rt, z_ins, z_lst, z_dk, p_fld, cl_ins, cl_lst, cl_dk, cl_P0, cl_P1, cl_E0, cl_E1, cl_v, cl_map, cl_mapP, e_init, isX1_cls, isX1_ty, isX1_t2, mkTup_aa, twoQ_2, isLst_at, wlcD_v, wfD_v, t_er, t_er0, t_l1', ty_at, ty_lst, ty_str, m_app, m_ext, m_pop, m_clear, m_popI, popW_at, popO_lst, popO_dk, keyE_i, keyE_s, obK_dk, put_at, putOb_i, putOb_s, putOb_t, putOb_l, b_in, b_nin, in_dkD_i, in_dkD_s, in_lstI, in_lstS, cut_L, cut_Sc, cut_S, f_listL, f_listLC, newL_f, newL_o, f_tup, f_sortL, tyOb_lst, tyOb_dk, f_isA, f_isTp, f_isS, eq_ints, eq_tab, b_eq, b_ne, eqE_i, eqE_s, eqE_b, id_eq, Option.isSome_some, Option.isSome_none, val_nil, val_cons, obE_dk, mergeE_0, mergeE_1, putKE_0, pop_get, pop_getM, List.dropLast_concat, sz_0, sz_1, sz_2, sz_3, sz_4, sz_5, sz_6, sz_7, sz_8, closeV_v, atI_0, atI_1, atI_2, atI_3, up_0, up_0L, up_CL, up_C, e_rt0, t_tab, nl_len, nl_0, nl_1, nl_2, nl_a0, nl_a1, nl_a2, nl_g3, nl_s3, nl_g4, nl_s4, nl_g5, nl_s5, nl_g6, nl_s6, nl_g7, nl_s7, nl_g8, nl_s8, nl_g9, nl_s9, nl_g10, nl_s10, nl_g11, nl_s11, blsE_mapf, intsE_mapf, strsE_mapf, t_l1p, n_str, asS_str, in_sgnE, m_insert, f_maxL, f_minL, a_rt, a_nx, a_er, a_er0, Int.toNat_natCast, List.length_set, List.length_append, List.map_cons, List.map_nil, List.cons_append, List.nil_append, List.append_nil, List.length_cons, List.length_nil, List.length_map, List.set_cons_zero, List.set_cons_succ, List.getElem?_cons_zero, List.getElem?_cons_succ, Option.bind_some, Option.map_some, Option.map_none, decide_eq_true_eq, decide_eq_false_iff_not, Bool.not_eq_true, Bool.not_eq_false, Bool.not_eq_eq_eq_not, Bool.not_true, Bool.not_false, decide_true, decide_false, true_and, and_true, false_and, and_false, forall_const, true_implies, false_implies, implies_true, Bool.true_eq_false, Bool.false_eq_true, eq_self_iff_true, not_true_eq_false, not_false_eq_true, Nat.zero_add, c_get, c_get0, c_set, c_set0, List.append_assoc, decide_not, Bool.not_not, if_true, if_false, ite_true, ite_false, Bool.and_true, Bool.and_self, Nat.reduceLT, Nat.reduceAdd, Nat.reduceSub, Nat.reduceLeDiff, Nat.reduceEqDiff, Int.reduceAdd, Int.reduceSub, Int.reduceMul, Int.reduceNeg, Int.reduceLT, Int.reduceLE, Int.reduceEq, Int.reduceToNat, reduceIte, kt_int_int, kt_int_bool, kt_int_list, kt_int_tuple, kt_int_dict, kt_int_str, kt_bool_int, kt_bool_bool, kt_bool_list, kt_bool_tuple, kt_bool_dict, kt_bool_str, kt_list_int, kt_list_bool, kt_list_list, kt_list_tuple, kt_list_dict, kt_list_str, kt_tuple_int, kt_tuple_bool, kt_tuple_list, kt_tuple_tuple, kt_tuple_dict, kt_tuple_str, kt_dict_int, kt_dict_bool, kt_dict_list, kt_dict_tuple, kt_dict_dict, kt_dict_str, kt_str_int, kt_str_bool, kt_str_list, kt_str_tuple, kt_str_dict, kt_str_str, kt_NoneType_int, kt_NoneType_bool, kt_NoneType_list, kt_NoneType_tuple, kt_NoneType_dict, kt_NoneType_str])
local macro_rules | `(tactic| walk_at "ev*") => `(tactic| simp (config := {failIfUnchanged := false}) only [lk_name_name, pu_name, px_name_name, ln_name_kind, ln_name_reads, ln_name_hears, lk_by_name_by_number_given_by_name, pu_by_name, px_by_name_by_number_given_by_name, lk_by_name_by_number_given_by_number, pu_by_name_by_number, px_by_name_by_number_given_by_number, lk_by_name_by_number_given_given, pu_by_name_by_number_given, px_by_name_by_number_given_given, ln_by_name_by_number_given_put_in, ln_by_name_by_number_given_house, ln_by_name_by_number_given_post, ln_by_name_by_number_given_listener, ln_by_name_by_number_given_find, ln_by_name_by_number_given_leads, ln_by_name_by_number_given_tie, ln_by_name_by_number_given_cut_tie, ln_by_name_by_number_given_posts, ln_by_name_by_number_given_names, ln_by_name_by_number_given_listeners, ln_by_name_by_number_given_home, ln_by_name_by_number_given_ties, ln_by_name_by_number_given_into, ln_by_name_by_number_given_out_of, ln_by_name_by_number_given_next_of, ln_by_name_by_number_given_ordered, cc_Net_Net, cc_Post_House_Listener_Post, cc_Post_House_Listener_House, cc_Post_House_Listener_Listener, mt_Post_House_Listener_Post, mt_Post_House_Listener_House, mt_Post_House_Listener_Listener, mt_Net_Net, hit_PostError_IntoHouse, hit_PostError_NoName, hit_PostError_NoNumber, hit_PostError_NoPost, hit_PostError_OneHouse, hit_PostError_PostError, hit_PostError_RingMade, hit_PostError_Taken, hit_PostError_TooMany, isI_Post_Post, isI_House_Post, isI_Listener_Post, isI_Post_House, isI_House_House, isI_Listener_House, isI_Post_Listener, isI_House_Listener, isI_Listener_Listener, f_isIi, isT_NoName_NoName, isT_Taken_NoName, isT_OneHouse_NoName, isT_TooMany_NoName, isT_NoName_Taken, isT_Taken_Taken, isT_OneHouse_Taken, isT_TooMany_Taken, isT_NoName_OneHouse, isT_Taken_OneHouse, isT_OneHouse_OneHouse, isT_TooMany_OneHouse, isT_NoName_TooMany, isT_Taken_TooMany, isT_OneHouse_TooMany, isT_TooMany_TooMany, isT_NoName_NoPost, isT_Taken_NoPost, isT_OneHouse_NoPost, isT_TooMany_NoPost, isT_NoName_IntoHouse, isT_Taken_IntoHouse, isT_OneHouse_IntoHouse, isT_TooMany_IntoHouse, isT_NoName_ValueError, isT_Taken_ValueError, isT_OneHouse_ValueError, isT_TooMany_ValueError, ↓w_step, ↓w_lenSet, ↓w_sortSet, newL_ints, o_repL, o_repC, rep_one, ↓ws_forT, ↓w_iZipT, zipTP_i, ↓ws_tryE, ↓clE_nx, ↓clE_er, ↓clE_rt, ↓clE_bk, ↓clE_ct, f_lsL, ↓ws_forZ, ↓w_ok, ↓w_er, ↓w_none, ↓ws_some, ↓ws_none, ↓w_C, ↓w_bin, ↓w_cmp, ↓w_B, ↓w_ch, ↓w_V, ↓w_not, ↓w_tnot, ↓w_and, ↓w_or, ↓w_ite, ↓ws_ite, ↓w_tand, ↓w_tor, ↓w_if, ↓w_neg, ↓w_anil, ↓w_acons, ↓w_lst, ↓w_tup, ↓w_lstC, ↓w_dict, ↓w_dictT, ↓w_ix, ↓w_pNone, ↓w_pSome, ↓w_cut, ↓w_fn, ↓w_fld, ↓w_call, ↓w_call0, ↓w_make, ↓w_make0, ↓w_meth, ↓w_meth0, ↓w_bm, ↓w_bm0, ↓ws_nil, ↓ws_pass, ↓ws_brk, ↓ws_cnt, ↓ws_retN, ↓ws_raise, ↓thenS_nx, ↓thenS_rt, ↓thenS_bk, ↓thenS_ct, ↓thenS_er, ↓ws_cons, ↓ws_exp, ↓ws_ret, ↓ws_if, ↓ws_to, ↓ws_put, ↓ws_fld, ↓ws_for, ↓forS_nx, ↓forS_ct, ↓forS_bk, ↓forS_rt, ↓forS_er, ↓w_iLst, ↓w_iTup, ↓w_iRng1, ↓w_iRng2, ↓w_iEnum, ↓w_iZip, ↓w_lc, ↓ws_par, ↓wo_gTp, ↓wo_gNil, ↓wo_gCons, ↓ws_try, ↓clF_nx, ↓clF_rt, ↓clF_bk, ↓clF_ct, ↓clF_er, ↓ws_cl0, ↓ws_cl1, ↓clH_t, ↓clH_f, ↓ws_onA, ↓ws_onB, ↓ws_un, ↓unT_nx, ↓unT_bk, ↓unT_ct, ↓unT_rt, ↓ws_no, ↓noT_nx, ↓noT_bk, ↓noT_ct, ↓noT_rt, ↓w_xf, ↓w_rev, ↓wl_nil', ↓wl_cons', ↓w_disp, ↓w_prs0, ↓w_prs1, ↓w_iStrG, ↓ws_raiseF, ↓w_lcD, ↓ws_forD, ↓w_pop1, ↓noX_nx, ↓noX_rt, ↓noX_bk, ↓noX_ct, ↓ws_swp, ↓w_vals, ↓w_var0, ↓ws_asg0, ↓ws_slc0, ↓wo_gN0, ↓ws_aug0, ↓w_var1, ↓ws_asg1, ↓ws_slc1, ↓wo_gN1, ↓ws_aug1, ↓w_var2, ↓ws_asg2, ↓ws_slc2, ↓wo_gN2, ↓ws_aug2, ↓w_var3, ↓ws_asg3, ↓ws_slc3, ↓wo_gN3, ↓ws_aug3, ↓w_var4, ↓ws_asg4, ↓ws_slc4, ↓wo_gN4, ↓ws_aug4, ↓w_var5, ↓ws_asg5, ↓ws_slc5, ↓wo_gN5, ↓ws_aug5, ↓w_var6, ↓ws_asg6, ↓ws_slc6, ↓wo_gN6, ↓ws_aug6, ↓w_var7, ↓ws_asg7, ↓ws_slc7, ↓wo_gN7, ↓ws_aug7, ↓w_var8, ↓ws_asg8, ↓ws_slc8, ↓wo_gN8, ↓ws_aug8, ↓w_var9, ↓ws_asg9, ↓ws_slc9, ↓wo_gN9, ↓ws_aug9, ↓w_var10, ↓ws_asg10, ↓ws_slc10, ↓wo_gN10, ↓ws_aug10, ↓w_var11, ↓ws_asg11, ↓ws_slc11, ↓wo_gN11, ↓ws_aug11, ↓w_var12, ↓ws_asg12, ↓ws_slc12, ↓wo_gN12, ↓ws_aug12, ↓w_var13, ↓ws_asg13, ↓ws_slc13, ↓wo_gN13, ↓ws_aug13, ↓w_var14, ↓ws_asg14, ↓ws_slc14, ↓wo_gN14, ↓ws_aug14, ↓w_var15, ↓ws_asg15, ↓ws_slc15, ↓wo_gN15, ↓ws_aug15, ↓w_var16, ↓ws_asg16, ↓ws_slc16, ↓wo_gN16, ↓ws_aug16, ↓w_var17, ↓ws_asg17, ↓ws_slc17, ↓wo_gN17, ↓ws_aug17, ↓w_var18, ↓ws_asg18, ↓ws_slc18, ↓wo_gN18, ↓ws_aug18, ↓w_var19, ↓ws_asg19, ↓ws_slc19, ↓wo_gN19, ↓ws_aug19, ↓w_var20, ↓ws_asg20, ↓ws_slc20, ↓wo_gN20, ↓ws_aug20, ↓w_var21, ↓ws_asg21, ↓ws_slc21, ↓wo_gN21, ↓ws_aug21, ↓w_var22, ↓ws_asg22, ↓ws_slc22, ↓wo_gN22, ↓ws_aug22, ↓w_var23, ↓ws_asg23, ↓ws_slc23, ↓wo_gN23, ↓ws_aug23, wo_some, wo_none, asB_bl, asI_int, rng1P_i, rng2P_i, enumP_i, zipP_i, wipe_nil, wipe_cons, o_add, o_addS, o_addL, o_sub, o_mul, o_div, o_mod, o_pow, b_lt, b_le, b_gt, b_ge, b_is, b_isn, b_eqI, b_neI, b_eqS, b_neS, b_eqB, b_neB, v_S, v_Sc, v_L, v_T, v_Tp, v_TL, v_I, obL_lst, v_Sat, v_Lat, obI_ins, v_Iat, i_lst, i_tup, i_tp, i_scr, i_dk, i_dkS, ixOb_lst, ixOb_dk, i_at, ixObS_dk, i_atS, n_lst, n_scr, n_tup, n_dk, lnOb_lst, lnOb_dk, lnOb_dt, n_at, f_len, f_intI, f_intB, f_str, f_min2, f_max2, f_divmod, f_sum, f_all, f_any, f_isI, f_isBl, f_isL, f_isT, f_isD, f_isN, f_isE, f_isEf, m_join, rev_L, rev_LC, exE_0, exE_1, xfV_1, lk_hd, isNon_non, isNon_int, isNon_lst, isNon_tup, isNon_str, isNon_at, isNon_dk, unV_nil, unV_v, unV_at, mkTup_2, mkTup_3, mkTup_4, mkTup_va, mkTup_av, intsE_map, intsE_mapD, blsE_mapD, strsE_mapD, unV_map, e_rtv, e_rtv0, e_nx, e_nx0, e_er, e_er0, e_rt, z_ins, z_lst, z_dk, p_fld, cl_ins, cl_lst, cl_dk, cl_P0, cl_P1, cl_E0, cl_E1, cl_v, cl_map, cl_mapP, e_init, isX1_cls, isX1_ty, isX1_t2, mkTup_aa, twoQ_2, isLst_at, wlcD_v, wfD_v, t_er, t_er0, t_l1', ty_at, ty_lst, ty_str, m_app, m_ext, m_pop, m_clear, m_popI, popW_at, popO_lst, popO_dk, keyE_i, keyE_s, obK_dk, put_at, putOb_i, putOb_s, putOb_t, putOb_l, b_in, b_nin, in_dkD_i, in_dkD_s, in_lstI, in_lstS, cut_L, cut_Sc, cut_S, f_listL, f_listLC, newL_f, newL_o, f_tup, f_sortL, tyOb_lst, tyOb_dk, f_isA, f_isTp, f_isS, eq_ints, eq_tab, b_eq, b_ne, eqE_i, eqE_s, eqE_b, id_eq, Option.isSome_some, Option.isSome_none, val_nil, val_cons, obE_dk, mergeE_0, mergeE_1, putKE_0, pop_get, pop_getM, List.dropLast_concat, sz_0, sz_1, sz_2, sz_3, sz_4, sz_5, sz_6, sz_7, sz_8, closeV_v, atI_0, atI_1, atI_2, atI_3, up_0, up_0L, up_CL, up_C, e_rt0, t_tab, nl_len, nl_0, nl_1, nl_2, nl_a0, nl_a1, nl_a2, nl_g3, nl_s3, nl_g4, nl_s4, nl_g5, nl_s5, nl_g6, nl_s6, nl_g7, nl_s7, nl_g8, nl_s8, nl_g9, nl_s9, nl_g10, nl_s10, nl_g11, nl_s11, blsE_mapf, intsE_mapf, strsE_mapf, t_l1p, n_str, asS_str, in_sgnE, m_insert, f_maxL, f_minL, a_rt, a_nx, a_er, a_er0, Int.toNat_natCast, List.length_set, List.length_append, List.map_cons, List.map_nil, List.cons_append, List.nil_append, List.append_nil, List.length_cons, List.length_nil, List.length_map, List.set_cons_zero, List.set_cons_succ, List.getElem?_cons_zero, List.getElem?_cons_succ, Option.bind_some, Option.map_some, Option.map_none, decide_eq_true_eq, decide_eq_false_iff_not, Bool.not_eq_true, Bool.not_eq_false, Bool.not_eq_eq_eq_not, Bool.not_true, Bool.not_false, decide_true, decide_false, true_and, and_true, false_and, and_false, forall_const, true_implies, false_implies, implies_true, Bool.true_eq_false, Bool.false_eq_true, eq_self_iff_true, not_true_eq_false, not_false_eq_true, Nat.zero_add, c_get, c_get0, c_set, c_set0, List.append_assoc, decide_not, Bool.not_not, if_true, if_false, ite_true, ite_false, Bool.and_true, Bool.and_self, Nat.reduceLT, Nat.reduceAdd, Nat.reduceSub, Nat.reduceLeDiff, Nat.reduceEqDiff, Int.reduceAdd, Int.reduceSub, Int.reduceMul, Int.reduceNeg, Int.reduceLT, Int.reduceLE, Int.reduceEq, Int.reduceToNat, reduceIte, kt_int_int, kt_int_bool, kt_int_list, kt_int_tuple, kt_int_dict, kt_int_str, kt_bool_int, kt_bool_bool, kt_bool_list, kt_bool_tuple, kt_bool_dict, kt_bool_str, kt_list_int, kt_list_bool, kt_list_list, kt_list_tuple, kt_list_dict, kt_list_str, kt_tuple_int, kt_tuple_bool, kt_tuple_list, kt_tuple_tuple, kt_tuple_dict, kt_tuple_str, kt_dict_int, kt_dict_bool, kt_dict_list, kt_dict_tuple, kt_dict_dict, kt_dict_str, kt_str_int, kt_str_bool, kt_str_list, kt_str_tuple, kt_str_dict, kt_str_str, kt_NoneType_int, kt_NoneType_bool, kt_NoneType_list, kt_NoneType_tuple, kt_NoneType_dict, kt_NoneType_str, *])
section
/-! ### nets -/
structure NetC (C : Cs) (n : Nat) (lk : Option HO) (N : NT) : Prop where
  net : C[n]? = some (some (.ins "Net" [("by_name", .at (n + 1)), ("by_number", .at (n + 2)), ("given", .v (.int N.g))]))
  nm : C[n + 1]? = some (some (.dk lk (nmE N)))
  nb : C[n + 2]? = some (some (.dk none (nbE N)))
def lettersL : List Nat := ("abcdefghijklmnopqrstuvwxyz" : Str).cps.toList
def nmOk (s : Str) : Prop := 1 ≤ s.length ∧ s.length ≤ 8 ∧ ∀ c ∈ s.cps.toList, c ∈ lettersL
theorem nmOk_str {s : Str} (h : nmOk s) : PyData.strOk s = true := by
  unfold PyData.strOk
  rw [← Array.all_toList, List.all_eq_true]
  intro c hc
  have h1 : lettersL.all (fun c => decide (c < 0x110000)) = true := by decide +kernel
  exact List.all_eq_true.mp h1 c (h.2.2 c hc)
structure Wf (N : NT) : Prop where
  cls : ∀ p ∈ N.ps, p.2 = "Post" ∨ p.2 = "House" ∨ p.2 = "Listener"
  nd : (N.ps.map (·.1)).Nodup
  rise : (N.ts.map (·.1)).Pairwise (· < ·)
  lt : ∀ t ∈ N.ts, 0 ≤ t.1 ∧ t.1 < N.g
  g0 : 0 ≤ N.g
  l20 : N.ps.length ≤ 20
  l40 : N.ts.length ≤ 40
  nm : ∀ p ∈ N.ps, nmOk p.1
  one : ∀ t ∈ N.ts, t.2.1 ∈ N.ps.map (·.1)
  oth : ∀ t ∈ N.ts, t.2.2.1 ∈ N.ps.map (·.1)
theorem get_app {α : Type} {l m : List α} {i : Nat} {x : α} (h : l[i]? = some x) : (l ++ m)[i]? = some x := by
  rw [List.getElem?_append_left (List.getElem?_eq_some_iff.mp h).1]
  exact h
section
variable {C : Cs} {n : Nat} {lk : Option HO} {N : NT} {Q : El → Cs → Prop} {E : Exn → Cs → Prop} {r : El} {c : Str}
theorem NetC.app (h : NetC C n lk N) (L : Cs) : NetC (C ++ L) n lk N := ⟨get_app h.net, get_app h.nm, get_app h.nb⟩
/-- what is seen of it, with cells behind -/
theorem NetC.see (h : NetC C n lk N) : (C[n]? = some (some (.ins "Net" [("by_name", .at (n + 1)), ("by_number", .at (n + 2)), ("given", .v (.int N.g))]))) ∧ (C[n + 1]? = some (some (.dk lk (nmE N)))) ∧ (C[n + 2]? = some (some (.dk none (nbE N)))) ∧
    (∀ L, (C ++ L)[n]? = some (some (.ins "Net" [("by_name", .at (n + 1)), ("by_number", .at (n + 2)), ("given", .v (.int N.g))]))) ∧ (∀ L, (C ++ L)[n + 1]? = some (some (.dk lk (nmE N)))) ∧ (∀ L, (C ++ L)[n + 2]? = some (some (.dk none (nbE N)))) :=
  ⟨h.net, h.nm, h.nb, fun L => (h.app L).net, fun L => (h.app L).nm, fun L => (h.app L).nb⟩
theorem NetC.lock (h : NetC C n none N) (ho : HO) : NetC (C.set (n + 1) (some (.dk (some ho) (nmE N)))) n (some ho) N :=
  ⟨by rw [List.getElem?_set_ne (by omega)]; exact h.net, by rw [List.getElem?_set_self (List.getElem?_eq_some_iff.mp h.nm).1], by rw [List.getElem?_set_ne (by omega)]; exact h.nb⟩
/-! ### posts -/
def Cls3 (c : Str) : Prop := c = "Post" ∨ c = "House" ∨ c = "Listener"
def kindS (c : Str) : Str := if c = "House" then "house" else if c = "Listener" then "listener" else "post"
theorem kP_ok : m_Post_kind [r] C = some (.ok (.v (.str "post")), C) := by
  refine of_wp ?_
  rw [o_Post_kind]
  unfold b_Post_kind
  walk_at "ev"
theorem kH_ok : m_House_kind [r] C = some (.ok (.v (.str "house")), C) := by
  refine of_wp ?_
  rw [o_House_kind]
  unfold b_House_kind
  walk_at "ev"
theorem kL_ok : m_Listener_kind [r] C = some (.ok (.v (.str "listener")), C) := by
  refine of_wp ?_
  rw [o_Listener_kind]
  unfold b_Listener_kind
  walk_at "ev"
theorem rP_ok : m_Post_reads [r] C = some (.ok (.v (.bl false)), C) := by
  refine of_wp ?_
  rw [o_Post_reads]
  unfold b_Post_reads
  walk_at "ev"
theorem rL_ok : m_Listener_reads [r] C = some (.ok (.v (.bl true)), C) := by
  refine of_wp ?_
  rw [o_Listener_reads]
  unfold b_Listener_reads
  walk_at "ev"
theorem hP_ok : m_Post_hears [r] C = some (.ok (.v (.bl true)), C) := by
  refine of_wp ?_
  rw [o_Post_hears]
  unfold b_Post_hears
  walk_at "ev"
theorem hH_ok : m_House_hears [r] C = some (.ok (.v (.bl false)), C) := by
  refine of_wp ?_
  rw [o_House_hears]
  unfold b_House_hears
  walk_at "ev"
theorem kind_m (h : Cls3 c) : (wo (mtab [("Post", m_Post_kind, []), ("House", m_House_kind, []), ("Listener", m_Listener_kind, [])] c) fun md => wp (md.1 (r :: md.2.map El.v) C) Q E) = Q (.v (.str (kindS c))) C := by
  rcases h with rfl | rfl | rfl
  · simp only [mt_Post_House_Listener_Post, wo_some, List.map_nil, kP_ok, w_ok]
    rfl
  · simp only [mt_Post_House_Listener_House, wo_some, List.map_nil, kH_ok, w_ok]
    rfl
  · simp only [mt_Post_House_Listener_Listener, wo_some, List.map_nil, kL_ok, w_ok]
    rfl
theorem reads_m (h : Cls3 c) : (wo (mtab [("Post", m_Post_reads, []), ("House", m_Post_reads, []), ("Listener", m_Listener_reads, [])] c) fun md => wp (md.1 (r :: md.2.map El.v) C) Q E) = Q (.v (.bl (decide (c = "Listener")))) C := by
  rcases h with rfl | rfl | rfl
  · simp only [mt_Post_House_Listener_Post, wo_some, List.map_nil, rP_ok, w_ok]
    rfl
  · simp only [mt_Post_House_Listener_House, wo_some, List.map_nil, rP_ok, w_ok]
    rfl
  · simp only [mt_Post_House_Listener_Listener, wo_some, List.map_nil, rL_ok, w_ok]
    rfl
theorem hears_m (h : Cls3 c) : (wo (mtab [("Post", m_Post_hears, []), ("House", m_House_hears, []), ("Listener", m_Post_hears, [])] c) fun md => wp (md.1 (r :: md.2.map El.v) C) Q E) = Q (.v (.bl (decide (c ≠ "House")))) C := by
  rcases h with rfl | rfl | rfl
  · simp only [mt_Post_House_Listener_Post, wo_some, List.map_nil, hP_ok, w_ok]
    rfl
  · simp only [mt_Post_House_Listener_House, wo_some, List.map_nil, hH_ok, w_ok]
    rfl
  · simp only [mt_Post_House_Listener_Listener, wo_some, List.map_nil, hP_ok, w_ok]
    rfl
theorem cc_cls (h : Cls3 c) : (["Post", "House", "Listener"] : List Str).contains c = true := by
  rcases h with rfl | rfl | rfl
  · exact cc_Post_House_Listener_Post
  · exact cc_Post_House_Listener_House
  · exact cc_Post_House_Listener_Listener
theorem v_post {p : Str × Str} : viewI C (.v (postD p)) = some (p.2, [(("name" : Str), El.v (.str p.1))]) := rfl
theorem kindS_house (h : Cls3 c) : (kindS c = "house") ↔ c = "House" := by
  rcases h with rfl | rfl | rfl <;> decide
/-! ### home -/
def homeF (p : Str × Str) : Option Str := if p.2 = "House" then some p.1 else none
def homeN (N : NT) : Option Str := N.ps.findSome? homeF
def optS : Option Str → D
  | some s => .str s
  | none => .non
theorem srchF_eq {α : Type} {p : α → Option El} : ∀ {xs : List α}, srchF p xs = match xs.findSome? p with | some r => .rt r | none => .nx
  | [] => rfl
  | a :: xs => by
    unfold srchF
    rw [List.findSome?_cons]
    cases p a with
    | none => exact srchF_eq
    | some r => rfl
theorem findSome_map {α β γ : Type} {f : α → Option β} {g : β → γ} : ∀ {xs : List α}, xs.findSome? (fun a => (f a).map g) = (xs.findSome? f).map g
  | [] => rfl
  | a :: xs => by
    rw [List.findSome?_cons, List.findSome?_cons]
    cases f a with
    | none => exact findSome_map
    | some b => rfl
theorem nmV : dwE .v (nmE N) = N.ps.map fun p => El.v (postD p) := by
  unfold dwE nmE
  dsimp only
  rw [List.map_map]
  rfl
theorem home_ok (h : NetC C n none N) (w : Wf N) : m_Net_home [.at n] C = some (.ok (.v (optS (homeN N))), C) := by
  refine of_wp ?_
  rw [o_Net_home]
  unfold b_Net_home
  obtain ⟨h1, h2, h3, _⟩ := h.see
  walk_at "ev*"
  refine wfD_at (srchF (fun p => (homeF p).map fun s => El.v (.str s)) N.ps) ((fun o : Option (Str × Str) => [some (.at n), o.map fun p => El.v (postD p)]) (srchG (fun p => (homeF p).map fun s => El.v (.str s)) none N.ps)) C ?_ h2 h2 (fun ho => ?_) ?_
  · intro x e
    rw [srchF_eq] at e
    split at e <;> cases e
  · rw [nmV]
    refine wl_search (fun p => El.v (postD p)) (fun o : Option (Str × Str) => [some (.at n), o.map fun p => El.v (postD p)]) (fun p => (homeF p).map fun s => El.v (.str s)) (isLk_set h2) N.ps none (fun o p hp => ?_) ⟨rfl, rfl, rfl⟩
    have hc : Cls3 p.2 := w.cls p hp
    have hk := fun Q E C => kind_m (r := .v (postD p)) (C := C) (Q := Q) (E := E) hc
    have hcc := cc_cls hc
    have hv := fun C => v_post (C := C) (p := p)
    walk_at "ev*"
    refine ⟨fun e => ?_, fun e => ?_⟩
    · simp [homeF, (kindS_house hc).mp e]
    · have : p.2 ≠ "House" := fun z => e ((kindS_house hc).mpr z)
      simp [homeF, this]
  · dsimp only
    rw [srchF_eq, findSome_map]
    unfold homeN
    cases N.ps.findSome? homeF with
    | none => walk_at "ev*"; rfl
    | some s => walk_at "ev*"; rfl
/-! ### listeners, ties -/
def lisF (p : Str × Str) : Option D := if p.2 = "Listener" then some (.str p.1) else none
def lisN (N : NT) : List Str := (N.ps.filter fun p => decide (p.2 = ("Listener" : Str))).map (·.1)
theorem lisF_eq : ∀ ps : List (Str × Str), ps.filterMap lisF = ((ps.filter fun p => decide (p.2 = ("Listener" : Str))).map (·.1)).map D.str
  | [] => rfl
  | p :: ps => by
    rw [List.filterMap_cons, List.filter_cons, lisF_eq ps]
    unfold lisF
    by_cases h : p.2 = "Listener"
    · rw [if_pos h, if_pos (decide_eq_true h)]
      rfl
    · rw [if_neg h, if_neg (by simpa using h)]
theorem lis_c (h : NetC C n none N) (w : Wf N) : m_Net_listeners_vc [.at n] C = some (.ok (.at C.length), pu C (((lisN N).map D.str).map El.v)) := by
  refine of_wp ?_
  rw [o_Net_listeners_vc]
  unfold b_Net_listeners_vc
  obtain ⟨h1, h2, h3, _⟩ := h.see
  walk_at "ev*"
  refine wlcD_filC N.ps (fun p => El.v (postD p)) lisF h2 nmV (fun ho p hp acc => ?_) (sz_le (by have := w.l20; omega)) ?_
  · have hc : Cls3 p.2 := w.cls p hp
    have hk := fun Q E C => reads_m (r := .v (postD p)) (C := C) (Q := Q) (E := E) hc
    have hcc := cc_cls hc
    have hv := fun C => v_post (C := C) (p := p)
    walk_at "ev*"
    unfold lisF
    by_cases e : p.2 = ("Listener" : Str)
    · simp [e]
    · simp [e]
  · rw [lisF_eq]
    walk_at "ev"
    rfl
theorem lis_ok (h : NetC C n none N) (w : Wf N) : m_Net_listeners [.at n] C = some (.ok (.v (.lst ((lisN N).map D.str))), C) := frz_l1 (lis_c h w)
theorem keys_nb : intKeys (nbE N) = some (N.ts.map (·.1)) := intKeys_map
theorem sort_ts (w : Wf N) : sortI (N.ts.map (·.1)) = N.ts.map (·.1) := (sortI_of (List.Perm.refl _) (w.rise.imp fun h => by omega)).symm
theorem rise_nd {l : List Int} (h : l.Pairwise (· < ·)) : l.Nodup := h.imp fun h e => by omega
theorem keysN : (nbE N).map (·.1) = (N.ts.map (·.1)).map Sum.inl := by
  unfold nbE
  rw [List.map_map, List.map_map]
  rfl
theorem keysP : (nmE N).map (·.1) = (N.ps.map (·.1)).map Sum.inr := by
  unfold nmE
  rw [List.map_map, List.map_map]
  rfl
theorem nd_map {α β : Type} {f : α → β} (hf : ∀ a b, f a = f b → a = b) {l : List α} (h : l.Nodup) : (l.map f).Nodup := List.pairwise_map.mpr (h.imp fun h e => h (hf _ _ e))
theorem ndN (w : Wf N) : ((nbE N).map (·.1)).Nodup := by
  rw [keysN]
  exact nd_map (fun a b e => by cases e; rfl) (rise_nd w.rise)
theorem val_ts (w : Wf N) {t : Tie} (h : t ∈ N.ts) : val (nbE N) (.inl t.1) = some (.v (tieD t)) := val_mem (ndN w) (List.mem_map.mpr ⟨t, h, rfl⟩)
def isNm (N : NT) (s : Str) : Prop := s ∈ N.ps.map (·.1)
instance {s : Str} : Decidable (isNm N s) := by unfold isNm; infer_instance
def isNo (N : NT) (i : Int) : Prop := i ∈ N.ts.map (·.1)
instance {i : Int} : Decidable (isNo N i) := by unfold isNo; infer_instance
theorem mem_inr {l : List Str} {s : Str} : (Sum.inr s : Key) ∈ l.map Sum.inr ↔ s ∈ l := ⟨fun h => by obtain ⟨a, h1, h2⟩ := List.mem_map.mp h; cases h2; exact h1, fun h => List.mem_map_of_mem h⟩
theorem in_nm {s : Str} (h : C[n + 1]? = some (some (.dk lk (nmE N)))) : bIn0 C (.v (.str s)) (.at (n + 1)) = some (decide (isNm N s)) := by
  rw [in_dk h rfl, val_isSome, keysP]
  congr 1
  exact decide_eq_decide.mpr mem_inr
theorem ties_c {lk : Option HO} (h : NetC C n lk N) (w : Wf N) : m_Net_ties_vc [.at n] C = some (.ok (.at C.length), pu C ((N.ts.map tieD).map El.v)) := by
  refine of_wp ?_
  rw [o_Net_ties_vc]
  unfold b_Net_ties_vc
  obtain ⟨h1, h2, h3, h4, h5, h6⟩ := h.see
  have hs := fun q => f_sortK (q := q) h3 keys_nb (by rw [List.length_map]; have := w.l40; omega)
  rw [sort_ts w] at hs
  walk_at "ev*"
  refine wlc_mapC N.ts (fun t => El.v (.int t.1)) tieD ?_ (fun t ht acc => ?_) (fun acc => ?_) (sz_le (by have := w.l40; omega)) ?_
  · rw [map_map_i, List.map_map]
    rfl
  · have hv := val_ts w ht
    walk_at "ev*"
  · trivial
  · rw [t_l1p]
    exact ⟨rfl, rfl⟩
theorem ties_ok {lk : Option HO} (h : NetC C n lk N) (w : Wf N) : m_Net_ties [.at n] C = some (.ok (.v (.lst (N.ts.map tieD))), C) := frz_l1 (ties_c h w)
/-! ### find -/
/-! ### the net's cells, and how they change -/
theorem upN_len : (upN C n N).length = C.length := by simp [upN]
theorem NetC.lt (h : NetC C n lk N) : n + 2 < C.length := (List.getElem?_eq_some_iff.mp h.nb).1
theorem upN_is (h : n + 2 < C.length) : NetC (upN C n N) n none N := by
  unfold upN
  refine ⟨?_, ?_, ?_⟩
  · rw [List.getElem?_set_ne (by omega), List.getElem?_set_ne (by omega), List.getElem?_set_self (by omega)]
  · rw [List.getElem?_set_ne (by omega), List.getElem?_set_self (by rw [List.length_set]; omega)]
  · rw [List.getElem?_set_self (by rw [List.length_set, List.length_set]; omega)]
theorem upN_get {i : Nat} (h : i < n ∨ n + 2 < i) : (upN C n N)[i]? = C[i]? := by
  unfold upN
  rw [List.getElem?_set_ne (by omega), List.getElem?_set_ne (by omega), List.getElem?_set_ne (by omega)]
theorem upN_nm (h : NetC C n none N) {ps : List (Str × Str)} : C.set (n + 1) (some (.dk none (nmE ⟨ps, N.ts, N.g⟩))) = upN C n ⟨ps, N.ts, N.g⟩ := by
  unfold upN
  rw [set_id h.net]
  have e : (C.set (n + 1) (some (.dk none (nmE ⟨ps, N.ts, N.g⟩))))[n + 2]? = some (some (.dk none (nbE ⟨ps, N.ts, N.g⟩))) := by
    rw [List.getElem?_set_ne (by omega)]
    exact h.nb
  rw [set_id e]
theorem netL_at {L : Cs} : NetC (C ++ (netL C.length N ++ L)) C.length none N := by
  refine ⟨?_, ?_, ?_⟩
  · rw [c_get0]; rfl
  · rw [c_get]; rfl
  · rw [c_get]; rfl
theorem netL_at' : NetC (C ++ netL C.length N) C.length none N := by
  have := netL_at (C := C) (N := N) (L := [])
  rwa [List.append_nil] at this
theorem netL_0L {L : Cs} : NetC (netL 0 N ++ L) 0 none N := ⟨rfl, rfl, rfl⟩
/-- what an end hands on, the net changed -/
theorem closed_nm {k : Nat} : closedP k (nmE N) = true := by
  unfold nmE
  induction N.ps with
  | nil => rfl
  | cons p l ih => rw [List.map_cons, cl_P1, ih]; rfl
theorem closed_nb {k : Nat} : closedP k (nbE N) = true := by
  unfold nbE
  induction N.ts with
  | nil => rfl
  | cons p l ih => rw [List.map_cons, cl_P1, ih]; rfl
theorem upN_cl (h : n + 2 < C.length) (i : Nat) (o : Ob) (e : (upN C n N)[i]? = some (some o)) : C[i]? = some (some o) ∨ closedO C.length o = true := by
  by_cases hi : i < n ∨ n + 2 < i
  · left
    rw [upN_get hi] at e
    exact e
  · right
    have hN := upN_is (N := N) h
    have : i = n ∨ i = n + 1 ∨ i = n + 2 := by omega
    rcases this with rfl | rfl | rfl
    · rw [hN.net] at e
      cases e
      simp only [closedO, cl_P1, cl_P0, cl_at, cl_v, Bool.and_true, Bool.and_eq_true, decide_eq_true_eq]
      omega
    · rw [hN.nm] at e
      cases e
      exact closed_nm
    · rw [hN.nb] at e
      cases e
      exact closed_nb
theorem end_nx {L : Cs} {G : Gs} (h : n + 2 < C.length) : endF 0 C Q E .nx G (upN C n N ++ L) = Q (.v .non) (upN C n N) := e_nxC upN_len (upN_cl h)
theorem end_nx0 {G : Gs} (h : n + 2 < C.length) : endF 0 C Q E .nx G (upN C n N) = Q (.v .non) (upN C n N) := by
  have := end_nx (L := []) (Q := Q) (E := E) (G := G) (N := N) h
  rwa [List.append_nil] at this
theorem end_rt {L : Cs} {G : Gs} {d : D} (h : n + 2 < C.length) : endF 0 C Q E (.rt (.v d)) G (upN C n N ++ L) = Q (.v d) (upN C n N) := by
  rw [e_rtC upN_len (upN_cl h), closeV_v]
  rfl
theorem end_rt0 {G : Gs} {d : D} (h : n + 2 < C.length) : endF 0 C Q E (.rt (.v d)) G (upN C n N) = Q (.v d) (upN C n N) := by
  have := end_rt (L := []) (Q := Q) (E := E) (G := G) (N := N) (d := d) h
  rwa [List.append_nil] at this
/-! ### a new net -/
theorem net_new : wp (mkIns "Net" m_Net__init_ true [] C) Q E = Q (.at C.length) (C ++ netL C.length N0) := by
  refine w_insO (of_wp ?_)
  rw [o_Net__init_]
  unfold b_Net__init_
  walk_at "ev"
  rw [e_nxK]
  · refine ⟨rfl, ?_⟩
    rw [show (C ++ [some (Ob.ins "Net" [])]).length + 2 = C.length + 3 by simp, List.take_length_add_append]
    rfl
  · refine ⟨Nat.le_add_right _ _, by simp, fun i o h1 h2 => ?_⟩
    by_cases hi : i < C.length
    · left
      rw [List.getElem?_append_left hi] at h2 ⊢
      exact h2
    · right
      have hj : i = C.length ∨ i = C.length + 1 ∨ i = C.length + 2 := by simp at h1; omega
      rcases hj with rfl | rfl | rfl
      · rw [c_get0] at h2
        cases h2
        simp [closedO, closedP, closedE]
      · rw [c_get] at h2
        cases h2
        rfl
      · rw [c_get] at h2
        cases h2
        rfl
/-! ### posts put in -/
def putErr (N : NT) (s c : Str) (e : Str) : Prop := (¬ nmOk s ∧ e = "NoName") ∨ (nmOk s ∧ isNm N s ∧ e = "Taken") ∨ (nmOk s ∧ ¬ isNm N s ∧ c = "House" ∧ homeN N ≠ none ∧ e = "OneHouse") ∨
  (nmOk s ∧ ¬ isNm N s ∧ ¬ (c = "House" ∧ homeN N ≠ none) ∧ (20 ≤ N.ps.length ∨ (c = "Listener" ∧ 8 ≤ (lisN N).length)) ∧ e = "TooMany")
def putFine (N : NT) (s c : Str) : Prop := nmOk s ∧ ¬ isNm N s ∧ ¬ (c = "House" ∧ homeN N ≠ none) ∧ N.ps.length < 20 ∧ ¬ (c = "Listener" ∧ 8 ≤ (lisN N).length)
theorem no_err {s e : Str} (f : putFine N s c) (z : putErr N s c e) : False := by
  obtain ⟨h1, h2, h3, h4, h5⟩ := f
  rcases z with ⟨a, _⟩ | ⟨_, a, _⟩ | ⟨_, _, a, b, _⟩ | ⟨_, _, _, a | a, _⟩
  · exact a h1
  · exact h2 a
  · exact h3 ⟨a, b⟩
  · omega
  · exact h5 a
theorem nmE_put {s : Str} : nmE (N.put s c) = nmE N ++ [(.inr s, .v (postD (s, c)))] := by
  unfold nmE NT.put
  rw [List.map_append]
  rfl
theorem put_wp {s : Str} (hl : s.length ≤ sizeLine) (hc : Cls3 c) (h : NetC C n none N) (w : Wf N) (h1 : putFine N s c → Q (.v .non) (upN C n (N.put s c))) (h2 : ∀ e, putErr N s c e → E ⟨e, none⟩ C) : wp (m_Net_put_in [.at n, .v (postD (s, c))] C) Q E := by
  rw [o_Net_put_in]
  unfold b_Net_put_in
  obtain ⟨g1, g2, g3, g4, g5, g6⟩ := h.see
  have hv := fun C => v_post (C := C) (p := (s, c))
  have hcc := cc_cls hc
  have hk := fun Q E C => kind_m (r := .v (postD (s, c))) (C := C) (Q := Q) (E := E) hc
  have hr := fun Q E C => reads_m (r := .v (postD (s, c))) (C := C) (Q := Q) (E := E) hc
  have hi := in_nm (s := s) g2
  have hh := home_ok h w
  have hs := lis_ok h w
  dsimp only at hv
  have ek : decide (kindS c = "house") = decide (c = "House") := decide_eq_decide.mpr (kindS_house hc)
  walk_at "ev*"
  refine ⟨fun a => h2 _ (.inl ⟨fun z => a (by have := z.1; omega), rfl⟩), fun a1 => ⟨fun a => h2 _ (.inl ⟨fun z => a (by have := z.2.1; omega), rfl⟩), fun a2 => ?_⟩⟩
  refine wlc_map s.cps.toList (fun c => El.v (.str (sgn c))) (fun c => D.bl (decide (c ∈ lettersL))) rfl (fun c hc acc => ?_) (fun acc => trivial) (Nat.le_trans (by show s.cps.toList.length ≤ s.length; simp [Str.length]) hl) ?_
  · walk_at "ev*"
    rfl
  walk_at "ev*"
  have hall : (List.map (fun x => decide (x ∈ lettersL)) s.cps.toList).all id = true ↔ ∀ c ∈ s.cps.toList, c ∈ lettersL := by
    rw [List.all_map, List.all_eq_true]
    exact ⟨fun h c hc => of_decide_eq_true (h c hc), fun h c hc => decide_eq_true (h c hc)⟩
  have hnon : R.isNon (El.v (optS (homeN N))) = (homeN N).isNone := by cases homeN N <;> rfl
  have hlen : (nmE N).length = N.ps.length := by simp [nmE]
  rw [hnon, hlen]
  have sz : N.ps.length < sizeLine := Nat.lt_of_le_of_lt w.l20 (by decide)
  have fin : putFine N s c → endF 0 C Q E .nx [some (.at n), some (.v (postD (s, c))), some (.v (.str s)), none] (C.set (n + 1) (some (.dk none (putKE (nmE N) (.inr s) (.v (postD (s, c))))))) := fun z => by
    rw [put_new (by rw [keysP]; exact fun m => z.2.1 (mem_inr.mp m)), ← nmE_put]
    show endF 0 C Q E .nx _ (C.set (n + 1) (some (.dk none (nmE ⟨N.ps ++ [(s, c)], N.ts, N.g⟩)))) 
    rw [upN_nm h, end_nx0 h.lt]
    exact h1 z
  refine ⟨fun a => h2 _ (.inl ⟨fun z => ?_, rfl⟩), fun a3 => ?_⟩
  · rw [hall.mpr z.2.2] at a
    cases a
  have ok : nmOk s := ⟨by omega, by omega, hall.mp a3⟩
  refine ⟨fun a => h2 _ (.inr (.inl ⟨ok, a, rfl⟩)), fun a4 => ⟨fun a5 => ⟨fun a => h2 _ (.inr (.inr (.inl ⟨ok, a4, a5, (fun z => by rw [z] at a; cases a), rfl⟩))), fun a6 => ?_⟩, fun a5 => ?_⟩⟩
  · have nh : ¬ (c = "House" ∧ homeN N ≠ none) := fun z => by
      cases e : homeN N with
      | none => exact z.2 e
      | some x => rw [e] at a6; cases a6
    have nl : c ≠ "Listener" := by rw [a5]; decide
    refine ⟨fun a => h2 _ (.inr (.inr (.inr ⟨ok, a4, nh, .inl (by omega), rfl⟩))), fun a7 => ⟨fun a8 => absurd a8 nl, fun _ => ⟨sz, fin ⟨ok, a4, nh, by omega, fun z => nl z.1⟩⟩⟩⟩
  · have nh : ¬ (c = "House" ∧ homeN N ≠ none) := fun z => a5 z.1
    refine ⟨fun a => h2 _ (.inr (.inr (.inr ⟨ok, a4, nh, .inl (by omega), rfl⟩))), fun a7 => ⟨fun a8 => ⟨fun a => h2 _ (.inr (.inr (.inr ⟨ok, a4, nh, .inr ⟨a8, by omega⟩, rfl⟩))), fun a9 => ⟨sz, fin ⟨ok, a4, nh, by omega, fun z => by have := z.2; omega⟩⟩⟩, fun a8 => ⟨sz, fin ⟨ok, a4, nh, by omega, fun z => a8 z.1⟩⟩⟩⟩
/-- a post made -/
theorem make_wp {s : Str} (hc : Cls3 c) : wp (mkIns c m_Post__init_ false [.v (.str s)] C) Q E = Q (.v (postD (s, c))) C := by
  refine w_ins (fs := [("name", .str s)]) (of_wp ?_)
  rw [o_Post__init_]
  unfold b_Post__init_
  have hcc := cc_cls hc
  walk_at "ev*"
theorem listener_wp {s : Str} (hl : s.length ≤ sizeLine) (h : NetC C n none N) (w : Wf N) (h1 : putFine N s "Listener" → Q (.v .non) (upN C n (N.put s "Listener"))) (h2 : ∀ e, putErr N s "Listener" e → E ⟨e, none⟩ C) : wp (m_Net_listener [.at n, .v (.str s)] C) Q E := by
  rw [o_Net_listener]
  unfold b_Net_listener
  obtain ⟨g1, g2, g3, g4, g5, g6⟩ := h.see
  have hm := fun Q E => make_wp (C := C) (s := s) (Q := Q) (E := E) (c := "Listener") (.inr (.inr rfl))
  walk_at "ev*"
  refine put_wp hl (.inr (.inr rfl)) h w (fun z => ?_) (fun e z => ?_)
  · rw [end_nx0 h.lt]
    exact h1 z
  · walk_at "ev"
    exact h2 e z
theorem house_wp {s : Str} (hl : s.length ≤ sizeLine) (h : NetC C n none N) (w : Wf N) (h1 : putFine N s "House" → Q (.v .non) (upN C n (N.put s "House"))) (h2 : ∀ e, putErr N s "House" e → E ⟨e, none⟩ C) : wp (m_Net_house [.at n, .v (.str s)] C) Q E := by
  rw [o_Net_house]
  unfold b_Net_house
  obtain ⟨g1, g2, g3, g4, g5, g6⟩ := h.see
  have hm := fun Q E => make_wp (C := C) (s := s) (Q := Q) (E := E) (c := "House") (.inr (.inl rfl))
  walk_at "ev*"
  refine put_wp hl (.inr (.inl rfl)) h w (fun z => ?_) (fun e z => ?_)
  · rw [end_nx0 h.lt]
    exact h1 z
  · walk_at "ev"
    exact h2 e z
theorem post_wp {s : Str} (hl : s.length ≤ sizeLine) (h : NetC C n none N) (w : Wf N) (h1 : putFine N s "Post" → Q (.v .non) (upN C n (N.put s "Post"))) (h2 : ∀ e, putErr N s "Post" e → E ⟨e, none⟩ C) : wp (m_Net_post [.at n, .v (.str s)] C) Q E := by
  rw [o_Net_post]
  unfold b_Net_post
  obtain ⟨g1, g2, g3, g4, g5, g6⟩ := h.see
  have hm := fun Q E => make_wp (C := C) (s := s) (Q := Q) (E := E) (c := "Post") (.inl rfl)
  walk_at "ev*"
  refine put_wp hl (.inl rfl) h w (fun z => ?_) (fun e z => ?_)
  · rw [end_nx0 h.lt]
    exact h1 z
  · walk_at "ev"
    exact h2 e z
/-! ### ties cut -/
/-! ### does one lead to another -/
inductive Reach (ts : List Tie) : Str → Str → Prop
  | refl (a : Str) : Reach ts a a
  | step {a b : Str} {t : Tie} (h : Reach ts a b) (ht : t ∈ ts) (e : t.2.1 = b) : Reach ts a t.2.2.1
noncomputable def reachB (ts : List Tie) (a b : Str) : Bool := @decide (Reach ts a b) (Classical.propDecidable _)
/-- the walk's word: all met, those left to be asked -/
structure Led (ts : List Tie) (a : Str) (here : Option Str) (k : Nat) (met left : List Str) : Prop where
  am : a ∈ met
  sub : ∀ x ∈ left, x ∈ met
  rch : ∀ x ∈ met, Reach ts a x
  cl : ∀ t ∈ ts, t.2.1 ∈ met → t.2.1 ∉ left → some t.2.1 ≠ here → t.2.2.1 ∈ met
  hr : ∀ x, here = some x → x ∈ met
  pr : ∀ j t, j < k → ts[j]? = some t → some t.2.1 = here → t.2.2.1 ∈ met
def cnt (ts : List Tie) (met : List Str) : Nat := ((ts.map fun t => t.2.2.1).filter fun x => decide (x ∉ met)).length
section
variable {ts : List Tie} {a b x : Str} {met left : List Str} {k : Nat} {t : Tie}
theorem Led.start : Led ts a none 0 [a] [a] := ⟨by simp, by simp, fun x hx => by rw [List.mem_singleton.mp hx]; exact .refl a, fun t _ h1 h2 => absurd h1 h2, fun x e => (by cases e), fun j t h => by omega⟩
theorem Led.pop (h : Led ts a none 0 met (left ++ [x])) : Led ts a (some x) 0 met left :=
  ⟨h.am, fun y hy => h.sub y (by simp [hy]), h.rch, fun t ht h1 h2 h3 => h.cl t ht h1 (fun z => by
    rcases List.mem_append.mp z with z | z
    · exact h2 z
    · exact h3 (congrArg some (List.mem_singleton.mp z))) (by simp), fun y e => by cases e; exact h.sub x (by simp), fun j t h => by omega⟩
theorem Led.more (h : Led ts a (some x) k met left) (e : ts[k]? = some t) (h1 : t.2.1 = x) : Led ts a (some x) (k + 1) (met ++ [t.2.2.1]) (left ++ [t.2.2.1]) := by
  have ht : t ∈ ts := List.mem_of_getElem? e
  have hr := h.rch x (h.hr x rfl)
  refine ⟨by simp [h.am], fun y hy => ?_, fun y hy => ?_, fun u hu h2 h3 h4 => ?_, fun y e => by simp [h.hr y e], fun j u hj e1 e2 => ?_⟩
  · rcases List.mem_append.mp hy with z | z
    · simp [h.sub y z]
    · simp [z]
  · rcases List.mem_append.mp hy with z | z
    · exact h.rch y z
    · rw [List.mem_singleton.mp z]
      exact .step hr ht h1
  · rw [List.mem_append, List.mem_singleton] at h2
    rw [List.mem_append, List.mem_singleton, not_or] at h3
    rcases h2 with z | z
    · exact List.mem_append_left _ (h.cl u hu z h3.1 h4)
    · exact absurd z h3.2
  · by_cases c : j < k
    · exact List.mem_append_left _ (h.pr j u c e1 e2)
    · have : j = k := by omega
      subst this
      rw [e] at e1
      cases e1
      simp
end
def metE (met : List Str) : List (Key × El) := met.map fun x => (.inr x, .v (.bl true))
theorem Wf.str (w : Wf N) {s : Str} (h : isNm N s) : PyData.strOk s = true := by
  obtain ⟨p, hp, rfl⟩ := List.mem_map.mp h
  exact nmOk_str (w.nm p hp)
theorem Reach.nm (w : Wf N) {a b : Str} (h : isNm N a) (r : Reach N.ts a b) : isNm N b := by
  cases r with
  | refl => exact h
  | step r ht e => exact w.oth _ ht
/-! ### ties put in -/
def isHouse (N : NT) (b : Str) : Prop := (b, ("House" : Str)) ∈ N.ps
def noPost (a : Str) : Exn := ⟨"NoPost", some [("name", .str a)]⟩
def tieErr (N : NT) (a b : Str) (d : Int) (x : Exn) : Prop := (¬ isNm N a ∧ x = noPost a) ∨ (isNm N a ∧ ¬ isNm N b ∧ x = noPost b) ∨ (isNm N a ∧ isNm N b ∧ isHouse N b ∧ x = ⟨"IntoHouse", none⟩) ∨
  (isNm N a ∧ isNm N b ∧ ¬ isHouse N b ∧ Reach N.ts b a ∧ x = ⟨"RingMade", none⟩) ∨ (isNm N a ∧ isNm N b ∧ ¬ isHouse N b ∧ ¬ Reach N.ts b a ∧ ¬ (1 ≤ d ∧ d ≤ 99) ∧ x = ⟨"NoNumber", none⟩) ∨
  (isNm N a ∧ isNm N b ∧ ¬ isHouse N b ∧ ¬ Reach N.ts b a ∧ (1 ≤ d ∧ d ≤ 99) ∧ 40 ≤ N.ts.length ∧ x = ⟨"TooMany", none⟩)
def tieFine (N : NT) (a b : Str) (d : Int) : Prop := isNm N a ∧ isNm N b ∧ ¬ isHouse N b ∧ ¬ Reach N.ts b a ∧ (1 ≤ d ∧ d ≤ 99) ∧ N.ts.length < 40
/-! ### well-formed stays -/
theorem homeF_some {p : Str × Str} {s : Str} (h : homeF p = some s) : p = (s, ("House" : Str)) := by
  unfold homeF at h
  split at h
  · rename_i e
    cases h
    obtain ⟨p1, p2⟩ := p
    dsimp only at e
    rw [e]
  · cases h
theorem wf0 : Wf N0 := ⟨by simp [N0], by simp [N0], by simp [N0], by simp [N0], by simp [N0], by simp [N0], by simp [N0], by simp [N0], by simp [N0], by simp [N0]⟩
theorem Wf.put {s : Str} (w : Wf N) (hc : Cls3 c) (h : putFine N s c) : Wf (N.put s c) := by
  obtain ⟨h1, h2, h3, h4, h5⟩ := h
  refine ⟨fun p hp => ?_, ?_, w.rise, w.lt, w.g0, ?_, w.l40, fun p hp => ?_, fun t ht => ?_, fun t ht => ?_⟩
  · rcases List.mem_append.mp hp with z | z
    · exact w.cls p z
    · rw [List.mem_singleton.mp z]
      exact hc
  · show ((N.ps ++ [(s, c)]).map (·.1)).Nodup
    rw [List.map_append, List.nodup_append]
    refine ⟨w.nd, by simp, fun a ha b hb e => h2 ?_⟩
    have : b = s := by simpa using hb
    rw [← this, ← e]
    exact ha
  · show (N.ps ++ [(s, c)]).length ≤ 20
    simp
    omega
  · rcases List.mem_append.mp hp with z | z
    · exact w.nm p z
    · rw [List.mem_singleton.mp z]
      exact h1
  · show _ ∈ (N.ps ++ [(s, c)]).map (·.1)
    rw [List.map_append]
    exact List.mem_append_left _ (w.one t ht)
  · show _ ∈ (N.ps ++ [(s, c)]).map (·.1)
    rw [List.map_append]
    exact List.mem_append_left _ (w.oth t ht)
theorem Wf.tie {a b : Str} {d : Int} (w : Wf N) (h : tieFine N a b d) : Wf (N.tie a b d) := by
  obtain ⟨h1, h2, h3, h4, h5, h6⟩ := h
  refine ⟨w.cls, w.nd, ?_, fun t ht => ?_, ?_, w.l20, ?_, w.nm, fun t ht => ?_, fun t ht => ?_⟩
  · show ((N.ts ++ [(N.g, a, b, d)]).map (·.1)).Pairwise (· < ·)
    rw [List.map_append, List.pairwise_append]
    refine ⟨w.rise, by simp, fun x hx y hy => ?_⟩
    obtain ⟨t, ht, rfl⟩ := List.mem_map.mp hx
    have : y = N.g := by simpa using hy
    rw [this]
    exact (w.lt t ht).2
  · show 0 ≤ t.1 ∧ t.1 < N.g + 1
    rcases List.mem_append.mp ht with z | z
    · have := w.lt t z
      omega
    · rw [List.mem_singleton.mp z]
      have := w.g0
      dsimp only
      omega
  · show 0 ≤ N.g + 1
    have := w.g0
    omega
  · show (N.ts ++ [(N.g, a, b, d)]).length ≤ 40
    simp
    omega
  · rcases List.mem_append.mp ht with z | z
    · exact w.one t z
    · rw [List.mem_singleton.mp z]
      exact h1
  · rcases List.mem_append.mp ht with z | z
    · exact w.oth t z
    · rw [List.mem_singleton.mp z]
      exact h2
theorem Wf.cut {i : Int} (w : Wf N) : Wf (N.cut i) :=
  ⟨w.cls, w.nd, w.rise.sublist ((List.filter_sublist (l := N.ts)).map _), fun t ht => w.lt t (List.mem_filter.mp ht).1, w.g0, w.l20, Nat.le_trans (List.length_filter_le _ _) w.l40, w.nm, fun t ht => w.one t (List.mem_filter.mp ht).1, fun t ht => w.oth t (List.mem_filter.mp ht).1⟩
/-! ### what goes well, as equations -/
theorem listener_eq {s : Str} (h : NetC C n none N) (w : Wf N) (f : putFine N s "Listener") : m_Net_listener [.at n, .v (.str s)] C = some (.ok (.v .non), upN C n (N.put s "Listener")) :=
  of_wp (listener_wp (Nat.le_trans f.1.2.1 (by decide)) h w (fun _ => ⟨rfl, rfl⟩) fun e z => no_err f z)
theorem house_eq {s : Str} (h : NetC C n none N) (w : Wf N) (f : putFine N s "House") : m_Net_house [.at n, .v (.str s)] C = some (.ok (.v .non), upN C n (N.put s "House")) :=
  of_wp (house_wp (Nat.le_trans f.1.2.1 (by decide)) h w (fun _ => ⟨rfl, rfl⟩) fun e z => no_err f z)
theorem post_eq {s : Str} (h : NetC C n none N) (w : Wf N) (f : putFine N s "Post") : m_Net_post [.at n, .v (.str s)] C = some (.ok (.v .non), upN C n (N.put s "Post")) :=
  of_wp (post_wp (Nat.le_trans f.1.2.1 (by decide)) h w (fun _ => ⟨rfl, rfl⟩) fun e z => no_err f z)
instance {s : Str} : Decidable (nmOk s) := by unfold nmOk; infer_instance
instance {s c : Str} : Decidable (putFine N s c) := by unfold putFine; infer_instance
instance {s : Str} : Decidable (isHouse N s) := by unfold isHouse; infer_instance
end
end
section
/-! ### a net's posts in order -/
def namesN (N : NT) : List Str := N.ps.map (·.1)
def intoN (N : NT) (s : Str) : List Int := (N.ts.filter fun t => decide (t.2.2.1 = s)).map (·.1)
def outN (N : NT) (s : Str) : List Int := (N.ts.filter fun t => decide (t.2.1 = s)).map (·.1)
theorem fm_ifD {α β : Type} {p : α → Prop} [DecidablePred p] {f : α → β} : ∀ {l : List α}, l.filterMap (fun x => if p x then some (f x) else none) = (l.filter fun x => decide (p x)).map f
  | [] => rfl
  | a :: l => by
    rw [List.filterMap_cons, List.filter_cons, fm_ifD]
    by_cases h : p a
    · rw [if_pos h, if_pos (decide_eq_true h)]; rfl
    · rw [if_neg h, if_neg (by simpa using h)]
section
variable {C : Cs} {n : Nat} {lk : Option HO} {N : NT} {Q : El → Cs → Prop} {E : Exn → Cs → Prop}
theorem names_c (h : NetC C n lk N) : m_Net_names_vc [.at n] C = some (.ok (.at C.length), pu C (((namesN N).map D.str).map El.v)) := by
  refine of_wp ?_
  rw [o_Net_names_vc]
  unfold b_Net_names_vc
  obtain ⟨h1, h2, h3, _⟩ := h.see
  have hl : fList true [.at (n + 1)] C = some (.at C.length, C ++ [some (.lst (((namesN N).map D.str).map El.v))]) := by
    rw [f_listK h2]
    show some (El.at C.length, C ++ [some (Ob.lst ((nmE N).map fun p => kEl p.1))]) = _
    unfold nmE namesN
    rw [List.map_map, List.map_map, List.map_map]
    rfl
  walk_at "ev*"
theorem names_ok (h : NetC C n lk N) : m_Net_names [.at n] C = some (.ok (.v (.lst ((namesN N).map D.str))), C) := frz_l1 (names_c h)
/-! ### the order -/
def rdy (ts : List Tie) (told : List Str) (s : Str) : Prop := s ∉ told ∧ ∀ t ∈ ts, t.2.2.1 = s → t.2.1 ∈ told
instance {ts : List Tie} {told : List Str} {s : Str} : Decidable (rdy ts told s) := by unfold rdy; infer_instance
def nextN (N : NT) (told : List Str) : Option Str := (namesN N).find? fun s => decide (rdy N.ts told s)
def ordK (N : NT) : Nat → List Str
  | 0 => []
  | k + 1 => ordK N k ++ (nextN N (ordK N k)).toList
def ordN (N : NT) : List Str := ordK N (namesN N).length
/-- ties lead nowhere back -/
def Acy (N : NT) : Prop := ∃ r : Str → Nat, ∀ t ∈ N.ts, r t.2.1 < r t.2.2.1
theorem names_str (w : Wf N) : ∀ s ∈ namesN N, PyData.strOk s = true := fun s h => w.str h
end
end
section
/-! ### the script's cells -/
def cell (ns : List Int) (k : Int) : Int := ns.getD k.toNat 0
theorem cell_ok {ns : List Int} {k : Int} {C : Cs} (h : 0 ≤ k) : m__law_cell_at [.v (.scr ns), .v (.int k)] C = some (.ok (.v (.int (cell ns k))), C) := by
  refine of_wp ?_
  rw [o__law_cell_at]
  unfold b__law_cell_at
  walk_at "ev"
  refine ⟨fun h1 => ?_, fun h1 => ?_⟩
  · rw [atI_getD 0 h h1]
    rfl
  · unfold cell
    rw [List.getD_eq_getElem?_getD, List.getElem?_eq_none (by omega)]
    rfl
end
section
/-! ### a mix of a number -/
def mixN (c k : Int) : Int := (c + 7919 * k + 1) * 48271 % 2147483647
/- sealed, lest it be evaluated -/
theorem ex_mixed : ∃ f : Int → Int → Int, ∀ c k, f c k = mixN c k * (mixN c k / 1009 + 69621) % 2147483647 := ⟨_, fun _ _ => rfl⟩
noncomputable def mixed : Int → Int → Int := Classical.choose ex_mixed
theorem mixed_eq : ∀ c k, mixed c k = mixN c k * (mixN c k / 1009 + 69621) % 2147483647 := Classical.choose_spec ex_mixed
theorem mixed_ok {c k : Int} {C : Cs} (h0 : 0 ≤ k) (hk : k < 1000000000) : m__law_mixed [.v (.int c), .v (.int k)] C = some (.ok (.v (.int (mixed c k))), C) := by
  refine of_wp ?_
  rw [o__law_mixed]
  unfold b__law_mixed
  have cm : CMul 7919 k := .inl ⟨by decide, by decide⟩
  have cm2 : CMul (c + 7919 * k + 1) 48271 := .inr ⟨by decide, by decide⟩
  have m0 := Int.emod_nonneg ((c + 7919 * k + 1) * 48271) (show (2147483647 : Int) ≠ 0 by decide)
  have m1 := Int.emod_lt_of_pos ((c + 7919 * k + 1) * 48271) (show (0 : Int) < 2147483647 by decide)
  have cm3 : CMul (mixN c k) (mixN c k / 1009 + 69621) := .inl ⟨by unfold mixN; omega, by unfold mixN; omega⟩
  have cd : CDiv (mixN c k) 1009 := ⟨by decide, by decide⟩
  unfold mixN at cm3 cd
  walk_at "ev*"
  rw [mixed_eq]
  rfl
end
section
/-! ### names of a drawn stem -/
/-- such names: well-formed texts of at most 20 signs -/
def nameOk (s : Str) : Prop := PyData.strOk s = true ∧ s.length ≤ 20
abbrev SS (l : List Nat) : Str := SX.S l
theorem abc_S : ("abcdefghijklmnopqrstuvwxyz" : Str) = SS lettersL := (SX.S_tl _).symm
theorem abc_len : lettersL.length = 26 := by decide +kernel
theorem i_str {C : Cs} {l : List Nat} {i : Int} (hl : l.length ≤ 1000) (h0 : 0 ≤ i) (h1 : i < l.length) : oIx C (.v (.str (SS l))) (.v (.int i)) = some (.v (.str (SS [l.getD i.toNat 0]))) := by
  have e : oIx C (.v (.str (SS l))) (.v (.int i)) = if (SS l).length ≤ sizeLine then (atI (SS l).cps.toList i).map fun c => .v (.str ⟨#[c]⟩) else none := rfl
  rw [e, if_pos (by rw [SX.S_len]; exact sz_le hl)]
  have e2 : (SS l).cps.toList = l := rfl
  rw [e2, atI_getD 0 h0 h1]
  rfl
theorem cutS_to {l : List Nat} {i : Int} (h0 : 0 ≤ i) : cutS (SS l) none (some i) = SS (l.take i.toNat) := by
  unfold cutS
  rw [SX.S_len]
  show (⟨_⟩ : Str) = ⟨_⟩
  congr 2
  show List.take (HT.sIx l.length l.length (some i) - 0) (List.drop 0 l) = _
  unfold HT.sIx
  dsimp only
  rw [if_neg (by omega), Nat.sub_zero, List.drop_zero]
  by_cases h : i.toNat ≤ l.length
  · rw [Nat.min_eq_left h]
  · rw [Nat.min_eq_right (by omega), List.take_length, List.take_of_length_le (by omega)]
theorem cutS_from {l : List Nat} {i : Int} (h0 : 0 ≤ i) : cutS (SS l) (some i) none = SS (l.drop i.toNat) := by
  unfold cutS
  rw [SX.S_len]
  show (⟨_⟩ : Str) = ⟨_⟩
  congr 2
  show List.take (l.length - HT.sIx l.length 0 (some i)) (List.drop (HT.sIx l.length 0 (some i)) l) = _
  unfold HT.sIx
  dsimp only
  rw [if_neg (by omega)]
  by_cases h : i.toNat ≤ l.length
  · rw [Nat.min_eq_left h, List.take_of_length_le (by rw [List.length_drop]; exact Nat.le_refl _)]
  · rw [Nat.min_eq_right (by omega), List.drop_length, List.drop_eq_nil_of_le (by omega), List.take_nil]
theorem join_ones {α : Type} {f : α → Nat} : ∀ (l : List α), Txt.join ("" : Str) (l.map fun k => SS [f k]) = SS (l.map f) := fun l => by
  have e : (l.map fun k => SS [f k]) = (l.map fun k => [f k]).map SX.S := by rw [List.map_map]; rfl
  have e1 : ("" : Str) = SX.S [] := by decide +kernel
  rw [e, e1, SX.join_S]
  congr 1
  clear e e1
  induction l with
  | nil => rfl
  | cons a l ih =>
    cases l with
    | nil => rfl
    | cons b l =>
      rw [List.map_cons, List.map_cons, List.map_cons]
      show [f a] ++ ([] ++ TL.joinL [] ([f b] :: l.map fun k => [f k])) = _
      rw [List.map_cons] at ih
      rw [ih]
      rfl
theorem ones_sum {α : Type} {f : α → Nat} : ∀ (l : List α), ((l.map fun k => SS [f k]).map (·.length)).sum = l.length
  | [] => rfl
  | a :: l => by
    rw [List.map_cons, List.map_cons, List.sum_cons, ones_sum l, SX.S_len]
    simp
    omega
/-- signs that may stand in a text -/
def okL (l : List Nat) : Prop := ∀ c ∈ l, c < 0x110000
theorem okL_str {l : List Nat} (h : okL l) : PyData.strOk (SS l) = true := by
  unfold PyData.strOk
  rw [← Array.all_toList, List.all_eq_true]
  exact fun c hc => decide_eq_true (h c hc)
theorem lett_ok {c : Nat} (h : c ∈ lettersL) : c < 0x110000 := by
  have h1 : lettersL.all (fun c => decide (c < 0x110000)) = true := by decide +kernel
  exact of_decide_eq_true (List.all_eq_true.mp h1 c h)
noncomputable def stL (f : Int) : List Nat := (List.range (1 + f % 6).toNat).map fun (k : Nat) => lettersL.getD (mixed f (k : Int) % 26).toNat 0
theorem let_mem (x : Int) : lettersL.getD (x % 26).toNat 0 ∈ lettersL := by
  have h1 := Int.emod_nonneg x (show (26 : Int) ≠ 0 by decide)
  have h2 := Int.emod_lt_of_pos x (show (0 : Int) < 26 by decide)
  have h3 : (x % 26).toNat < lettersL.length := by rw [abc_len]; omega
  rw [List.getD_eq_getElem?_getD, List.getElem?_eq_getElem h3]
  exact List.getElem_mem h3
theorem stL_ok (f : Int) : okL (stL f) := fun c hc => by
  obtain ⟨k, _, rfl⟩ := List.mem_map.mp hc
  exact lett_ok (let_mem _)
theorem stL_len (f : Int) : (stL f).length = (1 + f % 6).toNat := by
  unfold stL
  rw [List.length_map, List.length_range]
theorem nameOk_S {l : List Nat} (h : okL l) (hl : l.length ≤ 20) : nameOk (SS l) := ⟨okL_str h, by rw [SX.S_len]; exact hl⟩
def okS (s : Str) (n : Nat) : Prop := ∃ l, s = SS l ∧ okL l ∧ l.length ≤ n
theorem okS.cat {a b : Str} {n m : Nat} (ha : okS a n) (hb : okS b m) : okS (a ++ b) (n + m) := by
  obtain ⟨l, rfl, h1, h2⟩ := ha
  obtain ⟨k, rfl, h3, h4⟩ := hb
  refine ⟨l ++ k, SX.S_cat .., fun c hc => ?_, by rw [List.length_append]; omega⟩
  rcases List.mem_append.mp hc with z | z
  · exact h1 c z
  · exact h3 c z
theorem okS.len {a : Str} {n : Nat} (h : okS a n) : a.length ≤ n := by
  obtain ⟨l, rfl, _, h2⟩ := h
  rw [SX.S_len]
  exact h2
theorem okS.nm {a : Str} {n : Nat} (h : okS a n) (hn : n ≤ 20) : nameOk a := by
  obtain ⟨l, rfl, h1, h2⟩ := h
  exact nameOk_S h1 (by omega)
theorem six_at {l : List D} {P : Str → Prop} {x : Int} (h : ∀ i, i < 6 → ∃ s, P s ∧ l[i]? = some (.str s)) : ∃ s, P s ∧ L2.atI l (x % 6) = some (.str s) := by
  have m0 := Int.emod_nonneg x (show (6 : Int) ≠ 0 by decide)
  have m1 := Int.emod_lt_of_pos x (show (0 : Int) < 6 by decide)
  obtain ⟨s, h1, h2⟩ := h (x % 6).toNat (by omega)
  obtain ⟨h3, h4⟩ := List.getElem?_eq_some_iff.mp h2
  refine ⟨s, h1, ?_⟩
  rw [atI_getD (.str "") m0 (by omega), List.getD_eq_getElem?_getD, h2]
  rfl
theorem lawname_ok {f c : Int} {C : Cs} : ∃ s : Str, nameOk s ∧ m__law_name [.v (.int f), .v (.int c)] C = some (.ok (.v (.str s)), C) := by
  refine ex_of_wp (P := nameOk) (f := fun s => El.v (.str s)) ?_
  rw [o__law_name]
  unfold b__law_name
  have m0 := Int.emod_nonneg f (show (6 : Int) ≠ 0 by decide)
  have m1 := Int.emod_lt_of_pos f (show (0 : Int) < 6 by decide)
  have cd6 : CDiv f 6 := ⟨by decide, by decide⟩
  walk_at "ev*"
  refine ⟨⟨by omega, by omega⟩, ?_⟩
  rw [rngE_0]
  refine wlc_map (List.range (1 + f % 6).toNat) (fun (k : Nat) => El.v (.int (k : Int))) (fun k => D.str (SS [lettersL.getD (mixed f (k : Int) % 26).toNat 0])) rfl (fun k hk acc => ?_) (fun _ => trivial) (sz_le (by rw [List.length_range]; omega)) ?_
  · have hk := List.mem_range.mp hk
    have hm := fun C => mixed_ok (c := f) (k := (k : Int)) (C := C) (by omega) (by omega)
    have cd26 : CDiv (mixed f k) 26 := ⟨by decide, by decide⟩
    have h1 := Int.emod_nonneg (mixed f k) (show (26 : Int) ≠ 0 by decide)
    have h2 := Int.emod_lt_of_pos (mixed f k) (show (0 : Int) < 26 by decide)
    have hi := fun C => i_str (C := C) (l := lettersL) (i := mixed f k % 26) (by rw [abc_len]; decide) h1 (by rw [abc_len]; exact h2)
    rw [← abc_S] at hi
    walk_at "ev*"
  have e1 := join_ones (f := fun (k : Nat) => lettersL.getD (mixed f (k : Int) % 26).toNat 0) (List.range (1 + f % 6).toNat)
  have e2 := ones_sum (f := fun (k : Nat) => lettersL.getD (mixed f (k : Int) % 26).toNat 0) (List.range (1 + f % 6).toNat)
  have k1 := mixed_ok (c := c) (k := 1) (C := C) (by decide) (by decide)
  have k2 := mixed_ok (c := c) (k := 2) (C := C) (by decide) (by decide)
  have k3 := mixed_ok (c := c) (k := 3) (C := C) (by decide) (by decide)
  have cd10 : CDiv (mixed c 1) 10 := ⟨by decide, by decide⟩
  have hi := fun C => i_str (C := C) (l := lettersL) (i := mixed c 2 % 26) (by rw [abc_len]; decide) (Int.emod_nonneg _ (by decide)) (by rw [abc_len]; exact Int.emod_lt_of_pos _ (by decide))
  rw [← abc_S] at hi
  walk_at "ev*"
  rw [show (List.range (1 + f % 6).toNat).map (fun (k : Nat) => lettersL.getD (mixed f (k : Int) % 26).toNat 0) = stL f from rfl]
  have l6 : (stL f).length ≤ 6 := by rw [stL_len]; omega
  have l1 : 1 ≤ (stL f).length := by rw [stL_len]; omega
  have el : (SS (stL f)).length = (stL f).length := SX.S_len _
  have n2 := Int.emod_nonneg (f / 6) (show ((SS (stL f)).length : Int) ≠ 0 by omega)
  have hS : okS (SS (stL f)) 6 := ⟨_, rfl, stL_ok f, l6⟩
  have hA : okS (SS ((stL f).take (f / 6 % ((SS (stL f)).length : Int)).toNat)) 6 := ⟨_, rfl, fun c hc => stL_ok f c (List.mem_of_mem_take hc), by rw [List.length_take]; omega⟩
  have hB : okS (SS ((stL f).drop (f / 6 % ((SS (stL f)).length : Int) + 1).toNat)) 6 := ⟨_, rfl, fun c hc => stL_ok f c (List.mem_of_mem_drop hc), by rw [List.length_drop]; omega⟩
  have hT : okS (SS [lettersL.getD (mixed c 2 % 26).toNat 0]) 1 := ⟨_, rfl, fun c hc => by rw [List.mem_singleton.mp hc]; exact lett_ok (let_mem _), Nat.le_refl _⟩
  rw [cutS_to n2, cutS_from (by omega)]
  clear e1 e2 hi k1 k2 el n2
  generalize SS ((stL f).take (f / 6 % ((SS (stL f)).length : Int)).toNat) = A at *
  generalize SS ((stL f).drop (f / 6 % ((SS (stL f)).length : Int) + 1).toNat) = B at *
  generalize SS [lettersL.getD (mixed c 2 % 26).toNat 0] = T at *
  have eS : 0 < (SS (stL f)).length := by rw [SX.S_len]; exact l1
  generalize SS (stL f) = S at *
  have lit : ∀ (s : Str) (n : Nat), s.cps.toList.all (fun c => decide (c < 0x110000)) = true → s.cps.toList.length ≤ n → okS s n := fun s n h1 h2 => ⟨s.cps.toList, rfl, fun c hc => of_decide_eq_true (List.all_eq_true.mp h1 c hc), h2⟩
  have hx := lit "xxxxxxxx" 8 (by decide +kernel) (by decide +kernel)
  have hq := lit "Q" 1 (by decide +kernel) (by decide +kernel)
  have hb := lit " " 1 (by decide +kernel) (by decide +kernel)
  have h1 := lit "1" 1 (by decide +kernel) (by decide +kernel)
  have h0 := lit "" 0 (by decide +kernel) (by decide +kernel)
  have hab := lit "a b" 3 (by decide +kernel) (by decide +kernel)
  have lA := hA.len
  have lB := hB.len
  have lS := hS.len
  have lT := hT.len
  have lAT := (hA.cat hT).len
  have lAQ := (hA.cat hq).len
  have lx := hx.len
  have lq := hq.len
  have lb := hb.len
  have l11 := h1.len
  obtain ⟨s6, o6, e6⟩ := six_at (x := mixed c 3) (P := nameOk) (l := [.str "", .str (S ++ "xxxxxxxx"), .str (A ++ "Q" ++ B), .str (" " ++ S), .str (S ++ "1"), .str "a b"]) fun i hi => by
    have : i = 0 ∨ i = 1 ∨ i = 2 ∨ i = 3 ∨ i = 4 ∨ i = 5 := by omega
    rcases this with rfl | rfl | rfl | rfl | rfl | rfl
    · exact ⟨_, h0.nm (by decide), rfl⟩
    · exact ⟨_, (hS.cat hx).nm (by decide), rfl⟩
    · exact ⟨_, ((hA.cat hq).cat hB).nm (by decide), rfl⟩
    · exact ⟨_, (hb.cat hS).nm (by decide), rfl⟩
    · exact ⟨_, (hS.cat h1).nm (by decide), rfl⟩
    · exact ⟨_, hab.nm (by decide), rfl⟩
  have n1 := ((hA.cat hT).cat hB).nm (by decide)
  have n2 := (hS.cat hT).nm (by decide)
  refine ⟨by rw [List.length_range, show (Str.ofString "").length = 0 from rfl]; omega, sz_le (by omega), by omega, fun _ => ⟨sz_le (by omega), sz_le (by omega), sz_le (by omega), sz_le (by omega), _, n1, rfl⟩, fun _ => ⟨fun _ => ⟨sz_le (by omega), _, n2, rfl⟩, fun _ => ⟨sz_le (by omega), sz_le (by omega), sz_le (by omega), sz_le (by omega), sz_le (by omega), sz_le (by omega), ?_⟩⟩⟩
  clear lit hx hq hb h1 h0 hab hA hB hT hS n1 n2
  walk_at "ev*"
  exact ⟨sz_le (by omega), s6, o6, rfl⟩
end
section
/-! ### what is due -/
def kdE (N : NT) : List (Key × El) := N.ps.map fun p => (.inr p.1, .v (.str (kindS p.2)))
section
variable {C : Cs} {n r : Nat} {N : NT} {ad dd : Addr}
theorem keysK : (kdE N).map (·.1) = (N.ps.map (·.1)).map Sum.inr := by
  unfold kdE
  rw [List.map_map, List.map_map]
  rfl
theorem in_kd {lk : Option HO} {s : Str} (h : C[r]? = some (some (.dk lk (kdE N)))) : bIn0 C (.v (.str s)) (.at r) = some (decide (isNm N s)) := by
  rw [in_dk h rfl, val_isSome, keysK]
  congr 1
  exact decide_eq_decide.mpr mem_inr
theorem home_kd (w : Wf N) : ("house" : Str) ∈ (N.ps.map fun p => kindS p.2) ↔ homeN N ≠ none := by
  constructor
  · intro h z
    obtain ⟨p, hp, e⟩ := List.mem_map.mp h
    have hc := (kindS_house (w.cls p hp)).mp e
    unfold homeN at z
    rw [List.findSome?_eq_none_iff] at z
    have := z p hp
    unfold homeF at this
    rw [if_pos hc] at this
    cases this
  · intro h
    cases e : homeN N with
    | none => exact absurd e h
    | some x =>
      unfold homeN at e
      obtain ⟨p, hp, ep⟩ := List.exists_of_findSome?_eq_some e
      have e3 := homeF_some ep
      subst e3
      exact List.mem_map.mpr ⟨_, hp, show kindS "House" = "house" by decide +kernel⟩
theorem kindS_lis {c : Str} (h : Cls3 c) : (kindS c = ("listener" : Str)) ↔ c = "Listener" := by
  rcases h with rfl | rfl | rfl <;> decide
theorem count_kd (w : Wf N) : (N.ps.map fun p => kindS p.2).count ("listener" : Str) = (lisN N).length := by
  unfold lisN
  rw [List.length_map, List.count_eq_countP, List.countP_map, List.countP_eq_length_filter]
  congr 1
  apply List.filter_congr
  intro p hp
  show (kindS p.2 == "listener") = decide (p.2 = "Listener")
  by_cases e : p.2 = "Listener"
  · rw [decide_eq_true e, (kindS_lis (w.cls p hp)).mpr e]
    rfl
  · rw [decide_eq_false e]
    exact beq_false_of_ne fun z => e ((kindS_lis (w.cls p hp)).mp z)
/-- the word of what is due -/
noncomputable def dueK (N : NT) (s c : Str) : Str :=
  open Classical in
  if ¬ nmOk s then "name" else if isNm N s then "taken" else if c = "House" ∧ homeN N ≠ none then "house" else if 20 ≤ N.ps.length ∨ c = "Listener" ∧ 8 ≤ (lisN N).length then "many" else "done"
theorem ldue_ok {s c : Str} (h : C[r]? = some (some (.dk none (kdE N)))) (w : Wf N) (hs : nameOk s) (hc : Cls3 c) : m__law_due [.at r, .v (.str s), .v (.str (kindS c))] C = some (.ok (.v (.str (dueK N s c))), C) := by
  refine of_wp ?_
  rw [o__law_due]
  unfold b__law_due
  have hin := in_kd (s := s) h
  have hv : viewK C (.at r) = some (kdE N) := by unfold viewK; dsimp only; rw [h]
  have hnl : ∀ q : El × Cs → Prop, wo (newL false ((kdE N).map fun x => x.2) C) q = q (.v (.lst ((N.ps.map fun p => kindS p.2).map D.str)), C) := fun q => by
    have e : ((kdE N).map fun x => x.2) = ((N.ps.map fun p => kindS p.2).map D.str).map El.v := by unfold kdE; rw [List.map_map, List.map_map, List.map_map]; rfl
    rw [e, newL_f]
  have hl : (N.ps.map fun p => kindS p.2).length = N.ps.length := List.length_map _
  have hcnt := fun q => count_strs (C := C) (ns := N.ps.map fun p => kindS p.2) (k := "listener") (q := q)
  rw [count_kd w] at hcnt
  have hhm := home_kd w
  have ek : (kindS c = "house") = (c = "House") := propext (kindS_house hc)
  have el : (kindS c = "listener") = (c = "Listener") := propext (kindS_lis hc)
  generalize (N.ps.map fun p => kindS p.2) = ks at *
  walk_at "ev*"
  have sz : s.length ≤ sizeLine := Nat.le_trans hs.2 (by decide)
  have no : ¬ nmOk s → El.v (D.str "name") = El.v (D.str (dueK N s c)) := fun z => by
    unfold dueK
    rw [if_pos z]
  refine ⟨sz, fun h1 => no fun z => h1 (by have := z.1; omega), fun h1 => ⟨fun h2 => no fun z => h2 (by have := z.2.1; omega), fun h2 => ?_⟩⟩
  refine wlc_fil s.cps.toList (fun c => El.v (.str (sgn c))) (fun c => if c ∉ lettersL then some (D.str (sgn c)) else none) rfl (fun c hc acc => ?_) (fun acc => trivial) (Nat.le_trans (by show s.cps.toList.length ≤ s.length; simp [Str.length]) sz) ?_
  · walk_at "ev*"
    show decide (c ∈ lettersL) = _ ∧ (¬ c ∈ lettersL → _)
    by_cases e : c ∈ lettersL
    · simp [e]
    · simp [e]
  rw [fm_ifD]
  have hb : (s.cps.toList.filter fun x => !decide (x ∈ lettersL)) = [] ↔ ∀ c ∈ s.cps.toList, c ∈ lettersL := by
    rw [List.filter_eq_nil_iff]
    exact ⟨fun h c hc => Classical.byContradiction fun z => h c hc (by simp [z]), fun h c hc z => by simp [h c hc] at z⟩
  have e1 : ∀ C, eqE C (.v (.lst (List.map (fun c => D.str (sgn c)) (s.cps.toList.filter fun x => !decide (x ∈ lettersL))))) (.v (.lst [])) = some (decide ((s.cps.toList.filter fun x => !decide (x ∈ lettersL)) = [])) := fun C => by
    have h0 := eq_strs (C := C) (ns := (s.cps.toList.filter fun x => !decide (x ∈ lettersL)).map sgn) (ms := []) (fun t ht => by
      obtain ⟨c, hc, rfl⟩ := List.mem_map.mp ht
      have h3 := hs.1
      unfold PyData.strOk at h3
      rw [← Array.all_toList, List.all_eq_true] at h3
      have h4 := h3 c (List.mem_filter.mp hc).1
      unfold PyData.strOk sgn
      simpa using h4) (by simp)
    rw [List.map_map] at h0
    refine h0.trans ?_
    congr 1
    exact decide_eq_decide.mpr List.map_eq_nil_iff
  walk_at "ev*"
  refine ⟨fun hb1 => no fun z => hb1 z.2.2, fun hb1 => ?_⟩
  have ok : nmOk s := ⟨by omega, by omega, hb1⟩
  unfold dueK
  rw [if_neg (fun z => z ok)]
  refine ⟨fun t => by rw [if_pos t], fun t => ?_⟩
  rw [if_neg t]
  refine ⟨fun hH => ⟨fun a => by rw [if_pos ⟨hH, a⟩], fun a => ?_⟩, fun hH => ?_⟩
  · rw [if_neg fun z => z.2 a]
    exact ⟨fun l => by rw [if_pos (.inl (by omega))], fun l => ⟨fun hL => ⟨fun m => by rw [if_pos (.inr ⟨hL, by omega⟩)], fun m => by rw [if_neg fun z => z.elim (fun y => l (by omega)) fun y => m (by omega)]⟩, fun hL => by rw [if_neg fun z => z.elim (fun y => l (by omega)) fun y => hL y.1]⟩⟩
  · rw [if_neg fun z => hH z.1]
    exact ⟨fun l => by rw [if_pos (.inl (by omega))], fun l => ⟨fun hL => ⟨fun m => by rw [if_pos (.inr ⟨hL, by omega⟩)], fun m => by rw [if_neg fun z => z.elim (fun y => l (by omega)) fun y => m (by omega)]⟩, fun hL => by rw [if_neg fun z => z.elim (fun y => l (by omega)) fun y => hL y.1]⟩⟩
theorem isX1_1 {tab : Str → D → Option Bool} {y : Str} {d : D} {b : Bool} (h : tab y d = some b) : isX1 tab y (.tup [d]) = some b := by
  show (match tab y d, some false with
    | some b, some r => some (b || r)
    | _, _ => none) = _
  rw [h]
  simp
theorem fourB (b1 b2 b3 b4 : Bool) {C : Cs} {Q : El → Cs → Prop} {E : Exn → Cs → Prop} {e1 e2 : El} {o : Option El}
    (hq : Q (.v (.lst (([("name", b1), ("taken", b2), ("house", b3), ("many", b4)] : List (Str × Bool)).filterMap fun p => if p.2 = true then some (D.str p.1) else none))) C) :
    wlc false [3, 4] (gTp (R.gCons (gN 3) (R.gCons (gN 4) R.gNil)) 2) (tV (eVar 4)) (eVar 3) (fun _ => True)
    (List.zipWith (fun x y => mkTup [x, y]) [El.v (D.str "name"), El.v (D.str "taken"), El.v (D.str "house"), El.v (D.str "many")] [El.v (D.bl b1), El.v (D.bl b2), El.v (D.bl b3), El.v (D.bl b4)]) [some e1, some e2, o, none, none] C Q E := by
  refine wlc_fil ([("name", b1), ("taken", b2), ("house", b3), ("many", b4)] : List (Str × Bool)) (fun p => El.v (.tup [.str p.1, .bl p.2])) (fun p => if p.2 = true then some (D.str p.1) else none) rfl (fun p hp acc => ?_) (fun _ => trivial) (sz_le (by simp)) hq
  obtain ⟨x, b⟩ := p
  clear hp hq
  cases b with
  | true => walk_at "ev*"; done
  | false => walk_at "ev*"; done
theorem word_name : m__law_word_vx ad dd ⟨"NoName", none⟩ [.v (.adr ad)] C = some (.ok (.v (.str "name")), C) := by
  refine of_wp ?_
  rw [o__law_word_vx]
  unfold b__law_word_vx
  have hx : isX1 isT "NoName" (.tup [.cls "IntoHouse"]) = some false := isX1_1 isT_NoName_IntoHouse
  walk_at "ev*"
  refine fourB true false false false ?_
  have q1 : (((1 : Nat) : Int) = 1) = True := eq_true rfl
  show _
  rw [show (([("name", true), ("taken", false), ("house", false), ("many", false)] : List (Str × Bool)).filterMap fun p => if p.2 = true then some (D.str p.1) else none) = [D.str "name"] from rfl]
  walk_at "ev*"
  exact fun z => absurd z (by decide)
theorem word_taken : m__law_word_vx ad dd ⟨"Taken", none⟩ [.v (.adr ad)] C = some (.ok (.v (.str "taken")), C) := by
  refine of_wp ?_
  rw [o__law_word_vx]
  unfold b__law_word_vx
  have hx : isX1 isT "Taken" (.tup [.cls "IntoHouse"]) = some false := isX1_1 isT_Taken_IntoHouse
  walk_at "ev*"
  refine fourB false true false false ?_
  have q1 : (((1 : Nat) : Int) = 1) = True := eq_true rfl
  show _
  rw [show (([("name", false), ("taken", true), ("house", false), ("many", false)] : List (Str × Bool)).filterMap fun p => if p.2 = true then some (D.str p.1) else none) = [D.str "taken"] from rfl]
  walk_at "ev*"
  exact fun z => absurd z (by decide)
theorem word_house : m__law_word_vx ad dd ⟨"OneHouse", none⟩ [.v (.adr ad)] C = some (.ok (.v (.str "house")), C) := by
  refine of_wp ?_
  rw [o__law_word_vx]
  unfold b__law_word_vx
  have hx : isX1 isT "OneHouse" (.tup [.cls "IntoHouse"]) = some false := isX1_1 isT_OneHouse_IntoHouse
  walk_at "ev*"
  refine fourB false false true false ?_
  have q1 : (((1 : Nat) : Int) = 1) = True := eq_true rfl
  show _
  rw [show (([("name", false), ("taken", false), ("house", true), ("many", false)] : List (Str × Bool)).filterMap fun p => if p.2 = true then some (D.str p.1) else none) = [D.str "house"] from rfl]
  walk_at "ev*"
  exact fun z => absurd z (by decide)
theorem word_many : m__law_word_vx ad dd ⟨"TooMany", none⟩ [.v (.adr ad)] C = some (.ok (.v (.str "many")), C) := by
  refine of_wp ?_
  rw [o__law_word_vx]
  unfold b__law_word_vx
  have hx : isX1 isT "TooMany" (.tup [.cls "IntoHouse"]) = some false := isX1_1 isT_TooMany_IntoHouse
  walk_at "ev*"
  refine fourB false false false true ?_
  have q1 : (((1 : Nat) : Int) = 1) = True := eq_true rfl
  show _
  rw [show (([("name", false), ("taken", false), ("house", false), ("many", true)] : List (Str × Bool)).filterMap fun p => if p.2 = true then some (D.str p.1) else none) = [D.str "many"] from rfl]
  walk_at "ev*"
  exact fun z => absurd z (by decide)
theorem eq_lst {C : Cs} {l : List D} (h : okD (.lst l) 9 = true) (hb : noB (.lst l) = true) : eqE C (.v (.lst l)) (.v (.lst l)) = some true := by
  rw [eqE_as (.inl rfl) rfl rfl h h, eqD_dec (k := 9) (P := True) h hb hb ⟨fun _ => trivial, fun _ => rfl⟩]
  simp
theorem eq_bls {C : Cs} {a b c : Bool} : eqE C (.v (.lst [.bl a, .bl b, .bl c])) (.v (.lst [.bl a, .bl b, .bl c])) = some true := by
  have o : ∀ x y z : Bool, okD (.lst [.bl x, .bl y, .bl z]) 9 = true := by decide +kernel
  rw [eqE_as (.inl rfl) rfl rfl (o a b c) (o a b c)]
  cases a <;> cases b <;> cases c <;> decide +kernel
theorem is_ok {p : Str × Str} (hc : Cls3 p.2) : m__law_is [.v (postD p), .v (.str p.1), .v (.str (kindS p.2))] C = some (.ok (.v (.bl true)), C) := by
  refine of_wp ?_
  rw [o__law_is]
  unfold b__law_is
  have hk := fun Q E C => kind_m (r := .v (postD p)) (C := C) (Q := Q) (E := E) hc
  have hr := fun Q E C => reads_m (r := .v (postD p)) (C := C) (Q := Q) (E := E) hc
  have hh := fun Q E C => hears_m (r := .v (postD p)) (C := C) (Q := Q) (E := E) hc
  have hcc := cc_cls hc
  have hv := fun C => v_post (C := C) (p := p)
  have t1 : isTI p.2 (.cls "Post") = some true := by rcases hc with e | e | e <;> rw [e] <;> decide +kernel
  have t2 : isTI p.2 (.cls "House") = some (decide (kindS p.2 = "house")) := by rcases hc with e | e | e <;> rw [e] <;> decide +kernel
  have t3 : isTI p.2 (.cls "Listener") = some (decide (kindS p.2 = "listener")) := by rcases hc with e | e | e <;> rw [e] <;> decide +kernel
  have t4 : decide (p.2 = "Listener") = decide (kindS p.2 = "listener") := decide_eq_decide.mpr (kindS_lis hc).symm
  have t5 : decide (p.2 = "House") = decide (kindS p.2 = "house") := decide_eq_decide.mpr (kindS_house hc).symm
  have t6 : decide (p.2 ≠ "House") = decide (kindS p.2 ≠ "house") := decide_eq_decide.mpr (not_congr (kindS_house hc).symm)
  have t7 := fun C a b c => eq_bls (C := C) (a := a) (b := b) (c := c)
  walk_at "ev*"
  done
end
end
section
/-! ### a post put in by the law -/
section
variable {C : Cs} {n r : Nat} {N : NT}
theorem perr_uniq {s c x y : Str} (h1 : putErr N s c x) (h2 : putErr N s c y) : x = y := by
  rcases h1 with ⟨a1, rfl⟩ | ⟨a1, a2, rfl⟩ | ⟨a1, a2, a3, a4, rfl⟩ | ⟨a1, a2, a3, a4, rfl⟩ <;>
  rcases h2 with ⟨b1, rfl⟩ | ⟨b1, b2, rfl⟩ | ⟨b1, b2, b3, b4, rfl⟩ | ⟨b1, b2, b3, b4, rfl⟩ <;>
  first | rfl | exact absurd b1 a1 | exact absurd a1 b1 | exact absurd b2 a2 | exact absurd a2 b2 | exact absurd ⟨a3, a4⟩ b3 | exact absurd ⟨b3, b4⟩ a3
def wordOf (e wd : Str) : Prop := ∀ (C : Cs) (ad dd : Addr), m__law_word_vx ad dd ⟨e, none⟩ [exE ad dd ⟨e, none⟩] C = some (.ok (.v (.str wd)), C)
theorem due_cases {s c : Str} : (putFine N s c ∧ dueK N s c = "done") ∨ ∃ (e wd : Str), putErr N s c e ∧ dueK N s c = wd ∧ (wd = "done") = False ∧ wordOf e wd ∧ hit "PostError" e = some true := by
  unfold dueK
  by_cases h1 : ¬ nmOk s
  · rw [if_pos h1]
    exact .inr ⟨_, _, .inl ⟨h1, rfl⟩, rfl, by decide +kernel, fun C ad dd => word_name, by decide +kernel⟩
  rw [if_neg h1]
  have h1 := Classical.not_not.mp h1
  by_cases h2 : isNm N s
  · rw [if_pos h2]
    exact .inr ⟨_, _, .inr (.inl ⟨h1, h2, rfl⟩), rfl, by decide +kernel, fun C ad dd => word_taken, by decide +kernel⟩
  rw [if_neg h2]
  by_cases h3 : c = "House" ∧ homeN N ≠ none
  · rw [if_pos h3]
    exact .inr ⟨_, _, .inr (.inr (.inl ⟨h1, h2, h3.1, h3.2, rfl⟩)), rfl, by decide +kernel, fun C ad dd => word_house, by decide +kernel⟩
  rw [if_neg h3]
  by_cases h4 : 20 ≤ N.ps.length ∨ c = "Listener" ∧ 8 ≤ (lisN N).length
  · rw [if_pos h4]
    exact .inr ⟨_, _, .inr (.inr (.inr ⟨h1, h2, h3, h4, rfl⟩)), rfl, by decide +kernel, fun C ad dd => word_many, by decide +kernel⟩
  rw [if_neg h4]
  exact .inl ⟨⟨h1, h2, h3, by omega, fun z => h4 (.inr z)⟩, rfl⟩
theorem lput_ok {s c : Str} (hc : Cls3 c) (h : NetC C n none N) (w : Wf N) (f : putFine N s c) : m__law_put [.at n, .v (.str s), .v (.str (kindS c))] C = some (.ok (.v (.str "done")), upN C n (N.put s c)) := by
  refine of_wp ?_
  rw [o__law_put]
  unfold b__law_put
  obtain ⟨g1, g2, g3, _⟩ := h.see
  have e4 := fun G Q E => end_rt0 (C := C) (n := n) (N := N.put s c) (Q := Q) (E := E) (G := G) (d := .str "done") h.lt
  have q1 : (("post" : Str) = "house") = False := by decide +kernel
  have q2 : (("post" : Str) = "listener") = False := by decide +kernel
  have q3 : (("listener" : Str) = "house") = False := by decide +kernel
  rcases hc with rfl | rfl | rfl
  · have e1 := post_eq h w f
    rw [show kindS "Post" = "post" from by decide +kernel]
    walk_at "ev*"
    done
  · have e1 := house_eq h w f
    rw [show kindS "House" = "house" from by decide +kernel]
    walk_at "ev*"
    done
  · have e1 := listener_eq h w f
    rw [show kindS "Listener" = "listener" from by decide +kernel]
    walk_at "ev*"
    done
theorem lput_er {s c e wd : Str} (hc : Cls3 c) (hs : nameOk s) (h : NetC C n none N) (w : Wf N) (z : putErr N s c e) (hw : wordOf e wd) (hp : hit "PostError" e = some true) : m__law_put [.at n, .v (.str s), .v (.str (kindS c))] C = some (.ok (.v (.str wd)), C) := by
  refine of_wp ?_
  rw [o__law_put]
  unfold b__law_put
  obtain ⟨g1, g2, g3, _⟩ := h.see
  have sz : s.length ≤ sizeLine := Nat.le_trans hs.2 (by decide)
  have e2 : ∀ ad dd, m__law_word_vx ad dd ⟨e, none⟩ [.v (.adr ad)] C = some (.ok (.v (.str wd)), C) := fun ad dd => hw C ad dd
  have q1 : (("post" : Str) = "house") = False := by decide +kernel
  have q2 : (("post" : Str) = "listener") = False := by decide +kernel
  have q3 : (("listener" : Str) = "house") = False := by decide +kernel
  rcases hc with rfl | rfl | rfl
  · have e1 : m_Net_post [.at n, .v (.str s)] C = some (.er ⟨e, none⟩, C) := of_wp_er (post_wp sz h w (fun f => (no_err f z).elim) fun y z' => ⟨by rw [perr_uniq z' z], rfl⟩)
    rw [show kindS "Post" = "post" from by decide +kernel]
    walk_at "ev*"
    refine ws_all .nx [some (.at n), some (.v (.str s)), some (.v (.str "post")), some (.v .non), some (.v (.str wd)), none] C (fun a d => ?_) ?_
    · walk_at "ev*"
      done
    · walk_at "ev*"
      done
  · have e1 : m_Net_house [.at n, .v (.str s)] C = some (.er ⟨e, none⟩, C) := of_wp_er (house_wp sz h w (fun f => (no_err f z).elim) fun y z' => ⟨by rw [perr_uniq z' z], rfl⟩)
    rw [show kindS "House" = "house" from by decide +kernel]
    walk_at "ev*"
    refine ws_all .nx [some (.at n), some (.v (.str s)), some (.v (.str "house")), some (.v .non), some (.v (.str wd)), none] C (fun a d => ?_) ?_
    · walk_at "ev*"
      done
    · walk_at "ev*"
      done
  · have e1 : m_Net_listener [.at n, .v (.str s)] C = some (.er ⟨e, none⟩, C) := of_wp_er (listener_wp sz h w (fun f => (no_err f z).elim) fun y z' => ⟨by rw [perr_uniq z' z], rfl⟩)
    rw [show kindS "Listener" = "listener" from by decide +kernel]
    walk_at "ev*"
    refine ws_all .nx [some (.at n), some (.v (.str s)), some (.v (.str "listener")), some (.v .non), some (.v (.str wd)), none] C (fun a d => ?_) ?_
    · walk_at "ev*"
      done
    · walk_at "ev*"
      done
end
end
section
/-! ### the cells: the net's three, the law's dict of kinds -/
def C21 (N M : NT) (L : Cs) : Cs := netL 0 N ++ some (.dk none (kdE M)) :: L
section
variable {N M N' M' : NT} {L : Cs}
theorem c21_net : NetC (C21 N M L) 0 none N := netL_0L
theorem c21_rows : (C21 N M L)[3]? = some (some (.dk none (kdE M))) := rfl
theorem c21_up : upN (C21 N M L) 0 N' = C21 N' M L := rfl
end
section
variable {C : Cs} {n : Nat} {N : NT}
theorem posts_c (h : NetC C n none N) : m_Net_posts_vc [.at n] C = some (.ok (.at C.length), pu C ((N.ps.map postD).map El.v)) := by
  refine of_wp ?_
  rw [o_Net_posts_vc]
  unfold b_Net_posts_vc
  obtain ⟨h1, h2, h3, _⟩ := h.see
  have hv : viewK C (.at (n + 1)) = some (nmE N) := by
    unfold viewK
    dsimp only
    rw [h2]
  have e : (nmE N).map (·.2) = (N.ps.map postD).map El.v := by
    unfold nmE
    rw [List.map_map, List.map_map]
    rfl
  walk_at "ev*"
  done
theorem posts_ok (h : NetC C n none N) : m_Net_posts [.at n] C = some (.ok (.v (.lst (N.ps.map postD))), C) := frz_l1 (posts_c h)
theorem zip_kd : ∀ ps : List (Str × Str), List.zipWith (fun (x : El) (p : Key × El) => mkTup [x, kEl p.1]) ((ps.map postD).map El.v) (ps.map fun p => ((.inr p.1, .v (.str (kindS p.2))) : Key × El)) = ps.map fun p => El.v (.tup [postD p, .str p.1])
  | [] => rfl
  | p :: ps => by
    rw [List.map_cons, List.map_cons, List.map_cons, List.zipWith_cons_cons, zip_kd ps]
    rfl
theorem last_take {ps : List (Str × Str)} {k : Nat} {p : Str × Str} (e : ps[k]? = some p) : (ps.take (k + 1)).getLast? = some p := by
  rw [List.take_add_one, e]
  simp
theorem dw_kd : dwE .k (kdE N) = N.ps.map fun p => El.v (.str p.1) := by
  unfold dwE kdE
  dsimp only
  rw [List.map_map]
  rfl
theorem val_kd (w : Wf N) {p : Str × Str} (h : p ∈ N.ps) : val (kdE N) (.inr p.1) = some (.v (.str (kindS p.2))) := val_mem (by rw [keysK]; exact nd_map (fun a b e => by cases e; rfl) w.nd) (List.mem_map.mpr ⟨p, h, rfl⟩)
theorem home_at : ∀ ps : List (Str × Str), L2.atI ((ps.filter fun p => decide (p.2 = ("House" : Str))).map (fun p => D.str p.1) ++ [D.non]) 0 = some (optS (ps.findSome? homeF))
  | [] => rfl
  | p :: ps => by
    rw [List.filter_cons, List.findSome?_cons]
    unfold homeF
    by_cases h : p.2 = "House"
    · rw [if_pos (decide_eq_true h), if_pos h, List.map_cons, List.cons_append, atI_getD .non (by omega) (by simp; omega)]
      rfl
    · rw [if_neg (by simpa using h), if_neg h]
      exact home_at ps
theorem stands_ok {L : Cs} (w : Wf N) : m__law_stands [.at 0, .at 3] (C21 N N L) = some (.ok (.v (.bl true)), C21 N N L) := by
  refine of_wp ?_
  rw [o__law_stands]
  unfold b__law_stands
  have g := c21_net (N := N) (M := N) (L := L)
  have q1 := g.net
  have r3 := c21_rows (N := N) (M := N) (L := L)
  have hL := w.l20
  have p1 := posts_c g
  have n1 := fun M => names_ok (g.app M)
  have n2 := fun M => names_c (g.app M)
  have l1 := fun M => lis_ok (g.app M) w
  have l2 := fun M => lis_c (g.app M) w
  have h1 := fun M => home_ok (g.app M) w
  have p2 := fun M => posts_ok (g.app M)
  have q3 : ∀ M, (C21 N N L ++ M)[0]? = (C21 N N L)[0]? := fun M => rfl
  have r4 : ∀ M, (C21 N N L ++ M)[3]? = some (some (.dk none (kdE N))) := fun M => rfl
  have fl : ∀ M (q : El × Cs → Prop), wo (fList false [.at 3] (C21 N N L ++ M)) q = q (.v (.lst ((namesN N).map D.str)), C21 N N L ++ M) := fun M q => by
    rw [f_listK (r4 M)]
    have e : ((kdE N).map fun p => kEl p.1) = ((namesN N).map D.str).map El.v := by
      unfold kdE namesN
      rw [List.map_map, List.map_map, List.map_map]
      rfl
    rw [e, newL_f]
  have e2 := fun C => eq_strs (C := C) (ns := namesN N) (ms := namesN N) (names_str w) (names_str w)
  have hln : (kdE N).length = N.ps.length := by simp [kdE]
  walk_at "ev*"
  have hvs : viewS (C21 N N L ++ [some (Ob.lst ((N.ps.map postD).map El.v))]) (.at (C21 N N L).length) = some ((N.ps.map postD).map El.v) := by rw [v_Sat, c_get0]; rfl
  refine wfZ_at (l := kdE N) (l1 := (N.ps.map postD).map El.v) .nx [some (.at 0), some (.at 3), some (.at (C21 N N L).length), N.ps.getLast?.map fun p => El.v (postD p), N.ps.getLast?.map fun p => El.v (.str p.1), none] (C21 N N L ++ [some (Ob.lst ((N.ps.map postD).map El.v))]) (fun _ z => nomatch z) (r4 _) hvs (r4 _) (fun ho => ?_) ?_
  · refine wl_map N.ps (fun p => El.v (.tup [postD p, .str p.1])) (fun k G C' => C' = (C21 N N L ++ [some (Ob.lst ((N.ps.map postD).map El.v))]).set 3 (some (.dk (some ho) (kdE N))) ∧ G = [some (.at 0), some (.at 3), some (.at (C21 N N L).length), (N.ps.take k).getLast?.map fun p => El.v (postD p), (N.ps.take k).getLast?.map fun p => El.v (.str p.1), none]) (zip_kd N.ps) ⟨rfl, rfl⟩ ?_ ?_
    · rintro k p G C' e ⟨rfl, rfl⟩
      have hp : p ∈ N.ps := List.mem_of_getElem? e
      have hi := fun C => is_ok (C := C) (p := p) (w.cls p hp)
      have hv := val_kd w hp
      rw [last_take e]
      generalize (N.ps.take k).getLast? = o
      have r5 : ((C21 N N L ++ [some (Ob.lst ((N.ps.map postD).map El.v))]).set 3 (some (.dk (some ho) (kdE N))))[3]? = some (some (.dk (some ho) (kdE N))) := rfl
      have r6 : ((C21 N N L ++ [some (Ob.lst ((N.ps.map postD).map El.v))]).set 3 (some (.dk (some ho) (kdE N))))[(C21 N N L).length]? = some (some (.lst ((N.ps.map postD).map El.v))) := by
        rw [List.getElem?_set_ne (by rw [show (C21 N N L).length = L.length + 4 from rfl]; omega), c_get0]
        rfl
      have r8 : viewS ((C21 N N L ++ [some (Ob.lst ((N.ps.map postD).map El.v))]).set 3 (some (.dk (some ho) (kdE N)))) (.at (C21 N N L).length) = some ((N.ps.map postD).map El.v) := by rw [v_Sat, r6]; rfl
      clear e n1 n2 l1 l2 h1 p2 fl
      generalize ((C21 N N L ++ [some (Ob.lst ((N.ps.map postD).map El.v))]).set 3 (some (.dk (some ho) (kdE N)))) = CC at *
      have r7 : isLk CC 3 (kdE N) ho := r5
      walk_at "ev*"
    · rintro G C' ⟨rfl, rfl⟩
      rw [List.take_length]
      have r7 : isLk ((C21 N N L ++ [some (Ob.lst ((N.ps.map postD).map El.v))]).set 3 (some (.dk (some ho) (kdE N)))) 3 (kdE N) ho := rfl
      have r8 : viewS ((C21 N N L ++ [some (Ob.lst ((N.ps.map postD).map El.v))]).set 3 (some (.dk (some ho) (kdE N)))) (.at (C21 N N L).length) = some ((N.ps.map postD).map El.v) := by
        rw [v_Sat, List.getElem?_set_ne (by rw [show (C21 N N L).length = L.length + 4 from rfl]; omega), c_get0]
        rfl
      walk_at "ev*"
  · rw [te__law_stands_3]
    unfold tb__law_stands_3
    generalize N.ps.getLast? = o
    have e3 := fun C => eq_strs (C := C) (ns := lisN N) (ms := lisN N) (fun s hs => by
      obtain ⟨p, hp, rfl⟩ := List.mem_map.mp hs
      exact w.str (List.mem_map_of_mem (List.mem_filter.mp hp).1)) (fun s hs => by
      obtain ⟨p, hp, rfl⟩ := List.mem_map.mp hs
      exact w.str (List.mem_map_of_mem (List.mem_filter.mp hp).1))
    have step : ∀ (cl kd : Str) (hk : ∀ p ∈ N.ps, (kindS p.2 = kd) = (p.2 = cl)) (o3 o4 o5 : Option El) (ho : HO) (p : Str × Str) (hp : p ∈ N.ps) (M : Cs) (acc : List El), wo (gN 4 (El.v (.str p.1)) (wipeG [some (.at 0), some (.at 3), some (.at (C21 N N L).length), o3, o4, o5] [4]) (pu ((C21 N N L ++ M).set 3 (some (.dk (some ho) (kdE N)))) acc)) fun G1 =>
        wp (eCmp bEq (eIx (eVar 1) (eVar 4)) (eC (D.str kd)) G1 (pu ((C21 N N L ++ M).set 3 (some (.dk (some ho) (kdE N)))) acc)) (fun t C1 => C1 = pu ((C21 N N L ++ M).set 3 (some (.dk (some ho) (kdE N)))) acc ∧ t = ((if p.2 = cl then some (D.str p.1) else none : Option D)).isSome ∧
          (t = true → wp (eVar 4 G1 (pu ((C21 N N L ++ M).set 3 (some (.dk (some ho) (kdE N)))) acc)) (fun r C2 => ((if p.2 = cl then some (D.str p.1) else none : Option D)).map El.v = some r ∧ C2 = pu ((C21 N N L ++ M).set 3 (some (.dk (some ho) (kdE N)))) acc) NoE)) NoE := by
      intro cl kd hk o3 o4 o5 ho p hp M acc
      have hv := val_kd w hp
      have hkk := hk p hp
      have r5 : (pu ((C21 N N L ++ M).set 3 (some (.dk (some ho) (kdE N)))) acc)[3]? = some (some (.dk (some ho) (kdE N))) := rfl
      clear n1 n2 l1 l2 h1 p2 fl e3 hk
      generalize (pu ((C21 N N L ++ M).set 3 (some (.dk (some ho) (kdE N)))) acc) = CC at *
      walk_at "ev*"
      by_cases e : p.2 = cl
      · simp [e]
      · simp [e]
    walk_at "ev*"
    refine wlcD_fil N.ps (fun p => El.v (.str p.1)) (fun p => if p.2 = ("Listener" : Str) then some (D.str p.1) else none) (r4 _) dw_kd (fun ho p hp acc => step "Listener" "listener" (fun p hp => propext (kindS_lis (w.cls p hp))) _ _ _ ho p hp _ acc) (sz_le (by omega)) ?_
    rw [fm_ifD, show ((N.ps.filter fun p => decide (p.2 = ("Listener" : Str))).map fun p => D.str p.1) = (lisN N).map D.str from by unfold lisN; rw [List.map_map]; rfl]
    walk_at "ev*"
    refine wlcD_fil N.ps (fun p => El.v (.str p.1)) (fun p => if p.2 = ("House" : Str) then some (D.str p.1) else none) (r4 _) dw_kd (fun ho p hp acc => step "House" "house" (fun p hp => propext (kindS_house (w.cls p hp))) _ _ _ ho p hp _ acc) (sz_le (by omega)) ?_
    rw [fm_ifD]
    have hh := home_at N.ps
    have hlf : ((N.ps.filter fun p => decide (p.2 = ("House" : Str))).map (fun p => D.str p.1)).length ≤ 20 := by rw [List.length_map]; exact Nat.le_trans (List.length_filter_le _ _) hL
    have l3 : (lisN N).length < sizeLine := Nat.lt_of_le_of_lt (by unfold lisN; rw [List.length_map]; exact Nat.le_trans (List.length_filter_le _ _) hL) (show 20 < sizeLine by decide)
    have l4 : (namesN N).length < sizeLine := Nat.lt_of_le_of_lt (by unfold namesN; rw [List.length_map]; exact hL) (show 20 < sizeLine by decide)
    have e9 : ∀ C, eqE C (.v .non) (.v .non) = some true := fun _ => rfl
    rw [show N.ps.findSome? homeF = homeN N from rfl] at hh
    clear step e3
    generalize (N.ps.filter fun p => decide (p.2 = ("House" : Str))).map (fun p => D.str p.1) = hs at *
    generalize homeN N = hm at *
    cases hm with
    | none =>
      have eo : optS none = D.non := rfl
      walk_at "ev*"
      exact sz_le (by omega)
    | some x =>
      have eo : optS (some x) = D.str x := rfl
      walk_at "ev*"
      exact sz_le (by omega)
end
theorem kd_put {N : NT} {s c : Str} (f : putFine N s c) : putKE (kdE N) (.inr s) (.v (.str (kindS c))) = kdE (N.put s c) := by
  rw [put_new (by rw [keysK]; exact fun m => f.2.1 (mem_inr.mp m))]
  unfold kdE NT.put
  rw [List.map_append]
  rfl
theorem five_at {x : Int} {m : Int} (h0 : 0 < m) (h5 : m ≤ 5) : ∃ c : Str, Cls3 c ∧ L2.atI [D.str "house", .str "listener", .str "post", .str "post", .str "listener"] (x % m) = some (.str (kindS c)) := by
  have m0 := Int.emod_nonneg x (show m ≠ 0 by omega)
  have m1 := Int.emod_lt_of_pos x h0
  have : x % m = 0 ∨ x % m = 1 ∨ x % m = 2 ∨ x % m = 3 ∨ x % m = 4 := by omega
  rcases this with e | e | e | e | e <;> rw [e]
  · exact ⟨"House", .inr (.inl rfl), by rw [show kindS "House" = "house" from by decide +kernel]; rfl⟩
  · exact ⟨"Listener", .inr (.inr rfl), by rw [show kindS "Listener" = "listener" from by decide +kernel]; rfl⟩
  · exact ⟨"Post", .inl rfl, by rw [show kindS "Post" = "post" from by decide +kernel]; rfl⟩
  · exact ⟨"Post", .inl rfl, by rw [show kindS "Post" = "post" from by decide +kernel]; rfl⟩
  · exact ⟨"Listener", .inr (.inr rfl), by rw [show kindS "Listener" = "listener" from by decide +kernel]; rfl⟩
theorem law_ok (ns : List Int) (h : ns.length ≤ 63) : ∃ C, m_law [.v (.scr ns)] [] = some (.ok (.v (.bl true)), C) := by
  refine ⟨[], of_wp ?_⟩
  rw [o_law]
  unfold b_law
  have ec0 := cell_ok (ns := ns) (k := 0) (C := []) (by decide)
  generalize cell ns 0 = f at *
  have hn := fun Q E => net_new (C := []) (Q := Q) (E := E)
  have e00 : netL 0 N0 ++ [some (Ob.dk none [])] = C21 N0 N0 [] := rfl
  walk_at "ev*"
  have lc : (cutL ns (some 1) (some 41)).length ≤ 40 := by rw [cutL_mid (by decide) (by decide), List.length_take]; exact Nat.min_le_left _ _
  rw [map_map_i]
  clear hn ec0
  refine wl_map (cutL ns (some 1) (some 41)) (fun i => El.v (.int i)) (fun k G C' => ∃ N o4 o5 o6 o7, (Wf N ∧ N.ts = []) ∧ C' = C21 N N [] ∧ G = [some (.v (.scr ns)), some (.v (.int f)), some (.at 0), some (.at 3), o4, o5, o6, o7])
    rfl ⟨N0, none, none, none, none, ⟨wf0, rfl⟩, rfl, rfl⟩ ?_ ?_
  · rintro k c G C' ek ⟨N, o4, o5, o6, o7, ⟨w, t0⟩, rfl, rfl⟩
    obtain ⟨s, hs, en⟩ := lawname_ok (f := f) (c := c) (C := C21 N N [])
    have m4 := mixed_ok (c := c) (k := 4) (C := C21 N N []) (by decide) (by decide)
    have m5 := mixed_ok (c := c) (k := 5) (C := C21 N N []) (by decide) (by decide)
    have d0 := Int.emod_nonneg (f / 3) (show (3 : Int) ≠ 0 by decide)
    have d1 := Int.emod_lt_of_pos (f / 3) (show (0 : Int) < 3 by decide)
    have cd3 : CDiv f 3 := ⟨by decide, by decide⟩
    have cd4 : CDiv f 4 := ⟨by decide, by decide⟩
    have cd5 : CDiv (mixed c 5) 3 := ⟨by decide, by decide⟩
    obtain ⟨c0, hc0, ea⟩ := five_at (x := mixed c 4) (m := 3 + f / 3 % 3) (by omega) (by omega)
    have p0 : (0 < 3 + f / 3 % 3) = True := eq_true (by omega)
    have go : ∀ c1 : Str, Cls3 c1 → ∃ N2 wd, (Wf N2 ∧ N2.ts = []) ∧ m__law_due [.at 3, .v (.str s), .v (.str (kindS c1))] (C21 N N []) = some (.ok (.v (.str wd)), C21 N N []) ∧ m__law_put [.at 0, .v (.str s), .v (.str (kindS c1))] (C21 N N []) = some (.ok (.v (.str wd)), C21 N2 N []) ∧
        m__law_stands [.at 0, .at 3] (C21 N2 N2 []) = some (.ok (.v (.bl true)), C21 N2 N2 []) ∧ (C21 N2 N [])[3]? = some (some (.dk none (kdE N))) ∧ ((wd = "done") = True ∧ putKE (kdE N) (.inr s) (.v (.str (kindS c1))) = kdE N2 ∧ (C21 N2 N []).set 3 (some (.dk none (kdE N2))) = C21 N2 N2 [] ∨ (wd = "done") = False ∧ N2 = N) := by
      intro c1 hc1
      have hdue := ldue_ok (C := C21 N N []) (r := 3) (s := s) (c := c1) c21_rows w hs hc1
      rcases due_cases (N := N) (s := s) (c := c1) with ⟨hf, hD⟩ | ⟨e, wd, hx, hD, hne, hw, hh⟩
      · have e1 := lput_ok hc1 (c21_net (N := N) (M := N) (L := [])) w hf
        rw [c21_up] at e1
        rw [hD] at hdue
        exact ⟨N.put s c1, _, ⟨w.put hc1 hf, t0⟩, hdue, e1, stands_ok (w.put hc1 hf), rfl, .inl ⟨eq_true rfl, kd_put hf, rfl⟩⟩
      · have e1 := lput_er hc1 hs (c21_net (N := N) (M := N) (L := [])) w hx hw hh
        rw [hD] at hdue
        exact ⟨N, _, ⟨w, t0⟩, hdue, e1, stands_ok w, rfl, .inr ⟨hne, rfl⟩⟩
    have sz : (kdE N).length < sizeLine := Nat.lt_of_le_of_lt (by unfold kdE; rw [List.length_map]; exact w.l20) (show 20 < sizeLine by decide)
    have kl : kindS "Listener" = "listener" := by decide +kernel
    by_cases hcond : f % 4 = 3 ∧ 0 < mixed c 5 % 3
    · obtain ⟨N2, wd, ⟨w2, t2⟩, h1, h2, h3, h4, h5⟩ := go "Listener" (.inr (.inr rfl))
      rw [kl] at h1 h2 h5
      obtain ⟨k1, k2⟩ := hcond
      have F : ∀ o4 o5 o6 o7, ∃ N' p4 p5 p6 p7, (Wf N' ∧ N'.ts = []) ∧ C21 N2 N2 [] = C21 N' N' [] ∧ ([some (.v (.scr ns)), some (.v (.int f)), some (.at 0), some (.at 3), o4, o5, o6, o7] : Gs) = [some (.v (.scr ns)), some (.v (.int f)), some (.at 0), some (.at 3), p4, p5, p6, p7] := fun o4 o5 o6 o7 => ⟨N2, o4, o5, o6, o7, ⟨w2, t2⟩, rfl, rfl⟩
      clear go w t0 w2 t2 hs hc0 ek
      rcases h5 with ⟨q1, q2, q3⟩ | ⟨q1, rfl⟩
      · walk_at "ev*"
        done
      · walk_at "ev*"
        done
    · obtain ⟨N2, wd, ⟨w2, t2⟩, h1, h2, h3, h4, h5⟩ := go c0 hc0
      have F : ∀ o4 o5 o6 o7, ∃ N' p4 p5 p6 p7, (Wf N' ∧ N'.ts = []) ∧ C21 N2 N2 [] = C21 N' N' [] ∧ ([some (.v (.scr ns)), some (.v (.int f)), some (.at 0), some (.at 3), o4, o5, o6, o7] : Gs) = [some (.v (.scr ns)), some (.v (.int f)), some (.at 0), some (.at 3), p4, p5, p6, p7] := fun o4 o5 o6 o7 => ⟨N2, o4, o5, o6, o7, ⟨w2, t2⟩, rfl, rfl⟩
      have hk : (f % 4 = 3) = False ∨ ((f % 4 = 3) = True ∧ (0 < mixed c 5 % 3) = False) := by
        by_cases c2 : f % 4 = 3
        · exact .inr ⟨eq_true c2, eq_false fun y => hcond ⟨c2, y⟩⟩
        · exact .inl (eq_false c2)
      clear go w t0 w2 t2 hs hc0 ek hcond
      rcases h5 with ⟨q1, q2, q3⟩ | ⟨q1, rfl⟩
      · rcases hk with k1 | ⟨k1, k2⟩
        · walk_at "ev*"
          done
        · walk_at "ev*"
          done
      · rcases hk with k1 | ⟨k1, k2⟩
        · walk_at "ev*"
          done
        · walk_at "ev*"
          done
  · rintro G C' ⟨N, o4, o5, o6, o7, ⟨w, t0⟩, rfl, rfl⟩
    have t1 := ties_ok (c21_net (N := N) (M := N) (L := [])) w
    rw [t0] at t1
    have q1 := (c21_net (N := N) (M := N) (L := [])).net
    have e0 := fun C => eq_lst (C := C) (l := []) (by decide +kernel) (by decide +kernel)
    have hn := fun Q E => net_new (C := C21 N N []) (Q := Q) (E := E)
    have g := netL_at' (C := C21 N N []) (N := N0)
    have hh := home_ok g wf0
    rw [show homeN N0 = none from rfl, show optS none = D.non from rfl] at hh
    have q2 := g.net
    walk_at "ev*"
    done
end
end W
open PySem PySem.W PySem.Calls PyProof.Rows
theorem PySem.Challenge.cw_mixposts_k21_posts_put_in_holds : PySem.Challenge.rw_mixposts_k21_posts_put_in.Holds := by
  w_on; o_law
  refine HandSHeadRun.head_any (r := OpenLaw.row PySem.Challenge.rw_mixposts_k21_posts_put_in) (q := view (OpenLaw.row PySem.Challenge.rw_mixposts_k21_posts_put_in).prog [29]) (H := W.hk) (ob := W.ob) (M := 8000) (loose := W.names) (d := HandSHeadRun.topDef (OpenLaw.row PySem.Challenge.rw_mixposts_k21_posts_put_in).prog 29) (kwd := []) W.ob_eq
    (by kernel_rfl) (fun s => by kernel_rfl) W.run (by kernel_rfl) (by kernel_rfl) (by kernel_rfl) (by rfl) (by first | assumption | decide +kernel) (by decide +kernel) ⟨rfl, rfl, rfl, rfl, rfl, by decide +kernel⟩ ?hw ?hc
  case hw => w_witness2
  case hc =>
    refine R.walk_ofW (l := PySem.Challenge.rw_mixposts_k21_posts_put_in) (n := 63) (k := 6) (x := "_law_script") (CX := fun w => L2N.CX (PySem.Challenge.rw_mixposts_k21_posts_put_in).prog w) rfl (by decide) (by kernel_rfl) ⟨rfl, by decide, by decide⟩ ?F (fun w H s e s' z => by obtain ⟨_, _, _, _, _, _, _, _, _, _, _, _, z⟩ := z; exact z.elim)
    intro w mg fa h Y G hmg0
    obtain ⟨K, KX, c⟩ := Y
    have hmg : mg ("law" : PySem.Str) = some (.ref fa) := by
      have e : (HandSHeadRun.topDef (OpenLaw.row PySem.Challenge.rw_mixposts_k21_posts_put_in).prog 29).name = ("law" : PySem.Str) := by kernel_rfl
      rw [← e]
      exact hmg0
    obtain ⟨fd, hb, hF⟩ := W.facts (P := (PySem.Challenge.rw_mixposts_k21_posts_put_in).prog) (w := w) KX G hmg c.t.d c.more
    exact ⟨K, fd, R.spM K W.m_law, KX, hb, fun H a ns hl _ hS => R.sp_law (W.law_ok ns hl) hS, hF⟩
