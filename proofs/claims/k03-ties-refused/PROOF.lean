import PyProof.Rows.All
import Wide.All
import OpenK.AllK
import Wide.FinOn
import HandS.ForMost
import HandS.Exc
import HandS.WordsExc
import HandS.Walk
import HandS.Deep
import HandS.CallSlots
import PyProof.EqAt
import PyProof.EqKinds
import PyProof.NeData
import HandS.TupAny
import HandS.Style
import HandS.TupMul
import HandS.HotCalls
import HandS.Defaults
import HandS.MakeKwOnly
import HandS.MakeKw
import HandS.Property
import HandS.HeadEnd
import HandS.WideBits
import HandS.IsInst
import HandS.RaiseMore
import HandS.NoneIn
import HandS.Text
import HandS.More
import HandS.OwnEq
import KE.KStateDown
import HandS.Head0
import HandS.Head1
import HandS.Head2
import HandS.HeadHook1
import HandS.HeadHook2
import HandS.Words
import KE.GoesEnum
import HandS.Iter
import HandS.SortInts
import HandS.TupSets
import HandS.DictComp
import HandS.FStr
import HandS.ClsMeth
import HandS.HeadNt
import KE.SortUse
import HandS.ExcInit
import HandS.ExcInitHot
import HandS.ExcIs
import HandS.ExcField
import KE.KExcIs
import HandS.Strs
import HandS.SetFor
import PyProof.FactsAll.dict_1
import PySem.Challenge.RW_oneholeyards_k03_ties_refused
set_option Elab.async false
set_option linter.all false
set_option maxRecDepth 100000
set_option maxHeartbeats 0
namespace DL
open PySem PySem.Spec PyProof.Rows L2
structure DefY where
  ad : PySem.W.Frag → Addr
  name : Str
  qual : Str
  params : Arguments
  body : List Stmt
  scope : Scope
  kwd : List (Str × V) := []
def DefY.val (d : DefY) : He.FnW := some (d.name, d.qual, d.params, .stmts d.body, d.scope, mainGlobals, [], builtinsNs)
def fnAt (K : PySem.W.Frag) (a : Addr) : He.FnW := match K.lookup a with
  | some ⟨_, _, .func fd, _⟩ => some (fd.name, fd.qualname, fd.params, fd.body, fd.scope, fd.globals, fd.closure, fd.builtins)
  | _ => none
def DefY.ok (K : PySem.W.Frag) (d : DefY) : Bool := PySem.W.keepIn K (.ref (d.ad K)) && (match K.lookup (d.ad K) with
  | some ⟨_, _, .func fd, _⟩ => PySem.W.codeIn K fd.code d.qual && (He.dflB K fd.defaults [] && He.kwdB K fd.kwdefaults d.kwd)
  | _ => false)
abbrev AlY : Type := Bool × List He.FnW
def obsK (ex : PySem.W.Frag → Bool) (fn : List DefY) (K : PySem.W.Frag) : AlY := (ex K && fn.all fun d => d.ok K, fn.map fun d => fnAt K (d.ad K))
def valY (fn : List DefY) : AlY := (true, fn.map DefY.val)
def SaysY (ex : PySem.W.Frag → Bool) (fn : List DefY) (K : PySem.W.Frag) : Prop := obsK ex fn K = valY fn
def obsY2 (n : Nat) (ex : PySem.W.Frag → Bool) (fn : List DefY) (g : Addr → Option Obj) : AlY := obsK ex fn (He.frG g (He5.asA g n))
def hookY2 (n : Nat) (ex : PySem.W.Frag → Bool) (fn : List DefY) : PySem.W.Hook where
  α := AlY
  obs := fun s => obsY2 n ex fn s.heap.get?
  val := fun _ => valY fn
  says := fun _ h => ∃ K : PySem.W.Frag, K.In h ∧ SaysY ex fn K
  of := fun _ _ e => ⟨_, He.frG_in, e⟩
  keeps := fun _ _ _ ⟨K, hK, c⟩ k => ⟨K, PySem.W.Frag.In.keeps hK k, c⟩
theorem obsY2_eq {n : Nat} {ex : PySem.W.Frag → Bool} {fn : List DefY} {g : Addr → Option Obj} {s : Shared} (h : ∀ a, g a = s.heap.get? a) : obsY2 n ex fn g = (hookY2 n ex fn).obs s := by
  have e : g = s.heap.get? := funext h
  rw [e] <;> rfl
def pgA (K : PySem.W.Frag) (C : Addr) (f : Str) : Addr := match PySem.W.recIn K (He.ma K C f) "property" with
  | some (.ref g :: _) => g
  | _ => 0
def propB (K : PySem.W.Frag) (C : Addr) (f : Str) : Bool := He.eqO (PySem.W.findIn K (.ref C) f) (some (some (.ref (He.ma K C f)))) && (decide (PySem.W.specialIn K (.ref (He.ma K C f)) "__get__" = some (some (.builtin "property.__get__"))) &&
  (decide (PySem.W.takesIn K (.ref (He.ma K C f)) = some true) && (match PySem.W.recIn K (He.ma K C f) "property" with
    | some (.ref g :: _) => true
    | _ => false)))
def insB (K : PySem.W.Frag) (C : Addr) : Bool := (PySem.W.plainGet K C Str.empty && (PySem.W.hasDictIn K C && (PySem.W.plainOver K C && He.eqO (PySem.W.findIn K (.ref C) "__setattr__") (some (some (.builtin "object.__setattr__")))))) &&
  (He.eqO (PySem.W.findIn K (.ref C) "__class__") (some (some (.builtin "object.__class__"))) && (decide (PySem.W.specialIn K (.builtin "object.__class__") "__get__" = some (some (.builtin "getset_descriptor.__get__"))) &&
    (decide (PySem.W.takesIn K (.builtin "object.__class__") = some true) && decide (PySem.W.mroIn K C (.type "object") = some true))))
def dTys : List String := ["NoneType", "bool", "int", "str", "tuple", "list", "dict"]
def kitBK (K : PySem.W.Frag) (u : Value) (ts : List String) (own : List (Addr × Bool)) : Bool := (dTys.all fun n => decide (PySem.W.kitOne K (.type n) u = some (ts.contains n))) && own.all fun q => decide (PySem.W.kitOne K (.ref q.1) u = some q.2) && insB K q.1
def eqcB (K : PySem.W.Frag) (C : Addr) (oth : List Addr) : Bool := insB K C && (He.eqO (PySem.W.findIn K (.ref C) "__eq__") (some (some (.ref (He.ma K C "__eq__")))) && (PySem.W.isFn K (.ref (He.ma K C "__eq__")) &&
  (He.eqO (PySem.W.findIn K (.ref C) "__ne__") (some (some (.builtin "object.__ne__"))) && ((dTys.all fun T => decide (PySem.W.subIn K (.ref C) (.type T) = some false) && PySem.W.notFirst K C (.type T)) && oth.all fun D => PySem.W.notFirst K C (.ref D) && insB K D))))
def ownB (K : PySem.W.Frag) (C : Addr) (nm : Str) : Bool := He.eqO (PySem.W.findIn K (.ref C) nm) (some (some (.ref (He.ma K C nm)))) && PySem.W.isFn K (.ref (He.ma K C nm))
def cmetB (K : PySem.W.Frag) (C : Addr) (m : Str) : Bool := PySem.W.readsIn K C (.type "type") && (He5.wrapB K C "classmethod" "classmethod.__get__" m && PySem.W.fnIn K (He5.wf K C "classmethod" m))
def oexB (K : PySem.W.Frag) (C : Addr) : Bool := (match K.lookup C with
  | some ⟨.type "type", _, .cls cd, sl⟩ => (match cd.mro, sl.toList with
    | .ref C' :: bm, [_, _, _, _, some (.builtin n), _] => C' == C && (n == "ValueError.__new__" && (!cd.hasDel && (cd.hasDict && PySem.HandSPX.refsVE bm)))
    | _, _ => false)
  | _ => false) && (He.eqO (PySem.W.findIn K (.ref C) "__setattr__") (some (some (.builtin "object.__setattr__"))) && (decide (PySem.W.subIn K (.ref C) (.type "BaseException") = some true) && (decide (PySem.W.typeIn K (.ref C) = some (.type "type")) && PySem.W.keepIn K (.ref C))))
def exiB (K : PySem.W.Frag) (D : Addr) : Bool := (PySem.W.clsIn K D).isSome && (He.eqO (PySem.W.findIn K (.ref D) "__getattribute__") (some (some (.builtin "BaseException.__getattribute__"))) && (He.eqO (PySem.W.findIn K (.ref D) "__getattr__") (some none) && (decide (PySem.W.subIn K (.ref D) (.type "BaseException") = some true) &&
  (He.eqO (PySem.W.findIn K (.ref D) "__class__") (some (some (.builtin "object.__class__"))) && (decide (PySem.W.specialIn K (.builtin "object.__class__") "__get__" = some (some (.builtin "getset_descriptor.__get__"))) && (decide (PySem.W.takesIn K (.builtin "object.__class__") = some true) && decide (PySem.W.mroIn K D (.type "object") = some true)))))))
def exkB (K : PySem.W.Frag) (C : Addr) (f : Str) : Bool := oexB K C && (He.eqO (PySem.W.findIn K (.ref C) f) (some none) && (He.eqO (PySem.W.findIn K (.ref C) "__init__") (some (some (.ref (He.ma K C "__init__")))) && decide (PySem.W.typeIn K (.ref (He.ma K C "__init__")) = some (.type "function"))))
def okB (K : PySem.W.Frag) (n : Str) (cs : List Addr) : Bool := cs.all fun C => xfB K C && He.eqO (PySem.W.findIn K (.ref C) n) (some none)
def hitB (K : PySem.W.Frag) (ts : List Value) (cs : List Addr) : Bool := cs.all fun C => decide (PySem.W.exmAny K (.ref C) ts = some true)
def tabB (K : PySem.W.Frag) (u : Value) (cs : List (Addr × Bool)) : Bool := cs.all fun q => exiB K q.1 && decide (PySem.W.kitOne K (.ref q.1) u = some q.2)
def ndB (cs : List Addr) : Bool := decide cs.Nodup
end DL
set_option maxRecDepth 100000
set_option maxHeartbeats 0
namespace Yd
open PySem PySem.Spec PyProof.Rows L2 DL
def top (i : Nat) : Stmt := PySem.Challenge.pw_oneholeyards_k03_ties_refused.main.body.getD i (.Pass ⟨0, 0, 0, 0⟩)
/-! ### the head -/
def y_l_draw : DefY := ⟨fun K => He.ga K "_law_draw", "_law_draw", "_law_draw", defArgs (top 17), defBody (top 17), defScope (top 17), []⟩
def y_l_word : DefY := ⟨fun K => He.ga K "_law_word", "_law_word", "_law_word", defArgs (top 18), defBody (top 18), defScope (top 18), []⟩
def y_l_thing : DefY := ⟨fun K => He.ga K "_law_thing", "_law_thing", "_law_thing", defArgs (top 23), defBody (top 23), defScope (top 23), []⟩
def y_InvalidName_init : DefY := ⟨fun K => He.ma K (He.ga K "InvalidName") "__init__", "__init__", "InvalidName.__init__", defArgs (inClass (top 2) 0), defBody (inClass (top 2) 0), defScope (inClass (top 2) 0), []⟩
def y_is_name : DefY := ⟨fun K => He.ga K "is_name", "is_name", "is_name", defArgs (top 11), defBody (top 11), defScope (top 11), []⟩
def y_check_name : DefY := ⟨fun K => He.ga K "check_name", "check_name", "check_name", defArgs (top 12), defBody (top 12), defScope (top 12), []⟩
def y_InvalidFlag_init : DefY := ⟨fun K => He.ma K (He.ga K "InvalidFlag") "__init__", "__init__", "InvalidFlag.__init__", defArgs (inClass (top 4) 0), defBody (inClass (top 4) 0), defScope (inClass (top 4) 0), []⟩
def y_InvalidEnd_init : DefY := ⟨fun K => He.ma K (He.ga K "InvalidEnd") "__init__", "__init__", "InvalidEnd.__init__", defArgs (inClass (top 3) 0), defBody (inClass (top 3) 0), defScope (inClass (top 3) 0), []⟩
def y_Tie_init : DefY := ⟨fun K => He.ma K (He.ga K "Tie") "__init__", "__init__", "Tie.__init__", defArgs (inClass (top 14) 0), defBody (inClass (top 14) 0), defScope (inClass (top 14) 0), [("oneway", .bl false)]⟩
def y_l_error : DefY := ⟨fun K => He.ga K "_law_error", "_law_error", "_law_error", defArgs (top 20), defBody (top 20), defScope (top 20), []⟩
def y_Tie_start : DefY := ⟨fun K => pgA K (He.ga K "Tie") "start", "start", "Tie.start", defArgs (inClass (top 14) 1), defBody (inClass (top 14) 1), defScope (inClass (top 14) 1), []⟩
def y_Tie_end : DefY := ⟨fun K => pgA K (He.ga K "Tie") "end", "end", "Tie.end", defArgs (inClass (top 14) 2), defBody (inClass (top 14) 2), defScope (inClass (top 14) 2), []⟩
def y_Tie_oneway : DefY := ⟨fun K => pgA K (He.ga K "Tie") "oneway", "oneway", "Tie.oneway", defArgs (inClass (top 14) 3), defBody (inClass (top 14) 3), defScope (inClass (top 14) 3), []⟩
def y_l_heard : DefY := ⟨fun K => He.ga K "_law_heard", "_law_heard", "_law_heard", defArgs (top 21), defBody (top 21), defScope (top 21), []⟩
def y_l_name : DefY := ⟨fun K => He.ga K "_law_name", "_law_name", "_law_name", defArgs (top 19), defBody (top 19), defScope (top 19), []⟩
def y_l_due : DefY := ⟨fun K => He.ga K "_law_due", "_law_due", "_law_due", defArgs (top 22), defBody (top 22), defScope (top 22), []⟩
def y_l_right : DefY := ⟨fun K => He.ga K "_law_right", "_law_right", "_law_right", defArgs (top 24), defBody (top 24), defScope (top 24), []⟩
def y_l_stream : DefY := ⟨fun K => He.ga K "_law_stream", "_law_stream", "_law_stream", defArgs (top 16), defBody (top 16), defScope (top 16), []⟩
def y_law : DefY := ⟨fun K => He.ga K "law", "law", "law", defArgs (top 25), defBody (top 25), defScope (top 25), []⟩
def fn : List DefY := [y_l_draw, y_l_word, y_l_thing, y_InvalidName_init, y_is_name, y_check_name, y_InvalidFlag_init, y_InvalidEnd_init, y_Tie_init, y_l_error, y_Tie_start, y_Tie_end, y_Tie_oneway, y_l_heard, y_l_name, y_l_due, y_l_right, y_l_stream, y_law]
def fa : List He.Fa := [.free "divmod", .free "int", .glo "_law_draw", .free "range", .free "str", .free "isinstance", .free "len", .int "LONGEST_NAME" 8, .str "DIGITS" "0123456789", .str "LETTERS" "abcdefghijklmnopqrstuvwxyz", .free "all", .glo "is_name", .glo "InvalidName", .glo "check_name", .glo "InvalidFlag", .glo "InvalidEnd", .cls "Tie", .noat "Tie" "ends", .noat "Tie" "single", .glo "WrongValue", .glo "WrongName", .glo "NoAnswer", .free "ValueError", .free "LookupError", .free "ArithmeticError", .free "repr", .mkr "Tie", .glo "Tie", .glo "_law_error", .glo "_law_name", .glo "_law_word", .glo "_law_thing", .glo "_law_heard", .glo "_law_due", .free "abs", .glo "_law_right", .glo "_law_stream", .free "min", .free "max", .glo "law"]
def exb (K : PySem.W.Frag) : List Bool := [kitBK K (.type "str") ["str"] [((He.ga K "Tie"), false)], exkB K (He.ga K "InvalidName") "given", exkB K (He.ga K "InvalidFlag") "given", exkB K (He.ga K "InvalidEnd") "given", tabB K (.ref (He.ga K "InvalidName")) [((He.ga K "InvalidName"), true), ((He.ga K "InvalidFlag"), false), ((He.ga K "InvalidEnd"), false)], tabB K (.ref (He.ga K "InvalidFlag")) [((He.ga K "InvalidName"), false), ((He.ga K "InvalidFlag"), true), ((He.ga K "InvalidEnd"), false)], tabB K (.ref (He.ga K "InvalidEnd")) [((He.ga K "InvalidName"), false), ((He.ga K "InvalidFlag"), false), ((He.ga K "InvalidEnd"), true)], tabB K (.ref (He.ga K "WrongValue")) [((He.ga K "InvalidName"), true), ((He.ga K "InvalidFlag"), true), ((He.ga K "InvalidEnd"), true)], tabB K (.ref (He.ga K "WrongName")) [((He.ga K "InvalidName"), false), ((He.ga K "InvalidFlag"), false), ((He.ga K "InvalidEnd"), false)], tabB K (.ref (He.ga K "NoAnswer")) [((He.ga K "InvalidName"), false), ((He.ga K "InvalidFlag"), false), ((He.ga K "InvalidEnd"), false)], tabB K (.type "ValueError") [((He.ga K "InvalidName"), true), ((He.ga K "InvalidFlag"), true), ((He.ga K "InvalidEnd"), true)], tabB K (.type "LookupError") [((He.ga K "InvalidName"), false), ((He.ga K "InvalidFlag"), false), ((He.ga K "InvalidEnd"), false)], tabB K (.type "ArithmeticError") [((He.ga K "InvalidName"), false), ((He.ga K "InvalidFlag"), false), ((He.ga K "InvalidEnd"), false)], okB K "given" [(He.ga K "InvalidName"), (He.ga K "InvalidFlag"), (He.ga K "InvalidEnd")], hitB K [.ref (He.ga K "WrongValue"), .ref (He.ga K "WrongName"), .ref (He.ga K "NoAnswer")] [(He.ga K "InvalidName"), (He.ga K "InvalidFlag"), (He.ga K "InvalidEnd")], propB K (He.ga K "Tie") "start", propB K (He.ga K "Tie") "end", propB K (He.ga K "Tie") "oneway", ndB [(He.ga K "InvalidName"), (He.ga K "InvalidFlag"), (He.ga K "InvalidEnd")]]
def ex (K : PySem.W.Frag) : Bool := (fa.all fun f => f.ok K) && (exb K).all fun b => b
def names : List Str := (["WrongValue", "InvalidName", "InvalidEnd", "InvalidFlag", "WrongName", "NoAnswer", "LETTERS", "DIGITS", "LONGEST_NAME", "is_name", "check_name", "Tie", "_law_stream", "_law_draw", "_law_word", "_law_name", "_law_error", "_law_heard", "_law_due", "_law_thing", "_law_right"] : List Str)
abbrev R : PySem.W.OpenRow := PySem.W.OpenLaw.row PySem.Challenge.rw_oneholeyards_k03_ties_refused
abbrev hk : PySem.W.Hook := hookY2 6 ex fn
def ob (s : PySem.W.SharedT) : AlY := obsY2 6 ex fn (HandSHeadRun.getT s)
theorem ob_eq (s : PySem.W.SharedT) : ob s = hk.obs s.abs := obsY2_eq (HandSHeadRun.getT_eq s)
theorem run (w : World) : HandSHeadRun.RunEq R (PySem.W.view R.prog [25]) hk ob 20000 names w := by
  intro os
  kernel_rfl
end Yd
set_option maxRecDepth 100000
set_option maxHeartbeats 4000000
namespace DL
open PySem L2

inductive D where
  | non | bl (b : Bool) | int (i : Int) | str (x : Str)
  | tup (xs : List D) | lst (xs : List D) | dic (ks vs : List D) | ins (C : Addr) (fs : List Str) (ds : List D) | scr (ns : List Int)

def SqX (K : PySem.W.Frag) (H : Hp) (a : Addr) (xs : List V) : Prop :=
  (∃ o, H a = some (.frz o (.tup xs)) ∧ o.dict = none) ∨
    ∃ (o : Obj) (its : Array Value) (n : Nat), K.lookup a = some o ∧ o.cls = .type "tuple" ∧ o.dict = none ∧ o.data = .seq its n ∧ its.size ≤ sizeLine ∧ Vals xs its.toList
theorem SqX.sq {K : PySem.W.Frag} {H : Hp} {a : Addr} {xs : List V} (h : SqX K H a xs) : SqT K H a xs := by
  rcases h with ⟨o, h, _⟩ | ⟨o, its, n, h1, h2, _, h4, h5, h6⟩
  · exact .inl (.inr ⟨o, h⟩)
  · exact .inr ⟨o, its, n, h1, h2, h4, h5, h6⟩
mutual
/-- the value v is the data d, read in the still heap F -/
def RD (K : PySem.W.Frag) (F : Hp) : V → D → Prop
  | v, .non => v = .non
  | v, .bl b => v = .bl b
  | v, .int i => v = .int i
  | v, .str x => v = .str x
  | v, .tup ds => ∃ a xs, v = .ref a ∧ SqX K F a xs ∧ RDs K F xs ds
  | v, .lst ds => ∃ a xs, v = .ref a ∧ F a = some (.lst xs) ∧ RDs K F xs ds
  | v, .dic ks vs => ∃ a kvs, v = .ref a ∧ F a = some (.dK kvs) ∧ RDs K F (kvs.map fun q => kV q.1) ks ∧ RDs K F (kvs.map fun q => q.2) vs
  | v, .ins C fs ds => ∃ a dx xs, v = .ref a ∧ F a = some (.ins C dx xs) ∧ (xs.map fun q => q.1) = fs ∧ RDs K F (xs.map fun q => q.2) ds
  | v, .scr ns => ∃ a, v = .ref a ∧ SqL K F a (ns.map V.int)
def RDs (K : PySem.W.Frag) (F : Hp) : List V → List D → Prop
  | [], [] => True
  | x :: xs, d :: ds => RD K F x d ∧ RDs K F xs ds
  | _, _ => False
end

section
variable {K : PySem.W.Frag} {F F' : Hp}
theorem SqX.mono (e : Same F F') {a : Addr} {xs : List V} (h : SqX K F a xs) : SqX K F' a xs := by
  rcases h with ⟨o, h, d⟩ | h
  · exact .inl ⟨o, e _ _ h, d⟩
  · exact .inr h
mutual
theorem RD.mono (e : Same F F') : ∀ (d : D) (v : V), RD K F v d → RD K F' v d
  | .non, _, h => h
  | .bl _, _, h => h
  | .int _, _, h => h
  | .str _, _, h => h
  | .tup ds, _, h => by
    obtain ⟨a, xs, e1, q, r⟩ := h
    exact ⟨a, xs, e1, SqX.mono e q, RDs.mono e ds xs r⟩
  | .lst ds, _, h => by
    obtain ⟨a, xs, e1, q, r⟩ := h
    exact ⟨a, xs, e1, e _ _ q, RDs.mono e ds xs r⟩
  | .dic ks vs, _, h => by
    obtain ⟨a, kvs, e1, q, r1, r2⟩ := h
    exact ⟨a, kvs, e1, e _ _ q, RDs.mono e ks _ r1, RDs.mono e vs _ r2⟩
  | .ins C fs ds, _, h => by
    obtain ⟨a, dx, xs, e1, q, n, r⟩ := h
    exact ⟨a, dx, xs, e1, e _ _ q, n, RDs.mono e ds _ r⟩
  | .scr ns, _, h => by
    obtain ⟨a, e1, q⟩ := h
    exact ⟨a, e1, e.seq q⟩
theorem RDs.mono (e : Same F F') : ∀ (ds : List D) (vs : List V), RDs K F vs ds → RDs K F' vs ds
  | [], [], _ => trivial
  | [], _ :: _, h => h.elim
  | _ :: _, [], h => h.elim
  | d :: ds, v :: vs, h => ⟨RD.mono e d v h.1, RDs.mono e ds vs h.2⟩
end

theorem RDs.length : ∀ {vs : List V} {ds : List D}, RDs K F vs ds → vs.length = ds.length
  | [], [], _ => rfl
  | [], _ :: _, h => h.elim
  | _ :: _, [], h => h.elim
  | _ :: vs, _ :: ds, h => congrArg (· + 1) (RDs.length (vs := vs) (ds := ds) h.2)
theorem RDs.get : ∀ {vs : List V} {ds : List D} {i : Nat} {d : D}, RDs K F vs ds → ds[i]? = some d → ∃ v, vs[i]? = some v ∧ RD K F v d
  | [], [], _, _, _, e => by simp at e
  | [], _ :: _, _, _, h, _ => h.elim
  | _ :: _, [], _, _, h, _ => h.elim
  | v :: vs, d :: ds, 0, x, h, e => by
    simp at e
    subst e
    exact ⟨v, rfl, h.1⟩
  | v :: vs, d :: ds, i + 1, x, h, e => by
    obtain ⟨u, h1, h2⟩ := RDs.get (vs := vs) (ds := ds) (i := i) (d := x) h.2 (by simpa using e)
    exact ⟨u, by simpa using h1, h2⟩
theorem RDs.getV {vs : List V} {ds : List D} {i : Nat} {v : V} (h : RDs K F vs ds) (e : vs[i]? = some v) : ∃ d, ds[i]? = some d ∧ RD K F v d := by
  have hl := h.length
  have hi : i < vs.length := (List.getElem?_eq_some_iff.mp e).1
  have hi2 : i < ds.length := by omega
  obtain ⟨u, h1, h2⟩ := h.get (List.getElem?_eq_getElem hi2)
  rw [e] at h1
  cases h1
  exact ⟨_, List.getElem?_eq_getElem hi2, h2⟩
theorem RDs.append : ∀ {vs ws : List V} {ds es : List D}, RDs K F vs ds → RDs K F ws es → RDs K F (vs ++ ws) (ds ++ es)
  | [], _, [], _, _, g => g
  | [], _, _ :: _, _, h, _ => h.elim
  | _ :: _, _, [], _, h, _ => h.elim
  | _ :: vs, ws, _ :: ds, es, h, g => ⟨h.1, RDs.append (vs := vs) (ws := ws) (ds := ds) (es := es) h.2 g⟩
theorem RDs.one {v : V} {d : D} (h : RD K F v d) : RDs K F [v] [d] := ⟨h, trivial⟩
theorem RDs.nil : RDs K F [] [] := trivial
theorem RDs.take : ∀ (n : Nat) {vs : List V} {ds : List D}, RDs K F vs ds → RDs K F (vs.take n) (ds.take n)
  | 0, _, _, _ => by simp only [List.take_zero]; exact trivial
  | _ + 1, [], [], _ => trivial
  | _ + 1, [], _ :: _, h => h.elim
  | _ + 1, _ :: _, [], h => h.elim
  | n + 1, _ :: vs, _ :: ds, h => ⟨h.1, RDs.take n (vs := vs) (ds := ds) h.2⟩
theorem RDs.drop : ∀ (n : Nat) {vs : List V} {ds : List D}, RDs K F vs ds → RDs K F (vs.drop n) (ds.drop n)
  | 0, _, _, h => h
  | _ + 1, [], [], _ => trivial
  | _ + 1, [], _ :: _, h => h.elim
  | _ + 1, _ :: _, [], h => h.elim
  | n + 1, _ :: vs, _ :: ds, h => RDs.drop n (vs := vs) (ds := ds) h.2
theorem RDs.set : ∀ (i : Nat) {vs : List V} {ds : List D} {v : V} {d : D}, RDs K F vs ds → RD K F v d → RDs K F (vs.set i v) (ds.set i d)
  | _, [], [], _, _, _, _ => trivial
  | _, [], _ :: _, _, _, h, _ => h.elim
  | _, _ :: _, [], _, _, h, _ => h.elim
  | 0, _ :: _, _ :: _, _, _, h, g => ⟨g, h.2⟩
  | i + 1, _ :: vs, _ :: ds, _, _, h, g => ⟨h.1, RDs.set i (vs := vs) (ds := ds) h.2 g⟩
theorem RDs.eraseIdx : ∀ (i : Nat) {vs : List V} {ds : List D}, RDs K F vs ds → RDs K F (vs.eraseIdx i) (ds.eraseIdx i)
  | _, [], [], _ => by simp only [List.eraseIdx_nil]; exact trivial
  | _, [], _ :: _, h => h.elim
  | _, _ :: _, [], h => h.elim
  | 0, _ :: _, _ :: _, h => h.2
  | i + 1, _ :: vs, _ :: ds, h => ⟨h.1, RDs.eraseIdx i (vs := vs) (ds := ds) h.2⟩
theorem RDs.of_get : ∀ {vs : List V} {ds : List D}, vs.length = ds.length → (∀ (i : Nat) v d, vs[i]? = some v → ds[i]? = some d → RD K F v d) → RDs K F vs ds
  | [], [], _, _ => trivial
  | [], _ :: _, h, _ => by simp at h
  | _ :: _, [], h, _ => by simp at h
  | _ :: vs, _ :: ds, h, g => ⟨g 0 _ _ rfl rfl, RDs.of_get (vs := vs) (ds := ds) (by simpa using h) fun i v d e1 e2 => g (i + 1) v d (by simpa using e1) (by simpa using e2)⟩
theorem RDs.reverse {vs : List V} {ds : List D} (h : RDs K F vs ds) : RDs K F vs.reverse ds.reverse := by
  have hl := h.length
  refine RDs.of_get (by simpa using hl) fun i v d e1 e2 => ?_
  have hi : i < vs.length := by
    have := (List.getElem?_eq_some_iff.mp e1).1
    simpa using this
  rw [List.getElem?_reverse hi] at e1
  rw [List.getElem?_reverse (by omega), ← hl] at e2
  obtain ⟨u, h1, h2⟩ := h.get e2
  rw [e1] at h1
  cases h1
  exact h2
end

inductive MO where
  | lst (xs : List D) | dic (ks vs : List D) | ins (C : Addr) (fs : List Str) (ds : List D)
def MO.toD : MO → D
  | .lst xs => .lst xs
  | .dic ks vs => .dic ks vs
  | .ins C fs ds => .ins C fs ds
def RM (K : PySem.W.Frag) (F H : Hp) (p : Addr) : MO → Prop
  | .lst ds => ∃ xs, H p = some (.lst xs) ∧ RDs K F xs ds
  | .dic ks vs => ∃ kvs, H p = some (.dK kvs) ∧ RDs K F (kvs.map fun q => kV q.1) ks ∧ RDs K F (kvs.map fun q => q.2) vs
  | .ins C fs ds => ∃ dx xs, H p = some (.ins C dx xs) ∧ (xs.map fun q => q.1) = fs ∧ RDs K F (xs.map fun q => q.2) ds
section
variable {K : PySem.W.Frag} {F F' H H' : Hp} {p : Addr}
theorem RM.there : ∀ {m : MO}, RM K F H p m → H p ≠ none
  | .lst _, ⟨_, h, _⟩, e => by rw [h] at e; cases e
  | .dic _ _, ⟨_, h, _⟩, e => by rw [h] at e; cases e
  | .ins _ _ _, ⟨_, _, h, _⟩, e => by rw [h] at e; cases e
theorem RM.mono : ∀ {m : MO}, Same F F' → H' p = H p → RM K F H p m → RM K F' H' p m
  | .lst _, e, h, ⟨xs, a, r⟩ => ⟨xs, h.trans a, RDs.mono e _ _ r⟩
  | .dic _ _, e, h, ⟨kvs, a, r1, r2⟩ => ⟨kvs, h.trans a, RDs.mono e _ _ r1, RDs.mono e _ _ r2⟩
  | .ins _ _ _, e, h, ⟨dx, xs, a, n, r⟩ => ⟨dx, xs, h.trans a, n, RDs.mono e _ _ r⟩
theorem RM.rd : ∀ {m : MO}, Same F F' → F' p = H p → RM K F H p m → RD K F' (.ref p) m.toD
  | .lst _, e, h, ⟨xs, a, r⟩ => ⟨p, xs, rfl, h.trans a, RDs.mono e _ _ r⟩
  | .dic _ _, e, h, ⟨kvs, a, r1, r2⟩ => ⟨p, kvs, rfl, h.trans a, RDs.mono e _ _ r1, RDs.mono e _ _ r2⟩
  | .ins _ _ _, e, h, ⟨dx, xs, a, n, r⟩ => ⟨p, dx, xs, rfl, h.trans a, n, RDs.mono e _ _ r⟩
end

structure Exn where
  cls : Value
  fs : List Str
  ds : List D
def ExR (K : PySem.W.Frag) (F _H : Hp) (d : Option Addr) (e : Exn) : Prop :=
  (e.fs = [] ∧ d = none) ∨ ∃ a xs, d = some a ∧ F a = some (.xd xs) ∧ (xs.map fun q => q.1) = e.fs ∧ RDs K F (xs.map fun q => q.2) e.ds
theorem ExR.mono {K : PySem.W.Frag} {F F' H H' : Hp} {d : Option Addr} {e : Exn} (sm : Same F F') : ExR K F H d e → ExR K F' H' d e
  | .inl h => .inl h
  | .inr ⟨a, xs, h1, h2, h3, h4⟩ => .inr ⟨a, xs, h1, sm _ _ h2, h3, RDs.mono sm _ _ h4⟩
def ExP (K : PySem.W.Frag) (F : Hp) (p : Addr × Obj) (e : Exn) : Prop := p.2.cls = e.cls ∧ (∃ vs, p.2.data = .fields vs) ∧ ExR K F F p.2.dict e
theorem ExP.mono {K : PySem.W.Frag} {F F' : Hp} {p : Addr × Obj} {e : Exn} (sm : Same F F') : ExP K F p e → ExP K F' p e
  | ⟨h1, h2, h3⟩ => ⟨h1, h2, h3.mono sm⟩
inductive Sl where
  | un | d (x : D) | own (m : MO) | cls (C : Addr) | exc (p : Addr × Obj) (e : Exn)
abbrev Sls := List Sl
def RSl (K : PySem.W.Frag) (F H : Hp) (ov : Option V) : Sl → Prop
  | .un => True
  | .d x => ∃ v, ov = some v ∧ RD K F v x
  | .own m => ∃ p, ov = some (.ref p) ∧ F p = none ∧ RM K F H p m
  | .cls C => ov = some (.ref C)
  | .exc p e => ov = some (.ref p.1) ∧ ExP K F p e
def OwnAt (σ : L2.St) (st : Sls) (p : Addr) (i : Nat) : Prop := (∃ m, st[i]? = some (.own m)) ∧ σ[i]? = some (some (.ref p))
def Own (σ : L2.St) (st : Sls) (p : Addr) : Prop := ∃ i, OwnAt σ st p i
structure Rl (K : PySem.W.Frag) (F H : Hp) (σ : L2.St) (st : Sls) : Prop where
  sub : Same F H
  len : σ.length = st.length
  at_ : ∀ (i : Nat) (s : Sl), st[i]? = some s → ∃ ov, σ[i]? = some ov ∧ RSl K F H ov s
  apart : ∀ (p : Addr) (i j : Nat), OwnAt σ st p i → OwnAt σ st p j → i = j
theorem Rl.own_free {K : PySem.W.Frag} {F H : Hp} {σ : L2.St} {st : Sls} (R : Rl K F H σ st) {p : Addr} (o : Own σ st p) : F p = none ∧ H p ≠ none := by
  obtain ⟨i, ⟨m, h1⟩, h2⟩ := o
  obtain ⟨ov, e, q⟩ := R.at_ i _ h1
  rw [h2] at e
  cases e
  obtain ⟨p', e', f, r⟩ := q
  cases e'
  exact ⟨f, r.there⟩

structure Stp (K : PySem.W.Frag) (σ : L2.St) (F H : Hp) (st : Sls) (σ' : L2.St) (F' H' : Hp) (st' : Sls) : Prop where
  fr : Same F F'
  rel : Rl K F' H' σ' st'
  new : ∀ a, F a = none → F' a ≠ none → H a = none ∨ Own σ st a
  keep : ∀ a o, H a = some o → F a = none → ¬ Own σ st a → H' a = some o
  there : ∀ a, H a ≠ none → H' a ≠ none
  own : ∀ a, Own σ' st' a → Own σ st a ∨ H a = none
section
variable {K : PySem.W.Frag} {σ σ1 σ2 : L2.St} {F H F1 H1 F2 H2 : Hp} {st st1 st2 : Sls}
theorem Stp.refl (R : Rl K F H σ st) : Stp K σ F H st σ F H st :=
  ⟨Same.refl F, R, fun a h1 h2 => absurd h1 h2, fun _ _ h _ _ => h, fun _ h => h, fun _ h => .inl h⟩
theorem Stp.trans (a : Stp K σ F H st σ1 F1 H1 st1) (b : Stp K σ1 F1 H1 st1 σ2 F2 H2 st2) : Stp K σ F H st σ2 F2 H2 st2 where
  fr := a.fr.trans b.fr
  rel := b.rel
  new := fun x h1 h2 => by
    by_cases h : F1 x = none
    · rcases b.new x h h2 with q | q
      · by_cases z : H x = none
        · exact .inl z
        · exact absurd q (a.there x z)
      · rcases a.own x q with q | q
        · exact .inr q
        · exact .inl q
    · exact a.new x h1 h
  keep := fun x o h1 h2 h3 => by
    have e1 := a.keep x o h1 h2 h3
    have f1 : F1 x = none := by
      cases q : F1 x with
      | none => rfl
      | some u =>
        rcases a.new x h2 (by rw [q]; simp) with z | z
        · rw [h1] at z; cases z
        · exact absurd z h3
    refine b.keep x o e1 f1 fun z => ?_
    rcases a.own x z with z | z
    · exact h3 z
    · rw [h1] at z; cases z
  there := fun x h => b.there x (a.there x h)
  own := fun x h => by
    rcases b.own x h with q | q
    · exact a.own x q
    · by_cases z : H x = none
      · exact .inr z
      · exact absurd q (a.there x z)
end

inductive Itm where
  | d (x : D) | own (m : MO) | ref (i : Nat)
def RI (K : PySem.W.Frag) (H0 F H : Hp) (σ : L2.St) (st : Sls) (v : V) : Itm → Prop
  | .d x => RD K F v x
  | .own m => ∃ p, v = .ref p ∧ H0 p = none ∧ F p = none ∧ ¬ Own σ st p ∧ RM K F H p m
  | .ref i => σ[i]? = some (some v)
theorem RI.step {K : PySem.W.Frag} {H0 F H F' H' : Hp} {σ : L2.St} {st st' : Sls} {v : V} : ∀ {it : Itm}, RI K H0 F H σ st v it → Stp K σ F H st σ F' H' st' → RI K H0 F' H' σ st' v it
  | .d x, h, s => RD.mono s.fr x v h
  | .own m, ⟨p, e, h0, f, n, r⟩, s => by
    have e1 : F' p = none := by
      cases q : F' p with
      | none => rfl
      | some u =>
        rcases s.new p f (by rw [q]; simp) with z | z
        · exact absurd z r.there
        · exact absurd z n
    have e2 : H' p = H p := by
      cases q : H p with
      | none => exact absurd q r.there
      | some o => exact s.keep p o q f n
    refine ⟨p, e, h0, e1, fun z => ?_, r.mono s.fr e2⟩
    rcases s.own p z with z | z
    · exact n z
    · exact r.there z
  | .ref _, h, _ => h
theorem RI.back {K : PySem.W.Frag} {H0 H1 F H : Hp} {σ : L2.St} {st : Sls} {v : V} (h : ∀ a, H0 a ≠ none → H1 a ≠ none) : ∀ {it : Itm}, RI K H1 F H σ st v it → RI K H0 F H σ st v it
  | .d _, q => q
  | .own _, ⟨p, e, h0, f, n, r⟩ => ⟨p, e, Classical.byContradiction fun z => h p z h0, f, n, r⟩
  | .ref _, q => q
inductive Ot (α : Type) where
  | ok (a : α) (st : Sls) | exc (e : Exn) (st : Sls) | bad
def Ot.bind {α β : Type} (o : Ot α) (k : α → Sls → Ot β) : Ot β := match o with
  | .ok a st => k a st
  | .exc e st => .exc e st
  | .bad => .bad
def Go {α : Type} (K : PySem.W.Frag) (W : WX) (σ : L2.St) (F H : Hp) (st : Sls) (o : Ot α) (Q : α → Hp → Hp → Sls → Prop) : Prop := match o with
  | .ok a st' => ∀ F' H', Stp K σ F H st σ F' H' st' → Q a F' H' st'
  | .exc e st' => ∀ d F' H', Stp K σ F H st σ F' H' st' → ExR K F' H' d e → W e.cls d σ H'
  | .bad => False
section
variable {K : PySem.W.Frag} {W : WX} {σ : L2.St} {F H F1 H1 : Hp} {st st1 : Sls} {α β : Type}
theorem Go.bind {o : Ot α} {k : α → Sls → Ot β} {Q : β → Hp → Hp → Sls → Prop} (h : Go K W σ F H st (o.bind k) Q) : Go K W σ F H st o (fun a _ _ st1 => Go K W σ F H st (k a st1) Q) := by
  cases o with
  | ok a st' => exact fun _ _ _ => h
  | exc e st' => exact h
  | bad => exact h
theorem Go.shift {o : Ot α} {Q Q' : α → Hp → Hp → Sls → Prop} (s : Stp K σ F H st σ F1 H1 st1) (h : Go K W σ F H st o Q) (hq : ∀ a F2 H2 st2, Stp K σ F1 H1 st1 σ F2 H2 st2 → Stp K σ F H st σ F2 H2 st2 → Q a F2 H2 st2 → Q' a F2 H2 st2) :
    Go K W σ F1 H1 st1 o Q' := by
  cases o with
  | ok a st' => exact fun F' H' s' => hq _ _ _ _ s' (s.trans s') (h _ _ (s.trans s'))
  | exc e st' => exact fun d F' H' s' => h _ _ _ (s.trans s')
  | bad => exact h
theorem Go.imp {o : Ot α} {Q Q' : α → Hp → Hp → Sls → Prop} (h : Go K W σ F H st o Q) (hq : ∀ a F2 H2 st2, Stp K σ F H st σ F2 H2 st2 → Q a F2 H2 st2 → Q' a F2 H2 st2) : Go K W σ F H st o Q' := by
  cases o with
  | ok a st' => exact fun F' H' s' => hq _ _ _ _ s' (h _ _ s')
  | exc e st' => exact h
  | bad => exact h
end

abbrev FE := Sls → Ot Itm
def tE (K : PySem.W.Frag) (W : WX) (f : FE) : TE := fun σ H Q => ∃ F st, Rl K F H σ st ∧ Go K W σ F H st (f st) (fun it F' H' st' => ∀ v, RI K H F' H' σ st' v it → Q v H')
abbrev DE (X : Cx) (W : WX) (e : Expr) (f : FE) : Prop := PE X e (tE X.K W f)
theorem PE.conseq {X : Cx} {e : Expr} {t t' : TE} (h : PE X e t) (i : ∀ σ H Q, t' σ H Q → t σ H Q) : PE X e t' := ⟨fun pins s σ H Q I q => h.run pins s σ H Q I (i σ H Q q)⟩
end DL
set_option maxRecDepth 100000
set_option maxHeartbeats 4000000
namespace DL
open PySem L2

section
variable {K : PySem.W.Frag} {W : WX} {σ : L2.St} {F H F' H' H0 : Hp} {st st' : Sls} {p : Addr}
theorem Rl.alloc (R : Rl K F H σ st) (hp : H p = none) (hne : ∀ a, a ≠ p → H' a = H a) : Rl K F H' σ st := by
  have nep : ∀ a, H a ≠ none → a ≠ p := fun a h z => h (by rw [z]; exact hp)
  refine ⟨fun a o e => ?_, R.len, fun i s e => ?_, R.apart⟩
  · have q := R.sub a o e
    rw [hne a (nep a (by rw [q]; simp))]
    exact q
  · obtain ⟨ov, h1, h2⟩ := R.at_ i s e
    refine ⟨ov, h1, ?_⟩
    cases s with
    | un => trivial
    | cls c => exact h2
    | exc q u => exact h2
    | d x => exact h2
    | own m =>
      obtain ⟨a, e1, f, r⟩ := h2
      exact ⟨a, e1, f, r.mono (Same.refl F) (hne a (nep a r.there))⟩
theorem Stp.alloc (R : Rl K F H σ st) (hp : H p = none) (hne : ∀ a, a ≠ p → H' a = H a) : Stp K σ F H st σ F H' st := by
  have nep : ∀ a, H a ≠ none → a ≠ p := fun a h z => h (by rw [z]; exact hp)
  exact ⟨Same.refl F, R.alloc hp hne, fun a h1 h2 => absurd h1 h2, fun a o h _ _ => by rw [hne a (nep a (by rw [h]; simp))]; exact h, fun a h => by rw [hne a (nep a h)]; exact h, fun _ h => .inl h⟩
theorem Rl.still {o : HO} (R : Rl K F H σ st) (hp : H p = none) : Rl K (upd F p o) (upd H p o) σ st := by
  have fp : F p = none := by
    cases q : F p with
    | none => rfl
    | some u => rw [R.sub p u q] at hp; cases hp
  have nep : ∀ a, H a ≠ none → a ≠ p := fun a h z => h (by rw [z]; exact hp)
  have sm : Same F (upd F p o) := fun a u e => by rw [upd_ne (ne_of_none e fp)]; exact e
  refine ⟨fun a u e => ?_, R.len, fun i s e => ?_, R.apart⟩
  · by_cases z : a = p
    · subst z
      rw [upd_same] at e ⊢
      exact e
    · rw [upd_ne z] at e ⊢
      exact R.sub a u e
  · obtain ⟨ov, h1, h2⟩ := R.at_ i s e
    refine ⟨ov, h1, ?_⟩
    cases s with
    | un => trivial
    | cls c => exact h2
    | exc q u => exact ⟨h2.1, h2.2.mono sm⟩
    | d x =>
      obtain ⟨v, e1, r⟩ := h2
      exact ⟨v, e1, RD.mono sm x v r⟩
    | own m =>
      obtain ⟨a, e1, f, r⟩ := h2
      have z := nep a r.there
      exact ⟨a, e1, by rw [upd_ne z]; exact f, r.mono sm (upd_ne z)⟩
theorem Stp.still {o : HO} (R : Rl K F H σ st) (hp : H p = none) : Stp K σ F H st σ (upd F p o) (upd H p o) st := by
  have fp : F p = none := by
    cases q : F p with
    | none => rfl
    | some u => rw [R.sub p u q] at hp; cases hp
  have nep : ∀ a, H a ≠ none → a ≠ p := fun a h z => h (by rw [z]; exact hp)
  refine ⟨fun a u e => by rw [upd_ne (ne_of_none e fp)]; exact e, R.still hp, fun a h1 h2 => ?_, fun a u h _ _ => by rw [upd_ne (nep a (by rw [h]; simp))]; exact h, fun a h => by rw [upd_ne (nep a h)]; exact h, fun _ h => .inl h⟩
  by_cases z : a = p
  · rw [z]
    exact .inl hp
  · rw [upd_ne z] at h2
    exact absurd h1 h2
end

def view (st : Sls) : Itm → Option D
  | .d x => some x
  | .own m => some m.toD
  | .ref i => match st[i]? with
    | some (.d x) => some x
    | some (.own m) => some m.toD
    | _ => none
def RW (K : PySem.W.Frag) (F H : Hp) (v : V) (d : D) : Prop := RD K F v d ∨ ∃ p m, v = .ref p ∧ F p = none ∧ RM K F H p m ∧ d = m.toD
theorem RW.rd {K : PySem.W.Frag} {F H : Hp} {v : V} {d : D} (s : Same F H) (h : RW K F H v d) : RD K H v d := by
  rcases h with h | ⟨p, m, rfl, _, r, rfl⟩
  · exact RD.mono s d v h
  · exact r.rd s rfl
theorem view_ok {K : PySem.W.Frag} {F H H0 : Hp} {σ : L2.St} {st : Sls} {v : V} {it : Itm} {d : D} (R : Rl K F H σ st) (r : RI K H0 F H σ st v it) (e : view st it = some d) : RW K F H v d := by
  cases it with
  | d x => cases e; exact .inl r
  | own m =>
    cases e
    obtain ⟨p, e1, _, f, _, q⟩ := r
    exact .inr ⟨p, m, e1, f, q, rfl⟩
  | ref i =>
    have r : σ[i]? = some (some v) := r
    have e : (match st[i]? with | some (.d x) => some x | some (.own m) => some m.toD | _ => none) = some d := e
    cases q : st[i]? with
    | none => rw [q] at e; cases e
    | some s =>
      rw [q] at e
      obtain ⟨ov, h1, h2⟩ := R.at_ i s q
      rw [r] at h1
      cases h1
      cases s with
      | un => cases e
      | cls c => cases e
      | exc q u => cases e
      | d x =>
        cases e
        obtain ⟨u, e1, h⟩ := h2
        cases e1
        exact .inl h
      | own m =>
        cases e
        obtain ⟨p, e1, f, h⟩ := h2
        cases e1
        exact .inr ⟨p, m, rfl, f, h, rfl⟩

inductive Rs where
  | val (d : D) | new (m : MO) | tupn (ds : List D) | bad
def Rs.out : Rs → Sls → Ot Itm
  | .val d, st => .ok (.d d) st
  | .new m, st => .ok (.own m) st
  | .tupn ds, st => .ok (.d (.tup ds)) st
  | .bad, _ => .bad
def ResOk (K : PySem.W.Frag) (F H : Hp) (r : Rs) (Q : VK) : Prop := match r with
  | .val d => ∀ v, RD K F v d → Q v H
  | .new m => ∀ p H', H p = none → (∀ a, a ≠ p → H' a = H a) → RM K F H' p m → Q (.ref p) H'
  | .tupn ds => (∀ v, RD K F v (.tup ds) → Q v H) ∧ ∀ p xs o, H p = none → RDs K F xs ds → o.dict = none → Q (.ref p) (upd H p (.frz o (.tup xs)))
  | .bad => False
theorem res_ok {K : PySem.W.Frag} {W : WX} {σ : L2.St} {F H F2 H2 : Hp} {st st2 : Sls} {r : Rs} {Q : VK} (s : Stp K σ F H st σ F2 H2 st2)
    (h : Go K W σ F H st (r.out st2) (fun it F' H' st' => ∀ v, RI K H F' H' σ st' v it → Q v H')) : ResOk K F2 H2 r Q := by
  have back : ∀ p, H2 p = none → H p = none := fun p hp => Classical.byContradiction fun z => s.there p z hp
  have fback : ∀ p, H2 p = none → F2 p = none := fun p hp => by
    cases q : F2 p with
    | none => rfl
    | some u => rw [s.rel.sub p u q] at hp; cases hp
  cases r with
  | val d => exact fun v rd => h F2 H2 s v rd
  | new m =>
    exact fun p H' hp hne rm => h F2 H' (s.trans (Stp.alloc s.rel hp hne)) (.ref p) ⟨p, rfl, back p hp, fback p hp, fun z => (s.rel.own_free z).2 hp, rm⟩
  | tupn ds =>
    refine ⟨fun v rd => h F2 H2 s v rd, fun p xs o hp rds od => ?_⟩
    have fp := fback p hp
    refine h _ _ (s.trans (Stp.still (o := .frz o (.tup xs)) s.rel hp)) (.ref p) ⟨p, xs, rfl, .inl ⟨o, upd_same, od⟩, RDs.mono (fun a u e => ?_) _ _ rds⟩
    rw [upd_ne (ne_of_none e fp)]
    exact e
  | bad => exact h

def fName (i : Nat) : FE := fun st => match st[i]? with
  | some (.d x) => .ok (.d x) st
  | some (.own _) => .ok (.ref i) st
  | _ => .bad
def fC (d : D) : FE := fun st => .ok (.d d) st
section
variable {X : Cx} {W : WX} {pos : Pos} {a b c e : Expr} {fa fb fc fe : FE}
theorem de_name (i : Nat) {x : Str} (h : PE X (.Name x pos) (tVar i)) : DE X W (.Name x pos) (fName i) := by
  refine PE.conseq h fun σ H Q h => ?_
  obtain ⟨F, st, R, g⟩ := h
  unfold fName at g
  split at g
  · rename_i x e
    obtain ⟨ov, h1, h2⟩ := R.at_ i _ e
    obtain ⟨v, e1, rd⟩ := h2
    subst e1
    exact ⟨v, h1, g F H (Stp.refl R) v rd⟩
  · rename_i m e
    obtain ⟨ov, h1, h2⟩ := R.at_ i _ e
    obtain ⟨p, e1, _⟩ := h2
    subst e1
    exact ⟨.ref p, h1, g F H (Stp.refl R) (.ref p) h1⟩
  · exact g.elim
theorem de_const {v : V} {d : D} (h : PE X e (tC v)) (r : ∀ F, RD X.K F v d) : DE X W e (fC d) := by
  refine PE.conseq h fun σ H Q h => ?_
  obtain ⟨F, st, R, g⟩ := h
  exact g F H (Stp.refl R) v (r F)
theorem de_int {i : Int} {j : Nat} : DE X W (.Constant (.int i) j pos) (fC (.int i)) := de_const pe_int fun _ => rfl
theorem de_bl {b : Bool} {j : Nat} : DE X W (.Constant (.bool b) j pos) (fC (.bl b)) := de_const pe_bl fun _ => rfl
theorem de_non {j : Nat} : DE X W (.Constant .none j pos) (fC .non) := de_const pe_non fun _ => rfl
theorem de_str {x : Str} {j : Nat} : DE X W (.Constant (.str x) j pos) (fC (.str x)) := de_const pe_str fun _ => rfl
theorem de_gint {x : Str} {i : Int} (hg : Gl X x) (hm : ∃ t, X.mg x = some (.int i t)) (hd : (x == ("__debug__" : Str)) = false := by decide) : DE X W (.Name x pos) (fC (.int i)) := by
  obtain ⟨t, hm⟩ := hm
  exact de_const (v := .int i) (pe_glob hg hm ⟨t, rfl⟩ hd) fun _ => rfl
theorem de_gstr {x z : Str} (hg : Gl X x) (hm : ∃ t, X.mg x = some (.str z t)) (hd : (x == ("__debug__" : Str)) = false := by decide) : DE X W (.Name x pos) (fC (.str z)) := by
  obtain ⟨t, hm⟩ := hm
  exact de_const (v := .str z) (pe_glob hg hm ⟨t, rfl⟩ hd) fun _ => rfl

def fUn (g : D → Rs) (fa : FE) : FE := fun st => (fa st).bind fun ia s1 => match view s1 ia with
  | some x => (g x).out s1
  | none => .bad
def fBin (g : D → D → Rs) (fa fb : FE) : FE := fun st => (fa st).bind fun ia s1 => (fb s1).bind fun ib s2 => match view s2 ia, view s2 ib with
  | some x, some y => (g x y).out s2
  | _, _ => .bad
def OpS (X : Cx) (f : Value → Value → Sem Value) (g : D → D → Rs) : Prop :=
  ∃ r, OpR X f r ∧ ∀ F H x y dx dy Q, Same F H → RW X.K F H x dx → RW X.K F H y dy → ResOk X.K F H (g dx dy) Q → r x y H Q
theorem two_ok {K : PySem.W.Frag} {σ : L2.St} {H : Hp} {Q : VK} {g : D → D → Rs} {r : R2} (h : tE K W (fBin g fa fb) σ H Q)
    (hr : ∀ F H x y dx dy Q, Same F H → RW K F H x dx → RW K F H y dy → ResOk K F H (g dx dy) Q → r x y H Q) : tOp r (tE K W fa) (tE K W fb) σ H Q := by
  obtain ⟨F, st, R, g0⟩ := h
  refine ⟨F, st, R, (Go.bind g0).imp fun ia F1 H1 s1 p1 g1 v1 r1 => ?_⟩
  refine ⟨F1, s1, p1.rel, (Go.bind g1).shift p1 fun ib F2 H2 s2 p2 p02 g2 v2 r2 => ?_⟩
  have r1' := r1.step p2
  split at g2
  · rename_i x y e1 e2
    exact hr F2 H2 v1 v2 x y Q p2.rel.sub (view_ok p2.rel r1' e1) (view_ok p2.rel r2 e2) (res_ok p02 g2)
  · exact g2.elim
theorem de_bin {op : Operator} {g : D → D → Rs} (ho : OpS X (binaryOp op) g) (ha : DE X W a fa) (hb : DE X W b fb) : DE X W (.BinOp a op b pos) (fBin g fa fb) := by
  obtain ⟨r, h1, h2⟩ := ho
  exact PE.conseq (pe_op h1 ha hb) fun σ H Q h => two_ok h h2
theorem de_cmp {op : CmpOp} {g : D → D → Rs} (ho : OpS X (compareOp op) g) (ha : DE X W a fa) (hb : DE X W b fb) (hm : behindInMarks op b = false) : DE X W (.Compare a [op] [b] pos) (fBin g fa fb) := by
  obtain ⟨r, h1, h2⟩ := ho
  exact PE.conseq (pe_cmpR h1 ha hb hm) fun σ H Q h => two_ok h h2
end
end DL
set_option maxRecDepth 100000
set_option maxHeartbeats 4000000
namespace DL
open PySem L2
abbrev FT := Sls → Ot Bool
def tTs (K : PySem.W.Frag) (W : WX) (f : FT) : TT := fun σ H Q => ∃ F st, Rl K F H σ st ∧ Go K W σ F H st (f st) (fun b _ H' _ => Q b H')
abbrev DT (X : Cx) (W : WX) (e : Expr) (f : FT) : Prop := PT X e (tTs X.K W f)
abbrev DW (X : Cx) (W : WX) (e : Expr) (f : FT) : Prop := PW X e (tTs X.K W f)
theorem PT.conseq {X : Cx} {e : Expr} {t t' : TT} (h : PT X e t) (i : ∀ σ H Q, t' σ H Q → t σ H Q) : PT X e t' := ⟨fun pins s σ H Q I q => h.run pins s σ H Q I (i σ H Q q)⟩
theorem PW.conseq {X : Cx} {e : Expr} {t t' : TT} (h : PW X e t) (i : ∀ σ H Q, t' σ H Q → t σ H Q) : PW X e t' := ⟨fun wh pins s σ H Q I q => h.run wh pins s σ H Q I (i σ H Q q)⟩
section
variable {K : PySem.W.Frag} {F H : Hp} {v : V}
theorem rw_bl {b : Bool} (h : RW K F H v (.bl b)) : v = .bl b := by
  rcases h with h | ⟨p, m, _, _, _, e⟩
  · exact h
  · cases m <;> cases e
theorem rw_int {i : Int} (h : RW K F H v (.int i)) : v = .int i := by
  rcases h with h | ⟨p, m, _, _, _, e⟩
  · exact h
  · cases m <;> cases e
theorem rw_str {x : Str} (h : RW K F H v (.str x)) : v = .str x := by
  rcases h with h | ⟨p, m, _, _, _, e⟩
  · exact h
  · cases m <;> cases e
theorem rw_non (h : RW K F H v .non) : v = .non := by
  rcases h with h | ⟨p, m, _, _, _, e⟩
  · exact h
  · cases m <;> cases e
theorem rw_tup {ds : List D} (h : RW K F H v (.tup ds)) : ∃ a xs, v = .ref a ∧ SqX K F a xs ∧ RDs K F xs ds := by
  rcases h with h | ⟨p, m, _, _, _, e⟩
  · exact h
  · cases m <;> cases e
theorem rw_lst {ds : List D} (s : Same F H) (h : RW K F H v (.lst ds)) : ∃ a xs, v = .ref a ∧ H a = some (.lst xs) ∧ RDs K F xs ds := by
  rcases h with ⟨a, xs, e, q, r⟩ | ⟨p, m, e1, _, r, e⟩
  · exact ⟨a, xs, e, s _ _ q, r⟩
  · cases m with
    | lst xs =>
      cases e
      obtain ⟨ys, h, q⟩ := r
      exact ⟨p, ys, e1, h, q⟩
    | dic _ _ => cases e
    | ins _ _ _ => cases e
theorem rw_scr {ns : List Int} (h : RW K F H v (.scr ns)) : ∃ a, v = .ref a ∧ SqL K F a (ns.map V.int) := by
  rcases h with h | ⟨p, m, _, _, _, e⟩
  · exact h
  · cases m <;> cases e
theorem rw_dic {ks vs : List D} (s : Same F H) (h : RW K F H v (.dic ks vs)) : ∃ a kvs, v = .ref a ∧ H a = some (.dK kvs) ∧ RDs K F (kvs.map fun q => kV q.1) ks ∧ RDs K F (kvs.map fun q => q.2) vs := by
  rcases h with ⟨a, kvs, e, q, r⟩ | ⟨p, m, e1, _, r, e⟩
  · exact ⟨a, kvs, e, s _ _ q, r⟩
  · cases m with
    | dic ks' vs' =>
      cases e
      obtain ⟨kvs, h, q⟩ := r
      exact ⟨p, kvs, e1, h, q⟩
    | lst _ => cases e
    | ins _ _ _ => cases e
theorem rw_ins {C : Addr} {fs : List Str} {ds : List D} (s : Same F H) (h : RW K F H v (.ins C fs ds)) : ∃ a dx xs, v = .ref a ∧ H a = some (.ins C dx xs) ∧ (xs.map fun q => q.1) = fs ∧ RDs K F (xs.map fun q => q.2) ds := by
  rcases h with ⟨a, dx, xs, e, q, r⟩ | ⟨p, m, e1, _, r, e⟩
  · exact ⟨a, dx, xs, e, s _ _ q, r⟩
  · cases m with
    | ins C' fs' ds' =>
      cases e
      obtain ⟨dx, xs, h, q⟩ := r
      exact ⟨p, dx, xs, e1, h, q⟩
    | lst _ => cases e
    | dic _ _ => cases e
end

def fTest (fa : FE) : FT := fun st => (fa st).bind fun ia s1 => match view s1 ia with
  | some (.bl b) => .ok b s1
  | _ => .bad
def fAndT (f g : FT) : FT := fun st => (f st).bind fun b s1 => if b = true then g s1 else .ok false s1
def fOrT (f g : FT) : FT := fun st => (f st).bind fun b s1 => if b = true then .ok true s1 else g s1
def fNotT (f : FT) : FT := fun st => (f st).bind fun b s1 => .ok (!b) s1
def fAndV (fa fb : FE) : FE := fun st => (fa st).bind fun ia s1 => match view s1 ia with
  | some (.bl true) => fb s1
  | some (.bl false) => .ok (.d (.bl false)) s1
  | _ => .bad
def fOrV (fa fb : FE) : FE := fun st => (fa st).bind fun ia s1 => match view s1 ia with
  | some (.bl true) => .ok (.d (.bl true)) s1
  | some (.bl false) => fb s1
  | _ => .bad
def fNotV (fa : FE) : FE := fun st => (fa st).bind fun ia s1 => match view s1 ia with
  | some (.bl b) => .ok (.d (.bl (!b))) s1
  | _ => .bad
def fIf (ft : FT) (fa fb : FE) : FE := fun st => (ft st).bind fun b s1 => if b = true then fa s1 else fb s1
def fChain (g g' : D → D → Rs) (fa fb fc : FE) : FE := fun st => (fa st).bind fun ia s1 => (fb s1).bind fun ib s2 => match view s2 ia, view s2 ib with
  | some x, some y => (match g x y with
    | .val (.bl true) => (fc s2).bind fun ic s3 => (match view s3 ib, view s3 ic with
      | some y', some z => (g' y' z).out s3
      | _, _ => .bad)
    | .val (.bl false) => .ok (.d (.bl false)) s2
    | _ => .bad)
  | _, _ => .bad
section
variable {X : Cx} {W : WX} {pos : Pos} {a b c e : Expr} {fa fb fc fe : FE} {f g : FT} {rest : List Expr}
theorem test_E {K : PySem.W.Frag} {σ : L2.St} {H : Hp} {Q : Bool → Hp → Prop} (h : tTs K W (fTest fa) σ H Q) : tE K W fa σ H (fun x H1 => ∃ k, x = .bl k ∧ Q k H1) := by
  obtain ⟨F, st, R, g0⟩ := h
  refine ⟨F, st, R, (Go.bind g0).imp fun ia F1 H1 s1 p1 g1 v r => ?_⟩
  split at g1
  · rename_i b e
    exact ⟨b, rw_bl (view_ok p1.rel r e), g1 F1 H1 p1⟩
  · exact g1.elim
theorem dt_val (h : DE X W e fe) (he : ∀ whole, isTrue e X.env whole = (do let v ← whole; standAt e.pos; holding [v] (truthy v)) := by intro _; rfl) : DT X W e (fTest fe) :=
  PT.conseq (pt_val h he) fun σ H Q h => test_E h
theorem dt_cmp {op : CmpOp} {g : D → D → Rs} (ho : OpS X (compareOp op) g) (ha : DE X W a fa) (hb : DE X W b fb) (hm : behindInMarks op b = false) : DT X W (.Compare a [op] [b] pos) (fTest (fBin g fa fb)) := by
  obtain ⟨r, h1, h2⟩ := ho
  exact PT.conseq (pt_cmpR h1 ha hb hm) fun σ H Q h => two_ok (test_E h) h2
theorem dt_not (ha : DT X W a f) : DT X W (.UnaryOp .Not a pos) (fNotT f) := PT.conseq (pt_not ha) fun σ H Q h => by
  obtain ⟨F, st, R, g0⟩ := h
  exact ⟨F, st, R, (Go.bind g0).imp fun b F1 H1 s1 p1 g1 => g1 F1 H1 p1⟩
theorem dw_and1 (ha : DT X W a f) : DW X W (.BoolOp .And [a] pos) f := pw_and1 ha
theorem dw_or1 (ha : DT X W a f) : DW X W (.BoolOp .Or [a] pos) f := pw_or1 ha
theorem dw_and (ha : DT X W a f) (hb : DW X W (.BoolOp .And (b :: rest) pos) g) : DW X W (.BoolOp .And (a :: b :: rest) pos) (fAndT f g) := PW.conseq (pw_and ha hb) fun σ H Q h => by
  obtain ⟨F, st, R, g0⟩ := h
  refine ⟨F, st, R, (Go.bind g0).imp fun b F1 H1 s1 p1 g1 => ?_⟩
  cases b with
  | true => exact ⟨F1, s1, p1.rel, g1.shift p1 fun _ _ _ _ _ _ q => q⟩
  | false => exact g1 F1 H1 p1
theorem dw_or (ha : DT X W a f) (hb : DW X W (.BoolOp .Or (b :: rest) pos) g) : DW X W (.BoolOp .Or (a :: b :: rest) pos) (fOrT f g) := PW.conseq (pw_or ha hb) fun σ H Q h => by
  obtain ⟨F, st, R, g0⟩ := h
  refine ⟨F, st, R, (Go.bind g0).imp fun b F1 H1 s1 p1 g1 => ?_⟩
  cases b with
  | false => exact ⟨F1, s1, p1.rel, g1.shift p1 fun _ _ _ _ _ _ q => q⟩
  | true => exact g1 F1 H1 p1
theorem dt_bool (h : DW X W e f) : DT X W e f := PW.pt h
theorem de_one {op : BoolOp} (h : DE X W a fa) : DE X W (.BoolOp op [a] pos) fa := pe_one h
theorem de_and (ha : DE X W a fa) (hb : DE X W (.BoolOp .And (b :: rest) pos) fb) : DE X W (.BoolOp .And (a :: b :: rest) pos) (fAndV fa fb) := PE.conseq (pe_and ha hb) fun σ H Q h => by
  obtain ⟨F, st, R, g0⟩ := h
  refine ⟨F, st, R, (Go.bind g0).imp fun ia F1 H1 s1 p1 g1 v r => ?_⟩
  split at g1
  · rename_i e
    exact ⟨true, rw_bl (view_ok p1.rel r e), by rw [if_pos rfl]; exact ⟨F1, s1, p1.rel, g1.shift p1 fun _ _ _ _ _ _ q v r => q v (r.back p1.there)⟩⟩
  · rename_i e
    exact ⟨false, rw_bl (view_ok p1.rel r e), by rw [if_neg Bool.false_ne_true]; exact g1 F1 H1 p1 _ rfl⟩
  · exact g1.elim
theorem de_or (ha : DE X W a fa) (hb : DE X W (.BoolOp .Or (b :: rest) pos) fb) : DE X W (.BoolOp .Or (a :: b :: rest) pos) (fOrV fa fb) := PE.conseq (pe_or ha hb) fun σ H Q h => by
  obtain ⟨F, st, R, g0⟩ := h
  refine ⟨F, st, R, (Go.bind g0).imp fun ia F1 H1 s1 p1 g1 v r => ?_⟩
  split at g1
  · rename_i e
    exact ⟨true, rw_bl (view_ok p1.rel r e), by rw [if_pos rfl]; exact g1 F1 H1 p1 _ rfl⟩
  · rename_i e
    exact ⟨false, rw_bl (view_ok p1.rel r e), by rw [if_neg Bool.false_ne_true]; exact ⟨F1, s1, p1.rel, g1.shift p1 fun _ _ _ _ _ _ q v r => q v (r.back p1.there)⟩⟩
  · exact g1.elim
theorem de_not (ha : DE X W a fa) : DE X W (.UnaryOp .Not a pos) (fNotV fa) := PE.conseq (pe_not ha) fun σ H Q h => by
  obtain ⟨F, st, R, g0⟩ := h
  refine ⟨F, st, R, (Go.bind g0).imp fun ia F1 H1 s1 p1 g1 v r => ?_⟩
  split at g1
  · rename_i b e
    exact ⟨b, rw_bl (view_ok p1.rel r e), g1 F1 H1 p1 _ rfl⟩
  · exact g1.elim
theorem de_if (hc : DT X W c f) (ha : DE X W a fa) (hb : DE X W b fb) : DE X W (.IfExp c a b pos) (fIf f fa fb) := PE.conseq (pe_ifExp hc ha hb) fun σ H Q h => by
  obtain ⟨F, st, R, g0⟩ := h
  refine ⟨F, st, R, (Go.bind g0).imp fun b F1 H1 s1 p1 g1 => ?_⟩
  cases b with
  | true =>
    rw [if_pos rfl]
    exact ⟨F1, s1, p1.rel, g1.shift p1 fun _ _ _ _ _ _ q v r => q v (r.back p1.there)⟩
  | false =>
    rw [if_neg Bool.false_ne_true]
    exact ⟨F1, s1, p1.rel, g1.shift p1 fun _ _ _ _ _ _ q v r => q v (r.back p1.there)⟩
theorem chain_ok {K : PySem.W.Frag} {σ : L2.St} {H : Hp} {Q : VK} {g g' : D → D → Rs} {r r' : R2} (h : tE K W (fChain g g' fa fb fc) σ H Q)
    (hr : ∀ F H x y dx dy Q, Same F H → RW K F H x dx → RW K F H y dy → ResOk K F H (g dx dy) Q → r x y H Q)
    (hr' : ∀ F H x y dx dy Q, Same F H → RW K F H x dx → RW K F H y dy → ResOk K F H (g' dx dy) Q → r' x y H Q) : tChain r r' (tE K W fa) (tE K W fb) (tE K W fc) σ H Q := by
  obtain ⟨F, st, R, g0⟩ := h
  refine ⟨F, st, R, (Go.bind g0).imp fun ia F1 H1 s1 p1 g1 v1 r1 => ?_⟩
  refine ⟨F1, s1, p1.rel, (Go.bind g1).shift p1 fun ib F2 H2 s2 p2 p02 g2 v2 r2 => ?_⟩
  have r1' := r1.step p2
  split at g2
  · rename_i x y e1 e2
    refine hr F2 H2 v1 v2 x y _ p2.rel.sub (view_ok p2.rel r1' e1) (view_ok p2.rel r2 e2) ?_
    split at g2
    · rename_i e3
      rw [e3]
      rintro u rfl
      refine ⟨true, rfl, ?_⟩
      rw [if_pos rfl]
      refine ⟨F2, s2, p2.rel, (Go.bind g2).shift p02 fun ic F3 H3 s3 p3 p03 g3 v3 r3 => ?_⟩
      split at g3
      · rename_i y' z e4 e5
        exact hr' F3 H3 v2 v3 y' z Q p3.rel.sub (view_ok p3.rel (r2.step p3) e4) (view_ok p3.rel r3 e5) (res_ok p03 g3)
      · exact g3.elim
    · rename_i e3
      rw [e3]
      rintro u rfl
      refine ⟨false, rfl, ?_⟩
      rw [if_neg Bool.false_ne_true]
      exact g2 F2 H2 p02 _ rfl
    · exact g2.elim
  · exact g2.elim
theorem de_chain {op op' : CmpOp} {g g' : D → D → Rs} (ho : OpS X (compareOp op) g) (ho' : OpS X (compareOp op') g') (ha : DE X W a fa) (hb : DE X W b fb) (hc : DE X W c fc)
    (hm : lastMarks [op, op'] [b, c] = false := by with_unfolding_all rfl) : DE X W (.Compare a [op, op'] [b, c] pos) (fChain g g' fa fb fc) := by
  obtain ⟨r, h1, h2⟩ := ho
  obtain ⟨r', h1', h2'⟩ := ho'
  exact PE.conseq (pe_chain h1 h1' ha hb hc hm) fun σ H Q h => chain_ok h h2 h2'
theorem dt_chain {op op' : CmpOp} {g g' : D → D → Rs} (ho : OpS X (compareOp op) g) (ho' : OpS X (compareOp op') g') (ha : DE X W a fa) (hb : DE X W b fb) (hc : DE X W c fc)
    (hm : lastMarks [op, op'] [b, c] = false := by with_unfolding_all rfl) : DT X W (.Compare a [op, op'] [b, c] pos) (fTest (fChain g g' fa fb fc)) := by
  obtain ⟨r, h1, h2⟩ := ho
  obtain ⟨r', h1', h2'⟩ := ho'
  exact PT.conseq (pt_chain h1 h1' ha hb hc hm) fun σ H Q h => chain_ok (test_E h) h2 h2'
end
end DL
set_option maxRecDepth 100000
set_option maxHeartbeats 4000000
namespace DL
open PySem L2
mutual
def deq : D → D → Bool
  | .non, .non => true
  | .bl a, .bl b => a == b
  | .bl a, .int j => (if a = true then (1 : Int) else 0) == j
  | .int i, .bl b => i == (if b = true then (1 : Int) else 0)
  | .int i, .int j => i == j
  | .str x, .str y => x == y
  | .tup xs, .tup ys => deqs xs ys
  | .lst xs, .lst ys => deqs xs ys
  | _, _ => false
def deqs : List D → List D → Bool
  | [], [] => true
  | x :: xs, y :: ys => deq x y && deqs xs ys
  | _, _ => false
end
mutual
/-- no instance, no dict within, nested at most n deep -/
def okD : D → Nat → Bool
  | .tup xs, n + 1 => okDs xs n
  | .lst xs, n + 1 => okDs xs n
  | .tup _, 0 => false
  | .lst _, 0 => false
  | .dic _ _, _ => false
  | .ins _ _ _, _ => false
  | .scr _, _ => false
  | _, _ => true
def okDs : List D → Nat → Bool
  | [], _ => true
  | x :: xs, n => okD x n && okDs xs n
end
mutual
theorem deq_refl : ∀ d : D, ∀ n, okD d n = true → deq d d = true
  | .non, _, _ => rfl
  | .bl b, _, _ => by simp [deq]
  | .int i, _, _ => by simp [deq]
  | .str x, _, _ => by simp [deq]
  | .tup xs, 0, h => by simp [okD] at h
  | .lst xs, 0, h => by simp [okD] at h
  | .tup xs, n + 1, h => by
    have h : okDs xs n = true := by simpa [okD] using h
    simpa [deq] using deqs_refl xs n h
  | .lst xs, n + 1, h => by
    have h : okDs xs n = true := by simpa [okD] using h
    simpa [deq] using deqs_refl xs n h
  | .dic _ _, _, h => by simp [okD] at h
  | .ins _ _ _, _, h => by simp [okD] at h
  | .scr _, _, h => by simp [okD] at h
theorem deqs_refl : ∀ ds : List D, ∀ n, okDs ds n = true → deqs ds ds = true
  | [], _, _ => by simp [deqs]
  | d :: ds, n, h => by
    have h : okD d n = true ∧ okDs ds n = true := by simpa [okDs] using h
    simp [deqs, deq_refl d n h.1, deqs_refl ds n h.2]
end
theorem deqs_length : ∀ xs ys : List D, deqs xs ys = true → xs.length = ys.length
  | [], [], _ => rfl
  | [], _ :: _, h => by simp [deqs] at h
  | _ :: _, [], h => by simp [deqs] at h
  | x :: xs, y :: ys, h => by
    have h : deq x y = true ∧ deqs xs ys = true := by simpa [deqs] using h
    simp [deqs_length xs ys h.2]

section
variable {X : Cx} {pins : List (Addr × Obj)} {σ : L2.St} {H : Hp} {s : Shared}
mutual
theorem RD.inj (I : Inv X pins σ H s) : ∀ (d e : D) (n m : Nat) (v : V), RD X.K H v d → RD X.K H v e → okD d n = true → okD e m = true → d = e
  | .non, e, n, m, v, h, g, _, ok => by
    have h : v = .non := h
    subst h
    cases e with
    | non => rfl
    | bl b => cases (show V.non = .bl b from g)
    | int b => cases (show V.non = .int b from g)
    | str b => cases (show V.non = .str b from g)
    | tup _ => obtain ⟨_, _, z, _⟩ := g; cases z
    | lst _ => obtain ⟨_, _, z, _⟩ := g; cases z
    | dic _ _ => obtain ⟨_, _, z, _⟩ := g; cases z
    | ins _ _ _ => obtain ⟨_, _, _, z, _⟩ := g; cases z
    | scr _ => simp [okD] at ok
  | .bl c, e, n, m, v, h, g, _, ok => by
    have h : v = .bl c := h
    subst h
    cases e with
    | non => cases (show V.bl c = .non from g)
    | bl b => cases (show V.bl c = .bl b from g); rfl
    | int b => cases (show V.bl c = .int b from g)
    | str b => cases (show V.bl c = .str b from g)
    | tup _ => obtain ⟨_, _, z, _⟩ := g; cases z
    | lst _ => obtain ⟨_, _, z, _⟩ := g; cases z
    | dic _ _ => obtain ⟨_, _, z, _⟩ := g; cases z
    | ins _ _ _ => obtain ⟨_, _, _, z, _⟩ := g; cases z
    | scr _ => simp [okD] at ok
  | .int c, e, n, m, v, h, g, _, ok => by
    have h : v = .int c := h
    subst h
    cases e with
    | non => cases (show V.int c = .non from g)
    | bl b => cases (show V.int c = .bl b from g)
    | int b => cases (show V.int c = .int b from g); rfl
    | str b => cases (show V.int c = .str b from g)
    | tup _ => obtain ⟨_, _, z, _⟩ := g; cases z
    | lst _ => obtain ⟨_, _, z, _⟩ := g; cases z
    | dic _ _ => obtain ⟨_, _, z, _⟩ := g; cases z
    | ins _ _ _ => obtain ⟨_, _, _, z, _⟩ := g; cases z
    | scr _ => simp [okD] at ok
  | .str c, e, n, m, v, h, g, _, ok => by
    have h : v = .str c := h
    subst h
    cases e with
    | non => cases (show V.str c = .non from g)
    | bl b => cases (show V.str c = .bl b from g)
    | int b => cases (show V.str c = .int b from g)
    | str b => cases (show V.str c = .str b from g); rfl
    | tup _ => obtain ⟨_, _, z, _⟩ := g; cases z
    | lst _ => obtain ⟨_, _, z, _⟩ := g; cases z
    | dic _ _ => obtain ⟨_, _, z, _⟩ := g; cases z
    | ins _ _ _ => obtain ⟨_, _, _, z, _⟩ := g; cases z
    | scr _ => simp [okD] at ok
  | .tup ds, e, n, m, v, h, g, o1, o2 => by
    obtain ⟨a, xs, rfl, q, r⟩ := h
    cases e with
    | non => cases (show V.ref a = .non from g)
    | bl b => cases (show V.ref a = .bl b from g)
    | int b => cases (show V.ref a = .int b from g)
    | str b => cases (show V.ref a = .str b from g)
    | tup es =>
      obtain ⟨b, ys, e1, q2, r2⟩ := g
      cases e1
      have := I.tuple_inj q.sq q2.sq
      subst this
      cases n with
      | zero => simp [okD] at o1
      | succ n =>
        cases m with
        | zero => simp [okD] at o2
        | succ m => rw [RDs.inj I ds es n m xs r r2 (by simpa [okD] using o1) (by simpa [okD] using o2)]
    | lst es =>
      obtain ⟨b, ys, e1, q2, r2⟩ := g
      cases e1
      obtain ⟨its, _, ⟨o, e2, c2, _⟩, _⟩ := I.tuple q.sq
      obtain ⟨its2, _, ⟨o2, n2, e3, c3, _⟩, _⟩ := I.list (SqL.of q2)
      rw [e2] at e3
      cases e3
      rw [c2] at c3
      exact absurd c3 (by decide)
    | dic _ _ => simp [okD] at o2
    | ins _ _ _ => simp [okD] at o2
    | scr _ => simp [okD] at o2
  | .lst ds, e, n, m, v, h, g, o1, o2 => by
    obtain ⟨a, xs, rfl, q, r⟩ := h
    cases e with
    | non => cases (show V.ref a = .non from g)
    | bl b => cases (show V.ref a = .bl b from g)
    | int b => cases (show V.ref a = .int b from g)
    | str b => cases (show V.ref a = .str b from g)
    | lst es =>
      obtain ⟨b, ys, e1, q2, r2⟩ := g
      cases e1
      have := I.list_inj (SqL.of q) (SqL.of q2)
      subst this
      cases n with
      | zero => simp [okD] at o1
      | succ n =>
        cases m with
        | zero => simp [okD] at o2
        | succ m => rw [RDs.inj I ds es n m xs r r2 (by simpa [okD] using o1) (by simpa [okD] using o2)]
    | tup es =>
      obtain ⟨b, ys, e1, q2, r2⟩ := g
      cases e1
      obtain ⟨its, _, ⟨o, e2, c2, _⟩, _⟩ := I.tuple q2.sq
      obtain ⟨its2, _, ⟨o2, n2, e3, c3, _⟩, _⟩ := I.list (SqL.of q)
      rw [e2] at e3
      cases e3
      rw [c2] at c3
      exact absurd c3 (by decide)
    | dic _ _ => simp [okD] at o2
    | ins _ _ _ => simp [okD] at o2
    | scr _ => simp [okD] at o2
  | .dic _ _, _, _, _, _, _, _, o1, _ => by simp [okD] at o1
  | .ins _ _ _, _, _, _, _, _, _, o1, _ => by simp [okD] at o1
  | .scr _, _, _, _, _, _, _, o1, _ => by simp [okD] at o1
theorem RDs.inj (I : Inv X pins σ H s) : ∀ (ds es : List D) (n m : Nat) (vs : List V), RDs X.K H vs ds → RDs X.K H vs es → okDs ds n = true → okDs es m = true → ds = es
  | [], [], _, _, _, _, _, _, _ => rfl
  | [], _ :: _, _, _, [], _, g, _, _ => g.elim
  | [], _ :: _, _, _, _ :: _, h, _, _, _ => h.elim
  | _ :: _, [], _, _, [], h, _, _, _ => h.elim
  | _ :: _, [], _, _, _ :: _, _, g, _, _ => g.elim
  | _ :: _, _ :: _, _, _, [], h, _, _, _ => h.elim
  | d :: ds, e :: es, n, m, v :: vs, h, g, o1, o2 => by
    have o1 : okD d n = true ∧ okDs ds n = true := by simpa [okDs] using o1
    have o2 : okD e m = true ∧ okDs es m = true := by simpa [okDs] using o2
    rw [RD.inj I d e n m v h.1 g.1 o1.1 o2.1, RDs.inj I ds es n m vs h.2 g.2 o1.2 o2.2]
end
end
end DL
set_option maxRecDepth 100000
set_option maxHeartbeats 4000000
namespace DL
open PySem L2
def eqj : List D → List D → Nat → Bool
  | x :: _, y :: _, 0 => deq x y
  | _ :: xs, _ :: ys, j + 1 => eqj xs ys j
  | _, _, _ => true
theorem eqj_all : ∀ xs ys : List D, ((List.range (min xs.length ys.length)).all (eqj xs ys) && xs.length == ys.length) = deqs xs ys
  | [], [] => by simp [deqs]
  | [], _ :: _ => by simp [deqs]
  | _ :: _, [] => by simp [deqs]
  | x :: xs, y :: ys => by
    have e : min (x :: xs).length (y :: ys).length = min xs.length ys.length + 1 := by
      simp only [List.length_cons]
      omega
    have ih := eqj_all xs ys
    rw [e, List.range_succ_eq_map, List.all_cons, List.all_map]
    have f : (eqj (x :: xs) (y :: ys) ∘ Nat.succ) = eqj xs ys := by
      funext j
      rfl
    rw [f]
    show (deq x y && (List.range (min xs.length ys.length)).all (eqj xs ys) && (xs.length + 1 == ys.length + 1)) = deqs (x :: xs) (y :: ys)
    have g : (xs.length + 1 == ys.length + 1) = (xs.length == ys.length) := by
      rw [Bool.eq_iff_iff]
      simp
    rw [g, Bool.and_assoc, ih]
    simp only [deqs]
theorem eqj_same {xs ys : List D} (h : xs.length = ys.length) : (List.range xs.length).all (eqj xs ys) = deqs xs ys := by
  have z := eqj_all xs ys
  rw [← h, Nat.min_self, beq_self_eq_true, Bool.and_true] at z
  exact z
theorem eqj_other {xs ys : List D} (h : xs.length ≠ ys.length) : deqs xs ys = false := by
  cases q : deqs xs ys with
  | false => rfl
  | true => exact absurd (deqs_length xs ys q) h
section
variable {X : Cx} {pins : List (Addr × Obj)} {σ : L2.St} {H : Hp} {s : Shared}

mutual
theorem eqAt (I : Inv X pins σ H s) : ∀ (d e : D) (n m : Nat) (A : Around) (x y : V) (v u : Value), RD X.K H x d → RD X.K H y e → RelV x v → RelV y u → okD d n = true → okD e m = true → A.units + n < cLine → SeqAt.EqAt A s v u (deq d e)
  | .non, e, n, m, A, x, y, v, u, hx, hy, rx, ry, od, oe, hu => by
    have e0 : x = .non := hx
    subst e0
    cases rx
    cases e with
    | non =>
      have e0 : y = .non := hy
      subst e0
      cases ry
      simp only [deq]
      exact SeqAt.EqAt.same _
    | bl c2 =>
      have e0 : y = .bl c2 := hy
      subst e0
      cases ry
      simp only [deq]
      exact SeqAt.EqAt.none_bool c2
    | int c2 =>
      have e0 : y = .int c2 := hy
      subst e0
      obtain ⟨t2, rfl⟩ := ry
      simp only [deq]
      exact SeqAt.EqAt.none_int c2 t2
    | str c2 =>
      have e0 : y = .str c2 := hy
      subst e0
      obtain ⟨t2, rfl⟩ := ry
      simp only [deq]
      exact SeqAt.EqAt.none_str c2 t2
    | tup es =>
      obtain ⟨a2, xs2, rfl, q2, r2⟩ := hy
      cases ry
      obtain ⟨its2, rv2, p2, _⟩ := I.tuple q2.sq
      simp only [deq]
      exact SeqAt.EqAt.none_tuple  p2 (by omega)
    | lst es =>
      obtain ⟨a2, xs2, rfl, q2, r2⟩ := hy
      cases ry
      obtain ⟨its2, rv2, pl2, _⟩ := I.list (SqL.of q2)
      have p2 := pl2.isList
      simp only [deq]
      exact SeqAt.EqAt.none_list  p2 (by omega)
    | dic _ _ => simp [okD] at oe
    | ins _ _ _ => simp [okD] at oe
    | scr _ => simp [okD] at oe
  | .bl c, e, n, m, A, x, y, v, u, hx, hy, rx, ry, od, oe, hu => by
    have e0 : x = .bl c := hx
    subst e0
    cases rx
    cases e with
    | non =>
      have e0 : y = .non := hy
      subst e0
      cases ry
      simp only [deq]
      exact SeqAt.EqAt.bool_none c
    | bl c2 =>
      have e0 : y = .bl c2 := hy
      subst e0
      cases ry
      simp only [deq]
      exact SeqAt.EqAt.bool_bool c c2
    | int c2 =>
      have e0 : y = .int c2 := hy
      subst e0
      obtain ⟨t2, rfl⟩ := ry
      simp only [deq]
      exact SeqAt.EqAt.bool_int c c2 t2
    | str c2 =>
      have e0 : y = .str c2 := hy
      subst e0
      obtain ⟨t2, rfl⟩ := ry
      simp only [deq]
      exact SeqAt.EqAt.bool_str c c2 t2
    | tup es =>
      obtain ⟨a2, xs2, rfl, q2, r2⟩ := hy
      cases ry
      obtain ⟨its2, rv2, p2, _⟩ := I.tuple q2.sq
      simp only [deq]
      exact SeqAt.EqAt.bool_tuple c p2 (by omega)
    | lst es =>
      obtain ⟨a2, xs2, rfl, q2, r2⟩ := hy
      cases ry
      obtain ⟨its2, rv2, pl2, _⟩ := I.list (SqL.of q2)
      have p2 := pl2.isList
      simp only [deq]
      exact SeqAt.EqAt.bool_list c p2 (by omega)
    | dic _ _ => simp [okD] at oe
    | ins _ _ _ => simp [okD] at oe
    | scr _ => simp [okD] at oe
  | .int c, e, n, m, A, x, y, v, u, hx, hy, rx, ry, od, oe, hu => by
    have e0 : x = .int c := hx
    subst e0
    obtain ⟨t1, rfl⟩ := rx
    cases e with
    | non =>
      have e0 : y = .non := hy
      subst e0
      cases ry
      simp only [deq]
      exact SeqAt.EqAt.int_none c t1
    | bl c2 =>
      have e0 : y = .bl c2 := hy
      subst e0
      cases ry
      simp only [deq]
      exact SeqAt.EqAt.int_bool c t1 c2
    | int c2 =>
      have e0 : y = .int c2 := hy
      subst e0
      obtain ⟨t2, rfl⟩ := ry
      simp only [deq]
      exact SeqAt.EqAt.int_int c t1 c2 t2
    | str c2 =>
      have e0 : y = .str c2 := hy
      subst e0
      obtain ⟨t2, rfl⟩ := ry
      simp only [deq]
      exact SeqAt.EqAt.int_str c t1 c2 t2
    | tup es =>
      obtain ⟨a2, xs2, rfl, q2, r2⟩ := hy
      cases ry
      obtain ⟨its2, rv2, p2, _⟩ := I.tuple q2.sq
      simp only [deq]
      exact SeqAt.EqAt.int_tuple c t1 p2 (by omega)
    | lst es =>
      obtain ⟨a2, xs2, rfl, q2, r2⟩ := hy
      cases ry
      obtain ⟨its2, rv2, pl2, _⟩ := I.list (SqL.of q2)
      have p2 := pl2.isList
      simp only [deq]
      exact SeqAt.EqAt.int_list c t1 p2 (by omega)
    | dic _ _ => simp [okD] at oe
    | ins _ _ _ => simp [okD] at oe
    | scr _ => simp [okD] at oe
  | .str c, e, n, m, A, x, y, v, u, hx, hy, rx, ry, od, oe, hu => by
    have e0 : x = .str c := hx
    subst e0
    obtain ⟨t1, rfl⟩ := rx
    cases e with
    | non =>
      have e0 : y = .non := hy
      subst e0
      cases ry
      simp only [deq]
      exact SeqAt.EqAt.str_none c t1
    | bl c2 =>
      have e0 : y = .bl c2 := hy
      subst e0
      cases ry
      simp only [deq]
      exact SeqAt.EqAt.str_bool c t1 c2
    | int c2 =>
      have e0 : y = .int c2 := hy
      subst e0
      obtain ⟨t2, rfl⟩ := ry
      simp only [deq]
      exact SeqAt.EqAt.str_int c t1 c2 t2
    | str c2 =>
      have e0 : y = .str c2 := hy
      subst e0
      obtain ⟨t2, rfl⟩ := ry
      simp only [deq]
      exact SeqAt.EqAt.str_str c t1 c2 t2
    | tup es =>
      obtain ⟨a2, xs2, rfl, q2, r2⟩ := hy
      cases ry
      obtain ⟨its2, rv2, p2, _⟩ := I.tuple q2.sq
      simp only [deq]
      exact SeqAt.EqAt.str_tuple c t1 p2 (by omega)
    | lst es =>
      obtain ⟨a2, xs2, rfl, q2, r2⟩ := hy
      cases ry
      obtain ⟨its2, rv2, pl2, _⟩ := I.list (SqL.of q2)
      have p2 := pl2.isList
      simp only [deq]
      exact SeqAt.EqAt.str_list c t1 p2 (by omega)
    | dic _ _ => simp [okD] at oe
    | ins _ _ _ => simp [okD] at oe
    | scr _ => simp [okD] at oe
  | .tup ds, e, n, m, A, x, y, v, u, hx, hy, rx, ry, od, oe, hu => by
    obtain ⟨a1, xs1, rfl, q1, r1⟩ := hx
    cases rx
    obtain ⟨its1, rv1, p1, _⟩ := I.tuple q1.sq
    cases e with
    | non =>
      have e0 : y = .non := hy
      subst e0
      cases ry
      simp only [deq]
      exact SeqAt.EqAt.tuple_none  p1 (by omega)
    | bl c2 =>
      have e0 : y = .bl c2 := hy
      subst e0
      cases ry
      simp only [deq]
      exact SeqAt.EqAt.tuple_bool c2 p1 (by omega)
    | int c2 =>
      have e0 : y = .int c2 := hy
      subst e0
      obtain ⟨t2, rfl⟩ := ry
      simp only [deq]
      exact SeqAt.EqAt.tuple_int c2 t2 p1 (by omega)
    | str c2 =>
      have e0 : y = .str c2 := hy
      subst e0
      obtain ⟨t2, rfl⟩ := ry
      simp only [deq]
      exact SeqAt.EqAt.tuple_str c2 t2 p1 (by omega)
    | tup es =>
      obtain ⟨a2, xs2, rfl, q2, r2⟩ := hy
      cases ry
      obtain ⟨its2, rv2, p2, _⟩ := I.tuple q2.sq
      obtain ⟨n, rfl⟩ : ∃ k, n = k + 1 := by
        cases n with
        | zero => simp [okD] at od
        | succ k => exact ⟨k, rfl⟩
      obtain ⟨m, rfl⟩ : ∃ k, m = k + 1 := by
        cases m with
        | zero => simp [okD] at oe
        | succ k => exact ⟨k, rfl⟩
      have od : okDs ds n = true := by simpa [okD] using od
      have oe : okDs es m = true := by simpa [okD] using oe
      by_cases hab : a1 = a2
      · subst hab
        have ev : xs1 = xs2 := I.tuple_inj q1.sq q2.sq
        subst ev
        have ed := RDs.inj I ds es n m xs1 r1 r2 od oe
        subst ed
        have z : deq (.tup ds) (.tup ds) = true := by simpa [deq] using deqs_refl ds n od
        rw [z]
        exact SeqAt.EqAt.same _
      · refine SeqAt.EqAt.of_refs hab ?_
        have he : ∀ j (h1 : j < its1.toArray.size) (h2 : j < its2.toArray.size), SeqAt.EqAt A.in1 s its1.toArray[j] its2.toArray[j] (eqj ds es j) := fun j h1 h2 =>
          eqsAt I ds es n m A.in1 xs1 xs2 its1 its2 r1 r2 rv1 rv2 od oe (by show A.units + 1 + n < cLine; omega) j (by simpa using h1) (by simpa using h2)
        have l1 : its1.toArray.size = ds.length := by rw [List.size_toArray, ← rv1.length, r1.length]
        have l2 : its2.toArray.size = es.length := by rw [List.size_toArray, ← rv2.length, r2.length]
        have z : deq (.tup ds) (.tup es) = ((List.range (min its1.toArray.size its2.toArray.size)).all (eqj ds es) && its1.toArray.size == its2.toArray.size) := by
          rw [l1, l2, eqj_all]
          simp only [deq]
        rw [z]
        exact SeqAt.RcAt.tuples p1 p2 (by omega) he
    | lst es =>
      obtain ⟨a2, xs2, rfl, q2, r2⟩ := hy
      cases ry
      obtain ⟨its2, rv2, pl2, _⟩ := I.list (SqL.of q2)
      have p2 := pl2.isList
      simp only [deq]
      exact SeqAt.EqAt.tuple_list p1 p2 (by omega)
    | dic _ _ => simp [okD] at oe
    | ins _ _ _ => simp [okD] at oe
    | scr _ => simp [okD] at oe
  | .lst ds, e, n, m, A, x, y, v, u, hx, hy, rx, ry, od, oe, hu => by
    obtain ⟨a1, xs1, rfl, q1, r1⟩ := hx
    cases rx
    obtain ⟨its1, rv1, pl1, _⟩ := I.list (SqL.of q1)
    have p1 := pl1.isList
    cases e with
    | non =>
      have e0 : y = .non := hy
      subst e0
      cases ry
      simp only [deq]
      exact SeqAt.EqAt.list_none  p1 (by omega)
    | bl c2 =>
      have e0 : y = .bl c2 := hy
      subst e0
      cases ry
      simp only [deq]
      exact SeqAt.EqAt.list_bool c2 p1 (by omega)
    | int c2 =>
      have e0 : y = .int c2 := hy
      subst e0
      obtain ⟨t2, rfl⟩ := ry
      simp only [deq]
      exact SeqAt.EqAt.list_int c2 t2 p1 (by omega)
    | str c2 =>
      have e0 : y = .str c2 := hy
      subst e0
      obtain ⟨t2, rfl⟩ := ry
      simp only [deq]
      exact SeqAt.EqAt.list_str c2 t2 p1 (by omega)
    | tup es =>
      obtain ⟨a2, xs2, rfl, q2, r2⟩ := hy
      cases ry
      obtain ⟨its2, rv2, p2, _⟩ := I.tuple q2.sq
      simp only [deq]
      exact SeqAt.EqAt.list_tuple p1 p2 (by omega)
    | lst es =>
      obtain ⟨a2, xs2, rfl, q2, r2⟩ := hy
      cases ry
      obtain ⟨its2, rv2, pl2, _⟩ := I.list (SqL.of q2)
      have p2 := pl2.isList
      obtain ⟨n, rfl⟩ : ∃ k, n = k + 1 := by
        cases n with
        | zero => simp [okD] at od
        | succ k => exact ⟨k, rfl⟩
      obtain ⟨m, rfl⟩ : ∃ k, m = k + 1 := by
        cases m with
        | zero => simp [okD] at oe
        | succ k => exact ⟨k, rfl⟩
      have od : okDs ds n = true := by simpa [okD] using od
      have oe : okDs es m = true := by simpa [okD] using oe
      by_cases hab : a1 = a2
      · subst hab
        have ev : xs1 = xs2 := I.list_inj (SqL.of q1) (SqL.of q2)
        subst ev
        have ed := RDs.inj I ds es n m xs1 r1 r2 od oe
        subst ed
        have z : deq (.lst ds) (.lst ds) = true := by simpa [deq] using deqs_refl ds n od
        rw [z]
        exact SeqAt.EqAt.same _
      · refine SeqAt.EqAt.of_refs hab ?_
        have he : ∀ j (h1 : j < its1.toArray.size) (h2 : j < its2.toArray.size), SeqAt.EqAt A.in1 s its1.toArray[j] its2.toArray[j] (eqj ds es j) := fun j h1 h2 =>
          eqsAt I ds es n m A.in1 xs1 xs2 its1 its2 r1 r2 rv1 rv2 od oe (by show A.units + 1 + n < cLine; omega) j (by simpa using h1) (by simpa using h2)
        have l1 : its1.toArray.size = ds.length := by rw [List.size_toArray, ← rv1.length, r1.length]
        have l2 : its2.toArray.size = es.length := by rw [List.size_toArray, ← rv2.length, r2.length]
        by_cases hsz : its1.toArray.size = its2.toArray.size
        · have z : deq (.lst ds) (.lst es) = (List.range its1.toArray.size).all (eqj ds es) := by
            rw [l1, eqj_same (by omega : ds.length = es.length)]
            simp only [deq]
          rw [z]
          exact SeqAt.RcAt.lists p1 p2 hsz (by omega) he
        · have z : deq (.lst ds) (.lst es) = false := by
            simp only [deq]
            exact eqj_other (by omega)
          rw [z]
          exact SeqAt.RcAt.lists_lengths p1 p2 (by simpa using hsz) (by omega)
    | dic _ _ => simp [okD] at oe
    | ins _ _ _ => simp [okD] at oe
    | scr _ => simp [okD] at oe
  | .dic _ _, _, _, _, _, _, _, _, _, _, _, _, _, od, _, _ => by simp [okD] at od
  | .ins _ _ _, _, _, _, _, _, _, _, _, _, _, _, _, od, _, _ => by simp [okD] at od
  | .scr _, _, _, _, _, _, _, _, _, _, _, _, _, od, _, _ => by simp [okD] at od
theorem eqsAt (I : Inv X pins σ H s) : ∀ (ds es : List D) (n m : Nat) (A : Around) (xs ys : List V) (vs us : List Value), RDs X.K H xs ds → RDs X.K H ys es → Vals xs vs → Vals ys us → okDs ds n = true → okDs es m = true → A.units + n < cLine →
    ∀ (j : Nat) (h1 : j < vs.length) (h2 : j < us.length), SeqAt.EqAt A s vs[j] us[j] (eqj ds es j)
  | [], _, _, _, _, xs, _, vs, _, hx, _, rx, _, _, _, _, j, h1, _ => by
    cases xs with
    | nil =>
      cases rx
      simp at h1
    | cons _ _ => exact hx.elim
  | _ :: _, [], _, _, _, _, ys, _, us, _, hy, _, ry, _, _, _, j, _, h2 => by
    cases ys with
    | nil =>
      cases ry
      simp at h2
    | cons _ _ => exact hy.elim
  | d :: ds, e :: es, n, m, A, xs, ys, vs, us, hx, hy, rx, ry, od, oe, hu, j, h1, h2 => by
    cases xs with
    | nil => exact hx.elim
    | cons x xs =>
      cases ys with
      | nil => exact hy.elim
      | cons y ys =>
        cases rx with
        | cons rx1 rx2 =>
          cases ry with
          | cons ry1 ry2 =>
            have od : okD d n = true ∧ okDs ds n = true := by simpa [okDs] using od
            have oe : okD e m = true ∧ okDs es m = true := by simpa [okDs] using oe
            cases j with
            | zero => exact eqAt I d e n m A x y _ _ hx.1 hy.1 rx1 ry1 od.1 oe.1 hu
            | succ j => exact eqsAt I ds es n m A xs ys _ _ hx.2 hy.2 rx2 ry2 od.2 oe.2 hu j (by simpa using h1) (by simpa using h2)
end
theorem rcAt (I : Inv X pins σ H s) : ∀ (d e : D) (n m : Nat) (A : Around) (x y : V) (v u : Value), RD X.K H x d → RD X.K H y e → RelV x v → RelV y u → okD d n = true → okD e m = true → A.units + n < cLine → SeqAt.RcAt A s v u (deq d e)
  | .non, e, n, m, A, x, y, v, u, hx, hy, rx, ry, od, oe, hu => by
    have e0 : x = .non := hx
    subst e0
    cases rx
    cases e with
    | non =>
      have e0 : y = .non := hy
      subst e0
      cases ry
      simp only [deq]
      exact SeqAt.RcAt.none_none 
    | bl c2 =>
      have e0 : y = .bl c2 := hy
      subst e0
      cases ry
      simp only [deq]
      exact SeqAt.RcAt.none_bool c2
    | int c2 =>
      have e0 : y = .int c2 := hy
      subst e0
      obtain ⟨t2, rfl⟩ := ry
      simp only [deq]
      exact SeqAt.RcAt.none_int c2 t2
    | str c2 =>
      have e0 : y = .str c2 := hy
      subst e0
      obtain ⟨t2, rfl⟩ := ry
      simp only [deq]
      exact SeqAt.RcAt.none_str c2 t2
    | tup es =>
      obtain ⟨a2, xs2, rfl, q2, r2⟩ := hy
      cases ry
      obtain ⟨its2, rv2, p2, _⟩ := I.tuple q2.sq
      simp only [deq]
      exact SeqAt.RcAt.none_tuple  p2 (by omega)
    | lst es =>
      obtain ⟨a2, xs2, rfl, q2, r2⟩ := hy
      cases ry
      obtain ⟨its2, rv2, pl2, _⟩ := I.list (SqL.of q2)
      have p2 := pl2.isList
      simp only [deq]
      exact SeqAt.RcAt.none_list  p2 (by omega)
    | dic _ _ => simp [okD] at oe
    | ins _ _ _ => simp [okD] at oe
    | scr _ => simp [okD] at oe
  | .bl c, e, n, m, A, x, y, v, u, hx, hy, rx, ry, od, oe, hu => by
    have e0 : x = .bl c := hx
    subst e0
    cases rx
    cases e with
    | non =>
      have e0 : y = .non := hy
      subst e0
      cases ry
      simp only [deq]
      exact SeqAt.RcAt.bool_none c
    | bl c2 =>
      have e0 : y = .bl c2 := hy
      subst e0
      cases ry
      simp only [deq]
      exact SeqAt.RcAt.bool_bool c c2
    | int c2 =>
      have e0 : y = .int c2 := hy
      subst e0
      obtain ⟨t2, rfl⟩ := ry
      simp only [deq]
      exact SeqAt.RcAt.bool_int c c2 t2
    | str c2 =>
      have e0 : y = .str c2 := hy
      subst e0
      obtain ⟨t2, rfl⟩ := ry
      simp only [deq]
      exact SeqAt.RcAt.bool_str c c2 t2
    | tup es =>
      obtain ⟨a2, xs2, rfl, q2, r2⟩ := hy
      cases ry
      obtain ⟨its2, rv2, p2, _⟩ := I.tuple q2.sq
      simp only [deq]
      exact SeqAt.RcAt.bool_tuple c p2 (by omega)
    | lst es =>
      obtain ⟨a2, xs2, rfl, q2, r2⟩ := hy
      cases ry
      obtain ⟨its2, rv2, pl2, _⟩ := I.list (SqL.of q2)
      have p2 := pl2.isList
      simp only [deq]
      exact SeqAt.RcAt.bool_list c p2 (by omega)
    | dic _ _ => simp [okD] at oe
    | ins _ _ _ => simp [okD] at oe
    | scr _ => simp [okD] at oe
  | .int c, e, n, m, A, x, y, v, u, hx, hy, rx, ry, od, oe, hu => by
    have e0 : x = .int c := hx
    subst e0
    obtain ⟨t1, rfl⟩ := rx
    cases e with
    | non =>
      have e0 : y = .non := hy
      subst e0
      cases ry
      simp only [deq]
      exact SeqAt.RcAt.int_none c t1
    | bl c2 =>
      have e0 : y = .bl c2 := hy
      subst e0
      cases ry
      simp only [deq]
      exact SeqAt.RcAt.int_bool c t1 c2
    | int c2 =>
      have e0 : y = .int c2 := hy
      subst e0
      obtain ⟨t2, rfl⟩ := ry
      simp only [deq]
      exact SeqAt.RcAt.int_int c t1 c2 t2
    | str c2 =>
      have e0 : y = .str c2 := hy
      subst e0
      obtain ⟨t2, rfl⟩ := ry
      simp only [deq]
      exact SeqAt.RcAt.int_str c t1 c2 t2
    | tup es =>
      obtain ⟨a2, xs2, rfl, q2, r2⟩ := hy
      cases ry
      obtain ⟨its2, rv2, p2, _⟩ := I.tuple q2.sq
      simp only [deq]
      exact SeqAt.RcAt.int_tuple c t1 p2 (by omega)
    | lst es =>
      obtain ⟨a2, xs2, rfl, q2, r2⟩ := hy
      cases ry
      obtain ⟨its2, rv2, pl2, _⟩ := I.list (SqL.of q2)
      have p2 := pl2.isList
      simp only [deq]
      exact SeqAt.RcAt.int_list c t1 p2 (by omega)
    | dic _ _ => simp [okD] at oe
    | ins _ _ _ => simp [okD] at oe
    | scr _ => simp [okD] at oe
  | .str c, e, n, m, A, x, y, v, u, hx, hy, rx, ry, od, oe, hu => by
    have e0 : x = .str c := hx
    subst e0
    obtain ⟨t1, rfl⟩ := rx
    cases e with
    | non =>
      have e0 : y = .non := hy
      subst e0
      cases ry
      simp only [deq]
      exact SeqAt.RcAt.str_none c t1
    | bl c2 =>
      have e0 : y = .bl c2 := hy
      subst e0
      cases ry
      simp only [deq]
      exact SeqAt.RcAt.str_bool c t1 c2
    | int c2 =>
      have e0 : y = .int c2 := hy
      subst e0
      obtain ⟨t2, rfl⟩ := ry
      simp only [deq]
      exact SeqAt.RcAt.str_int c t1 c2 t2
    | str c2 =>
      have e0 : y = .str c2 := hy
      subst e0
      obtain ⟨t2, rfl⟩ := ry
      simp only [deq]
      exact SeqAt.RcAt.str_str c t1 c2 t2
    | tup es =>
      obtain ⟨a2, xs2, rfl, q2, r2⟩ := hy
      cases ry
      obtain ⟨its2, rv2, p2, _⟩ := I.tuple q2.sq
      simp only [deq]
      exact SeqAt.RcAt.str_tuple c t1 p2 (by omega)
    | lst es =>
      obtain ⟨a2, xs2, rfl, q2, r2⟩ := hy
      cases ry
      obtain ⟨its2, rv2, pl2, _⟩ := I.list (SqL.of q2)
      have p2 := pl2.isList
      simp only [deq]
      exact SeqAt.RcAt.str_list c t1 p2 (by omega)
    | dic _ _ => simp [okD] at oe
    | ins _ _ _ => simp [okD] at oe
    | scr _ => simp [okD] at oe
  | .tup ds, e, n, m, A, x, y, v, u, hx, hy, rx, ry, od, oe, hu => by
    obtain ⟨a1, xs1, rfl, q1, r1⟩ := hx
    cases rx
    obtain ⟨its1, rv1, p1, _⟩ := I.tuple q1.sq
    cases e with
    | non =>
      have e0 : y = .non := hy
      subst e0
      cases ry
      simp only [deq]
      exact SeqAt.RcAt.tuple_none  p1 (by omega)
    | bl c2 =>
      have e0 : y = .bl c2 := hy
      subst e0
      cases ry
      simp only [deq]
      exact SeqAt.RcAt.tuple_bool c2 p1 (by omega)
    | int c2 =>
      have e0 : y = .int c2 := hy
      subst e0
      obtain ⟨t2, rfl⟩ := ry
      simp only [deq]
      exact SeqAt.RcAt.tuple_int c2 t2 p1 (by omega)
    | str c2 =>
      have e0 : y = .str c2 := hy
      subst e0
      obtain ⟨t2, rfl⟩ := ry
      simp only [deq]
      exact SeqAt.RcAt.tuple_str c2 t2 p1 (by omega)
    | tup es =>
      obtain ⟨a2, xs2, rfl, q2, r2⟩ := hy
      cases ry
      obtain ⟨its2, rv2, p2, _⟩ := I.tuple q2.sq
      obtain ⟨n, rfl⟩ : ∃ k, n = k + 1 := by
        cases n with
        | zero => simp [okD] at od
        | succ k => exact ⟨k, rfl⟩
      obtain ⟨m, rfl⟩ : ∃ k, m = k + 1 := by
        cases m with
        | zero => simp [okD] at oe
        | succ k => exact ⟨k, rfl⟩
      have od : okDs ds n = true := by simpa [okD] using od
      have oe : okDs es m = true := by simpa [okD] using oe
      have he : ∀ j (h1 : j < its1.toArray.size) (h2 : j < its2.toArray.size), SeqAt.EqAt A.in1 s its1.toArray[j] its2.toArray[j] (eqj ds es j) := fun j h1 h2 =>
        eqsAt I ds es n m A.in1 xs1 xs2 its1 its2 r1 r2 rv1 rv2 od oe (by show A.units + 1 + n < cLine; omega) j (by simpa using h1) (by simpa using h2)
      have l1 : its1.toArray.size = ds.length := by rw [List.size_toArray, ← rv1.length, r1.length]
      have l2 : its2.toArray.size = es.length := by rw [List.size_toArray, ← rv2.length, r2.length]
      have z : deq (.tup ds) (.tup es) = ((List.range (min its1.toArray.size its2.toArray.size)).all (eqj ds es) && its1.toArray.size == its2.toArray.size) := by
        rw [l1, l2, eqj_all]
        simp only [deq]
      rw [z]
      exact SeqAt.RcAt.tuples p1 p2 (by omega) he
    | lst es =>
      obtain ⟨a2, xs2, rfl, q2, r2⟩ := hy
      cases ry
      obtain ⟨its2, rv2, pl2, _⟩ := I.list (SqL.of q2)
      have p2 := pl2.isList
      simp only [deq]
      exact SeqAt.RcAt.tuple_list p1 p2 (by omega)
    | dic _ _ => simp [okD] at oe
    | ins _ _ _ => simp [okD] at oe
    | scr _ => simp [okD] at oe
  | .lst ds, e, n, m, A, x, y, v, u, hx, hy, rx, ry, od, oe, hu => by
    obtain ⟨a1, xs1, rfl, q1, r1⟩ := hx
    cases rx
    obtain ⟨its1, rv1, pl1, _⟩ := I.list (SqL.of q1)
    have p1 := pl1.isList
    cases e with
    | non =>
      have e0 : y = .non := hy
      subst e0
      cases ry
      simp only [deq]
      exact SeqAt.RcAt.list_none  p1 (by omega)
    | bl c2 =>
      have e0 : y = .bl c2 := hy
      subst e0
      cases ry
      simp only [deq]
      exact SeqAt.RcAt.list_bool c2 p1 (by omega)
    | int c2 =>
      have e0 : y = .int c2 := hy
      subst e0
      obtain ⟨t2, rfl⟩ := ry
      simp only [deq]
      exact SeqAt.RcAt.list_int c2 t2 p1 (by omega)
    | str c2 =>
      have e0 : y = .str c2 := hy
      subst e0
      obtain ⟨t2, rfl⟩ := ry
      simp only [deq]
      exact SeqAt.RcAt.list_str c2 t2 p1 (by omega)
    | tup es =>
      obtain ⟨a2, xs2, rfl, q2, r2⟩ := hy
      cases ry
      obtain ⟨its2, rv2, p2, _⟩ := I.tuple q2.sq
      simp only [deq]
      exact SeqAt.RcAt.list_tuple p1 p2 (by omega)
    | lst es =>
      obtain ⟨a2, xs2, rfl, q2, r2⟩ := hy
      cases ry
      obtain ⟨its2, rv2, pl2, _⟩ := I.list (SqL.of q2)
      have p2 := pl2.isList
      obtain ⟨n, rfl⟩ : ∃ k, n = k + 1 := by
        cases n with
        | zero => simp [okD] at od
        | succ k => exact ⟨k, rfl⟩
      obtain ⟨m, rfl⟩ : ∃ k, m = k + 1 := by
        cases m with
        | zero => simp [okD] at oe
        | succ k => exact ⟨k, rfl⟩
      have od : okDs ds n = true := by simpa [okD] using od
      have oe : okDs es m = true := by simpa [okD] using oe
      have he : ∀ j (h1 : j < its1.toArray.size) (h2 : j < its2.toArray.size), SeqAt.EqAt A.in1 s its1.toArray[j] its2.toArray[j] (eqj ds es j) := fun j h1 h2 =>
        eqsAt I ds es n m A.in1 xs1 xs2 its1 its2 r1 r2 rv1 rv2 od oe (by show A.units + 1 + n < cLine; omega) j (by simpa using h1) (by simpa using h2)
      have l1 : its1.toArray.size = ds.length := by rw [List.size_toArray, ← rv1.length, r1.length]
      have l2 : its2.toArray.size = es.length := by rw [List.size_toArray, ← rv2.length, r2.length]
      by_cases hsz : its1.toArray.size = its2.toArray.size
      · have z : deq (.lst ds) (.lst es) = (List.range its1.toArray.size).all (eqj ds es) := by
          rw [l1, eqj_same (by omega : ds.length = es.length)]
          simp only [deq]
        rw [z]
        exact SeqAt.RcAt.lists p1 p2 hsz (by omega) he
      · have z : deq (.lst ds) (.lst es) = false := by
          simp only [deq]
          exact eqj_other (by omega)
        rw [z]
        exact SeqAt.RcAt.lists_lengths p1 p2 (by simpa using hsz) (by omega)
    | dic _ _ => simp [okD] at oe
    | ins _ _ _ => simp [okD] at oe
    | scr _ => simp [okD] at oe
  | .dic _ _, _, _, _, _, _, _, _, _, _, _, _, _, od, _, _ => by simp [okD] at od
  | .ins _ _ _, _, _, _, _, _, _, _, _, _, _, _, _, od, _, _ => by simp [okD] at od
  | .scr _, _, _, _, _, _, _, _, _, _, _, _, _, od, _, _ => by simp [okD] at od
theorem rcNeAt (I : Inv X pins σ H s) : ∀ (d e : D) (n m : Nat) (A : Around) (x y : V) (v u : Value), RD X.K H x d → RD X.K H y e → RelV x v → RelV y u → okD d n = true → okD e m = true → A.units + n < cLine → SeqAt.RcNeAt A s v u (!deq d e)
  | .non, e, n, m, A, x, y, v, u, hx, hy, rx, ry, od, oe, hu => by
    have e0 : x = .non := hx
    subst e0
    cases rx
    cases e with
    | non =>
      have e0 : y = .non := hy
      subst e0
      cases ry
      simp only [deq, Bool.not_false, Bool.not_true]
      exact SeqAt.RcNeAt.none_none 
    | bl c2 =>
      have e0 : y = .bl c2 := hy
      subst e0
      cases ry
      simp only [deq, Bool.not_false, Bool.not_true]
      exact SeqAt.RcNeAt.none_bool c2
    | int c2 =>
      have e0 : y = .int c2 := hy
      subst e0
      obtain ⟨t2, rfl⟩ := ry
      simp only [deq, Bool.not_false, Bool.not_true]
      exact SeqAt.RcNeAt.none_int c2 t2
    | str c2 =>
      have e0 : y = .str c2 := hy
      subst e0
      obtain ⟨t2, rfl⟩ := ry
      simp only [deq, Bool.not_false, Bool.not_true]
      exact SeqAt.RcNeAt.none_str c2 t2
    | tup es =>
      obtain ⟨a2, xs2, rfl, q2, r2⟩ := hy
      cases ry
      obtain ⟨its2, rv2, p2, _⟩ := I.tuple q2.sq
      simp only [deq, Bool.not_false, Bool.not_true]
      exact SeqAt.RcNeAt.none_tuple  p2 (by omega)
    | lst es =>
      obtain ⟨a2, xs2, rfl, q2, r2⟩ := hy
      cases ry
      obtain ⟨its2, rv2, pl2, _⟩ := I.list (SqL.of q2)
      have p2 := pl2.isList
      simp only [deq, Bool.not_false, Bool.not_true]
      exact SeqAt.RcNeAt.none_list  p2 (by omega)
    | dic _ _ => simp [okD] at oe
    | ins _ _ _ => simp [okD] at oe
    | scr _ => simp [okD] at oe
  | .bl c, e, n, m, A, x, y, v, u, hx, hy, rx, ry, od, oe, hu => by
    have e0 : x = .bl c := hx
    subst e0
    cases rx
    cases e with
    | non =>
      have e0 : y = .non := hy
      subst e0
      cases ry
      simp only [deq, Bool.not_false, Bool.not_true]
      exact SeqAt.RcNeAt.bool_none c
    | bl c2 =>
      have e0 : y = .bl c2 := hy
      subst e0
      cases ry
      simp only [deq, Bool.not_false, Bool.not_true]
      exact SeqAt.RcNeAt.bool_bool c c2
    | int c2 =>
      have e0 : y = .int c2 := hy
      subst e0
      obtain ⟨t2, rfl⟩ := ry
      simp only [deq, Bool.not_false, Bool.not_true]
      exact SeqAt.RcNeAt.bool_int c c2 t2
    | str c2 =>
      have e0 : y = .str c2 := hy
      subst e0
      obtain ⟨t2, rfl⟩ := ry
      simp only [deq, Bool.not_false, Bool.not_true]
      exact SeqAt.RcNeAt.bool_str c c2 t2
    | tup es =>
      obtain ⟨a2, xs2, rfl, q2, r2⟩ := hy
      cases ry
      obtain ⟨its2, rv2, p2, _⟩ := I.tuple q2.sq
      simp only [deq, Bool.not_false, Bool.not_true]
      exact SeqAt.RcNeAt.bool_tuple c p2 (by omega)
    | lst es =>
      obtain ⟨a2, xs2, rfl, q2, r2⟩ := hy
      cases ry
      obtain ⟨its2, rv2, pl2, _⟩ := I.list (SqL.of q2)
      have p2 := pl2.isList
      simp only [deq, Bool.not_false, Bool.not_true]
      exact SeqAt.RcNeAt.bool_list c p2 (by omega)
    | dic _ _ => simp [okD] at oe
    | ins _ _ _ => simp [okD] at oe
    | scr _ => simp [okD] at oe
  | .int c, e, n, m, A, x, y, v, u, hx, hy, rx, ry, od, oe, hu => by
    have e0 : x = .int c := hx
    subst e0
    obtain ⟨t1, rfl⟩ := rx
    cases e with
    | non =>
      have e0 : y = .non := hy
      subst e0
      cases ry
      simp only [deq, Bool.not_false, Bool.not_true]
      exact SeqAt.RcNeAt.int_none c t1
    | bl c2 =>
      have e0 : y = .bl c2 := hy
      subst e0
      cases ry
      simp only [deq, Bool.not_false, Bool.not_true]
      exact SeqAt.RcNeAt.int_bool c t1 c2
    | int c2 =>
      have e0 : y = .int c2 := hy
      subst e0
      obtain ⟨t2, rfl⟩ := ry
      simp only [deq, Bool.not_false, Bool.not_true]
      exact SeqAt.RcNeAt.int_int c t1 c2 t2
    | str c2 =>
      have e0 : y = .str c2 := hy
      subst e0
      obtain ⟨t2, rfl⟩ := ry
      simp only [deq, Bool.not_false, Bool.not_true]
      exact SeqAt.RcNeAt.int_str c t1 c2 t2
    | tup es =>
      obtain ⟨a2, xs2, rfl, q2, r2⟩ := hy
      cases ry
      obtain ⟨its2, rv2, p2, _⟩ := I.tuple q2.sq
      simp only [deq, Bool.not_false, Bool.not_true]
      exact SeqAt.RcNeAt.int_tuple c t1 p2 (by omega)
    | lst es =>
      obtain ⟨a2, xs2, rfl, q2, r2⟩ := hy
      cases ry
      obtain ⟨its2, rv2, pl2, _⟩ := I.list (SqL.of q2)
      have p2 := pl2.isList
      simp only [deq, Bool.not_false, Bool.not_true]
      exact SeqAt.RcNeAt.int_list c t1 p2 (by omega)
    | dic _ _ => simp [okD] at oe
    | ins _ _ _ => simp [okD] at oe
    | scr _ => simp [okD] at oe
  | .str c, e, n, m, A, x, y, v, u, hx, hy, rx, ry, od, oe, hu => by
    have e0 : x = .str c := hx
    subst e0
    obtain ⟨t1, rfl⟩ := rx
    cases e with
    | non =>
      have e0 : y = .non := hy
      subst e0
      cases ry
      simp only [deq, Bool.not_false, Bool.not_true]
      exact SeqAt.RcNeAt.str_none c t1
    | bl c2 =>
      have e0 : y = .bl c2 := hy
      subst e0
      cases ry
      simp only [deq, Bool.not_false, Bool.not_true]
      exact SeqAt.RcNeAt.str_bool c t1 c2
    | int c2 =>
      have e0 : y = .int c2 := hy
      subst e0
      obtain ⟨t2, rfl⟩ := ry
      simp only [deq, Bool.not_false, Bool.not_true]
      exact SeqAt.RcNeAt.str_int c t1 c2 t2
    | str c2 =>
      have e0 : y = .str c2 := hy
      subst e0
      obtain ⟨t2, rfl⟩ := ry
      simp only [deq, Bool.not_false, Bool.not_true]
      exact SeqAt.RcNeAt.str_str c t1 c2 t2
    | tup es =>
      obtain ⟨a2, xs2, rfl, q2, r2⟩ := hy
      cases ry
      obtain ⟨its2, rv2, p2, _⟩ := I.tuple q2.sq
      simp only [deq, Bool.not_false, Bool.not_true]
      exact SeqAt.RcNeAt.str_tuple c t1 p2 (by omega)
    | lst es =>
      obtain ⟨a2, xs2, rfl, q2, r2⟩ := hy
      cases ry
      obtain ⟨its2, rv2, pl2, _⟩ := I.list (SqL.of q2)
      have p2 := pl2.isList
      simp only [deq, Bool.not_false, Bool.not_true]
      exact SeqAt.RcNeAt.str_list c t1 p2 (by omega)
    | dic _ _ => simp [okD] at oe
    | ins _ _ _ => simp [okD] at oe
    | scr _ => simp [okD] at oe
  | .tup ds, e, n, m, A, x, y, v, u, hx, hy, rx, ry, od, oe, hu => by
    obtain ⟨a1, xs1, rfl, q1, r1⟩ := hx
    cases rx
    obtain ⟨its1, rv1, p1, _⟩ := I.tuple q1.sq
    cases e with
    | non =>
      have e0 : y = .non := hy
      subst e0
      cases ry
      simp only [deq, Bool.not_false, Bool.not_true]
      exact SeqAt.RcNeAt.tuple_none  p1 (by omega)
    | bl c2 =>
      have e0 : y = .bl c2 := hy
      subst e0
      cases ry
      simp only [deq, Bool.not_false, Bool.not_true]
      exact SeqAt.RcNeAt.tuple_bool c2 p1 (by omega)
    | int c2 =>
      have e0 : y = .int c2 := hy
      subst e0
      obtain ⟨t2, rfl⟩ := ry
      simp only [deq, Bool.not_false, Bool.not_true]
      exact SeqAt.RcNeAt.tuple_int c2 t2 p1 (by omega)
    | str c2 =>
      have e0 : y = .str c2 := hy
      subst e0
      obtain ⟨t2, rfl⟩ := ry
      simp only [deq, Bool.not_false, Bool.not_true]
      exact SeqAt.RcNeAt.tuple_str c2 t2 p1 (by omega)
    | tup es =>
      obtain ⟨a2, xs2, rfl, q2, r2⟩ := hy
      cases ry
      obtain ⟨its2, rv2, p2, _⟩ := I.tuple q2.sq
      obtain ⟨n, rfl⟩ : ∃ k, n = k + 1 := by
        cases n with
        | zero => simp [okD] at od
        | succ k => exact ⟨k, rfl⟩
      obtain ⟨m, rfl⟩ : ∃ k, m = k + 1 := by
        cases m with
        | zero => simp [okD] at oe
        | succ k => exact ⟨k, rfl⟩
      have od : okDs ds n = true := by simpa [okD] using od
      have oe : okDs es m = true := by simpa [okD] using oe
      have he : ∀ j (h1 : j < its1.toArray.size) (h2 : j < its2.toArray.size), SeqAt.EqAt A.in1 s its1.toArray[j] its2.toArray[j] (eqj ds es j) := fun j h1 h2 =>
        eqsAt I ds es n m A.in1 xs1 xs2 its1 its2 r1 r2 rv1 rv2 od oe (by show A.units + 1 + n < cLine; omega) j (by simpa using h1) (by simpa using h2)
      have l1 : its1.toArray.size = ds.length := by rw [List.size_toArray, ← rv1.length, r1.length]
      have l2 : its2.toArray.size = es.length := by rw [List.size_toArray, ← rv2.length, r2.length]
      have z : deq (.tup ds) (.tup es) = ((List.range (min its1.toArray.size its2.toArray.size)).all (eqj ds es) && its1.toArray.size == its2.toArray.size) := by
        rw [l1, l2, eqj_all]
        simp only [deq]
      rw [z]
      exact SeqAt.RcNeAt.tuples p1 p2 (by omega) he
    | lst es =>
      obtain ⟨a2, xs2, rfl, q2, r2⟩ := hy
      cases ry
      obtain ⟨its2, rv2, pl2, _⟩ := I.list (SqL.of q2)
      have p2 := pl2.isList
      simp only [deq, Bool.not_false, Bool.not_true]
      exact SeqAt.RcNeAt.tuple_list p1 p2 (by omega)
    | dic _ _ => simp [okD] at oe
    | ins _ _ _ => simp [okD] at oe
    | scr _ => simp [okD] at oe
  | .lst ds, e, n, m, A, x, y, v, u, hx, hy, rx, ry, od, oe, hu => by
    obtain ⟨a1, xs1, rfl, q1, r1⟩ := hx
    cases rx
    obtain ⟨its1, rv1, pl1, _⟩ := I.list (SqL.of q1)
    have p1 := pl1.isList
    cases e with
    | non =>
      have e0 : y = .non := hy
      subst e0
      cases ry
      simp only [deq, Bool.not_false, Bool.not_true]
      exact SeqAt.RcNeAt.list_none  p1 (by omega)
    | bl c2 =>
      have e0 : y = .bl c2 := hy
      subst e0
      cases ry
      simp only [deq, Bool.not_false, Bool.not_true]
      exact SeqAt.RcNeAt.list_bool c2 p1 (by omega)
    | int c2 =>
      have e0 : y = .int c2 := hy
      subst e0
      obtain ⟨t2, rfl⟩ := ry
      simp only [deq, Bool.not_false, Bool.not_true]
      exact SeqAt.RcNeAt.list_int c2 t2 p1 (by omega)
    | str c2 =>
      have e0 : y = .str c2 := hy
      subst e0
      obtain ⟨t2, rfl⟩ := ry
      simp only [deq, Bool.not_false, Bool.not_true]
      exact SeqAt.RcNeAt.list_str c2 t2 p1 (by omega)
    | tup es =>
      obtain ⟨a2, xs2, rfl, q2, r2⟩ := hy
      cases ry
      obtain ⟨its2, rv2, p2, _⟩ := I.tuple q2.sq
      simp only [deq, Bool.not_false, Bool.not_true]
      exact SeqAt.RcNeAt.list_tuple p1 p2 (by omega)
    | lst es =>
      obtain ⟨a2, xs2, rfl, q2, r2⟩ := hy
      cases ry
      obtain ⟨its2, rv2, pl2, _⟩ := I.list (SqL.of q2)
      have p2 := pl2.isList
      obtain ⟨n, rfl⟩ : ∃ k, n = k + 1 := by
        cases n with
        | zero => simp [okD] at od
        | succ k => exact ⟨k, rfl⟩
      obtain ⟨m, rfl⟩ : ∃ k, m = k + 1 := by
        cases m with
        | zero => simp [okD] at oe
        | succ k => exact ⟨k, rfl⟩
      have od : okDs ds n = true := by simpa [okD] using od
      have oe : okDs es m = true := by simpa [okD] using oe
      have he : ∀ j (h1 : j < its1.toArray.size) (h2 : j < its2.toArray.size), SeqAt.EqAt A.in1 s its1.toArray[j] its2.toArray[j] (eqj ds es j) := fun j h1 h2 =>
        eqsAt I ds es n m A.in1 xs1 xs2 its1 its2 r1 r2 rv1 rv2 od oe (by show A.units + 1 + n < cLine; omega) j (by simpa using h1) (by simpa using h2)
      have l1 : its1.toArray.size = ds.length := by rw [List.size_toArray, ← rv1.length, r1.length]
      have l2 : its2.toArray.size = es.length := by rw [List.size_toArray, ← rv2.length, r2.length]
      by_cases hsz : its1.toArray.size = its2.toArray.size
      · have z : deq (.lst ds) (.lst es) = (List.range its1.toArray.size).all (eqj ds es) := by
          rw [l1, eqj_same (by omega : ds.length = es.length)]
          simp only [deq]
        rw [z]
        exact SeqAt.RcNeAt.lists p1 p2 hsz (by omega) he
      · have z : deq (.lst ds) (.lst es) = false := by
          simp only [deq]
          exact eqj_other (by omega)
        rw [z]
        exact SeqAt.RcNeAt.lists_lengths p1 p2 (by simpa using hsz) (by omega)
    | dic _ _ => simp [okD] at oe
    | ins _ _ _ => simp [okD] at oe
    | scr _ => simp [okD] at oe
  | .dic _ _, _, _, _, _, _, _, _, _, _, _, _, _, od, _, _ => by simp [okD] at od
  | .ins _ _ _, _, _, _, _, _, _, _, _, _, _, _, _, od, _, _ => by simp [okD] at od
  | .scr _, _, _, _, _, _, _, _, _, _, _, _, _, od, _, _ => by simp [okD] at od
end
end DL
set_option maxRecDepth 100000
set_option maxHeartbeats 4000000
namespace DL
open PySem L2
def gEq (d e : D) : Rs := if okD d 60 && okD e 60 then .val (.bl (deq d e)) else .bad
def gNe (d e : D) : Rs := if okD d 60 && okD e 60 then .val (.bl (!deq d e)) else .bad
def small64 (i : Int) : Bool := decide (-(2 ^ 64) < i) && decide (i < 2 ^ 64)
def gAdd : D → D → Rs
  | .int i, .int j => .val (.int (i + j))
  | .str x, .str y => if x.length + y.length ≤ sizeLine then .val (.str (x ++ y)) else .bad
  | .lst xs, .lst ys => if xs.length + ys.length ≤ sizeLine then .new (.lst (xs ++ ys)) else .bad
  | .tup xs, .tup ys => if xs.length + ys.length ≤ sizeLine then .tupn (xs ++ ys) else .bad
  | _, _ => .bad
def gSub : D → D → Rs
  | .int i, .int j => .val (.int (i - j))
  | _, _ => .bad
def gMul : D → D → Rs
  | .int i, .int j => if small64 i || small64 j then .val (.int (i * j)) else .bad
  | .lst ds, .int k => if 0 ≤ k ∧ k ≤ 1000 ∧ ds.length ≤ 1000 then .new (.lst (List.replicate k.toNat ds).flatten) else .bad
  | .tup ds, .int k => if ds ≠ [] ∧ 2 ≤ k ∧ k ≤ 1000 ∧ ds.length ≤ 1000 then .tupn (List.replicate k.toNat ds).flatten else .bad
  | _, _ => .bad
def gDiv : D → D → Rs
  | .int i, .int j => if 0 < j ∧ j < 1073741824 then .val (.int (i / j)) else .bad
  | _, _ => .bad
def gMod : D → D → Rs
  | .int i, .int j => if 0 < j then .val (.int (i % j)) else .bad
  | _, _ => .bad
def gPow : D → D → Rs
  | .int i, .int j => if 0 ≤ j ∧ j ≤ 1000000 ∧ i.natAbs < 2 ^ 64 then .val (.int (i ^ j.toNat)) else .bad
  | _, _ => .bad
def ints? : List D → Option (List Int)
  | [] => some []
  | .int i :: r => (ints? r).map (i :: ·)
  | _ :: _ => none
def gLt : D → D → Rs
  | .int i, .int j => .val (.bl (decide (i < j)))
  | .str x, .str y => .val (.bl (decide (x.cps.toList < y.cps.toList)))
  | .tup xs, .tup ys => match ints? xs, ints? ys with
    | some ns, some ms => .val (.bl (HT.lexLt ns ms))
    | _, _ => .bad
  | _, _ => .bad
def gLe : D → D → Rs
  | .int i, .int j => .val (.bl (decide (i ≤ j)))
  | _, _ => .bad
def gGt : D → D → Rs
  | .int i, .int j => .val (.bl (decide (j < i)))
  | _, _ => .bad
def gGe : D → D → Rs
  | .int i, .int j => .val (.bl (decide (j ≤ i)))
  | _, _ => .bad
def inStr (x y : Str) : Bool := !(Builtin.Str.occurrences y x 0 y.length 1).isEmpty
def inDs (x : D) (ds : List D) : Bool := ds.any fun z => deq z x
def gIn (x y : D) : Rs := match y with
  | .lst ds => if okD x 60 && okDs ds 60 then .val (.bl (inDs x ds)) else .bad
  | .tup ds => if okD x 60 && okDs ds 60 then .val (.bl (inDs x ds)) else .bad
  | .str z => (match x with
    | .str y => .val (.bl (inStr y z))
    | _ => .bad)
  | _ => .bad
def gNotIn (x y : D) : Rs := match y with
  | .lst ds => if okD x 60 && okDs ds 60 then .val (.bl (!inDs x ds)) else .bad
  | .tup ds => if okD x 60 && okDs ds 60 then .val (.bl (!inDs x ds)) else .bad
  | .str z => (match x with
    | .str y => .val (.bl (!inStr y z))
    | _ => .bad)
  | _ => .bad
def isNon : D → Bool
  | .non => true
  | _ => false
def isBl (b : Bool) : D → Bool
  | .bl c => c == b
  | _ => false
def gIs : D → D → Rs
  | x, .non => .val (.bl (isNon x))
  | x, .bl b => .val (.bl (isBl b x))
  | _, _ => .bad
def gIsNot : D → D → Rs
  | x, .non => .val (.bl (!isNon x))
  | x, .bl b => .val (.bl (!isBl b x))
  | _, _ => .bad

section
variable {K : PySem.W.Frag} {F H : Hp} {v : V}
theorem rd_ints : ∀ {ds : List D} {ns : List Int} {xs : List V}, RDs K F xs ds → ints? ds = some ns → xs = ns.map V.int
  | [], ns, xs, h, e => by
    cases e
    cases xs with
    | nil => rfl
    | cons _ _ => exact h.elim
  | d :: ds, ns, xs, h, e => by
    cases xs with
    | nil => exact h.elim
    | cons x xs =>
      cases d with
      | int i =>
        have e : (ints? ds).map (i :: ·) = some ns := e
        cases q : ints? ds with
        | none => rw [q] at e; cases e
        | some ms =>
          rw [q] at e
          cases e
          have h1 : x = .int i := h.1
          rw [h1, rd_ints (ds := ds) (ns := ms) (xs := xs) h.2 q] <;> rfl
      | _ => cases e
theorem isNon_iff {d : D} (h : RD K F v d) : isNon d = decide (v = .non) := by
  cases d with
  | non => cases (show v = .non from h); rfl
  | bl b => cases (show v = .bl b from h); rfl
  | int b => cases (show v = .int b from h); rfl
  | str b => cases (show v = .str b from h); rfl
  | tup _ => obtain ⟨a, _, rfl, _⟩ := h; rfl
  | lst _ => obtain ⟨a, _, rfl, _⟩ := h; rfl
  | dic _ _ => obtain ⟨a, _, rfl, _⟩ := h; rfl
  | ins _ _ _ => obtain ⟨a, _, _, rfl, _⟩ := h; rfl
  | scr _ => obtain ⟨a, rfl, _⟩ := h; rfl
theorem isBl_iff {d : D} {b : Bool} (h : RD K F v d) : isBl b d = decide (v = .bl b) := by
  cases d with
  | non => cases (show v = .non from h); rfl
  | bl c =>
    cases (show v = .bl c from h)
    show (c == b) = _
    rw [Bool.eq_iff_iff]
    simp
  | int b => cases (show v = .int b from h); rfl
  | str b => cases (show v = .str b from h); rfl
  | tup _ => obtain ⟨a, _, rfl, _⟩ := h; rfl
  | lst _ => obtain ⟨a, _, rfl, _⟩ := h; rfl
  | dic _ _ => obtain ⟨a, _, rfl, _⟩ := h; rfl
  | ins _ _ _ => obtain ⟨a, _, _, rfl, _⟩ := h; rfl
  | scr _ => obtain ⟨a, rfl, _⟩ := h; rfl
theorem rd_plain {d : D} (h : RD K F v d) : (v = .non ∨ (∃ b, v = .bl b) ∨ (∃ i, v = .int i) ∨ (∃ x, v = .str x) ∨ ∃ a, v = .ref a) := by
  cases d with
  | non => exact .inl h
  | bl c => exact .inr (.inl ⟨c, h⟩)
  | int b => exact .inr (.inr (.inl ⟨b, h⟩))
  | str b => exact .inr (.inr (.inr (.inl ⟨b, h⟩)))
  | tup _ => obtain ⟨a, _, e, _⟩ := h; exact .inr (.inr (.inr (.inr ⟨a, e⟩)))
  | lst _ => obtain ⟨a, _, e, _⟩ := h; exact .inr (.inr (.inr (.inr ⟨a, e⟩)))
  | dic _ _ => obtain ⟨a, _, e, _⟩ := h; exact .inr (.inr (.inr (.inr ⟨a, e⟩)))
  | ins _ _ _ => obtain ⟨a, _, _, e, _⟩ := h; exact .inr (.inr (.inr (.inr ⟨a, e⟩)))
  | scr _ => obtain ⟨a, e, _⟩ := h; exact .inr (.inr (.inr (.inr ⟨a, e⟩)))
end

section
variable {X : Cx}
theorem os_eq (hu : X.A.units + 64 < cLine) : OpS X (compareOp .Eq) gEq := by
  refine ⟨fun x y H Q => ∃ d e, RD X.K H x d ∧ RD X.K H y e ∧ okD d 60 = true ∧ okD e 60 = true ∧ Q (.bl (deq d e)) H, ?_, ?_⟩
  · rintro pins s σ H x y v u Q I rx ry ⟨d, e, hd, he, od, oe, q⟩
    exact rcAt I d e 60 60 X.A x y v u hd he rx ry od oe (by omega) X.prog X.w X.xe _ ⟨.bl _, H, I, rfl, q⟩
  · intro F H x y dx dy Q s rx ry q
    unfold gEq at q
    split at q
    · rename_i c
      rw [Bool.and_eq_true] at c
      exact ⟨dx, dy, rx.rd s, ry.rd s, c.1, c.2, q _ rfl⟩
    · exact q.elim
theorem os_ne (hu : X.A.units + 64 < cLine) : OpS X (compareOp .NotEq) gNe := by
  refine ⟨fun x y H Q => ∃ d e, RD X.K H x d ∧ RD X.K H y e ∧ okD d 60 = true ∧ okD e 60 = true ∧ Q (.bl (!deq d e)) H, ?_, ?_⟩
  · rintro pins s σ H x y v u Q I rx ry ⟨d, e, hd, he, od, oe, q⟩
    exact rcNeAt I d e 60 60 X.A x y v u hd he rx ry od oe (by omega) X.prog X.w X.xe _ ⟨.bl _, H, I, rfl, q⟩
  · intro F H x y dx dy Q s rx ry q
    unfold gNe at q
    split at q
    · rename_i c
      rw [Bool.and_eq_true] at c
      exact ⟨dx, dy, rx.rd s, ry.rd s, c.1, c.2, q _ rfl⟩
    · exact q.elim

noncomputable def eqBy (K : PySem.W.Frag) (H : Hp) (d : D) (u : Value) : Bool :=
  @decide (∃ v z, RelV v u ∧ RD K H v z ∧ okD z 60 = true ∧ deq z d = true) (Classical.propDecidable _)
theorem eqBy_at {pins : List (Addr × Obj)} {σ : L2.St} {H : Hp} {s : Shared} (I : Inv X pins σ H s) {d z : D} {v : V} {u : Value} (r : RelV v u) (h : RD X.K H v z) (o : okD z 60 = true) : eqBy X.K H d u = deq z d := by
  cases q : deq z d with
  | true => exact @decide_eq_true _ (Classical.propDecidable _) ⟨v, z, r, h, o, q⟩
  | false =>
    refine @decide_eq_false _ (Classical.propDecidable _) ?_
    rintro ⟨v', z', r', h', o', q'⟩
    have e := r.inj r'
    subst e
    have e := RD.inj I z z' 60 60 v h h' o o'
    subst e
    rw [q] at q'
    cases q'
theorem eqBy_all {pins : List (Addr × Obj)} {σ : L2.St} {H : Hp} {s : Shared} (I : Inv X pins σ H s) {d : D} {x : V} {w : Value} (rw' : RelV x w) (hx : RD X.K H x d) (od : okD d 60 = true) : ∀ (ds : List D) (vs : List V) (us : List Value), RDs X.K H vs ds → Vals vs us → okDs ds 60 = true →
    (us.any (eqBy X.K H d) = inDs d ds) ∧ ∀ u ∈ us, ∀ A : Around, A.units + 60 < cLine → SeqAt.EqAt A s u w (eqBy X.K H d u)
  | [], vs, us, h, r, _ => by
    cases vs with
    | nil =>
      cases r
      exact ⟨rfl, fun u z => by cases z⟩
    | cons _ _ => exact h.elim
  | z :: ds, vs, us, h, r, o => by
    cases vs with
    | nil => exact h.elim
    | cons v vs =>
      cases r with
      | cons r1 r2 =>
        rename_i u us
        have o : okD z 60 = true ∧ okDs ds 60 = true := by simpa [okDs] using o
        obtain ⟨h1, h2⟩ := eqBy_all I rw' hx od ds vs us h.2 r2 o.2
        refine ⟨?_, fun u' hu' A hA => ?_⟩
        · simp only [List.any_cons, inDs, eqBy_at I r1 h.1 o.1]
          rw [h1]
          rfl
        · rcases List.mem_cons.mp hu' with e | hu'
          · subst e
            rw [eqBy_at I r1 h.1 o.1]
            exact eqAt I z d 60 60 A v x _ w h.1 hx r1 rw' o.1 od hA
          · exact h2 u' hu' A hA
theorem os_in (hu : X.A.units + 64 < cLine) : OpS X (compareOp .In) gIn := by
  refine ⟨fun x y H Q => (∃ d ds, RD X.K H x d ∧ okD d 60 = true ∧ okDs ds 60 = true ∧ ((∃ p xs, y = .ref p ∧ SqL X.K H p xs ∧ RDs X.K H xs ds) ∨ ∃ p xs, y = .ref p ∧ SqT X.K H p xs ∧ RDs X.K H xs ds) ∧ Q (.bl (inDs d ds)) H) ∨
      ∃ i j, x = .str i ∧ y = .str j ∧ Q (.bl (inStr i j)) H, ?_, ?_⟩
  · rintro pins s σ H x y v u Q I rx ry (⟨d, ds, hd, od, oe, hs, q⟩ | q)
    · rcases hs with ⟨p, xs, rfl, hq, r⟩ | ⟨p, xs, rfl, hq, r⟩
      · cases ry
        obtain ⟨its, rv, pl, hz⟩ := I.list hq
        obtain ⟨h1, h2⟩ := eqBy_all I rx hd od ds xs its r rv oe
        refine SeqAt.in_listAt (eqBy X.K H d) pl.isList (fun w hw => h2 w (by simpa using hw) _ (by show X.A.units + 1 + 60 < cLine; omega)) ⟨.bl _, H, I, rfl, ?_⟩
        rw [show its.toArray.any (eqBy X.K H d) = its.any (eqBy X.K H d) by simp, h1]
        exact q
      · cases ry
        obtain ⟨its, rv, pl, hz⟩ := I.tuple hq
        obtain ⟨h1, h2⟩ := eqBy_all I rx hd od ds xs its r rv oe
        refine SeqAt.in_tupleAt (eqBy X.K H d) pl (fun w hw => h2 w (by simpa using hw) _ (by show X.A.units + 1 + 60 < cLine; omega)) ⟨.bl _, H, I, rfl, ?_⟩
        rw [show its.toArray.any (eqBy X.K H d) = its.any (eqBy X.K H d) by simp, h1]
        exact q
    · exact op_in_str pins s σ H x y v u Q I rx ry q
  · intro F H x y dx dy Q s rx ry q
    cases dy with
    | lst ds =>
      simp only [gIn] at q
      split at q
      · rename_i c
        rw [Bool.and_eq_true] at c
        obtain ⟨a, xs, e, h, r⟩ := rw_lst s ry
        exact .inl ⟨dx, ds, rx.rd s, c.1, c.2, .inl ⟨a, xs, e, SqL.of h, RDs.mono s _ _ r⟩, q _ rfl⟩
      · exact q.elim
    | tup ds =>
      simp only [gIn] at q
      split at q
      · rename_i c
        rw [Bool.and_eq_true] at c
        obtain ⟨a, xs, e, h, r⟩ := rw_tup ry
        exact .inl ⟨dx, ds, rx.rd s, c.1, c.2, .inr ⟨a, xs, e, (h.mono s).sq, RDs.mono s _ _ r⟩, q _ rfl⟩
      · exact q.elim
    | str y' =>
      cases dx with
      | str x' => exact .inr ⟨x', y', rw_str rx, rw_str ry, q _ rfl⟩
      | _ => exact q.elim
    | _ => exact q.elim
theorem os_notIn (hu : X.A.units + 64 < cLine) : OpS X (compareOp .NotIn) gNotIn := by
  refine ⟨fun x y H Q => (∃ d ds, RD X.K H x d ∧ okD d 60 = true ∧ okDs ds 60 = true ∧ ((∃ p xs, y = .ref p ∧ SqL X.K H p xs ∧ RDs X.K H xs ds) ∨ ∃ p xs, y = .ref p ∧ SqT X.K H p xs ∧ RDs X.K H xs ds) ∧ Q (.bl (!inDs d ds)) H) ∨
      ∃ i j, x = .str i ∧ y = .str j ∧ Q (.bl (!inStr i j)) H, ?_, ?_⟩
  · rintro pins s σ H x y v u Q I rx ry (⟨d, ds, hd, od, oe, hs, q⟩ | q)
    · rcases hs with ⟨p, xs, rfl, hq, r⟩ | ⟨p, xs, rfl, hq, r⟩
      · cases ry
        obtain ⟨its, rv, pl, hz⟩ := I.list hq
        obtain ⟨h1, h2⟩ := eqBy_all I rx hd od ds xs its r rv oe
        refine SeqAt.notIn_listAt (eqBy X.K H d) pl.isList (fun w hw => h2 w (by simpa using hw) _ (by show X.A.units + 1 + 60 < cLine; omega)) ⟨.bl _, H, I, rfl, ?_⟩
        rw [show its.toArray.any (eqBy X.K H d) = its.any (eqBy X.K H d) by simp, h1]
        exact q
      · cases ry
        obtain ⟨its, rv, pl, hz⟩ := I.tuple hq
        obtain ⟨h1, h2⟩ := eqBy_all I rx hd od ds xs its r rv oe
        refine SeqAt.notIn_tupleAt (eqBy X.K H d) pl (fun w hw => h2 w (by simpa using hw) _ (by show X.A.units + 1 + 60 < cLine; omega)) ⟨.bl _, H, I, rfl, ?_⟩
        rw [show its.toArray.any (eqBy X.K H d) = its.any (eqBy X.K H d) by simp, h1]
        exact q
    · exact op_notin_str pins s σ H x y v u Q I rx ry q
  · intro F H x y dx dy Q s rx ry q
    cases dy with
    | lst ds =>
      simp only [gNotIn] at q
      split at q
      · rename_i c
        rw [Bool.and_eq_true] at c
        obtain ⟨a, xs, e, h, r⟩ := rw_lst s ry
        exact .inl ⟨dx, ds, rx.rd s, c.1, c.2, .inl ⟨a, xs, e, SqL.of h, RDs.mono s _ _ r⟩, q _ rfl⟩
      · exact q.elim
    | tup ds =>
      simp only [gNotIn] at q
      split at q
      · rename_i c
        rw [Bool.and_eq_true] at c
        obtain ⟨a, xs, e, h, r⟩ := rw_tup ry
        exact .inl ⟨dx, ds, rx.rd s, c.1, c.2, .inr ⟨a, xs, e, (h.mono s).sq, RDs.mono s _ _ r⟩, q _ rfl⟩
      · exact q.elim
    | str y' =>
      cases dx with
      | str x' => exact .inr ⟨x', y', rw_str rx, rw_str ry, q _ rfl⟩
      | _ => exact q.elim
    | _ => exact q.elim
theorem os_is : OpS X (compareOp .Is) gIs := by
  refine ⟨fun x y H Q => (∃ b, y = .bl b ∧ (∃ d, RD X.K H x d) ∧ Q (.bl (decide (x = .bl b))) H) ∨ (y = .non ∧ Q (.bl (decide (x = .non))) H), ?_, ?_⟩
  · rintro pins s σ H x y v u Q I rx ry (⟨b, rfl, ⟨d, hd⟩, q⟩ | q)
    · cases ry
      rcases rd_plain hd with rfl | ⟨c, rfl⟩ | ⟨c, rfl⟩ | ⟨c, rfl⟩ | ⟨c, rfl⟩
      · cases rx
        exact wpAny_pure ⟨.bl false, H, I, rfl, by simpa using q⟩
      · exact op_isBl pins s σ H _ _ v _ Q I rx (show RelV (.bl b) (.bool b) from rfl) ⟨c, b, rfl, rfl, by simpa using q⟩
      · obtain ⟨t, rfl⟩ := rx
        exact wpAny_pure ⟨.bl false, H, I, rfl, by simpa using q⟩
      · obtain ⟨t, rfl⟩ := rx
        exact wpAny_pure ⟨.bl false, H, I, rfl, by simpa using q⟩
      · cases rx
        exact wpAny_pure ⟨.bl false, H, I, rfl, by simpa using q⟩
    · exact op_isN pins s σ H x y v u Q I rx ry q
  · intro F H x y dx dy Q s rx ry q
    have hx := rx.rd s
    cases dy with
    | non => exact .inr ⟨rw_non ry, q _ (congrArg V.bl (isNon_iff hx).symm)⟩
    | bl b => exact .inl ⟨b, rw_bl ry, ⟨dx, hx⟩, q _ (congrArg V.bl (isBl_iff hx).symm)⟩
    | _ => exact q.elim
theorem os_isNot : OpS X (compareOp .IsNot) gIsNot := by
  refine ⟨fun x y H Q => (∃ b, y = .bl b ∧ (∃ d, RD X.K H x d) ∧ Q (.bl (!decide (x = .bl b))) H) ∨ (y = .non ∧ Q (.bl (!decide (x = .non))) H), ?_, ?_⟩
  · rintro pins s σ H x y v u Q I rx ry (⟨b, rfl, ⟨d, hd⟩, q⟩ | q)
    · cases ry
      rcases rd_plain hd with rfl | ⟨c, rfl⟩ | ⟨c, rfl⟩ | ⟨c, rfl⟩ | ⟨c, rfl⟩
      · cases rx
        exact wpAny_pure ⟨.bl true, H, I, rfl, by simpa using q⟩
      · exact op_notBl pins s σ H _ _ v _ Q I rx (show RelV (.bl b) (.bool b) from rfl) ⟨c, b, rfl, rfl, by simpa using q⟩
      · obtain ⟨t, rfl⟩ := rx
        exact wpAny_pure ⟨.bl true, H, I, rfl, by simpa using q⟩
      · obtain ⟨t, rfl⟩ := rx
        exact wpAny_pure ⟨.bl true, H, I, rfl, by simpa using q⟩
      · cases rx
        exact wpAny_pure ⟨.bl true, H, I, rfl, by simpa using q⟩
    · exact op_notN pins s σ H x y v u Q I rx ry q
  · intro F H x y dx dy Q s rx ry q
    have hx := rx.rd s
    cases dy with
    | non => exact .inr ⟨rw_non ry, q _ (congrArg (fun b => V.bl (!b)) (isNon_iff hx).symm)⟩
    | bl b => exact .inl ⟨b, rw_bl ry, ⟨dx, hx⟩, q _ (congrArg (fun b => V.bl (!b)) (isBl_iff hx).symm)⟩
    | _ => exact q.elim
end
end DL
set_option maxRecDepth 100000
set_option maxHeartbeats 4000000
namespace DL
open PySem L2
abbrev tupO (its : List Value) : Obj := { cls := .type "tuple", data := .seq its.toArray }
section
variable {X : Cx} {pins : List (Addr × Obj)} {σ : L2.St} {H : Hp} {s : Shared}
theorem Inv.tupLk {xs : List V} {its : List Value} {t' : Nat} (I : Inv X pins σ H s) (hv : Vals xs its) (hz : xs.length ≤ sizeLine) :
    Inv X pins σ (upd H s.heap.objs.size (.frz (tupO its) (.tup xs))) { s with heap := s.heap.push (tupO its), toks := t' } := by
  refine I.laid (fun b u e => Heap.get?_push_of_some _ e) (Nat.le_refl _) ?_
  exact ⟨Heap.get?_push_size _ rfl, hz, its, hv, ⟨_, Heap.get?_push_size _ rfl, rfl, _, rfl⟩⟩
def rCatX (K : PySem.W.Frag) : R2 := fun x y H Q => ∃ a b xs ys, x = .ref a ∧ y = .ref b ∧ SqT K H a xs ∧ SqT K H b ys ∧ xs.length + ys.length ≤ sizeLine ∧
  (xs = [] → Q (.ref b) H) ∧ (xs ≠ [] → ys = [] → Q (.ref a) H) ∧ (∀ p o, H p = none → o.dict = none → Q (.ref p) (upd H p (.frz o (.tup (xs ++ ys)))))
theorem op_catX : OpR X (binaryOp .Add) (rCatX X.K) := by
  rintro pins s σ H x y v u Q I rx ry ⟨a, b, xs, ys, rfl, rfl, ha, hb, hz, q0, q1, q2⟩
  cases rx
  cases ry
  obtain ⟨its, r1, p1, _⟩ := I.tuple ha
  obtain ⟨its2, r2, p2, _⟩ := I.tuple hb
  by_cases hx : xs = []
  · subst hx
    cases r1
    exact cat_tup0 p1 p2 ⟨.ref b, H, I, rfl, q0 rfl⟩
  · refine HT.cat_tup p1 p2 (fun z => hx (r1.nil_iff.mp z)) (fun z => ⟨.ref a, H, I, rfl, q1 hx (r2.nil_iff.mp z)⟩) (fun z => ?_) (by rw [← r1.length, ← r2.length]; exact hz)
    exact ⟨.ref s.heap.objs.size, _, Inv.tupLk (t' := s.toks) I (r1.append r2) (by rw [List.length_append]; exact hz), rfl, q2 _ _ (I.hok.fresh (Nat.le_refl _)) rfl⟩
end
section
variable {X : Cx}
theorem os_add : OpS X (binaryOp .Add) gAdd := by
  refine ⟨_, op_add.or (op_add_str.or (op_cat.or op_catX)), ?_⟩
  intro F H x y dx dy Q s rx ry q
  cases dx with
  | int i =>
    cases dy with
    | int j => exact .inl ⟨i, j, rw_int rx, rw_int ry, q _ rfl⟩
    | _ => exact q.elim
  | str i =>
    cases dy with
    | str j =>
      simp only [gAdd] at q
      split at q
      · rename_i c
        exact .inr (.inl ⟨i, j, rw_str rx, rw_str ry, c, q _ rfl⟩)
      · exact q.elim
    | _ => exact q.elim
  | lst ds =>
    cases dy with
    | lst es =>
      simp only [gAdd] at q
      split at q
      · rename_i c
        obtain ⟨a, xs, e1, h1, r1⟩ := rw_lst s rx
        obtain ⟨b, ys, e2, h2, r2⟩ := rw_lst s ry
        refine .inr (.inr (.inl ⟨a, b, xs, ys, e1, e2, h1, h2, by rw [r1.length, r2.length]; exact c, fun p hp => q p _ hp (fun a ha => upd_ne ha) ⟨_, upd_same, r1.append r2⟩⟩))
      · exact q.elim
    | _ => exact q.elim
  | tup ds =>
    cases dy with
    | tup es =>
      simp only [gAdd] at q
      split at q
      · rename_i c
        obtain ⟨a, xs, e1, h1, r1⟩ := rw_tup rx
        obtain ⟨b, ys, e2, h2, r2⟩ := rw_tup ry
        subst e1 e2
        refine .inr (.inr (.inr ⟨a, b, xs, ys, rfl, rfl, (h1.mono s).sq, (h2.mono s).sq, by rw [r1.length, r2.length]; exact c, fun e => ?_, fun _ e => ?_, fun p o hp ho => q.2 p _ o hp (r1.append r2) ho⟩))
        · subst e
          cases ds with
          | nil => exact q.1 _ ⟨b, ys, rfl, h2, by simpa using r2⟩
          | cons _ _ => exact r1.elim
        · subst e
          cases es with
          | nil => exact q.1 _ ⟨a, xs, rfl, h1, by simpa using r1⟩
          | cons _ _ => exact r2.elim
      · exact q.elim
    | _ => exact q.elim
  | _ => exact q.elim
theorem os_sub : OpS X (binaryOp .Sub) gSub := by
  refine ⟨_, op_sub, fun F H x y dx dy Q s rx ry q => ?_⟩
  cases dx with
  | int i =>
    cases dy with
    | int j => exact ⟨i, j, rw_int rx, rw_int ry, q _ rfl⟩
    | _ => exact q.elim
  | _ => exact q.elim
theorem small64_ok {i : Int} (h : small64 i = true) : -(2 ^ 64) < i ∧ i < 2 ^ 64 := by
  unfold small64 at h
  rw [Bool.and_eq_true] at h
  exact ⟨of_decide_eq_true h.1, of_decide_eq_true h.2⟩
def rRepX (K : PySem.W.Frag) : R2 := fun x y H Q => ∃ l k xs, x = .ref l ∧ y = .int k ∧ SqT K H l xs ∧ xs ≠ [] ∧ 2 ≤ k ∧ k ≤ 1000 ∧ xs.length ≤ 1000 ∧ ∀ p o, H p = none → o.dict = none → Q (.ref p) (upd H p (.frz o (.tup (List.replicate k.toNat xs).flatten)))
theorem rep_flat (its : List Value) (m : Nat) : List.foldl (fun a b => a ++ b) #[] (List.replicate m its.toArray) = ((List.replicate m its).flatten).toArray := size_rep its m
theorem rep_small {α : Type} {xs : List α} {k : Int} (hk : k ≤ 1000) (hx : xs.length ≤ 1000) : ((List.replicate k.toNat xs).flatten).length ≤ sizeLine := by
  refine Nat.le_trans ?_ (show 1000 * 1000 ≤ sizeLine by decide)
  rw [List.length_flatten, List.map_replicate, List.sum_replicate_nat]
  exact Nat.mul_le_mul (by omega) hx
theorem op_repX : OpR X (binaryOp .Mult) (rRepX X.K) := by
  rintro pins s σ H x y v u Q I rx ry ⟨l, k, xs, rfl, hy, hT, hne, h1, h2, hz, q⟩
  subst hy
  have ry : ∃ t, u = Value.int k t := ry
  obtain ⟨t, rfl⟩ := ry
  cases rx
  obtain ⟨its, r, ⟨ob, ho, hc, n, hd⟩, _⟩ := I.tuple hT
  obtain ⟨cl, dd, da, sl⟩ := ob
  replace hc : cl = .type "tuple" := hc
  replace hd : da = .seq its.toArray n := hd
  subst hc hd
  have hle := r.length
  have hz2 : its.length ≤ 1000 := by omega
  have hi : its.toArray.isEmpty = false := by
    cases its with
    | nil => exact absurd (List.eq_nil_of_length_eq_zero hle) hne
    | cons _ _ => rfl
  have big : (its.length : Int) * k ≤ 1000 * 1000 := Int.le_trans (Int.mul_le_mul_of_nonneg_right (c := k) (by omega : (its.length : Int) ≤ 1000) (by omega)) (by omega)
  have big2 : (its.toArray.size : Int) * k ≤ 1000 * 1000 := big
  have fl : (List.foldl (fun a b => a ++ b) #[] (List.replicate k.toNat its.toArray)).size ≤ sizeLine := by
    rw [rep_flat]
    exact rep_small h2 hz2
  have w := tuple_mulW l its.toArray n dd sl k t (by simp; omega) (by rw [hi]; simp; omega) (by rw [hi]; simp; omega) (by omega) (by unfold Builtin.Tuple.tupleTooMany; rw [sizeLine_eq]; simp; omega) fl
  have ty : s.TypeIs (.ref l) "tuple" := ⟨_, ho, rfl⟩
  refine wpAny_binaryOp_repeat_ref (T := "tuple") (U := "int") (by decide) ty (fun z => typeIs_int z k t) noFill_tuple_mul F.fills_int_mul F.slot_int_rmul repeat_tuple F.slot_int_index.lookup ?_
  refine call_meets F.slot_int_rmul (typeIs_int s k t) F.entry_int_rmul (F.args_int_rmul_2 _ _) (int_rmul_tuple k t l its.toArray n dd sl) ⟨ho, rfl, ty, ?_⟩
  refine call_meets F.slot_tuple_mul ty F.entry_tuple_mul (F.args_tuple_mul_2 _ _) w ⟨ho, ?_⟩
  rw [rep_flat]
  exact ⟨.ref s.heap.objs.size, _, Inv.tupLk (t' := s.toks) I (r.rep k.toNat) (rep_small h2 hz), rfl, q _ _ (I.hok.fresh (Nat.le_refl _)) rfl⟩
theorem RDs.rep {K : PySem.W.Frag} {F : Hp} {vs : List V} {ds : List D} (h : RDs K F vs ds) : ∀ n : Nat, RDs K F (List.replicate n vs).flatten (List.replicate n ds).flatten
  | 0 => trivial
  | n + 1 => by
    rw [List.replicate_succ, List.replicate_succ, List.flatten_cons, List.flatten_cons]
    exact RDs.append h (RDs.rep h n)
theorem os_mul : OpS X (binaryOp .Mult) gMul := by
  refine ⟨_, op_mul.or (op_rep.or op_repX), fun F H x y dx dy Q s rx ry q => ?_⟩
  cases dx with
  | int i =>
    cases dy with
    | int j =>
      simp only [gMul] at q
      split at q
      · rename_i c
        refine .inl ⟨i, j, rw_int rx, rw_int ry, ?_, q _ rfl⟩
        rw [Bool.or_eq_true] at c
        exact c.imp small64_ok small64_ok
      · exact q.elim
    | _ => exact q.elim
  | lst ds =>
    cases dy with
    | int k =>
      simp only [gMul] at q
      split at q
      · rename_i c
        obtain ⟨c1, c2, c3⟩ := c
        obtain ⟨a, xs, e1, h1, r1⟩ := rw_lst s rx
        refine .inr (.inl ⟨a, k, xs, e1, rw_int ry, h1, by omega, by omega, ?_, fun p hp => q p _ hp (fun a ha => upd_ne ha) ⟨_, upd_same, r1.rep k.toNat⟩⟩)
        rw [r1.length, sizeLine_eq]
        have a1 : ds.length * k.toNat ≤ 1000 * 1000 := Nat.mul_le_mul c3 (by omega)
        omega
      · exact q.elim
    | _ => exact q.elim
  | tup ds =>
    cases dy with
    | int k =>
      simp only [gMul] at q
      split at q
      · rename_i c
        obtain ⟨c1, c2, c3, c4⟩ := c
        obtain ⟨a, xs, e1, h1, r1⟩ := rw_tup rx
        subst e1
        refine .inr (.inr ⟨a, k, xs, rfl, rw_int ry, (h1.mono s).sq, fun e => ?_, c2, c3, by rw [r1.length]; exact c4, fun p o hp ho => q.2 p _ o hp (r1.rep k.toNat) ho⟩)
        subst e
        cases ds with
        | nil => exact c1 rfl
        | cons _ _ => exact r1.elim
      · exact q.elim
    | _ => exact q.elim
  | _ => exact q.elim
theorem os_div : OpS X (binaryOp .FloorDiv) gDiv := by
  refine ⟨_, op_fdiv, fun F H x y dx dy Q s rx ry q => ?_⟩
  cases dx with
  | int i =>
    cases dy with
    | int j =>
      simp only [gDiv] at q
      split at q
      · rename_i c
        exact ⟨i, j, rw_int rx, rw_int ry, c, q _ rfl⟩
      · exact q.elim
    | _ => exact q.elim
  | _ => exact q.elim
theorem os_mod : OpS X (binaryOp .Mod) gMod := by
  refine ⟨_, op_mod, fun F H x y dx dy Q s rx ry q => ?_⟩
  cases dx with
  | int i =>
    cases dy with
    | int j =>
      simp only [gMod] at q
      split at q
      · rename_i c
        exact ⟨i, j, rw_int rx, rw_int ry, c, q _ rfl⟩
      · exact q.elim
    | _ => exact q.elim
  | _ => exact q.elim
theorem os_pow : OpS X (binaryOp .Pow) gPow := by
  refine ⟨_, op_pow, fun F H x y dx dy Q s rx ry q => ?_⟩
  cases dx with
  | int i =>
    cases dy with
    | int j =>
      simp only [gPow] at q
      split at q
      · rename_i c
        exact ⟨i, j, rw_int rx, rw_int ry, c, q _ rfl⟩
      · exact q.elim
    | _ => exact q.elim
  | _ => exact q.elim
theorem os_lt (hu : X.A.units + 64 < cLine) : OpS X (compareOp .Lt) gLt := by
  refine ⟨_, op_lt.or (op_lt_str.or (op_ltT (by omega))), fun F H x y dx dy Q s rx ry q => ?_⟩
  cases dx with
  | int i =>
    cases dy with
    | int j => exact .inl ⟨i, j, rw_int rx, rw_int ry, q _ rfl⟩
    | _ => exact q.elim
  | str i =>
    cases dy with
    | str j => exact .inr (.inl ⟨i, j, rw_str rx, rw_str ry, q _ rfl⟩)
    | _ => exact q.elim
  | tup ds =>
    cases dy with
    | tup es =>
      simp only [gLt] at q
      split at q
      · rename_i ns ms e1 e2
        obtain ⟨a, xs, g1, h1, r1⟩ := rw_tup rx
        obtain ⟨b, ys, g2, h2, r2⟩ := rw_tup ry
        have z1 := rd_ints r1 e1
        have z2 := rd_ints r2 e2
        subst z1 z2
        exact .inr (.inr ⟨a, b, ns, ms, g1, g2, (h1.mono s).sq, (h2.mono s).sq, q _ rfl⟩)
      · exact q.elim
    | _ => exact q.elim
  | _ => exact q.elim
theorem os_le : OpS X (compareOp .LtE) gLe := by
  refine ⟨_, op_le, fun F H x y dx dy Q s rx ry q => ?_⟩
  cases dx with
  | int i =>
    cases dy with
    | int j => exact ⟨i, j, rw_int rx, rw_int ry, q _ rfl⟩
    | _ => exact q.elim
  | _ => exact q.elim
theorem os_gt : OpS X (compareOp .Gt) gGt := by
  refine ⟨_, op_gt, fun F H x y dx dy Q s rx ry q => ?_⟩
  cases dx with
  | int i =>
    cases dy with
    | int j => exact ⟨i, j, rw_int rx, rw_int ry, q _ rfl⟩
    | _ => exact q.elim
  | _ => exact q.elim
theorem os_ge : OpS X (compareOp .GtE) gGe := by
  refine ⟨_, op_ge, fun F H x y dx dy Q s rx ry q => ?_⟩
  cases dx with
  | int i =>
    cases dy with
    | int j => exact ⟨i, j, rw_int rx, rw_int ry, q _ rfl⟩
    | _ => exact q.elim
  | _ => exact q.elim
end
end DL
set_option maxRecDepth 100000
set_option maxHeartbeats 4000000
namespace DL
open PySem L2
def RIs (K : PySem.W.Frag) (H0 F H : Hp) (σ : L2.St) (st : Sls) : List V → List Itm → Prop
  | [], [] => True
  | v :: vs, it :: its => RI K H0 F H σ st v it ∧ (∀ m, it = .own m → ∀ w m', (w, Itm.own m') ∈ vs.zip its → w ≠ v) ∧ RIs K H0 F H σ st vs its
  | _, _ => False
section
variable {K : PySem.W.Frag} {H0 H1 F H F' H' : Hp} {σ : L2.St} {st st' : Sls}
theorem RIs.back (h : ∀ a, H0 a ≠ none → H1 a ≠ none) : ∀ {vs : List V} {its : List Itm}, RIs K H1 F H σ st vs its → RIs K H0 F H σ st vs its
  | [], [], _ => trivial
  | [], _ :: _, q => q.elim
  | _ :: _, [], q => q.elim
  | _ :: vs, _ :: its, q => ⟨q.1.back h, q.2.1, RIs.back h (vs := vs) (its := its) q.2.2⟩
theorem RIs.step (s : Stp K σ F H st σ F' H' st') : ∀ {vs : List V} {its : List Itm}, RIs K H0 F H σ st vs its → RIs K H0 F' H' σ st' vs its
  | [], [], _ => trivial
  | [], _ :: _, q => q.elim
  | _ :: _, [], q => q.elim
  | _ :: vs, _ :: its, q => ⟨q.1.step s, q.2.1, RIs.step s (vs := vs) (its := its) q.2.2⟩
theorem RIs.length : ∀ {vs : List V} {its : List Itm}, RIs K H0 F H σ st vs its → vs.length = its.length
  | [], [], _ => rfl
  | [], _ :: _, q => q.elim
  | _ :: _, [], q => q.elim
  | _ :: vs, _ :: its, q => congrArg (· + 1) (RIs.length (vs := vs) (its := its) q.2.2)
theorem RIs.fresh : ∀ {vs : List V} {its : List Itm}, RIs K H0 F H σ st vs its → ∀ w m, (w, Itm.own m) ∈ vs.zip its → ∃ p, w = .ref p ∧ H0 p = none
  | [], [], _, w, m, h => by simp at h
  | [], _ :: _, q, _, _, _ => q.elim
  | _ :: _, [], q, _, _, _ => q.elim
  | v :: vs, it :: its, q, w, m, h => by
    rw [List.zip_cons_cons] at h
    rcases List.mem_cons.mp h with e | h
    · cases e
      obtain ⟨p, e, h0, _⟩ := q.1
      exact ⟨p, e, h0⟩
    · exact RIs.fresh (vs := vs) (its := its) q.2.2 w m h
end
abbrev FA := Sls → Ot (List Itm)
def tA (K : PySem.W.Frag) (W : WX) (f : FA) : TA := fun σ H Q => ∃ F st, Rl K F H σ st ∧ Go K W σ F H st (f st) (fun its F' H' st' => ∀ vs, RIs K H F' H' σ st' vs its → Q vs H')
structure DA (X : Cx) (W : WX) (es : List Expr) (f : FA) : Prop where
  pa : PA X es (tA X.K W f)
  len : ∀ st its st', f st = .ok its st' → its.length = es.length
theorem PA.conseq {X : Cx} {es : List Expr} {t t' : TA} (h : PA X es t) (i : ∀ σ H Q, t' σ H Q → t σ H Q) : PA X es t' := ⟨fun pos pins s σ H Q I q => h.run pos pins s σ H Q I (i σ H Q q)⟩
def fNil : FA := fun st => .ok [] st
def fCons (fa : FE) (fr : FA) : FA := fun st => (fa st).bind fun ia s1 => (fr s1).bind fun its s2 => .ok (ia :: its) s2
theorem Ot.bind_ok {α β : Type} {o : Ot α} {k : α → Sls → Ot β} {b : β} {st : Sls} (h : o.bind k = .ok b st) : ∃ a s1, o = .ok a s1 ∧ k a s1 = .ok b st := by
  cases o with
  | ok a s1 => exact ⟨a, s1, rfl, h⟩
  | exc e s1 => cases h
  | bad => cases h
section
variable {X : Cx} {W : WX} {e : Expr} {es : List Expr} {fa : FE} {fr : FA}
theorem da_nil : DA X W [] fNil := ⟨PA.conseq pa_nil fun σ H Q h => by
  obtain ⟨F, st, R, g⟩ := h
  exact g F H (Stp.refl R) [] trivial, fun st its st' h => by
  unfold fNil at h
  cases h
  rfl⟩
theorem da_cons (ha : DE X W e fa) (hr : DA X W es fr) (hs : starEach (e :: es) X.env = (false, eval e X.env) :: starEach es X.env := by rfl) : DA X W (e :: es) (fCons fa fr) := ⟨PA.conseq (pa_cons ha hr.pa hs) fun σ H Q h => by
  obtain ⟨F, st, R, g0⟩ := h
  refine ⟨F, st, R, (Go.bind g0).imp fun ia F1 H1 s1 p1 g1 v r1 => ⟨F1, s1, p1.rel, (Go.bind g1).shift p1 fun its F2 H2 s2 p2 p02 g2 vs r2 => g2 F2 H2 p02 (v :: vs) ⟨r1.step p2, fun m hm w m' hw z => ?_, r2.back p1.there⟩⟩⟩
  subst hm
  obtain ⟨p, e1, _, _, _, rm⟩ := r1
  obtain ⟨q, e2, hq⟩ := r2.fresh w m' hw
  rw [e2, e1] at z
  cases z
  exact rm.there hq, fun st its st' h => by
  obtain ⟨ia, s1, h1, h2⟩ := Ot.bind_ok h
  obtain ⟨its', s2, h3, h4⟩ := Ot.bind_ok h2
  cases h4
  rw [List.length_cons, List.length_cons, hr.len _ _ _ h3]⟩
end

def frz : Itm → Sls → Option (D × Sls)
  | .d x, st => some (x, st)
  | .own m, st => some (m.toD, st)
  | .ref i, st => match st[i]? with
    | some (.d x) => some (x, st)
    | some (.own m) => some (m.toD, st.set i (.d m.toD))
    | _ => none
def frzs : List Itm → Sls → Option (List D × Sls)
  | [], st => some ([], st)
  | it :: its, st => match frz it st with
    | some (x, s1) => (match frzs its s1 with
      | some (xs, s2) => some (x :: xs, s2)
      | none => none)
    | none => none
section
variable {K : PySem.W.Frag} {W : WX} {σ0 σ : L2.St} {F H F1 H1 : Hp} {st s1 s2 : Sls}
theorem Rl.lock {p : Addr} {o : HO} (R : Rl K F H σ st) (fp : F p = none) (hp : H p = some o) (n : ¬ Own σ st p) : Rl K (upd F p o) H σ st := by
  have sm : Same F (upd F p o) := fun a u e => by rw [upd_ne (ne_of_none e fp)]; exact e
  refine ⟨fun a u e => ?_, R.len, fun i s e => ?_, R.apart⟩
  · by_cases z : a = p
    · subst z
      rw [upd_same] at e
      rw [hp, e]
    · rw [upd_ne z] at e
      exact R.sub a u e
  · obtain ⟨ov, h1, h2⟩ := R.at_ i s e
    refine ⟨ov, h1, ?_⟩
    cases s with
    | un => trivial
    | cls c => exact h2
    | exc q u => exact ⟨h2.1, h2.2.mono sm⟩
    | d x =>
      obtain ⟨v, e1, r⟩ := h2
      exact ⟨v, e1, RD.mono sm x v r⟩
    | own m =>
      obtain ⟨a, e1, f, r⟩ := h2
      have z : a ≠ p := fun q => n ⟨i, ⟨m, e⟩, by rw [h1, e1, q]⟩
      exact ⟨a, e1, by rw [upd_ne z]; exact f, r.mono sm rfl⟩
theorem Rl.own_off {i : Nat} {m : MO} {p : Addr} {o : HO} (R : Rl K F H σ st) (e : st[i]? = some (.own m)) (h : σ[i]? = some (some (.ref p))) (hp : H p = some o) : Rl K (upd F p o) H σ (st.set i (.d m.toD)) := by
  have oi : OwnAt σ st p i := ⟨⟨m, e⟩, h⟩
  have fp := (R.own_free ⟨i, oi⟩).1
  have hi : i < st.length := (List.getElem?_eq_some_iff.mp e).1
  have sm : Same F (upd F p o) := fun a u e => by rw [upd_ne (ne_of_none e fp)]; exact e
  refine ⟨fun a u e => ?_, by rw [List.length_set]; exact R.len, fun j s ej => ?_, fun a j k h1 h2 => ?_⟩
  · by_cases z : a = p
    · subst z
      rw [upd_same] at e
      rw [hp, e]
    · rw [upd_ne z] at e
      exact R.sub a u e
  · by_cases z : j = i
    · subst z
      rw [List.getElem?_set_self hi] at ej
      cases ej
      obtain ⟨ov, h1, p', e1, f, r⟩ := R.at_ j _ e
      rw [h] at h1
      cases h1
      cases e1
      exact ⟨_, h, .ref p, rfl, r.rd sm (upd_same.trans hp.symm)⟩
    · rw [List.getElem?_set_ne (Ne.symm z)] at ej
      obtain ⟨ov, h1, h2⟩ := R.at_ j s ej
      refine ⟨ov, h1, ?_⟩
      cases s with
      | un => trivial
      | cls c => exact h2
      | exc q u => exact ⟨h2.1, h2.2.mono sm⟩
      | d x =>
        obtain ⟨v, e1, r⟩ := h2
        exact ⟨v, e1, RD.mono sm x v r⟩
      | own m' =>
        obtain ⟨a, e1, f, r⟩ := h2
        have z2 : a ≠ p := fun q => z (R.apart p j i ⟨⟨m', ej⟩, by rw [h1, e1, q]⟩ oi)
        exact ⟨a, e1, by rw [upd_ne z2]; exact f, r.mono sm rfl⟩
  · obtain ⟨⟨m1, a1⟩, b1⟩ := h1
    obtain ⟨⟨m2, a2⟩, b2⟩ := h2
    have nj : j ≠ i := fun q => by
      rw [q, List.getElem?_set_self hi] at a1
      cases a1
    have nk : k ≠ i := fun q => by
      rw [q, List.getElem?_set_self hi] at a2
      cases a2
    rw [List.getElem?_set_ne (Ne.symm nj)] at a1
    rw [List.getElem?_set_ne (Ne.symm nk)] at a2
    exact R.apart a j k ⟨⟨m1, a1⟩, b1⟩ ⟨⟨m2, a2⟩, b2⟩
theorem own_set {i : Nat} {x : D} {a : Addr} (h : Own σ (st.set i (.d x)) a) : Own σ st a := by
  obtain ⟨j, ⟨m, h1⟩, h2⟩ := h
  by_cases z : i = j
  · subst z
    rw [List.getElem?_set] at h1
    split at h1
    · split at h1 <;> cases h1
    · exact ⟨i, ⟨m, h1⟩, h2⟩
  · rw [List.getElem?_set_ne z] at h1
    exact ⟨j, ⟨m, h1⟩, h2⟩
theorem frz_ok {v : V} {it : Itm} {x : D} (s : Stp K σ0 F H st σ F1 H1 s1) (r : RI K H F1 H1 σ s1 v it) (e : frz it s1 = some (x, s2)) :
    ∃ F2, Stp K σ0 F H st σ F2 H1 s2 ∧ RD K F2 v x ∧ Same F1 F2 ∧ (∀ a, F1 a = none → F2 a ≠ none → v = .ref a ∧ (Own σ s1 a ∨ ∃ m, it = .own m)) ∧ ∀ a, Own σ s2 a → Own σ s1 a := by
  cases it with
  | d y =>
    cases e
    exact ⟨F1, s, r, Same.refl F1, fun a h1 h2 => absurd h1 h2, fun _ h => h⟩
  | own m =>
    cases e
    obtain ⟨p, e1, h0, f, n, rm⟩ := r
    cases q : H1 p with
    | none => exact absurd q rm.there
    | some o =>
      have sm : Same F1 (upd F1 p o) := fun a u e => by rw [upd_ne (ne_of_none e f)]; exact e
      refine ⟨upd F1 p o, ⟨s.fr.trans sm, s.rel.lock f q n, fun a h1 h2 => ?_, s.keep, s.there, s.own⟩, by rw [e1]; exact rm.rd sm (upd_same.trans q.symm), sm, fun a h1 h2 => ?_, fun _ h => h⟩
      · by_cases z : a = p
        · rw [z]
          exact .inl h0
        · rw [upd_ne z] at h2
          exact s.new a h1 h2
      · by_cases z : a = p
        · exact ⟨by rw [z]; exact e1, .inr ⟨m, rfl⟩⟩
        · rw [upd_ne z] at h2
          exact absurd h1 h2
  | ref i =>
    have r : σ[i]? = some (some v) := r
    have e : (match s1[i]? with | some (.d x) => some (x, s1) | some (.own m) => some (m.toD, s1.set i (.d m.toD)) | _ => none) = some (x, s2) := e
    cases q : s1[i]? with
    | none => rw [q] at e; cases e
    | some sl =>
      rw [q] at e
      obtain ⟨ov, h1, h2⟩ := s.rel.at_ i _ q
      rw [r] at h1
      cases h1
      cases sl with
      | un => cases e
      | cls c => cases e
      | exc q u => cases e
      | d y =>
        cases e
        obtain ⟨u, e1, rd⟩ := h2
        cases e1
        exact ⟨F1, s, rd, Same.refl F1, fun a h1 h2 => absurd h1 h2, fun _ h => h⟩
      | own m =>
        cases e
        obtain ⟨p, e1, f, rm⟩ := h2
        cases e1
        cases q2 : H1 p with
        | none => exact absurd q2 rm.there
        | some o =>
          have sm : Same F1 (upd F1 p o) := fun a u e => by rw [upd_ne (ne_of_none e f)]; exact e
          have oi : Own σ s1 p := ⟨i, ⟨m, q⟩, r⟩
          refine ⟨upd F1 p o, ⟨s.fr.trans sm, s.rel.own_off q r q2, fun a h1 h2 => ?_, s.keep, s.there, fun a h => s.own a (own_set h)⟩, rm.rd sm (upd_same.trans q2.symm), sm, fun a h1 h2 => ?_, fun a h => own_set h⟩
          · by_cases z : a = p
            · rw [z]
              rcases s.own p oi with z | z
              · exact .inr z
              · exact .inl z
            · rw [upd_ne z] at h2
              exact s.new a h1 h2
          · by_cases z : a = p
            · exact ⟨by rw [z], .inl (by rw [z]; exact oi)⟩
            · rw [upd_ne z] at h2
              exact absurd h1 h2
theorem RIs.locked {F2 : Hp} : ∀ {vs : List V} {its : List Itm}, RIs K H F1 H1 σ s1 vs its → Same F1 F2 → (∀ a, F1 a = none → F2 a ≠ none → ∀ m, (V.ref a, Itm.own m) ∈ vs.zip its → False) → (∀ a, Own σ s2 a → Own σ s1 a) → RIs K H F2 H1 σ s2 vs its
  | [], [], _, _, _, _ => trivial
  | [], _ :: _, q, _, _, _ => q.elim
  | _ :: _, [], q, _, _, _ => q.elim
  | v :: vs, it :: its, q, sm, h, o => by
    refine ⟨?_, q.2.1, RIs.locked (vs := vs) (its := its) q.2.2 sm (fun a h1 h2 m hm => h a h1 h2 m (by rw [List.zip_cons_cons]; exact List.mem_cons_of_mem _ hm)) o⟩
    cases it with
    | d x => exact RD.mono sm x v q.1
    | own m =>
      obtain ⟨p, e1, h0, f, n, rm⟩ := q.1
      refine ⟨p, e1, h0, ?_, fun z => n (o p z), rm.mono sm rfl⟩
      cases z : F2 p with
      | none => rfl
      | some u => exact (h p f (by rw [z]; simp) m (by rw [List.zip_cons_cons, e1]; exact List.mem_cons_self)).elim
    | ref i => exact q.1
theorem frzs_ok : ∀ {vs : List V} {its : List Itm} {xs : List D} {F1 : Hp} {s1 s2 : Sls}, Stp K σ0 F H st σ F1 H1 s1 → RIs K H F1 H1 σ s1 vs its → frzs its s1 = some (xs, s2) → ∃ F2, Stp K σ0 F H st σ F2 H1 s2 ∧ RDs K F2 vs xs ∧ Same F1 F2
  | [], [], xs, F1, s1, s2, s, r, e => by
    cases e
    exact ⟨F1, s, trivial, Same.refl F1⟩
  | [], _ :: _, _, _, _, _, _, r, _ => r.elim
  | _ :: _, [], _, _, _, _, _, r, _ => r.elim
  | v :: vs, it :: its, xs, F1, s1, s2, s, r, e => by
    have e : (match frz it s1 with | some (x, s1) => (match frzs its s1 with | some (xs, s2) => some (x :: xs, s2) | none => none) | none => none) = some (xs, s2) := e
    cases q : frz it s1 with
    | none => rw [q] at e; cases e
    | some y =>
      obtain ⟨x, s3⟩ := y
      rw [q] at e
      have e : (match frzs its s3 with | some (xs, s2) => some (x :: xs, s2) | none => none) = some (xs, s2) := e
      cases q2 : frzs its s3 with
      | none => rw [q2] at e; cases e
      | some y =>
        obtain ⟨ys, s4⟩ := y
        rw [q2] at e
        cases e
        obtain ⟨F3, p3, rd, sm, nw, ow⟩ := frz_ok s r.1 q
        have r3 : RIs K H F3 H1 σ s3 vs its := r.2.2.locked sm (fun a h1 h2 m hm => by
          obtain ⟨e1, e2⟩ := nw a h1 h2
          rcases e2 with e2 | ⟨m', e2⟩
          · -- an own slot's object was not made on the way and nobody's
            have aux : ∀ (vs : List V) (its : List Itm), RIs K H F1 H1 σ s1 vs its → (V.ref a, Itm.own m) ∈ vs.zip its → ¬ Own σ s1 a := by
              intro vs
              induction vs with
              | nil => intro its _ hm; simp at hm
              | cons w ws ih =>
                intro its hr hm
                cases its with
                | nil => exact hr.elim
                | cons i is =>
                  rw [List.zip_cons_cons] at hm
                  rcases List.mem_cons.mp hm with z | hm
                  · cases z
                    obtain ⟨p, z1, _, _, n, _⟩ := hr.1
                    cases z1
                    exact n
                  · exact ih is hr.2.2 hm
            exact aux vs its r.2.2 hm e2
          · exact r.2.1 m' e2 _ m hm e1.symm) ow
        obtain ⟨F4, p4, rds, sm4⟩ := frzs_ok p3 r3 q2
        exact ⟨F4, p4, ⟨RD.mono sm4 x v rd, rds⟩, sm.trans sm4⟩
end
end DL
set_option maxRecDepth 100000
set_option maxHeartbeats 4000000
namespace DL
open PySem L2
def tTupX (t : TA) : TE := fun σ H Q => t σ H fun xs H1 => xs.length ≤ sizeLine ∧ ∀ p o, H1 p = none → o.dict = none → Q (.ref p) (upd H1 p (.frz o (.tup xs)))
theorem pe_tupX {X : Cx} {es : List Expr} {t : TA} {k : Nat} {pos : Pos} (h : PA X es t) : PE X (.Tuple es k pos) (tTupX t) := by
  refine ⟨fun pins s σ H Q I hq => wpAny_Tuple_spliced (thn (h.run pos pins s σ H _ I hq) fun us s1 ⟨xs, H1, I1, r, z, q⟩ => ⟨by rw [← r.length]; exact z, ?_⟩)⟩
  exact ⟨.ref s1.heap.objs.size, _, Inv.tupLk (t' := s1.toks) I1 r z, rfl, q _ _ (I1.hok.fresh (Nat.le_refl _)) rfl⟩
def fTup (f : FA) : FE := fun st => (f st).bind fun its s1 => match frzs its s1 with
  | some (ds, s2) => .ok (.d (.tup ds)) s2
  | none => .bad
def fLst (f : FA) : FE := fun st => (f st).bind fun its s1 => match frzs its s1 with
  | some (ds, s2) => .ok (.own (.lst ds)) s2
  | none => .bad
section
variable {X : Cx} {W : WX} {es : List Expr} {f : FA} {k : Nat} {pos : Pos}
theorem len_small {n : Nat} (h : n ≤ 100000) : n ≤ sizeLine := Nat.le_trans h (by decide)
theorem Go.with_eq {α : Type} {K : PySem.W.Frag} {W : WX} {σ : L2.St} {F H : Hp} {st : Sls} {o : Ot α} {Q : α → Hp → Hp → Sls → Prop} (h : Go K W σ F H st o Q) : Go K W σ F H st o (fun a F' H' st' => o = .ok a st' ∧ Q a F' H' st') := by
  cases o with
  | ok a st' => exact fun F' H' s => ⟨rfl, h F' H' s⟩
  | exc e st' => exact h
  | bad => exact h
theorem de_tup (h : DA X W es f) (hl : es.length ≤ 100000 := by decide) : DE X W (.Tuple es k pos) (fTup f) := PE.conseq (pe_tupX h.pa) fun σ H Q g => by
  obtain ⟨F, st, R, g0⟩ := g
  refine ⟨F, st, R, (Go.bind g0).with_eq.imp fun its F1 H1 s1 p1 g1 vs r => ?_⟩
  obtain ⟨e0, g1⟩ := g1
  have hz : vs.length ≤ sizeLine := by rw [r.length, h.len _ _ _ e0]; exact len_small hl
  refine ⟨hz, fun p o hp ho => ?_⟩
  split at g1
  · rename_i ds s2 e
    obtain ⟨F2, p2, rds, _⟩ := frzs_ok p1 r e
    exact (res_ok (r := .tupn ds) p2 g1).2 p vs o hp rds ho
  · exact g1.elim
theorem de_lst (h : DA X W es f) (hl : es.length ≤ 100000 := by decide) : DE X W (.List es pos) (fLst f) := PE.conseq (pe_lst h.pa) fun σ H Q g => by
  obtain ⟨F, st, R, g0⟩ := g
  refine ⟨F, st, R, (Go.bind g0).with_eq.imp fun its F1 H1 s1 p1 g1 vs r => ?_⟩
  obtain ⟨e0, g1⟩ := g1
  have hz : vs.length ≤ sizeLine := by rw [r.length, h.len _ _ _ e0]; exact len_small hl
  refine ⟨hz, fun p hp => ?_⟩
  split at g1
  · rename_i ds s2 e
    obtain ⟨F2, p2, rds, _⟩ := frzs_ok p1 r e
    exact (res_ok (r := .new (.lst ds)) p2 g1) p _ hp (fun a ha => upd_ne ha) ⟨vs, upd_same, rds⟩
  · exact g1.elim
end

def IxS (X : Cx) (g : D → D → Rs) : Prop :=
  ∃ r, IxR X r ∧ ∀ F H x y dx dy Q, Same F H → RW X.K F H x dx → RW X.K F H y dy → ResOk X.K F H (g dx dy) Q → r x y H Q
def gIx : D → D → Rs
  | .lst ds, .int i => match atI ds i with
    | some d => .val d
    | none => .bad
  | .tup ds, .int i => match atI ds i with
    | some d => .val d
    | none => .bad
  | .scr ns, .int i => match atI ns i with
    | some n => .val (.int n)
    | none => .bad
  | .str z, .int i => if z.length ≤ sizeLine then (match atI z.cps.toList i with
    | some c => .val (.str ⟨#[c]⟩)
    | none => .bad) else .bad
  | _, _ => .bad
section
variable {K : PySem.W.Frag} {F H : Hp}
theorem RDs.atI {vs : List V} {ds : List D} {i : Int} {d : D} (h : RDs K F vs ds) (e : atI ds i = some d) : ∃ v, L2.atI vs i = some v ∧ RD K F v d := by
  unfold L2.atI at e ⊢
  rw [h.length]
  cases q : ixN ds.length i with
  | none => rw [q] at e; cases e
  | some j =>
    rw [q] at e
    exact h.get e
end
theorem is_all {X : Cx} : IxS X gIx := by
  refine ⟨_, ix_seq, fun F H x y dx dy Q s rx ry q => ?_⟩
  cases dx with
  | lst ds =>
    cases dy with
    | int i =>
      simp only [gIx] at q
      split at q
      · rename_i d e
        obtain ⟨a, xs, e1, h1, r1⟩ := rw_lst s rx
        obtain ⟨v, e2, rd⟩ := r1.atI e
        exact .inl ⟨a, xs, i, v, e1, rw_int ry, SqL.of h1, e2, q v rd⟩
      · exact q.elim
    | _ => exact q.elim
  | tup ds =>
    cases dy with
    | int i =>
      simp only [gIx] at q
      split at q
      · rename_i d e
        obtain ⟨a, xs, e1, h1, r1⟩ := rw_tup rx
        obtain ⟨v, e2, rd⟩ := r1.atI e
        exact .inr (.inl ⟨a, xs, i, v, e1, rw_int ry, (h1.mono s).sq, e2, q v rd⟩)
      · exact q.elim
    | _ => exact q.elim
  | scr ns =>
    cases dy with
    | int i =>
      simp only [gIx] at q
      split at q
      · rename_i n e
        obtain ⟨a, e1, h1⟩ := rw_scr rx
        refine .inl ⟨a, ns.map V.int, i, .int n, e1, rw_int ry, s.seq h1, ?_, q _ rfl⟩
        unfold L2.atI at e ⊢
        rw [List.length_map]
        cases z : ixN ns.length i with
        | none => rw [z] at e; cases e
        | some j =>
          rw [z] at e
          have e : ns[j]? = some n := e
          show (ns.map V.int)[j]? = some (.int n)
          rw [List.getElem?_map, e]
          rfl
      · exact q.elim
    | _ => exact q.elim
  | str z =>
    cases dy with
    | int i =>
      simp only [gIx] at q
      split at q
      · rename_i c
        split at q
        · rename_i ch e
          exact .inr (.inr ⟨z, i, ch, rw_str rx, rw_int ry, c, e, q _ rfl⟩)
        · exact q.elim
      · exact q.elim
    | _ => exact q.elim
  | _ => exact q.elim
theorem de_ix {X : Cx} {W : WX} {a b : Expr} {fa fb : FE} {pos : Pos} {g : D → D → Rs} (ho : IxS X g) (ha : DE X W a fa) (hb : DE X W b fb) (hs : PlainIx b) : DE X W (.Subscript a b pos) (fBin g fa fb) := by
  obtain ⟨r, h1, h2⟩ := ho
  exact PE.conseq (pe_ix h1 ha hb hs) fun σ H Q h => two_ok h h2

abbrev FO := Sls → Ot (Option Int)
def tOs (K : PySem.W.Frag) (W : WX) (f : FO) : TO := fun σ H Q => ∃ F st, Rl K F H σ st ∧ Go K W σ F H st (f st) (fun o _ H' _ => Q o H')
abbrev DO (X : Cx) (W : WX) (e : Option Expr) (f : FO) : Prop := PO X e (tOs X.K W f)
theorem PO.conseq {X : Cx} {e : Option Expr} {t t' : TO} (h : PO X e t) (i : ∀ σ H Q, t' σ H Q → t σ H Q) : PO X e t' := ⟨fun pins s σ H Q I q => h.run pins s σ H Q I (i σ H Q q)⟩
def fNoPart : FO := fun st => .ok none st
def fPart (fa : FE) : FO := fun st => (fa st).bind fun ia s1 => match view s1 ia with
  | some (.int i) => .ok (some i) s1
  | _ => .bad
section
variable {X : Cx} {W : WX} {e : Expr} {fe : FE}
theorem do_none : DO X W none fNoPart := PO.conseq po_none fun σ H Q h => by
  obtain ⟨F, st, R, g⟩ := h
  exact g F H (Stp.refl R)
theorem do_some (h : DE X W e fe) : DO X W (some e) (fPart fe) := PO.conseq (po_some h) fun σ H Q h => by
  obtain ⟨F, st, R, g0⟩ := h
  refine ⟨F, st, R, (Go.bind g0).imp fun ia F1 H1 s1 p1 g1 v r => ?_⟩
  split at g1
  · rename_i i e
    exact ⟨i, rw_int (view_ok p1.rel r e), g1 F1 H1 p1⟩
  · exact g1.elim
end
def cutD {α : Type} (xs : List α) (lo hi : Option Int) : List α := (xs.drop (HT.sIx xs.length 0 lo)).take (HT.sIx xs.length xs.length hi - HT.sIx xs.length 0 lo)
def SlS (X : Cx) (g : D → Option Int → Option Int → Rs) : Prop :=
  ∃ r, SlR X r ∧ ∀ F H x dx lo hi Q, Same F H → RW X.K F H x dx → ResOk X.K F H (g dx lo hi) Q → r x lo hi H Q
def gSl : D → Option Int → Option Int → Rs
  | .lst ds, lo, hi => .new (.lst (cutD ds lo hi))
  | .tup ds, lo, hi => .tupn (cutD ds lo hi)
  | .scr ns, lo, hi => .new (.lst ((cutD ns lo hi).map D.int))
  | .str z, lo, hi => if z.length ≤ sizeLine then .val (.str (cutS z lo hi)) else .bad
  | _, _, _ => .bad
def rSlX (K : PySem.W.Frag) : V → Option Int → Option Int → Hp → VK → Prop := fun x lo hi H Q => ∃ a xs, x = .ref a ∧ SqT K H a xs ∧
  (HT.sIx xs.length 0 lo = 0 ∧ HT.sIx xs.length xs.length hi = xs.length → Q (.ref a) H) ∧ (∀ p o, H p = none → o.dict = none → Q (.ref p) (upd H p (.frz o (.tup (cutV xs lo hi)))))
theorem sl_tupX {X : Cx} : SlR X (rSlX X.K) := by
  rintro pins s σ H x v vl vu lo hi sl Q I rx hs pl pu ⟨a, xs, rfl, hx, q1, q2⟩
  cases rx
  obtain ⟨its, r, ht, hz⟩ := I.tuple hx
  have hlen : its.toArray.size = xs.length := by rw [List.size_toArray]; exact r.length.symm
  refine ⟨"tuple", _, PyProof.Rows.slot_tuple_getitem.lookup, ht.typeIs, ?_⟩
  by_cases hw : HT.sIx xs.length 0 lo = 0 ∧ HT.sIx xs.length xs.length hi = xs.length
  · exact getItem_tuple_whole ht hs pl pu (by rw [hlen]; exact hw) ⟨.ref a, H, I, rfl, q1 hw⟩
  · refine HT.getItem_tuple_cut ht hs pl pu (by rw [hlen]; exact hw) ?_ (by rw [hlen]; exact hz)
    rw [hlen]
    have hv : Vals (cutV xs lo hi) ((its.toArray.toList.drop (HT.sIx xs.length 0 lo)).take (HT.sIx xs.length xs.length hi - HT.sIx xs.length 0 lo)) := (r.drop (HT.sIx xs.length 0 lo)).take _
    exact ⟨.ref s.heap.objs.size, _, Inv.tupLk (t' := s.toks) I hv (Nat.le_trans (cutV_length xs lo hi) hz), rfl, q2 _ _ (I.hok.fresh (Nat.le_refl _)) rfl⟩
theorem RDs.cut {K : PySem.W.Frag} {F : Hp} {vs : List V} {ds : List D} (h : RDs K F vs ds) (lo hi : Option Int) : RDs K F (cutV vs lo hi) (cutD ds lo hi) := by
  unfold cutV cutD
  rw [h.length]
  exact RDs.take _ (RDs.drop _ h)
theorem cut_whole {α : Type} (xs : List α) (lo hi : Option Int) (h : HT.sIx xs.length 0 lo = 0 ∧ HT.sIx xs.length xs.length hi = xs.length) : cutD xs lo hi = xs := by
  unfold cutD
  rw [h.1, h.2]
  simp
theorem ss_all {X : Cx} : SlS X gSl := by
  refine ⟨_, sl_list.or (sl_tupX.or sl_str), fun F H x dx lo hi Q s rx q => ?_⟩
  cases dx with
  | lst ds =>
    obtain ⟨a, xs, e1, h1, r1⟩ := rw_lst s rx
    exact .inl ⟨a, xs, e1, SqL.of h1, fun p hp => q p _ hp (fun a ha => upd_ne ha) ⟨_, upd_same, r1.cut lo hi⟩⟩
  | tup ds =>
    obtain ⟨a, xs, e1, h1, r1⟩ := rw_tup rx
    refine .inr (.inl ⟨a, xs, e1, (h1.mono s).sq, fun hw => ?_, fun p o hp ho => q.2 p _ o hp (r1.cut lo hi) ho⟩)
    rw [r1.length] at hw
    exact q.1 (.ref a) ⟨a, xs, rfl, h1, by rw [cut_whole ds lo hi hw]; exact r1⟩
  | scr ns =>
    obtain ⟨a, e1, h1⟩ := rw_scr rx
    refine .inl ⟨a, _, e1, s.seq h1, fun p hp => q p _ hp (fun a ha => upd_ne ha) ⟨_, upd_same, ?_⟩⟩
    have aux : ∀ ns : List Int, RDs X.K F (ns.map V.int) (ns.map D.int) := fun ns => by
      induction ns with
      | nil => exact trivial
      | cons n ns ih => exact ⟨rfl, ih⟩
    have e : cutV (ns.map V.int) lo hi = (cutD ns lo hi).map V.int := by
      unfold cutV cutD
      rw [List.length_map, List.map_take, List.map_drop]
    rw [e]
    exact aux _
  | str z =>
    simp only [gSl] at q
    split at q
    · rename_i c
      exact .inr (.inr ⟨z, rw_str rx, c, q _ rfl⟩)
    · exact q.elim
  | _ => exact q.elim
def fSl (g : D → Option Int → Option Int → Rs) (fa : FE) (fl fh : FO) : FE := fun st => (fa st).bind fun ia s1 => (fl s1).bind fun lo s2 => (fh s2).bind fun hi s3 => match view s3 ia with
  | some x => (g x lo hi).out s3
  | none => .bad
theorem de_slice {X : Cx} {W : WX} {e : Expr} {lo hi : Option Expr} {fa : FE} {fl fh : FO} {pos p2 : Pos} {g : D → Option Int → Option Int → Rs} (hs : SlS X g) (ha : DE X W e fa) (hl : DO X W lo fl) (hh : DO X W hi fh) :
    DE X W (.Subscript e (.Slice lo hi none p2) pos) (fSl g fa fl fh) := by
  obtain ⟨r, h1, h2⟩ := hs
  refine PE.conseq (pe_slice h1 ha hl hh) fun σ H Q h => ?_
  obtain ⟨F, st, R, g0⟩ := h
  refine ⟨F, st, R, (Go.bind g0).imp fun ia F1 H1 s1 p1 g1 v1 r1 => ?_⟩
  refine ⟨F1, s1, p1.rel, (Go.bind g1).shift p1 fun lo F2 H2 s2 p2 p02 g2 => ?_⟩
  refine ⟨F2, s2, p2.rel, (Go.bind g2).shift p02 fun hi F3 H3 s3 p3 p03 g3 => ?_⟩
  have r1' := (r1.step p2).step p3
  split at g3
  · rename_i x e1
    exact h2 F3 H3 v1 x lo hi Q p3.rel.sub (view_ok p3.rel r1' e1) (res_ok p03 g3)
  · exact g3.elim

def fldD (f : Str) : List Str → List D → Option D
  | x :: fs, d :: ds => if x = f then some d else fldD f fs ds
  | _, _ => none
theorem fldD_ok {K : PySem.W.Frag} {F : Hp} {f : Str} : ∀ {xs : List (Str × V)} {fs : List Str} {ds : List D} {d : D}, (xs.map fun q => q.1) = fs → RDs K F (xs.map fun q => q.2) ds → fldD f fs ds = some d → ∃ v, xs.lookup f = some v ∧ RD K F v d
  | [], fs, ds, d, e, _, h => by
    subst e
    cases ds <;> cases h
  | (x, v) :: xs, fs, ds, d, e, r, h => by
    subst e
    cases ds with
    | nil => exact r.elim
    | cons y ds =>
      have h : (if x = f then some y else fldD f (xs.map fun q => q.1) ds) = some d := h
      by_cases z : x = f
      · rw [if_pos z] at h
        cases h
        exact ⟨v, by simp [List.lookup, z], r.1⟩
      · rw [if_neg z] at h
        obtain ⟨w, h1, h2⟩ := fldD_ok rfl r.2 h
        refine ⟨w, ?_, h2⟩
        have z2 : (f == x) = false := by simpa using fun q => z q.symm
        simp only [List.lookup, z2]
        exact h1
def fFld (C : Addr) (f : Str) (fa : FE) : FE := fun st => (fa st).bind fun ia s1 => match view s1 ia with
  | some (.ins C' fs ds) => if C' = C then (match fldD f fs ds with
    | some d => .ok (.d d) s1
    | none => .bad) else .bad
  | _ => .bad
theorem de_fld {X : Cx} {W : WX} {e : Expr} {f : Str} {pos : Pos} {fa : FE} {C : Addr} (c : Cls X.K C) (n : NoAttr X.K C f) (he : DE X W e fa) (hb : attributeBase e f X.env (eval e X.env) = eval e X.env) : DE X W (.Attribute e f pos) (fFld C f fa) :=
  PE.conseq (pe_fld he hb) fun σ H Q h => by
  obtain ⟨F, st, R, g0⟩ := h
  refine ⟨F, st, R, (Go.bind g0).imp fun ia F1 H1 s1 p1 g1 v1 r1 => ?_⟩
  split at g1
  · rename_i C' fs ds e1
    split at g1
    · rename_i ec
      subst ec
      split at g1
      · rename_i d e2
        obtain ⟨a, dx, xs, e3, h3, n3, r3⟩ := rw_ins p1.rel.sub (view_ok p1.rel r1 e1)
        obtain ⟨v, e4, rd⟩ := fldD_ok n3 r3 e2
        exact ⟨a, C', dx, xs, v, e3, h3, c, n, e4, g1 F1 H1 p1 v rd⟩
      · exact g1.elim
    · exact g1.elim
  · exact g1.elim
end DL
set_option maxRecDepth 100000
set_option maxHeartbeats 4000000
namespace DL
open PySem L2
inductive OtS where
  | nx (st : Sls) | rt (it : Itm) (st : Sls) | bk (st : Sls) | ct (st : Sls) | exc (e : Exn) (st : Sls) | bad
abbrev FS := Sls → OtS
def Ot.bindS {α : Type} (o : Ot α) (k : α → Sls → OtS) : OtS := match o with
  | .ok a st => k a st
  | .exc e st => .exc e st
  | .bad => .bad
def OtS.bindS (o : OtS) (k : Sls → OtS) : OtS := match o with
  | .nx st => k st
  | o => o
def Keeps (asg : List Nat) (σ σ' : L2.St) : Prop := ∀ i, i ∉ asg → σ'[i]? = σ[i]?
theorem Keeps.refl (asg : List Nat) (σ : L2.St) : Keeps asg σ σ := fun _ _ => rfl
theorem Keeps.trans {a b c : List Nat} {σ σ1 σ2 : L2.St} (h : Keeps a σ σ1) (g : Keeps b σ1 σ2) (ha : ∀ i ∈ a, i ∈ c) (hb : ∀ i ∈ b, i ∈ c) : Keeps c σ σ2 := fun i hi =>
  (g i fun z => hi (hb i z)).trans (h i fun z => hi (ha i z))
theorem Keeps.mono {a c : List Nat} {σ σ1 : L2.St} (h : Keeps a σ σ1) (ha : ∀ i ∈ a, i ∈ c) : Keeps c σ σ1 := fun i hi => h i fun z => hi (ha i z)
def GoS (K : PySem.W.Frag) (W : WX) (asg : List Nat) (σ : L2.St) (F H : Hp) (st : Sls) (o : OtS) (E : Ends) : Prop := match o with
  | .nx st' => ∀ σ' F' H', Stp K σ F H st σ' F' H' st' → Keeps asg σ σ' → E.nx σ' H'
  | .rt it st' => ∀ σ' F' H' v, Stp K σ F H st σ' F' H' st' → Keeps asg σ σ' → RI K H F' H' σ' st' v it → E.rt v H'
  | .bk st' => ∀ σ' F' H', Stp K σ F H st σ' F' H' st' → Keeps asg σ σ' → E.bk σ' H'
  | .ct st' => ∀ σ' F' H', Stp K σ F H st σ' F' H' st' → Keeps asg σ σ' → E.ct σ' H'
  | .exc e st' => ∀ d σ' F' H', Stp K σ F H st σ' F' H' st' → Keeps asg σ σ' → ExR K F' H' d e → W e.cls d σ' H'
  | .bad => False
def tSt (K : PySem.W.Frag) (W : WX) (asg : List Nat) (f : FS) : TS := fun E σ H => ∃ F st, Rl K F H σ st ∧ GoS K W asg σ F H st (f st) E
abbrev DS (X : Cx) (W : WX) (st : Stmt) (asg : List Nat) (f : FS) : Prop := PS X st (tSt X.K W asg f)
abbrev DSs (X : Cx) (W : WX) (st : List Stmt) (asg : List Nat) (f : FS) : Prop := PSs X st (tSt X.K W asg f)
theorem PS.conseq {X : Cx} {e : Stmt} {t t' : TS} (h : PS X e t) (i : ∀ E σ H, t' E σ H → t E σ H) : PS X e t' := ⟨fun pins s σ H E I q => h.run pins s σ H E I (i E σ H q)⟩
theorem PSs.conseq {X : Cx} {e : List Stmt} {t t' : TS} (h : PSs X e t) (i : ∀ E σ H, t' E σ H → t E σ H) : PSs X e t' := ⟨fun pins s σ H E I q => h.run pins s σ H E I (i E σ H q)⟩
section
variable {K : PySem.W.Frag} {W : WX} {asg asg' : List Nat} {σ σ1 : L2.St} {F H F1 H1 : Hp} {st st1 : Sls} {E : Ends}
theorem GoS.shift {o : OtS} (s : Stp K σ F H st σ1 F1 H1 st1) (k : Keeps asg' σ σ1) (ha : ∀ i ∈ asg', i ∈ asg) (h : GoS K W asg σ F H st o E) : GoS K W asg σ1 F1 H1 st1 o E := by
  have km : ∀ {σ' : L2.St}, Keeps asg σ1 σ' → Keeps asg σ σ' := fun q => k.trans q ha fun _ z => z
  cases o with
  | nx st' => exact fun σ' F' H' s' k' => h σ' F' H' (s.trans s') (km k')
  | rt it st' => exact fun σ' F' H' v s' k' r => h σ' F' H' v (s.trans s') (km k') (r.back s.there)
  | bk st' => exact fun σ' F' H' s' k' => h σ' F' H' (s.trans s') (km k')
  | ct st' => exact fun σ' F' H' s' k' => h σ' F' H' (s.trans s') (km k')
  | exc e st' => exact fun d σ' F' H' s' k' => h d σ' F' H' (s.trans s') (km k')
  | bad => exact h
theorem GoS.less {o : OtS} (h : GoS K W asg σ F H st o E) (ha : ∀ i ∈ asg', i ∈ asg) : GoS K W asg' σ F H st o E := by
  cases o with
  | nx st' => exact fun σ' F' H' s' k' => h σ' F' H' s' (k'.mono ha)
  | rt it st' => exact fun σ' F' H' v s' k' r => h σ' F' H' v s' (k'.mono ha) r
  | bk st' => exact fun σ' F' H' s' k' => h σ' F' H' s' (k'.mono ha)
  | ct st' => exact fun σ' F' H' s' k' => h σ' F' H' s' (k'.mono ha)
  | exc e st' => exact fun d σ' F' H' s' k' => h d σ' F' H' s' (k'.mono ha)
  | bad => exact h
theorem GoS.ofBind {α : Type} {o : Ot α} {k : α → Sls → OtS} (h : GoS K W asg σ F H st (o.bindS k) E) : Go K W σ F H st o (fun a _ _ st1 => GoS K W asg σ F H st (k a st1) E) := by
  cases o with
  | ok a st' => exact fun _ _ _ => h
  | exc e st' => exact fun d F' H' s => h d σ F' H' s (Keeps.refl _ _)
  | bad => exact h
theorem GoS.seq {o : OtS} {f : FS} (h : GoS K W asg σ F H st (o.bindS f) E) (ha : ∀ i ∈ asg', i ∈ asg) : GoS K W asg' σ F H st o { E with nx := tSt K W asg f E } := by
  cases o with
  | nx st1 => exact fun σ' F' H' s' k' => ⟨F', st1, s'.rel, h.shift s' k' ha⟩
  | rt it st' => exact fun σ' F' H' v s' k' r => h σ' F' H' v s' (k'.mono ha) r
  | bk st' => exact fun σ' F' H' s' k' => h σ' F' H' s' (k'.mono ha)
  | ct st' => exact fun σ' F' H' s' k' => h σ' F' H' s' (k'.mono ha)
  | exc e st' => exact fun d σ' F' H' s' k' => h d σ' F' H' s' (k'.mono ha)
  | bad => exact h
theorem GoS.ends {o : OtS} {E' : Ends} (h : GoS K W asg σ F H st o E)
    (h1 : ∀ st' σ' F' H', o = .nx st' → Stp K σ F H st σ' F' H' st' → Keeps asg σ σ' → E.nx σ' H' → E'.nx σ' H')
    (h2 : ∀ v H', E.rt v H' → E'.rt v H')
    (h3 : ∀ st' σ' F' H', o = .bk st' → Stp K σ F H st σ' F' H' st' → Keeps asg σ σ' → E.bk σ' H' → E'.bk σ' H')
    (h4 : ∀ st' σ' F' H', o = .ct st' → Stp K σ F H st σ' F' H' st' → Keeps asg σ σ' → E.ct σ' H' → E'.ct σ' H') : GoS K W asg σ F H st o E' := by
  cases o with
  | nx st' => exact fun σ' F' H' s' k' => h1 st' σ' F' H' rfl s' k' (h σ' F' H' s' k')
  | rt it st' => exact fun σ' F' H' v s' k' r => h2 v H' (h σ' F' H' v s' k' r)
  | bk st' => exact fun σ' F' H' s' k' => h3 st' σ' F' H' rfl s' k' (h σ' F' H' s' k')
  | ct st' => exact fun σ' F' H' s' k' => h4 st' σ' F' H' rfl s' k' (h σ' F' H' s' k')
  | exc e st' => exact h
  | bad => exact h
end

def fSkip : FS := fun st => .nx st
def fSeq (f g : FS) : FS := fun st => (f st).bindS g
section
variable {X : Cx} {W : WX} {s : Stmt} {rest : List Stmt} {f g : FS} {a1 a2 : List Nat} {pos : Pos} {e c : Expr} {fe : FE} {fc : FT}
theorem ds_nil : DSs X W [] [] fSkip := PSs.conseq pss_nil fun E σ H h => by
  obtain ⟨F, st, R, g⟩ := h
  exact g σ F H (Stp.refl R) (Keeps.refl _ _)
theorem ds_one (h : DS X W s a1 f) : DSs X W [s] a1 f := pss_one h
theorem ds_cons (h : DS X W s a1 f) (hr : DSs X W rest a2 g) : DSs X W (s :: rest) (a1 ++ a2) (fSeq f g) := PSs.conseq (pss_cons h hr) fun E σ H q => by
  obtain ⟨F, st, R, q⟩ := q
  refine ⟨F, st, R, ?_⟩
  have z := GoS.seq (asg' := a1) q (fun i hi => List.mem_append_left _ hi)
  refine z.ends (fun st' σ' F' H' e s k h => ?_) (fun _ _ h => h) (fun _ _ _ _ _ _ _ h => h) fun _ _ _ _ _ _ _ h => h
  obtain ⟨F2, st2, R2, q2⟩ := h
  exact ⟨F2, st2, R2, q2.less fun i hi => List.mem_append_right _ hi⟩
theorem ds_pass : DS X W (.Pass pos) [] fSkip := PS.conseq ps_pass fun E σ H h => by
  obtain ⟨F, st, R, g⟩ := h
  exact g σ F H (Stp.refl R) (Keeps.refl _ _)
def fBreak : FS := fun st => .bk st
def fCont : FS := fun st => .ct st
theorem ds_break : DS X W (.Break pos) [] fBreak := PS.conseq ps_break fun E σ H h => by
  obtain ⟨F, st, R, g⟩ := h
  exact g σ F H (Stp.refl R) (Keeps.refl _ _)
theorem ds_cont : DS X W (.Continue pos) [] fCont := PS.conseq ps_continue fun E σ H h => by
  obtain ⟨F, st, R, g⟩ := h
  exact g σ F H (Stp.refl R) (Keeps.refl _ _)
def fExpr (fe : FE) : FS := fun st => (fe st).bindS fun _ s1 => .nx s1
theorem ds_expr (h : DE X W e fe) (hs : swapsWith e none pos.line X.env = pure false := by rfl) : DS X W (.Expr e pos) [] (fExpr fe) := PS.conseq (ps_expr h hs) fun E σ H q => by
  obtain ⟨F, st, R, g⟩ := q
  exact ⟨F, st, R, (GoS.ofBind g).imp fun it F1 H1 s1 p1 g1 v r => g1 σ F1 H1 p1 (Keeps.refl _ _)⟩
def fRet (fe : FE) : FS := fun st => (fe st).bindS fun it s1 => .rt it s1
theorem ds_ret (h : DE X W e fe) : DS X W (.Return (some e) pos) [] (fRet fe) := PS.conseq (ps_ret h) fun E σ H q => by
  obtain ⟨F, st, R, g⟩ := q
  exact ⟨F, st, R, (GoS.ofBind g).imp fun it F1 H1 s1 p1 g1 v r => g1 σ F1 H1 v p1 (Keeps.refl _ _) r⟩
def fRetN : FS := fun st => .rt (.d .non) st
theorem ds_retN : DS X W (.Return none pos) [] fRetN := PS.conseq ps_retN fun E σ H q => by
  obtain ⟨F, st, R, g⟩ := q
  exact g σ F H .non (Stp.refl R) (Keeps.refl _ _) rfl
def fIfS (fc : FT) (f g : FS) : FS := fun st => (fc st).bindS fun b s1 => if b = true then f s1 else g s1
theorem ds_if {a b : List Stmt} (hc : DT X W c fc) (ha : DSs X W a a1 f) (hb : DSs X W b a2 g) : DS X W (.If c a b pos) (a1 ++ a2) (fIfS fc f g) := PS.conseq (ps_if hc ha hb) fun E σ H q => by
  obtain ⟨F, st, R, q⟩ := q
  refine ⟨F, st, R, (GoS.ofBind q).imp fun b F1 H1 s1 p1 g1 => ?_⟩
  cases b with
  | true =>
    rw [if_pos rfl]
    exact ⟨F1, s1, p1.rel, (g1.shift p1 (Keeps.refl [] σ) (fun i z => by simp at z)).less fun i hi => List.mem_append_left _ hi⟩
  | false =>
    rw [if_neg Bool.false_ne_true]
    exact ⟨F1, s1, p1.rel, (g1.shift p1 (Keeps.refl [] σ) (fun i z => by simp at z)).less fun i hi => List.mem_append_right _ hi⟩
end

section
variable {K : PySem.W.Frag} {W : WX} {σ0 σ : L2.St} {F H F1 H1 : Hp} {st s1 : Sls}
theorem Stp.store {i : Nat} {v : V} {x : D} (s : Stp K σ0 F H st σ F1 H1 s1) (r : RD K F1 v x) : Stp K σ0 F H st (σ.set i (some v)) F1 H1 (s1.set i (.d x)) := by
  refine ⟨s.fr, ⟨s.rel.sub, by rw [List.length_set, List.length_set]; exact s.rel.len, fun j sl e => ?_, fun a j k h1 h2 => ?_⟩, s.new, s.keep, s.there, fun a h => ?_⟩
  · by_cases z : i = j
    · subst z
      rw [List.getElem?_set] at e
      split at e
      · split at e
        · rename_i hl
          cases e
          exact ⟨some v, by rw [List.getElem?_set_self (by rw [s.rel.len]; exact hl)], v, rfl, r⟩
        · cases e
      · rename_i z; exact absurd rfl z
    · rw [List.getElem?_set_ne z] at e
      rw [List.getElem?_set_ne z]
      exact s.rel.at_ j sl e
  · have go : ∀ j, OwnAt (σ.set i (some v)) (s1.set i (.d x)) a j → OwnAt σ s1 a j := fun j h => by
      obtain ⟨⟨m, e1⟩, e2⟩ := h
      have z : i ≠ j := fun q => by
        rw [q, List.getElem?_set] at e1
        split at e1
        · split at e1 <;> cases e1
        · rename_i z; exact absurd rfl z
      rw [List.getElem?_set_ne z] at e1 e2
      exact ⟨⟨m, e1⟩, e2⟩
    exact s.rel.apart a j k (go j h1) (go k h2)
  · obtain ⟨j, ⟨m, e1⟩, e2⟩ := h
    have z : i ≠ j := fun q => by
      rw [q, List.getElem?_set] at e1
      split at e1
      · split at e1 <;> cases e1
      · rename_i z; exact absurd rfl z
    rw [List.getElem?_set_ne z] at e1 e2
    exact s.own a ⟨j, ⟨m, e1⟩, e2⟩
theorem Stp.storeOwn {i : Nat} {p : Addr} {m : MO} (s : Stp K σ0 F H st σ F1 H1 s1) (h0 : H p = none) (f : F1 p = none) (n : ¬ Own σ s1 p) (rm : RM K F1 H1 p m) : Stp K σ0 F H st (σ.set i (some (.ref p))) F1 H1 (s1.set i (.own m)) := by
  have go : ∀ a j, OwnAt (σ.set i (some (.ref p))) (s1.set i (.own m)) a j → (j = i ∧ a = p) ∨ (j ≠ i ∧ OwnAt σ s1 a j) := fun a j h => by
    obtain ⟨⟨m', e1⟩, e2⟩ := h
    by_cases z : i = j
    · subst z
      refine .inl ⟨rfl, ?_⟩
      rw [List.getElem?_set] at e2
      split at e2
      · split at e2 <;> cases e2
        rfl
      · rename_i z; exact absurd rfl z
    · rw [List.getElem?_set_ne z] at e1 e2
      exact .inr ⟨Ne.symm z, ⟨m', e1⟩, e2⟩
  refine ⟨s.fr, ⟨s.rel.sub, by rw [List.length_set, List.length_set]; exact s.rel.len, fun j sl e => ?_, fun a j k h1 h2 => ?_⟩, s.new, s.keep, s.there, fun a h => ?_⟩
  · by_cases z : i = j
    · subst z
      rw [List.getElem?_set] at e
      split at e
      · split at e
        · rename_i hl
          cases e
          exact ⟨some (.ref p), by rw [List.getElem?_set_self (by rw [s.rel.len]; exact hl)], p, rfl, f, rm⟩
        · cases e
      · rename_i z; exact absurd rfl z
    · rw [List.getElem?_set_ne z] at e
      rw [List.getElem?_set_ne z]
      exact s.rel.at_ j sl e
  · rcases go a j h1 with ⟨e1, e2⟩ | ⟨e1, e2⟩
    · rcases go a k h2 with ⟨e3, e4⟩ | ⟨e3, e4⟩
      · rw [e1, e3]
      · rw [e2] at e4
        exact absurd ⟨k, e4⟩ n
    · rcases go a k h2 with ⟨e3, e4⟩ | ⟨e3, e4⟩
      · rw [e4] at e2
        exact absurd ⟨j, e2⟩ n
      · exact s.rel.apart a j k e2 e4
  · obtain ⟨j, h⟩ := h
    rcases go a j h with ⟨_, e⟩ | ⟨_, e⟩
    · rw [e]
      exact .inr h0
    · exact s.own a ⟨j, e⟩
theorem Keeps.set (σ : L2.St) (i : Nat) (o : Option V) : Keeps [i] σ (σ.set i o) := fun j hj => by
  have z : i ≠ j := fun q => hj (by simp [q])
  rw [List.getElem?_set_ne z]
end
def setSl (i : Nat) (it : Itm) (st : Sls) : OtS := match it with
  | .d x => .nx (st.set i (.d x))
  | .own m => .nx (st.set i (.own m))
  | .ref j => match frz (.ref j) st with
    | some (x, s2) => .nx (s2.set i (.d x))
    | none => .bad
def fAsg (i : Nat) (fe : FE) : FS := fun st => (fe st).bindS fun it s1 => setSl i it s1
theorem asg_ok {K : PySem.W.Frag} {W : WX} {i : Nat} {fe : FE} {E : Ends} {σ : L2.St} {H : Hp} (h : tSt K W [i] (fAsg i fe) E σ H) : tAsg (tE K W fe) (gName i) E σ H := by
  obtain ⟨F, st, R, g⟩ := h
  refine ⟨F, st, R, (GoS.ofBind g).imp fun it F1 H1 s1 p1 g1 v r => ?_⟩
  show E.nx (σ.set i (some v)) H1
  cases it with
  | d x => exact g1 _ F1 H1 (p1.store r) (Keeps.set σ i _)
  | own m =>
    obtain ⟨p, e1, h0, f, n, rm⟩ := r
    subst e1
    exact g1 _ F1 H1 (p1.storeOwn h0 f n rm) (Keeps.set σ i _)
  | ref j =>
    have g1 : GoS K W [i] σ F H st (match frz (.ref j) s1 with | some (x, s2) => .nx (s2.set i (.d x)) | none => .bad) E := g1
    cases q : frz (.ref j) s1 with
    | none => rw [q] at g1; exact g1.elim
    | some y =>
      obtain ⟨x, s2⟩ := y
      rw [q] at g1
      obtain ⟨F2, p2, rd, _⟩ := frz_ok p1 r q
      exact g1 _ F2 H1 (p2.store rd) (Keeps.set σ i _)
section
variable {X : Cx} {W : WX} {e : Expr} {fe : FE} {pos pos' : Pos}
theorem ds_set (i : Nat) {x : Str} (hN : X.N.Nodup) (hi : X.N[i]? = some x) (hx : Loc X.env.scope x) (he : DE X W e fe) (hs : swapsWith e (some (.Name x pos')) pos.line X.env = pure false := by rfl) (hf : X.fn x = true ∨ X.env.scope.names.lookup x = some .local := by first | exact .inl rfl | exact .inr rfl | assumption) :
    DS X W (.Assign [.Name x pos'] e pos) [i] (fAsg i fe) := PS.conseq (ps_set hN hi hx he hs hf) fun E σ H h => asg_ok h
end
end DL
set_option maxRecDepth 100000
set_option maxHeartbeats 4000000
namespace DL
open PySem PySem.Spec PyProof.Rows L2
abbrev Pn := Addr × Obj
structure Rm (hot : Bool) (k : Nat) (A : Around) : Prop where
  cool : hot = false → A.handled = none
  deep : A.depth + 3 * k + 5 < recursionLimit
  unit : A.units + 16 * k + 200 < cLine
  open_ : A.guards = some []
section
variable {hot : Bool} {j k : Nat} {A : Around}
theorem Rm.mono (r : Rm hot k A) (h : j ≤ k) : Rm hot j A := ⟨r.cool, by have := r.deep; omega, by have := r.unit; omega, r.open_⟩
theorem Rm.into (r : Rm hot (k + 1) A) (env : Env) : Rm hot k (A.deeper env) :=
  ⟨r.cool, by have := r.deep; show A.depth + 1 + 3 * k + 5 < _; omega, by have := r.unit; show A.units + 3 + 16 * k + 200 < _; omega, r.open_⟩
theorem Rm.one (r : Rm hot (k + 1) A) : Rm hot k A.in1 := ⟨r.cool, by have := r.deep; show A.depth + 3 * k + 5 < _; omega, by have := r.unit; show A.units + 1 + 16 * k + 200 < _; omega, r.open_⟩
theorem made_guards {C : Addr} {us : List Value} {kw : List (Str × Value)} : (A.under (.builtin "type.__call__" ⟨.ref C :: us, kw⟩)).guards = A.guards := by
  first
  | rfl
  | simp [Around.under, Code.guards, Code.isGuard, guardIds, pushGuards]
theorem Rm.making (r : Rm hot (k + 1) A) (C : Addr) (us : List Value) (kw : List (Str × Value)) : Rm hot k (A.under (.builtin "type.__call__" ⟨.ref C :: us, kw⟩)) :=
  ⟨r.cool, by have := r.deep; rw [make_depth]; omega, by have := r.unit; rw [make_units]; omega, by rw [made_guards]; exact r.open_⟩
theorem Rm.room (r : Rm false k A) : Room k A := ⟨r.cool rfl, r.deep, r.unit⟩
theorem Rm.dp (r : Rm hot k A) : A.depth < recursionLimit := by have := r.deep; omega
theorem Rm.un (r : Rm hot k A) : A.units + 64 < cLine := by have := r.unit; omega
end

abbrev SpM := Pn → Sp
structure FnM (hot : Bool) (P : Program) (w : World) (K : PySem.W.Frag) (mg : Str → Option Value) (base : Heap) (k : Nat) (f : Addr) (fd : FuncData) (ps : List Str) (sp : SpM) : Prop where
  len : ∀ p vs H Q E, sp p vs H Q E → vs.length = ps.length
  run : ∀ (A : Around) (outer : List Env) (s : Shared) (H : Hp) (args : Args) (us : List Value) (vs : List V) (Q : VK) (E : XK) (p : Pn), Rm hot k A → (hot = true → L2H.Hot1 A p ∧ L2H.PinOk outer H s p) → Env0 P w K mg base A outer s H →
    BindsTo s fd args (ps.zip us) → Vals vs us → sp p vs H Q E → codeAny (model P w) A (.call (.ref f) args) (CR (L2N.CX P w) outer P w H s Q E) s
theorem FnM.mono {hot : Bool} {P : Program} {w : World} {K : PySem.W.Frag} {mg : Str → Option Value} {base : Heap} {j k : Nat} {f : Addr} {fd : FuncData} {ps : List Str} {sp : SpM} (F : FnM hot P w K mg base j f fd ps sp) (h : j ≤ k) :
    FnM hot P w K mg base k f fd ps sp := ⟨F.len, fun A outer s H args us vs Q E p hr => F.run A outer s H args us vs Q E p (hr.mono h)⟩
def cxM (hot : Bool) (p : Pn) (P : Program) (w : World) (K : PySem.W.Frag) (mg : Str → Option Value) (base : Heap) (N : List Str) (qual : Str) (scope : Scope) (f : Addr) (cd : Value) (A : Around) (outer : List Env) (s : Shared) (H : Hp) (E : XK) : Cx :=
  { cxOf (L2N.CX P w) P w K mg base N qual scope f cd A outer s H E with calm := !hot, pn := if hot then [p] else [] }

section
variable {hot : Bool} {p : Pn} {P : Program} {w : World} {K : PySem.W.Frag} {mg : Str → Option Value} {base : Heap} {N ps : List Str} {qual : Str} {scope : Scope} {f : Addr} {cd : Value} {A : Around} {outer : List Env} {s s1 : Shared} {H : Hp} {E : XK}
theorem cool_start {us : List Value} {vs : List V} (S : FnScope N ps scope) (hc : hot = false → A.handled = none) (hpin : hot = true → L2H.PinOk outer H s p) (e0 : Env0 P w K mg base A outer s H) (hl : vs.length = ps.length) (r : Vals vs us)
    (x : InCallC s s.heap.objs.size (bindL (envOfC qual scope s.heap.objs.size f cd).kindOf (ps.zip us) fun _ => none) (cellsFrom (s.heap.objs.size + 1) scope.names []) (bindC (envOfC qual scope s.heap.objs.size f cd).kindOf (ps.zip us) fun _ => none) s1) :
    Inv (cxM hot p P w K mg base N qual scope f cd A outer s H E) [] (L2.start N vs) H s1 := by
  cases hot with
  | false =>
    have I := inv_start (CX := L2N.CX P w) (E := E) S (hc rfl) e0 hl r x
    exact I
  | true =>
    have I := L2H.inv_startH (CX := L2N.CX P w) (E := E) S (hpin rfl) e0 hl r x
    exact I
theorem FnM.of {x : Str} {params : Arguments} {body : List Stmt} {dvs : List V} {kws : List (Str × V)} {fd : FuncData} {k : Nat} {sp : SpM} (F : FunD K x qual params body scope dvs kws f fd) (S : FnScope N ps scope) (len : ∀ p vs H Q E, sp p vs H Q E → vs.length = ps.length)
    (hbody : ∀ (cdv : Value) (A : Around) (outer : List Env) (s : Shared) (H : Hp) (vs : List V) (Q : VK) (E : XK) (p : Pn), Rm hot k (A.deeper (envOfC qual scope s.heap.objs.size f cdv)) → (hot = true → L2H.Hot1 A p) → sp p vs H Q E →
      ∃ t, PSs (cxM hot p P w K mg base N qual scope f cdv A outer s H E) body t ∧ t { nx := fun _ H' => Q .non H', rt := Q } (L2.start N vs) H) : FnM hot P w K mg base (k + 1) f fd ps sp := by
  obtain ⟨oc, od, dV, kV, doc, pm, an, cdv, ct, osl, rfl, lk, hcd, _, _⟩ := F.ex
  refine ⟨len, fun A outer s H args us vs Q E p hr hot1 e0 hb r hsp => ?_⟩
  have lv := len _ _ _ _ _ hsp
  have KX : K.In s.heap := e0.mod.kin.keeps fun b o e => (e0.bs b o e).1
  have lim : s.heap.NoLimit := e0.mod.nolimit.keeps fun b o e => (e0.bs b o e).1
  have kinds : ∀ y ∈ ps.zip us, scope.names.lookup y.1 = some .local ∨ (scope.names.lookup y.1 = some .cell ∧ ((cellsFrom (s.heap.objs.size + 1) scope.names []).lookup y.1).isSome = true) := by
    intro y hy
    rcases S.par y.1 (List.of_mem_zip (show (y.1, y.2) ∈ ps.zip us from hy)).1 with q | q
    · exact .inl q
    · exact .inr ⟨q, PySem.W.cellsFrom_some _ _ _ (.inl q)⟩
  refine codeAny_call_function hr.dp (KX _ _ lk) rfl S.co S.gen rfl (PySem.W.codeRec_of KX hcd) (hb _ _ _ _ ?_)
  refine wpAny_newFunctionEnv_cells S.kind kinds fun env he s1 x => ?_
  subst he
  refine ⟨lim.keeps x.toInCall.keep, codeAny_func ?_⟩
  obtain ⟨t, ht, hq⟩ := hbody cdv A outer s H vs Q E p (hr.into _) (fun z => (hot1 z).1) hsp
  have I : Inv (cxM hot p P w K mg base N qual scope f cdv A outer s H E) [] (L2.start N vs) H s1 := cool_start S hr.cool (fun z => (hot1 z).2) e0 lv r x
  refine wpAny_mono (ht.run [] s1 (L2.start N vs) H _ I hq) (fun fl s' hs => ?_) fun e s' hs => hs
  cases fl with
  | ret u =>
    obtain ⟨v, σ', H', J, rv, q⟩ := hs
    exact ⟨v, H', J.os, J.bare, J.base, J.hok, rv, q⟩
  | next =>
    obtain ⟨σ', H', J, q⟩ := hs
    exact ⟨V.non, H', J.os, J.bare, J.base, J.hok, rfl, q⟩
  | brk =>
    obtain ⟨_, _, _, q⟩ := hs
    exact q.elim
  | cont =>
    obtain ⟨_, _, _, q⟩ := hs
    exact q.elim
end

abbrev FG := Sls → Ot Itm
def spG (K : PySem.W.Frag) (n : Nat) (g : Pn → FG) : SpM := fun p vs H Q E => vs.length = n ∧ ∃ F as, Rl K F H (vs.map some) as ∧
  Go K (fun c d _ H' => E c d H') (vs.map some) F H as (g p as) (fun it F' H' as' => ∀ v, RI K H F' H' (vs.map some) as' v it → Q v H')
def argsBk (asg : List Nat) : Nat → Sls → Sls → Sls
  | _, [], _ => []
  | i, s :: as, st => (if asg.contains i then s else st.headD .un) :: argsBk asg (i + 1) as st.tail
def fitSl : Sl → Bool
  | .own _ => true
  | .d (.lst _) => true
  | .d (.dic _ _) => true
  | .d (.ins _ _ _) => true
  | _ => false
def isOwn : Sl → Bool
  | .own _ => true
  | _ => false
def fitAll (asg : List Nat) : Nat → Sls → Sls → Bool
  | _, [], _ => true
  | i, s :: as, st => (!isOwn s || (!asg.contains i && fitSl (st.headD .un))) && fitAll asg (i + 1) as st.tail
def gOut (asg : List Nat) (as st : Sls) (it : Itm) : Ot Itm := if fitAll asg 0 as st then (match it with
  | .d x => .ok (.d x) (argsBk asg 0 as st)
  | .own m => .ok (.own m) (argsBk asg 0 as st)
  | .ref i => match st[i]? with
    | some (.d x) => .ok (.d x) (argsBk asg 0 as st)
    | some (.own m) => if i < as.length ∧ asg.contains i = false then .ok (.ref i) (argsBk asg 0 as st) else .ok (.own m) (argsBk asg 0 as st)
    | _ => .bad) else .bad
def gOf (asg : List Nat) (N : Nat) (f : FS) : FG := fun as => match f (as ++ List.replicate (N - as.length) .un) with
  | .nx st => gOut asg as st (.d .non)
  | .rt it st => gOut asg as st it
  | .exc e st => if fitAll asg 0 as st then .exc e (argsBk asg 0 as st) else .bad
  | _ => .bad
section
variable {asg : List Nat}
theorem argsBk_len : ∀ {as st : Sls} {i : Nat}, (argsBk asg i as st).length = as.length
  | [], _, _ => rfl
  | _ :: as, st, i => congrArg (· + 1) (argsBk_len (as := as) (st := st.tail) (i := i + 1))
theorem argsBk_get : ∀ {as st : Sls} {j i : Nat} {s : Sl}, (argsBk asg j as st)[i]? = some s → i < as.length ∧ ((asg.contains (j + i) = true ∧ as[i]? = some s) ∨ (asg.contains (j + i) = false ∧ s = (st[i]?).getD .un))
  | [], _, _, i, s, h => by
    have h : ([] : Sls)[i]? = some s := h
    simp at h
  | a :: as, st, j, 0, s, h => by
    have h : some (if asg.contains j then a else st.headD .un) = some s := h
    have h := Option.some.inj h
    refine ⟨Nat.succ_pos _, ?_⟩
    rw [Nat.add_zero]
    cases q : asg.contains j with
    | true =>
      rw [q, if_pos rfl] at h
      exact .inl ⟨rfl, by rw [← h]; rfl⟩
    | false =>
      rw [q, if_neg Bool.false_ne_true] at h
      refine .inr ⟨rfl, ?_⟩
      rw [← h]
      cases st <;> rfl
  | a :: as, st, j, i + 1, s, h => by
    have h : (argsBk asg (j + 1) as st.tail)[i]? = some s := h
    obtain ⟨h1, h2⟩ := argsBk_get h
    have e1 : j + 1 + i = j + (i + 1) := by omega
    have e2 : st.tail[i]? = st[i + 1]? := by cases st <;> simp
    rw [e1, e2] at h2
    exact ⟨Nat.succ_lt_succ h1, h2⟩
theorem fitAll_get : ∀ {as st : Sls} {j i : Nat} {m : MO}, fitAll asg j as st = true → as[i]? = some (.own m) → asg.contains (j + i) = false ∧ fitSl ((st[i]?).getD .un) = true
  | [], _, _, i, m, _, e => by simp at e
  | a :: as, st, j, 0, m, h, e => by
    simp at e
    subst e
    have h : (((false || (!asg.contains j && fitSl (st.headD .un)))) && fitAll asg (j + 1) as st.tail) = true := h
    rw [Bool.false_or, Bool.and_eq_true, Bool.and_eq_true, Bool.not_eq_true'] at h
    refine ⟨by rw [Nat.add_zero]; exact h.1.1, ?_⟩
    have z := h.1.2
    cases st <;> exact z
  | a :: as, st, j, i + 1, m, h, e => by
    have h : ((!isOwn a || (!asg.contains j && fitSl (st.headD .un))) && fitAll asg (j + 1) as st.tail) = true := h
    rw [Bool.and_eq_true] at h
    obtain ⟨h1, h2⟩ := fitAll_get (i := i) (m := m) h.2 (by simpa using e)
    have e1 : j + 1 + i = j + (i + 1) := by omega
    have e2 : st.tail[i]? = st[i + 1]? := by cases st <;> simp
    rw [e1] at h1
    rw [e2] at h2
    exact ⟨h1, h2⟩
end
section
variable {K : PySem.W.Frag} {W : WX} {asg : List Nat} {N : List Str} {vs : List V} {as st' : Sls} {F H F' H' : Hp} {σ' : L2.St}
theorem start_get {i : Nat} (h : i < vs.length) : (L2.start N vs)[i]? = (vs.map some)[i]? := by
  unfold L2.start
  rw [List.getElem?_append_left (by simpa using h)]
theorem Rl.enter (R : Rl K F H (vs.map some) as) (hn : as.length ≤ N.length) : Rl K F H (L2.start N vs) (as ++ List.replicate (N.length - as.length) .un) := by
  have hl : vs.length = as.length := by have := R.len; simpa using this
  have lo : ∀ {a : Addr} {i : Nat}, OwnAt (L2.start N vs) (as ++ List.replicate (N.length - as.length) .un) a i → OwnAt (vs.map some) as a i := fun {a i} ⟨⟨m, h1⟩, h2⟩ => by
    have hi : i < as.length := by
      refine Classical.byContradiction fun z => ?_
      rw [List.getElem?_append_right (by omega), List.getElem?_replicate] at h1
      split at h1 <;> cases h1
    rw [List.getElem?_append_left hi] at h1
    rw [start_get (by omega)] at h2
    exact ⟨⟨m, h1⟩, h2⟩
  refine ⟨R.sub, ?_, fun i s e => ?_, fun a i j h1 h2 => R.apart a i j (lo h1) (lo h2)⟩
  · unfold L2.start
    rw [List.length_append, List.length_append, List.length_map, List.length_replicate, List.length_replicate, hl]
  · by_cases hi : i < as.length
    · rw [List.getElem?_append_left hi] at e
      rw [start_get (by omega)]
      exact R.at_ i s e
    · rw [List.getElem?_append_right (by omega), List.getElem?_replicate] at e
      split at e
      · cases e
        rename_i h
        refine ⟨none, ?_, trivial⟩
        unfold L2.start
        rw [List.getElem?_append_right (by rw [List.length_map]; omega), List.getElem?_replicate, List.length_map, if_pos (by omega)]
      · cases e
theorem own_enter {a : Addr} (hl : vs.length = as.length) : Own (L2.start N vs) (as ++ List.replicate (N.length - as.length) .un) a ↔ Own (vs.map some) as a := by
  constructor
  · rintro ⟨i, ⟨m, h1⟩, h2⟩
    have hi : i < as.length := by
      refine Classical.byContradiction fun z => ?_
      rw [List.getElem?_append_right (by omega), List.getElem?_replicate] at h1
      split at h1 <;> cases h1
    rw [List.getElem?_append_left hi] at h1
    rw [start_get (by omega)] at h2
    exact ⟨i, ⟨m, h1⟩, h2⟩
  · rintro ⟨i, ⟨m, h1⟩, h2⟩
    have hi : i < as.length := (List.getElem?_eq_some_iff.mp h1).1
    refine ⟨i, ⟨m, by rw [List.getElem?_append_left hi]; exact h1⟩, by rw [start_get (by omega)]; exact h2⟩
structure Exit (K : PySem.W.Frag) (asg : List Nat) (vs : List V) (as : Sls) (F H : Hp) (σ' : L2.St) (F' H' : Hp) (st' : Sls) : Prop where
  stp : Stp K (vs.map some) F H as (vs.map some) F' H' (argsBk asg 0 as st')
  inn : ∀ a i, OwnAt (vs.map some) (argsBk asg 0 as st') a i → OwnAt σ' st' a i ∧ i < as.length ∧ asg.contains i = false
theorem exit_ok (R : Rl K F H (vs.map some) as) (hn : as.length ≤ N.length) (s : Stp K (L2.start N vs) F H (as ++ List.replicate (N.length - as.length) .un) σ' F' H' st') (k : Keeps asg (L2.start N vs) σ') (hf : fitAll asg 0 as st' = true) : Exit K asg vs as F H σ' F' H' st' := by
  have hl : vs.length = as.length := by have := R.len; simpa using this
  have keep : ∀ {i : Nat}, i < as.length → asg.contains i = false → σ'[i]? = (vs.map some)[i]? := fun {i} h1 h2 => by
    rw [k i fun z => by rw [List.contains_iff_mem.mpr z] at h2; cases h2]
    exact start_get (by omega)
  have inn : ∀ a i, OwnAt (vs.map some) (argsBk asg 0 as st') a i → OwnAt σ' st' a i ∧ i < as.length ∧ asg.contains i = false := fun a i ⟨⟨m, h1⟩, h2⟩ => by
    obtain ⟨hi, h⟩ := argsBk_get h1
    rw [Nat.zero_add] at h
    rcases h with ⟨c, e⟩ | ⟨c, e⟩
    · have z := (fitAll_get hf e).1
      rw [Nat.zero_add, c] at z
      cases z
    · refine ⟨⟨⟨m, ?_⟩, by rw [keep hi c]; exact h2⟩, hi, c⟩
      cases q : st'[i]? with
      | none => rw [q] at e; cases e
      | some sl => rw [q] at e; rw [e]; rfl
  refine ⟨⟨s.fr, ⟨s.rel.sub, by rw [argsBk_len, List.length_map]; exact hl, fun i sl e => ?_, fun a i j h1 h2 => s.rel.apart a i j (inn a i h1).1 (inn a j h2).1⟩, fun a h1 h2 => ?_, fun a o h1 h2 h3 => s.keep a o h1 h2 fun z => h3 ((own_enter hl).mp z), s.there, fun a h => ?_⟩, inn⟩
  · obtain ⟨hi, h⟩ := argsBk_get e
    rw [Nat.zero_add] at h
    rcases h with ⟨c, e⟩ | ⟨c, e⟩
    · obtain ⟨ov, h1, h2⟩ := R.at_ i sl e
      refine ⟨ov, h1, ?_⟩
      cases sl with
      | un => trivial
      | cls c => exact h2
      | exc q u => exact ⟨h2.1, h2.2.mono s.fr⟩
      | d x =>
        obtain ⟨v, e1, r⟩ := h2
        exact ⟨v, e1, RD.mono s.fr x v r⟩
      | own m =>
        have z := (fitAll_get hf e).1
        rw [Nat.zero_add, c] at z
        cases z
    · cases q : st'[i]? with
      | none =>
        rw [q] at e
        have e : sl = .un := e
        subst e
        refine ⟨some (vs[i]'(by omega)), by rw [List.getElem?_map, List.getElem?_eq_getElem (by omega)]; rfl, trivial⟩
      | some s2 =>
        rw [q] at e
        have e : sl = s2 := e
        subst e
        obtain ⟨ov, h1, h2⟩ := s.rel.at_ i sl q
        rw [keep hi c] at h1
        exact ⟨ov, h1, h2⟩
  · rcases s.new a h1 h2 with z | z
    · exact .inl z
    · exact .inr ((own_enter hl).mp z)
  · obtain ⟨i, h⟩ := h
    rcases s.own a ⟨i, (inn a i h).1⟩ with z | z
    · exact .inl ((own_enter hl).mp z)
    · exact .inr z
theorem gOut_ok {it : Itm} {v : V} {E : XK} {Q : VK} (R : Rl K F H (vs.map some) as) (hn : as.length ≤ N.length) (s : Stp K (L2.start N vs) F H (as ++ List.replicate (N.length - as.length) .un) σ' F' H' st') (k : Keeps asg (L2.start N vs) σ')
    (r : RI K H F' H' σ' st' v it) (g : Go K (fun c d _ H' => E c d H') (vs.map some) F H as (gOut asg as st' it) (fun it F' H' as' => ∀ v, RI K H F' H' (vs.map some) as' v it → Q v H')) : Q v H' := by
  unfold gOut at g
  split at g
  · rename_i hf
    have X := exit_ok R hn s k hf
    have hl : vs.length = as.length := by have := R.len; simpa using this
    cases it with
    | d x => exact g F' H' X.stp v r
    | own m =>
      obtain ⟨p, e1, h0, f, n, rm⟩ := r
      refine g F' H' X.stp v ⟨p, e1, h0, f, fun z => ?_, rm⟩
      obtain ⟨i, h⟩ := z
      exact n ⟨i, (X.inn p i h).1⟩
    | ref i =>
      have r : σ'[i]? = some (some v) := r
      dsimp only at g
      split at g
      · rename_i x e
        obtain ⟨ov, h1, h2⟩ := s.rel.at_ i _ e
        rw [r] at h1
        cases h1
        obtain ⟨u, e1, rd⟩ := h2
        cases e1
        exact g F' H' X.stp v rd
      · rename_i m e
        obtain ⟨ov, h1, h2⟩ := s.rel.at_ i _ e
        rw [r] at h1
        cases h1
        obtain ⟨p, e1, f, rm⟩ := h2
        cases e1
        split at g
        · rename_i hi
          refine g F' H' X.stp (.ref p) ?_
          show (vs.map some)[i]? = some (some (V.ref p))
          rw [← r, k i fun z => by have q := hi.2; rw [List.contains_iff_mem.mpr z] at q; cases q]
          exact (start_get (by omega)).symm
        · rename_i hi
          refine g F' H' X.stp (.ref p) ⟨p, rfl, ?_, f, fun z => ?_, rm⟩
          · rcases s.own p ⟨i, ⟨m, e⟩, r⟩ with z | z
            · obtain ⟨j, ⟨m', a1⟩, a2⟩ := (own_enter hl).mp z
              obtain ⟨c, fit⟩ := fitAll_get hf a1
              rw [Nat.zero_add] at c
              have hj : j < as.length := (List.getElem?_eq_some_iff.mp a1).1
              have sj : σ'[j]? = some (some (V.ref p)) := by
                have e9 : σ'[j]? = (L2.start N vs)[j]? := k j fun z => by
                  rw [List.contains_iff_mem.mpr z] at c
                  cases c
                rw [e9, start_get (by omega)]
                exact a2
              cases q : st'[j]? with
              | none => rw [q] at fit; cases fit
              | some sl =>
                rw [q] at fit
                have fit : fitSl sl = true := fit
                cases sl with
                | un => cases fit
                | cls c => cases fit
                | exc q u => cases fit
                | own m2 =>
                  have ij := s.rel.apart p i j ⟨⟨m, e⟩, r⟩ ⟨⟨m2, q⟩, sj⟩
                  subst ij
                  exact absurd ⟨hj, c⟩ hi
                | d x =>
                  obtain ⟨ov, b1, b2⟩ := s.rel.at_ j _ q
                  rw [sj] at b1
                  cases b1
                  obtain ⟨u, e1, rd⟩ := b2
                  cases e1
                  cases x with
                  | lst xs =>
                    obtain ⟨a, ys, e2, h3, _⟩ := rd
                    cases e2
                    rw [f] at h3
                    cases h3
                  | dic ks ws =>
                    obtain ⟨a, ys, e2, h3, _⟩ := rd
                    cases e2
                    rw [f] at h3
                    cases h3
                  | ins C fs ds =>
                    obtain ⟨a, dx, ys, e2, h3, _⟩ := rd
                    cases e2
                    rw [f] at h3
                    cases h3
                  | _ => cases fit
            · exact z
          · obtain ⟨j, h⟩ := z
            obtain ⟨h1, hj, c⟩ := X.inn p j h
            have ij := s.rel.apart p i j ⟨⟨m, e⟩, r⟩ h1
            subst ij
            exact hi ⟨hj, c⟩
      · exact g.elim
  · exact g.elim
end
theorem FnM.data {hot : Bool} {P : Program} {w : World} {K : PySem.W.Frag} {mg : Str → Option Value} {base : Heap} {N ps : List Str} {qual : Str} {scope : Scope} {f : Addr} {x : Str} {params : Arguments} {body : List Stmt} {dvs : List V} {kws : List (Str × V)} {fd : FuncData} {k : Nat}
    {asg : List Nat} {ff : Pn → FS} (F : FunD K x qual params body scope dvs kws f fd) (S : FnScope N ps scope)
    (hbody : ∀ (X : Cx) (W : WX) (p : Pn), (∃ cdv A outer s H E, X = cxM hot p P w K mg base N qual scope f cdv A outer s H E) → Rm hot k X.A → L2N.Takes X W → (hot = true → L2H.Hot1 X.A p) → DSs X W body asg (ff p)) :
    FnM hot P w K mg base (k + 1) f fd ps (spG K ps.length fun p => gOf asg N.length (ff p)) := by
  have hpl : ps.length ≤ N.length := by have := congrArg List.length S.pre; rw [List.length_take] at this; omega
  refine FnM.of F S (fun p vs H Q E h => h.1) fun cdv A outer s H vs Q E p hr hot1 h => ?_
  obtain ⟨hl, F0, as, R, g⟩ := h
  have hla : vs.length = as.length := by have := R.len; simpa using this
  refine ⟨_, hbody (cxM hot p P w K mg base N qual scope f cdv A outer s H E) (fun c d _ H' => E c d H') p ⟨cdv, A, outer, s, H, E, rfl⟩ hr (L2N.takes_of rfl rfl rfl rfl) (fun z => by
    have q := hot1 z
    exact ⟨q.1, q.2⟩), F0, _, R.enter (N := N) (by omega), ?_⟩
  have en : N.length - as.length + 0 = N.length - as.length := rfl
  unfold gOf at g
  dsimp only at g
  cases q : ff p (as ++ List.replicate (N.length - as.length) .un) with
  | nx st' =>
    rw [q] at g
    intro σ' F' H' s' k'
    exact gOut_ok (it := .d .non) R (by omega) s' k' rfl g
  | rt it st' =>
    rw [q] at g
    intro σ' F' H' v s' k' r
    exact gOut_ok R (by omega) s' k' r g
  | bk st' => rw [q] at g; exact g.elim
  | ct st' => rw [q] at g; exact g.elim
  | exc e st' =>
    rw [q] at g
    intro d σ' F' H' s' k' xr
    dsimp only at g
    split at g
    · rename_i hf
      have X := exit_ok R (by omega) s' k' hf
      exact g d F' H' X.stp xr
    · exact g.elim
  | bad => rw [q] at g; exact g.elim
end DL
set_option maxRecDepth 100000
set_option maxHeartbeats 4000000
namespace DL
open PySem PySem.Spec PyProof.Rows L2
def RIx (K : PySem.W.Frag) (H0 F H : Hp) (σ : L2.St) (st : Sls) (vs : List V) (its : List Itm) : Prop := vs.length = its.length ∧
  ∀ (i : Nat) (it : Itm), its[i]? = some it → ∃ v, vs[i]? = some v ∧ RI K H0 F H σ st v it ∧ ∀ m, it = .own m → ∀ (j : Nat) m', its[j]? = some (.own m') → vs[j]? = some v → j = i
theorem mem_zip_get {α β : Type} : ∀ {as : List α} {bs : List β} {i : Nat} {a : α} {b : β}, as[i]? = some a → bs[i]? = some b → (a, b) ∈ as.zip bs
  | [], _, i, _, _, h, _ => by simp at h
  | _ :: _, [], i, _, _, _, h => by simp at h
  | x :: as, y :: bs, 0, a, b, h1, h2 => by
    simp at h1 h2
    subst h1 h2
    exact List.mem_cons_self
  | x :: as, y :: bs, i + 1, a, b, h1, h2 => List.mem_cons_of_mem _ (mem_zip_get (as := as) (bs := bs) (i := i) (by simpa using h1) (by simpa using h2))
section
variable {K : PySem.W.Frag} {H0 H1 F H F' H' : Hp} {σ : L2.St} {st st' : Sls}
theorem RIs.ix : ∀ {vs : List V} {its : List Itm}, RIs K H0 F H σ st vs its → RIx K H0 F H σ st vs its
  | [], [], _ => ⟨rfl, fun i it e => by simp at e⟩
  | [], _ :: _, q => q.elim
  | _ :: _, [], q => q.elim
  | v :: vs, it :: its, q => by
    obtain ⟨l, h⟩ := RIs.ix (vs := vs) (its := its) q.2.2
    refine ⟨congrArg (· + 1) l, fun i x e => ?_⟩
    cases i with
    | zero =>
      simp at e
      subst e
      refine ⟨v, rfl, q.1, fun m hm j m' e1 e2 => ?_⟩
      cases j with
      | zero => rfl
      | succ j =>
        have e1 : its[j]? = some (.own m') := by simpa using e1
        have e2 : vs[j]? = some v := by simpa using e2
        exact absurd rfl (q.2.1 m hm v m' (mem_zip_get e2 e1))
    | succ i =>
      obtain ⟨w, h1, h2, h3⟩ := h i x (by simpa using e)
      refine ⟨w, by simpa using h1, h2, fun m hm j m' e1 e2 => ?_⟩
      cases j with
      | zero =>
        simp at e1 e2
        subst e1 e2
        subst hm
        have e3 : its[i]? = some (.own m) := by simpa using e
        exact absurd rfl (q.2.1 m' rfl v m (mem_zip_get h1 e3))
      | succ j => exact congrArg (· + 1) (h3 m hm j m' (by simpa using e1) (by simpa using e2))
theorem RIs.append : ∀ {vs ws : List V} {its jts : List Itm}, RIs K H0 F H σ st vs its → RIs K H1 F H σ st ws jts → (∀ a, H0 a ≠ none → H1 a ≠ none) → (∀ v m, (v, Itm.own m) ∈ vs.zip its → ∀ p, v = .ref p → H1 p ≠ none) → RIs K H0 F H σ st (vs ++ ws) (its ++ jts)
  | [], ws, [], jts, _, r, b, _ => RIs.back b r
  | [], _, _ :: _, _, q, _, _, _ => q.elim
  | _ :: _, _, [], _, q, _, _, _ => q.elim
  | v :: vs, ws, it :: its, jts, q, r, b, o => by
    refine ⟨q.1, fun m hm w m' h z => ?_, RIs.append (vs := vs) (its := its) q.2.2 r b fun u m hu => o u m (by rw [List.zip_cons_cons]; exact List.mem_cons_of_mem _ hu)⟩
    have h : (w, Itm.own m') ∈ (vs ++ ws).zip (its ++ jts) := h
    rw [List.zip_append (RIs.length q.2.2)] at h
    rcases List.mem_append.mp h with h | h
    · exact q.2.1 m hm w m' h z
    · obtain ⟨p, e1, e2⟩ := r.fresh w m' h
      subst hm
      exact o v m (by rw [List.zip_cons_cons]; exact List.mem_cons_self) p (by rw [← z]; exact e1) e2
theorem RIs.there : ∀ {vs : List V} {its : List Itm}, RIs K H0 F H σ st vs its → ∀ v m, (v, Itm.own m) ∈ vs.zip its → ∀ p, v = .ref p → H p ≠ none
  | [], [], _, v, m, h, _, _ => by simp at h
  | [], _ :: _, q, _, _, _, _, _ => q.elim
  | _ :: _, [], q, _, _, _, _, _ => q.elim
  | v :: vs, it :: its, q, w, m, h, p, e => by
    rw [List.zip_cons_cons] at h
    rcases List.mem_cons.mp h with z | h
    · cases z
      obtain ⟨p', e1, _, _, _, rm⟩ := q.1
      rw [e] at e1
      cases e1
      exact rm.there
    · exact RIs.there (vs := vs) (its := its) q.2.2 w m h p e
end

def argSl (st : Sls) : Itm → Option Sl
  | .d x => some (.d x)
  | .own m => some (.own m)
  | .ref j => match st[j]? with
    | some (.own m) => some (.own m)
    | some (.d x) => some (.d x)
    | _ => none
def argsSl (st : Sls) : List Itm → Option Sls
  | [] => some []
  | it :: its => match argSl st it, argsSl st its with
    | some s, some ss => some (s :: ss)
    | _, _ => none
def isRef (j : Nat) : Itm → Bool
  | .ref k => k == j
  | _ => false
def refsOk : List Itm → Bool
  | [] => true
  | .ref j :: its => !its.any (isRef j) && refsOk its
  | _ :: its => refsOk its
def putBk : List Itm → Sls → Sls → Sls
  | .ref j :: its, s :: as, st => putBk its as (st.set j s)
  | _ :: its, _ :: as, st => putBk its as st
  | _, _, st => st
def resIt (its : List Itm) (as : Sls) : Itm → Option Itm
  | .d x => some (.d x)
  | .own m => some (.own m)
  | .ref i => match its[i]? with
    | some (.ref k) => some (.ref k)
    | some (.own _) => (match as[i]? with
      | some (.own m) => some (.own m)
      | some (.d x) => some (.d x)
      | _ => none)
    | some (.d _) => (match as[i]? with
      | some (.d x) => some (.d x)
      | _ => none)
    | _ => none
def callG (g : FG) (its : List Itm) (st : Sls) : Ot Itm := if refsOk its then (match argsSl st its with
  | some as => (match g as with
    | .ok it as' => (match resIt its as' it with
      | some r => .ok r (putBk its as' st)
      | none => .bad)
    | .exc e as' => .exc e (putBk its as' st)
    | .bad => .bad)
  | none => .bad) else .bad
theorem argsSl_get : ∀ {its : List Itm} {st as : Sls}, argsSl st its = some as → as.length = its.length ∧ ∀ (i : Nat) it, its[i]? = some it → ∃ s, as[i]? = some s ∧ argSl st it = some s
  | [], st, as, h => by
    cases h
    exact ⟨rfl, fun i it e => by simp at e⟩
  | it :: its, st, as, h => by
    have h : (match argSl st it, argsSl st its with | some s, some ss => some (s :: ss) | _, _ => none) = some as := h
    split at h
    · rename_i s ss e1 e2
      cases h
      obtain ⟨l, g⟩ := argsSl_get e2
      refine ⟨congrArg (· + 1) l, fun i x e => ?_⟩
      cases i with
      | zero =>
        simp at e
        subst e
        exact ⟨s, rfl, e1⟩
      | succ i =>
        obtain ⟨u, h1, h2⟩ := g i x (by simpa using e)
        exact ⟨u, by simpa using h1, h2⟩
    · cases h
theorem refsOk_get : ∀ {its : List Itm} {i j k : Nat}, refsOk its = true → its[i]? = some (Itm.ref k) → its[j]? = some (.ref k) → i = j
  | [], i, j, k, _, e, _ => by simp at e
  | it :: its, 0, 0, k, _, _, _ => rfl
  | it :: its, 0, j + 1, k, h, e1, e2 => by
    simp at e1
    subst e1
    have h : (!its.any (isRef k) && refsOk its) = true := h
    rw [Bool.and_eq_true, Bool.not_eq_true'] at h
    have m : Itm.ref k ∈ its := List.mem_of_getElem? (by simpa using e2)
    have z : its.any (isRef k) = true := List.any_eq_true.mpr ⟨_, m, by show (k == k) = true; exact beq_self_eq_true k⟩
    rw [z] at h
    cases h.1
  | it :: its, i + 1, 0, k, h, e1, e2 => by
    simp at e2
    subst e2
    have h : (!its.any (isRef k) && refsOk its) = true := h
    rw [Bool.and_eq_true, Bool.not_eq_true'] at h
    have m : Itm.ref k ∈ its := List.mem_of_getElem? (by simpa using e1)
    have z : its.any (isRef k) = true := List.any_eq_true.mpr ⟨_, m, by show (k == k) = true; exact beq_self_eq_true k⟩
    rw [z] at h
    cases h.1
  | it :: its, i + 1, j + 1, k, h, e1, e2 => by
    have h' : refsOk its = true := by
      cases it with
      | ref l =>
        have h : (!its.any (isRef l) && refsOk its) = true := h
        rw [Bool.and_eq_true] at h
        exact h.2
      | d x => exact h
      | own m => exact h
    exact congrArg (· + 1) (refsOk_get h' (by simpa using e1) (by simpa using e2))
theorem putBk_len : ∀ {its : List Itm} {as st : Sls}, (putBk its as st).length = st.length
  | [], as, st => by cases as <;> rfl
  | .ref j :: its, [], st => rfl
  | .ref j :: its, s :: as, st => by
    show (putBk its as (st.set j s)).length = _
    rw [putBk_len, List.length_set]
  | .d x :: its, [], st => rfl
  | .d x :: its, s :: as, st => putBk_len (its := its) (as := as)
  | .own m :: its, [], st => rfl
  | .own m :: its, s :: as, st => putBk_len (its := its) (as := as)
theorem putBk_get : ∀ {its : List Itm} {as st : Sls} {k : Nat} {s : Sl}, as.length = its.length → (putBk its as st)[k]? = some s → (∃ i : Nat, its[i]? = some (Itm.ref k) ∧ as[i]? = some s) ∨ ((∀ i : Nat, its[i]? ≠ some (Itm.ref k)) ∧ st[k]? = some s)
  | [], as, st, k, s, _, e => .inr ⟨fun i z => by simp at z, by cases as <;> exact e⟩
  | it :: its, [], st, k, s, l, e => by simp at l
  | it :: its, a :: as, st, k, s, l, e => by
    have l' : as.length = its.length := by simpa using l
    have tail : ∀ {st1 : Sls}, (putBk its as st1)[k]? = some s → (∃ i : Nat, (it :: its)[i]? = some (.ref k) ∧ (a :: as)[i]? = some s) ∨ ((∀ i : Nat, its[i]? ≠ some (Itm.ref k)) ∧ st1[k]? = some s) := fun {st1} e => by
      rcases putBk_get l' e with ⟨i, h1, h2⟩ | h
      · exact .inl ⟨i + 1, by simpa using h1, by simpa using h2⟩
      · exact .inr h
    cases it with
    | ref j =>
      rcases tail (st1 := st.set j a) e with h | ⟨h1, h2⟩
      · exact .inl h
      · by_cases z : j = k
        · subst z
          rw [List.getElem?_set] at h2
          split at h2
          · split at h2
            · cases h2
              exact .inl ⟨0, rfl, rfl⟩
            · cases h2
          · rename_i z; exact absurd rfl z
        · rw [List.getElem?_set_ne z] at h2
          refine .inr ⟨fun i e => ?_, h2⟩
          cases i with
          | zero =>
            simp at e
            exact z e
          | succ i => exact h1 i (by simpa using e)
    | d x =>
      rcases tail (st1 := st) e with h | ⟨h1, h2⟩
      · exact .inl h
      · refine .inr ⟨fun i e => ?_, h2⟩
        cases i with
        | zero => simp at e
        | succ i => exact h1 i (by simpa using e)
    | own m =>
      rcases tail (st1 := st) e with h | ⟨h1, h2⟩
      · exact .inl h
      · refine .inr ⟨fun i e => ?_, h2⟩
        cases i with
        | zero => simp at e
        | succ i => exact h1 i (by simpa using e)

section
variable {K : PySem.W.Frag} {W : WX} {σ : L2.St} {F0 H0 F H F' H' : Hp} {st0 st as as' : Sls} {vs : List V} {its : List Itm}
theorem own_arg (R : Rl K F H σ st) (r : RIx K H0 F H σ st vs its) (e : argsSl st its = some as) {p : Addr} {i : Nat} (o : OwnAt (vs.map some) as p i) :
    (∃ k, its[i]? = some (Itm.ref k) ∧ OwnAt σ st p k) ∨ ((∃ m, its[i]? = some (.own m)) ∧ H0 p = none ∧ ¬ Own σ st p ∧ vs[i]? = some (.ref p)) := by
  obtain ⟨⟨m, h1⟩, h2⟩ := o
  obtain ⟨l, g⟩ := argsSl_get e
  have hi : i < its.length := by rw [← l]; exact (List.getElem?_eq_some_iff.mp h1).1
  obtain ⟨s, e1, e2⟩ := g i _ (List.getElem?_eq_getElem hi)
  rw [h1] at e1
  cases e1
  obtain ⟨v, v1, v2, _⟩ := r.2 i _ (List.getElem?_eq_getElem hi)
  have ev : v = .ref p := by
    rw [List.getElem?_map, v1] at h2
    cases h2
    rfl
  subst ev
  have q : its[i]? = some its[i] := List.getElem?_eq_getElem hi
  cases z : its[i] with
  | d x => rw [z] at e2; cases e2
  | own m' =>
    rw [z] at v2
    obtain ⟨p', e3, h0, _, n, _⟩ := v2
    cases e3
    exact .inr ⟨⟨m', by rw [q, z]⟩, h0, n, v1⟩
  | ref k =>
    rw [z] at e2 v2
    refine .inl ⟨k, by rw [q, z], ⟨m, ?_⟩, v2⟩
    have e2 : (match st[k]? with | some (.own m) => some (.own m) | some (.d x) => some (.d x) | _ => none) = some (Sl.own m) := e2
    split at e2
    · rename_i m2 e3
      cases e2
      exact e3
    · cases e2
    · cases e2
theorem args_rl (R : Rl K F H σ st) (r : RIx K H0 F H σ st vs its) (ok : refsOk its = true) (e : argsSl st its = some as) : Rl K F H (vs.map some) as := by
  obtain ⟨l, g⟩ := argsSl_get e
  refine ⟨R.sub, by rw [List.length_map, l]; exact r.1, fun i s es => ?_, fun p i j h1 h2 => ?_⟩
  · have hi : i < its.length := by rw [← l]; exact (List.getElem?_eq_some_iff.mp es).1
    obtain ⟨s', e1, e2⟩ := g i _ (List.getElem?_eq_getElem hi)
    rw [es] at e1
    cases e1
    obtain ⟨v, v1, v2, _⟩ := r.2 i _ (List.getElem?_eq_getElem hi)
    refine ⟨some v, by rw [List.getElem?_map, v1]; rfl, ?_⟩
    cases z : its[i] with
    | d x =>
      rw [z] at e2 v2
      cases e2
      exact ⟨v, rfl, v2⟩
    | own m =>
      rw [z] at e2 v2
      cases e2
      obtain ⟨p, e3, _, f, _, rm⟩ := v2
      exact ⟨p, by rw [e3], f, rm⟩
    | ref k =>
      rw [z] at e2 v2
      have v2 : σ[k]? = some (some v) := v2
      have e2 : (match st[k]? with | some (.own m) => some (.own m) | some (.d x) => some (.d x) | _ => none) = some s := e2
      split at e2
      · rename_i m2 e3
        cases e2
        obtain ⟨ov, a1, a2⟩ := R.at_ k _ e3
        rw [v2] at a1
        cases a1
        exact a2
      · rename_i m2 e3
        cases e2
        obtain ⟨ov, a1, a2⟩ := R.at_ k _ e3
        rw [v2] at a1
        cases a1
        exact a2
      · cases e2
  · rcases own_arg R r e h1 with ⟨k, a1, a2⟩ | ⟨⟨m, a1⟩, _, a3, a4⟩
    · rcases own_arg R r e h2 with ⟨k', b1, b2⟩ | ⟨_, _, b3, _⟩
      · have z := R.apart p k k' a2 b2
        subst z
        exact refsOk_get ok a1 b1
      · exact absurd ⟨k, a2⟩ b3
    · rcases own_arg R r e h2 with ⟨k', b1, b2⟩ | ⟨⟨m', b1⟩, _, _, b4⟩
      · exact absurd ⟨k', b2⟩ a3
      · obtain ⟨v, v1, _, v3⟩ := r.2 i _ a1
        rw [a4] at v1
        cases v1
        exact (v3 m rfl j m' b1 b4).symm
theorem call_stp (s : Stp K σ F0 H0 st0 σ F H st) (r : RIx K H0 F H σ st vs its) (ok : refsOk its = true) (e : argsSl st its = some as) (c : Stp K (vs.map some) F H as (vs.map some) F' H' as') : Stp K σ F0 H0 st0 σ F' H' (putBk its as' st) := by
  have la : as'.length = its.length := by have := c.rel.len; rw [List.length_map] at this; rw [← this]; exact r.1
  have back : ∀ a, H a = none → H0 a = none := fun a h => Classical.byContradiction fun z => s.there a z h
  -- a slot that is not given stays
  have stays : ∀ {k : Nat} {p : Addr}, (∀ i : Nat, its[i]? ≠ some (Itm.ref k)) → OwnAt σ st p k → ¬ Own (vs.map some) as p := fun {k p} h o ⟨i, z⟩ => by
    rcases own_arg s.rel r e z with ⟨k', a1, a2⟩ | ⟨_, _, a3, _⟩
    · have q := s.rel.apart p k k' o a2
      subst q
      exact h i a1
    · exact a3 ⟨k, o⟩
  have val : ∀ {i k : Nat}, its[i]? = some (Itm.ref k) → ∃ v, vs[i]? = some v ∧ σ[k]? = some (some v) := fun {i k} h => by
    obtain ⟨v, v1, v2, _⟩ := r.2 i _ h
    exact ⟨v, v1, v2⟩
  have own' : ∀ {p : Addr} {k : Nat}, OwnAt σ (putBk its as' st) p k → (∃ i : Nat, its[i]? = some (Itm.ref k) ∧ OwnAt (vs.map some) as' p i) ∨ ((∀ i : Nat, its[i]? ≠ some (Itm.ref k)) ∧ OwnAt σ st p k) := fun {p k} ⟨⟨m, h1⟩, h2⟩ => by
    rcases putBk_get la h1 with ⟨i, a1, a2⟩ | ⟨a1, a2⟩
    · obtain ⟨v, v1, v2⟩ := val a1
      rw [h2] at v2
      cases v2
      exact .inl ⟨i, a1, ⟨m, a2⟩, by rw [List.getElem?_map, v1]; rfl⟩
    · exact .inr ⟨a1, ⟨m, a2⟩, h2⟩
  have hid : ∀ {k : Nat} {p : Addr} {m : MO}, (∀ i : Nat, its[i]? ≠ some (Itm.ref k)) → st[k]? = some (.own m) → σ[k]? = some (some (.ref p)) → F p = none → RM K F H p m → F' p = none ∧ H' p = H p := fun {k p m} h1 h2 h3 f rm => by
    have n := stays h1 ⟨⟨m, h2⟩, h3⟩
    refine ⟨?_, ?_⟩
    · cases q : F' p with
      | none => rfl
      | some u =>
        rcases c.new p f (by rw [q]; simp) with z | z
        · exact absurd z rm.there
        · exact absurd z n
    · cases q : H p with
      | none => exact absurd q rm.there
      | some o => exact c.keep p o q f n
  refine ⟨s.fr.trans c.fr, ⟨c.rel.sub, by rw [putBk_len]; exact s.rel.len, fun k sl h => ?_, fun p k k' h1 h2 => ?_⟩, fun a h1 h2 => ?_, fun a o h1 h2 h3 => ?_, fun a h => c.there a (s.there a h), fun a h => ?_⟩
  · rcases putBk_get la h with ⟨i, a1, a2⟩ | ⟨a1, a2⟩
    · obtain ⟨v, v1, v2⟩ := val a1
      obtain ⟨ov, b1, b2⟩ := c.rel.at_ i sl a2
      rw [List.getElem?_map, v1] at b1
      cases b1
      exact ⟨_, v2, b2⟩
    · obtain ⟨ov, b1, b2⟩ := s.rel.at_ k sl a2
      refine ⟨ov, b1, ?_⟩
      cases sl with
      | un => trivial
      | cls c => exact b2
      | exc q u => exact ⟨b2.1, b2.2.mono c.fr⟩
      | d x =>
        obtain ⟨v, e1, rd⟩ := b2
        exact ⟨v, e1, RD.mono c.fr x v rd⟩
      | own m =>
        obtain ⟨p, e1, f, rm⟩ := b2
        subst e1
        obtain ⟨f', h'⟩ := hid a1 a2 b1 f rm
        exact ⟨p, rfl, f', rm.mono c.fr h'⟩
  · rcases own' h1 with ⟨i, a1, a2⟩ | ⟨a1, a2⟩
    · rcases own' h2 with ⟨j, b1, b2⟩ | ⟨b1, b2⟩
      · have z := c.rel.apart p i j a2 b2
        subst z
        rw [a1] at b1
        cases b1
        rfl
      · rcases c.own p ⟨i, a2⟩ with z | z
        · exact absurd z (stays b1 b2)
        · exact absurd z (s.rel.own_free ⟨k', b2⟩).2
    · rcases own' h2 with ⟨j, b1, b2⟩ | ⟨b1, b2⟩
      · rcases c.own p ⟨j, b2⟩ with z | z
        · exact absurd z (stays a1 a2)
        · exact absurd z (s.rel.own_free ⟨k, a2⟩).2
      · exact s.rel.apart p k k' a2 b2
  · cases q : F a with
    | some u => exact s.new a h1 (by rw [q]; simp)
    | none =>
      rcases c.new a q h2 with z | ⟨i, z⟩
      · exact .inl (back a z)
      · rcases own_arg s.rel r e z with ⟨k, _, a2⟩ | ⟨_, a2, _⟩
        · rcases s.own a ⟨k, a2⟩ with y | y
          · exact .inr y
          · exact .inl y
        · exact .inl a2
  · have e1 := s.keep a o h1 h2 h3
    have f : F a = none := by
      cases q : F a with
      | none => rfl
      | some u =>
        rcases s.new a h2 (by rw [q]; simp) with z | z
        · rw [h1] at z; cases z
        · exact absurd z h3
    refine c.keep a o e1 f fun ⟨i, z⟩ => ?_
    rcases own_arg s.rel r e z with ⟨k, _, a2⟩ | ⟨_, a2, _⟩
    · rcases s.own a ⟨k, a2⟩ with y | y
      · exact h3 y
      · rw [h1] at y; cases y
    · rw [h1] at a2; cases a2
  · obtain ⟨k, h⟩ := h
    rcases own' h with ⟨i, a1, a2⟩ | ⟨a1, a2⟩
    · rcases c.own a ⟨i, a2⟩ with ⟨i', z⟩ | z
      · rcases own_arg s.rel r e z with ⟨k', _, b2⟩ | ⟨_, b2, _⟩
        · exact s.own a ⟨k', b2⟩
        · exact .inr b2
      · exact .inr (back a z)
    · exact s.own a ⟨k, a2⟩
theorem call_res {it it' : Itm} {v : V} (s : Stp K σ F0 H0 st0 σ F H st) (r : RIx K H0 F H σ st vs its) (ok : refsOk its = true) (e : argsSl st its = some as) (c : Stp K (vs.map some) F H as (vs.map some) F' H' as')
    (rv : RI K H F' H' (vs.map some) as' v it) (q : resIt its as' it = some it') : RI K H0 F' H' σ (putBk its as' st) v it' := by
  have la : as'.length = its.length := by have := c.rel.len; rw [List.length_map] at this; rw [← this]; exact r.1
  have back : ∀ a, H a = none → H0 a = none := fun a h => Classical.byContradiction fun z => s.there a z h
  have own' : ∀ {p : Addr}, Own σ (putBk its as' st) p → (∃ i k, its[i]? = some (Itm.ref k) ∧ OwnAt (vs.map some) as' p i) ∨ Own σ st p := fun {p} ⟨k, ⟨m, h1⟩, h2⟩ => by
    rcases putBk_get la h1 with ⟨i, a1, a2⟩ | ⟨a1, a2⟩
    · obtain ⟨v, v1, v2, _⟩ := r.2 i _ a1
      have v2 : σ[k]? = some (some v) := v2
      rw [h2] at v2
      cases v2
      exact .inl ⟨i, k, a1, ⟨m, a2⟩, by rw [List.getElem?_map, v1]; rfl⟩
    · exact .inr ⟨k, ⟨m, a2⟩, h2⟩
  cases it with
  | d x => cases q; exact rv
  | own m =>
    cases q
    obtain ⟨p, e1, h0, f, n, rm⟩ := rv
    refine ⟨p, e1, back p h0, f, fun z => ?_, rm⟩
    rcases own' z with ⟨i, k, _, a2⟩ | z
    · exact n ⟨i, a2⟩
    · exact (s.rel.own_free z).2 h0
  | ref i =>
    have rv : (vs.map some)[i]? = some (some v) := rv
    have vi : vs[i]? = some v := by
      rw [List.getElem?_map] at rv
      cases z : vs[i]? with
      | none => rw [z] at rv; cases rv
      | some w => rw [z] at rv; cases rv; rfl
    have q : (match its[i]? with | some (.ref k) => some (.ref k) | some (.own _) => (match as'[i]? with | some (.own m) => some (.own m) | some (.d x) => some (.d x) | _ => none) | some (.d _) => (match as'[i]? with | some (.d x) => some (.d x) | _ => none) | _ => none) = some it' := q
    split at q
    · rename_i k e1
      cases q
      obtain ⟨w, v1, v2, _⟩ := r.2 i _ e1
      rw [vi] at v1
      cases v1
      exact v2
    · rename_i m0 e1
      split at q
      · rename_i m e2
        cases q
        obtain ⟨w, v1, v2, _⟩ := r.2 i _ e1
        rw [vi] at v1
        cases v1
        obtain ⟨p, e3, h0, _, n, _⟩ := v2
        subst e3
        obtain ⟨ov, b1, b2⟩ := c.rel.at_ i _ e2
        rw [rv] at b1
        cases b1
        obtain ⟨p', e4, f, rm⟩ := b2
        cases e4
        refine ⟨p, rfl, h0, f, fun z => ?_, rm⟩
        rcases own' z with ⟨j, k, a1, a2⟩ | z
        · have ij := c.rel.apart p i j ⟨⟨m, e2⟩, rv⟩ a2
          subst ij
          rw [e1] at a1
          cases a1
        · exact n z
      · rename_i x e2
        cases q
        obtain ⟨ov, b1, b2⟩ := c.rel.at_ i _ e2
        rw [rv] at b1
        cases b1
        obtain ⟨u, e4, rd⟩ := b2
        cases e4
        exact rd
      · cases q
    · rename_i x0 e1
      split at q
      · rename_i x e2
        cases q
        obtain ⟨ov, b1, b2⟩ := c.rel.at_ i _ e2
        rw [rv] at b1
        cases b1
        obtain ⟨u, e4, rd⟩ := b2
        cases e4
        exact rd
      · cases q
    · cases q
theorem call_go {g : FG} {Q : VK} (s : Stp K σ F0 H0 st0 σ F H st) (r : RIx K H0 F H σ st vs its) (h : Go K W σ F0 H0 st0 (callG g its st) (fun it F' H' st' => ∀ v, RI K H0 F' H' σ st' v it → Q v H')) :
    ∃ F as, Rl K F H (vs.map some) as ∧ Go K (fun c d _ H' => W c d σ H') (vs.map some) F H as (g as) (fun it F' H' as' => ∀ v, RI K H F' H' (vs.map some) as' v it → Q v H') := by
  unfold callG at h
  split at h
  · rename_i ok
    split at h
    · rename_i as e
      refine ⟨F, as, args_rl s.rel r ok e, ?_⟩
      split at h
      · rename_i it as' eg
        rw [eg]
        intro F' H' c v rv
        split at h
        · rename_i it' q
          exact h F' H' (call_stp s r ok e c) v (call_res s r ok e c rv q)
        · exact h.elim
      · rename_i x as' eg
        rw [eg]
        intro d F' H' c xr
        exact h d F' H' (call_stp s r ok e c) xr
      · exact h.elim
    · exact h.elim
  · exact h.elim
end
end DL
set_option maxRecDepth 100000
set_option maxHeartbeats 4000000
namespace DL
open PySem PySem.Spec PyProof.Rows L2
inductive Src where
  | arg (i : Nat) | dfl (d : D)
def cV : D → Option V
  | .non => some .non
  | .bl b => some (.bl b)
  | .int i => some (.int i)
  | .str x => some (.str x)
  | _ => none
def cI : D → Option Itm := fun d => some (.d d)
def arr1 {α : Type} (c : D → Option α) (xs : List α) : Src → Option α
  | .arg i => xs[i]?
  | .dfl d => c d
def con2 {α : Type} : Option α → Option (List α) → Option (List α)
  | some y, some ys => some (y :: ys)
  | _, _ => none
theorem con2_some {α : Type} {a : Option α} {b : Option (List α)} {c : List α} (h : con2 a b = some c) : ∃ y ys, a = some y ∧ b = some ys ∧ c = y :: ys := by
  cases a with
  | none => cases h
  | some y =>
    cases b with
    | none => cases h
    | some ys =>
      cases h
      exact ⟨y, ys, rfl, rfl, rfl⟩
def arr {α : Type} (c : D → Option α) : List Src → List α → Option (List α)
  | [], _ => some []
  | s :: ss, xs => con2 (arr1 c xs s) (arr c ss xs)
def isArg (i : Nat) : Src → Bool
  | .arg k => k == i
  | _ => false
def srcOk : List Src → Bool
  | [] => true
  | .arg i :: ss => !ss.any (isArg i) && srcOk ss
  | .dfl d :: ss => (cV d).isSome && srcOk ss
theorem arr_get {α : Type} {c : D → Option α} : ∀ {src : List Src} {xs ys : List α}, arr c src xs = some ys → ys.length = src.length ∧ ∀ (i : Nat) s, src[i]? = some s → ∃ y, ys[i]? = some y ∧ arr1 c xs s = some y
  | [], xs, ys, h => by
    cases h
    exact ⟨rfl, fun i s e => by simp at e⟩
  | s :: ss, xs, ys, h => by
    obtain ⟨y, ys', e1, e2, e3⟩ := con2_some h
    subst e3
    obtain ⟨l, g⟩ := arr_get e2
    refine ⟨congrArg (· + 1) l, fun i x e => ?_⟩
    cases i with
    | zero =>
      simp at e
      subst e
      exact ⟨y, rfl, e1⟩
    | succ i =>
      obtain ⟨z, h1, h2⟩ := g i x (by simpa using e)
      exact ⟨z, by simpa using h1, h2⟩
theorem srcOk_get : ∀ {ss : List Src} {i j k : Nat}, srcOk ss = true → ss[i]? = some (.arg k) → ss[j]? = some (.arg k) → i = j
  | [], i, j, k, _, e, _ => by simp at e
  | s :: ss, 0, 0, k, _, _, _ => rfl
  | s :: ss, 0, j + 1, k, h, e1, e2 => by
    simp at e1
    subst e1
    have h : (!ss.any (isArg k) && srcOk ss) = true := h
    rw [Bool.and_eq_true, Bool.not_eq_true'] at h
    have m : Src.arg k ∈ ss := List.mem_of_getElem? (by simpa using e2)
    have z : ss.any (isArg k) = true := List.any_eq_true.mpr ⟨_, m, by show (k == k) = true; exact beq_self_eq_true k⟩
    rw [z] at h
    cases h.1
  | s :: ss, i + 1, 0, k, h, e1, e2 => by
    simp at e2
    subst e2
    have h : (!ss.any (isArg k) && srcOk ss) = true := h
    rw [Bool.and_eq_true, Bool.not_eq_true'] at h
    have m : Src.arg k ∈ ss := List.mem_of_getElem? (by simpa using e1)
    have z : ss.any (isArg k) = true := List.any_eq_true.mpr ⟨_, m, by show (k == k) = true; exact beq_self_eq_true k⟩
    rw [z] at h
    cases h.1
  | s :: ss, i + 1, j + 1, k, h, e1, e2 => by
    have h' : srcOk ss = true := by
      cases s with
      | arg l =>
        have h : (!ss.any (isArg l) && srcOk ss) = true := h
        rw [Bool.and_eq_true] at h
        exact h.2
      | dfl d =>
        have h : ((cV d).isSome && srcOk ss) = true := h
        rw [Bool.and_eq_true] at h
        exact h.2
    exact congrArg (· + 1) (srcOk_get h' (by simpa using e1) (by simpa using e2))
theorem cV_ok {K : PySem.W.Frag} {F : Hp} {d : D} {v : V} (h : cV d = some v) : RD K F v d := by
  cases d with
  | non => cases h; rfl
  | bl b => cases h; rfl
  | int i => cases h; rfl
  | str x => cases h; rfl
  | _ => cases h
theorem Vals.arr {cu : D → Option Value} {cv : D → Option V} (hc : ∀ d u, cu d = some u → ∃ v, cv d = some v ∧ RelV v u) : ∀ {src : List Src} {vs : List V} {us us' : List Value}, Vals vs us → arr cu src us = some us' → ∃ vs', arr cv src vs = some vs' ∧ Vals vs' us'
  | [], vs, us, us', _, h => by
    cases h
    exact ⟨[], rfl, .nil⟩
  | s :: ss, vs, us, us', r, h => by
    obtain ⟨y, ys, e1, e2, e3⟩ := con2_some h
    subst e3
    obtain ⟨vs', h1, h2⟩ := Vals.arr hc r e2
    have one : ∃ v, arr1 cv vs s = some v ∧ RelV v y := by
      cases s with
      | arg i =>
        have e1 : us[i]? = some y := e1
        have hi : i < vs.length := by rw [r.length]; exact (List.getElem?_eq_some_iff.mp e1).1
        obtain ⟨u, a1, a2⟩ := r.get (List.getElem?_eq_getElem hi)
        rw [e1] at a1
        cases a1
        exact ⟨_, List.getElem?_eq_getElem hi, a2⟩
      | dfl d => exact hc d y e1
    obtain ⟨v, b1, b2⟩ := one
    refine ⟨v :: vs', ?_, .cons b2 h2⟩
    show con2 (arr1 cv vs s) (DL.arr cv ss vs) = _
    rw [b1, h1]
    rfl
structure BnD (K : PySem.W.Frag) (fd : FuncData) (ps : List Str) (n : Nat) (ks : List Str) (src : List Src) : Prop where
  ok : srcOk src = true
  len : src.length = ps.length
  to : ∀ (s : Shared) (us ws : List Value), K.In s.heap → us.length = n → ws.length = ks.length → ∃ us', BindsTo s fd ⟨us, ks.zip ws⟩ (ps.zip us') ∧ ∀ vs zs, Vals vs us → Vals zs ws → ∃ vs', arr cV src (vs ++ zs) = some vs' ∧ Vals vs' us'
theorem FunD.bnd {K : PySem.W.Frag} {x qual : Str} {params : Arguments} {body : List Stmt} {scope : Scope} {f : Addr} {fd : FuncData} {ps ks : List Str} {n : Nat} {src : List Src} (F : FunD K x qual params body scope [] [] f fd) (ok : srcOk src = true) (len : src.length = ps.length)
    (h : ∀ (kV doc pm : Value) (an : Option Addr) (cdv ct : Value) (us ws : List Value), us.length = n → ws.length = ks.length →
      ∃ us', bindArgs (PySem.W.fnOf x qual params body scope .none kV doc pm an cdv ct) ⟨us, ks.zip ws⟩ = pure (ps.zip us') ∧ arr (fun _ => none) src (us ++ ws) = some us') : BnD K fd ps n ks src := by
  obtain ⟨oc, od, dV, kV, doc, pm, an, cdv, ct, osl, rfl, lk, hcd, hD, hK⟩ := F.ex
  rcases hD with ⟨_, rfl⟩ | ⟨e, _⟩
  · refine ⟨ok, len, fun s us ws X l1 l2 => ?_⟩
    obtain ⟨us', e1, e2⟩ := h kV doc pm an cdv ct us ws l1 l2
    exact ⟨us', .of_eq e1, fun vs zs r1 r2 => Vals.arr (fun d u z => absurd z (by simp)) (r1.append r2) e2⟩
  · exact absurd rfl e
theorem FunD.bndK {K : PySem.W.Frag} {x qual : Str} {params : Arguments} {body : List Stmt} {scope : Scope} {f : Addr} {fd : FuncData} {ps ks : List Str} {n : Nat} {src : List Src} {y : Str} {d : D} {v : V} (F : FunD K x qual params body scope [] [(y, v)] f fd) (hv : cV d = some v) (ok : srcOk src = true) (len : src.length = ps.length)
    (h : ∀ (D : Addr) (doc pm : Value) (an : Option Addr) (cdv ct u : Value) (us ws : List Value), us.length = n → ws.length = ks.length →
      ∃ us', KwChain D [(y, u)] (bindArgs (PySem.W.fnOf x qual params body scope .none (.ref D) doc pm an cdv ct) ⟨us, ks.zip ws⟩) (ps.zip us') ∧ arr (fun _ => some u) src (us ++ ws) = some us')
    (hd : ∀ s ∈ src, ∀ d', s = .dfl d' → d' = d) : BnD K fd ps n ks src := by
  obtain ⟨oc, od, dV, kV, doc, pm, an, cdv, ct, osl, rfl, lk, hcd, hD, hK⟩ := F.ex
  rcases hD with ⟨_, rfl⟩ | ⟨e, _⟩
  · rcases hK with e | ⟨D, rfl, hq⟩
    · cases e
    · obtain ⟨u, q1, q2⟩ := hq (y, v) List.mem_cons_self
      refine ⟨ok, len, fun s us ws X l1 l2 => ?_⟩
      obtain ⟨us', e1, e2⟩ := h D doc pm an cdv ct u us ws l1 l2
      refine ⟨us', BindsTo.of_looks fun M => KwChain.looks X (fun q hq => ?_) e1, fun vs zs r1 r2 => ?_⟩
      · have z : q = (y, u) := by simpa using hq
        rw [z]
        exact q1
      · have key : ∀ {src : List Src} {vs : List V} {us us' : List Value}, (∀ s ∈ src, ∀ d', s = .dfl d' → d' = d) → Vals vs us → DL.arr (fun _ => some u) src us = some us' → ∃ vs', DL.arr cV src vs = some vs' ∧ Vals vs' us' := by
          intro src
          induction src with
          | nil =>
            intro vs us us' _ _ h
            cases h
            exact ⟨[], rfl, .nil⟩
          | cons s ss ih =>
            intro vs us us' hd r h
            obtain ⟨y', ys, e1, e2, e3⟩ := con2_some h
            subst e3
            obtain ⟨vs', h1, h2⟩ := ih (fun s hs => hd s (List.mem_cons_of_mem _ hs)) r e2
            have one : ∃ v, arr1 cV vs s = some v ∧ RelV v y' := by
              cases s with
              | arg i =>
                have e1 : us[i]? = some y' := e1
                have hi : i < vs.length := by rw [r.length]; exact (List.getElem?_eq_some_iff.mp e1).1
                obtain ⟨u2, a1, a2⟩ := r.get (List.getElem?_eq_getElem hi)
                rw [e1] at a1
                cases a1
                exact ⟨_, List.getElem?_eq_getElem hi, a2⟩
              | dfl d' =>
                have ed := hd _ List.mem_cons_self d' rfl
                subst ed
                cases e1
                exact ⟨v, hv, q2⟩
            obtain ⟨v', b1, b2⟩ := one
            refine ⟨v' :: vs', ?_, .cons b2 h2⟩
            show con2 (arr1 cV vs s) (DL.arr cV ss vs) = _
            rw [b1, h1]
            rfl
        exact key hd (r1.append r2) e2
  · exact absurd rfl e
theorem RIx.arr {K : PySem.W.Frag} {H0 F H : Hp} {σ : L2.St} {st : Sls} {vs vs' : List V} {its its' : List Itm} {src : List Src} (ok : srcOk src = true) (r : RIx K H0 F H σ st vs its) (hv : arr cV src vs = some vs') (hi : arr cI src its = some its') : RIx K H0 F H σ st vs' its' := by
  obtain ⟨l1, g1⟩ := arr_get hv
  obtain ⟨l2, g2⟩ := arr_get hi
  have at_ : ∀ {i : Nat} {it : Itm}, its'[i]? = some it → ∃ s, src[i]? = some s ∧ arr1 cI its s = some it := fun {i it} e => by
    have h : i < src.length := by rw [← l2]; exact (List.getElem?_eq_some_iff.mp e).1
    obtain ⟨y, h1, h2⟩ := g2 i _ (List.getElem?_eq_getElem h)
    rw [e] at h1
    cases h1
    exact ⟨_, List.getElem?_eq_getElem h, h2⟩
  refine ⟨by rw [l1, l2], fun i it e => ?_⟩
  obtain ⟨s, h1, h2⟩ := at_ e
  obtain ⟨v, h3, h4⟩ := g1 i s h1
  cases s with
  | dfl d =>
    cases h2
    exact ⟨v, h3, cV_ok h4, fun m z => nomatch z⟩
  | arg k =>
    obtain ⟨v0, a1, a2, a3⟩ := r.2 k it h2
    have h4 : vs[k]? = some v := h4
    rw [h4] at a1
    cases a1
    refine ⟨_, h3, a2, fun m hm j m' e2 e3 => ?_⟩
    obtain ⟨s2, b1, b2⟩ := at_ e2
    obtain ⟨v2, b3, b4⟩ := g1 j s2 b1
    rw [e3] at b3
    cases b3
    cases s2 with
    | dfl d => cases b2
    | arg k2 =>
      have z := a3 m hm k2 m' b2 b4
      subst z
      exact srcOk_get ok b1 h1

def HotX (hot : Bool) (X : Cx) (p : Pn) : Prop := hot = true → L2H.Hot1 X.A p ∧ p ∈ X.pn
theorem hotx_no {X : Cx} {p : Pn} : HotX false X p := fun z => nomatch z
def callA (g : FG) (src : List Src) (its : List Itm) (st : Sls) : Ot Itm := match arr cI src its with
  | some its' => callG g its' st
  | none => .bad
section
variable {X : Cx} {W : WX} {hot : Bool} {p : Pn} {k n : Nat} {f C : Addr} {fd : FuncData} {ps ks : List Str} {src : List Src} {g : Pn → FG} {pins : List (Addr × Obj)} {σ : L2.St} {F0 H0 F1 H1 : Hp} {st0 s1 : Sls} {s : Shared} {Q : VK}
theorem pin_ok (hh : HotX hot X p) {H : Hp} (I : Inv X pins σ H s) : hot = true → L2H.Hot1 X.A p ∧ L2H.PinOk X.stack H s p := fun z => by
  obtain ⟨h1, h2⟩ := hh z
  obtain ⟨a, b, c, d, e⟩ := I.pin p (List.mem_append_left _ h2)
  exact ⟨h1, ⟨a, b, fun hm => (List.mem_cons.mp (I.stkSub p.1 hm)).elim c d, e⟩⟩
theorem run_fnM {sp : SpM} {us us' : List Value} {kw : List (Str × Value)} {vs : List V} (F : FnM hot X.prog X.w X.K X.mg X.base k f fd ps sp) (hr : Rm hot k X.A) (hh : HotX hot X p) (tk : L2N.Takes X W) (I : Inv X pins σ H1 s) (hb : BindsTo s fd ⟨us, kw⟩ (ps.zip us')) (r : Vals vs us')
    (h : sp p vs H1 Q (fun c d H' => W c d σ H')) : wpAny (model X.prog X.w) X.A (call (.ref f) us kw) (EP X pins σ Q) X.xe s := by
  refine wpAny_call (codeAny_mono (F.run X.A X.stack s H1 ⟨us, kw⟩ us' vs Q _ p hr (pin_ok hh I) I.env0 hb r h) fun r s' hq => ?_)
  cases r with
  | error e => exact tk e s' (L2N.XE.of_call I (fun _ _ _ z => z) hq)
  | ok fl =>
    cases fl with
    | ret u => exact I.after hq
    | next => exact False.elim hq
    | brk => exact False.elim hq
    | cont => exact False.elim hq
theorem fire {us ws : List Value} {vs zs : List V} {its : List Itm} (F : FnM hot X.prog X.w X.K X.mg X.base k f fd ps (spG X.K ps.length g)) (hr : Rm hot k X.A) (hh : HotX hot X p) (tk : L2N.Takes X W) (B : BnD X.K fd ps n ks src) (I : Inv X pins σ H1 s)
    (r1 : Vals vs us) (r2 : Vals zs ws) (l1 : us.length = n) (l2 : ws.length = ks.length) (st : Stp X.K σ F0 H0 st0 σ F1 H1 s1) (ri : RIx X.K H0 F1 H1 σ s1 (vs ++ zs) its)
    (h : Go X.K W σ F0 H0 st0 (callA (g p) src its s1) (fun it F' H' st' => ∀ v, RI X.K H0 F' H' σ st' v it → Q v H')) : wpAny (model X.prog X.w) X.A (call (.ref f) us (ks.zip ws)) (EP X pins σ Q) X.xe s := by
  unfold callA at h
  split at h
  · rename_i its' e
    obtain ⟨us', hb, hv⟩ := B.to s us ws I.kIn l1 l2
    obtain ⟨vs', a1, a2⟩ := hv vs zs r1 r2
    refine run_fnM F hr hh tk I hb a2 ⟨?_, ?_⟩
    · rw [(arr_get a1).1]
      exact B.len
    · exact call_go st (RIx.arr B.ok ri a1 e) h
  · exact h.elim
end

def ArgP (X : Cx) (W : WX) (σ : L2.St) (F0 H0 : Hp) (st0 : Sls) (k : List Itm → Sls → Ot Itm) (n : Nat) (Q : VK) : List V → Hp → Prop := fun vs H1 => ∃ F1 s1 its, vs.length = n ∧ Stp X.K σ F0 H0 st0 σ F1 H1 s1 ∧ RIs X.K H0 F1 H1 σ s1 vs its ∧
  Go X.K W σ F0 H0 st0 (k its s1) (fun it F' H' st' => ∀ v, RI X.K H0 F' H' σ st' v it → Q v H')
def fCallA (k : List Itm → Sls → Ot Itm) (fa : FA) : FE := fun st => (fa st).bind k
section
variable {X : Cx} {W : WX} {hot : Bool} {p : Pn} {k n : Nat} {f C : Addr} {fd : FuncData} {ps ks : List Str} {src : List Src} {g : Pn → FG} {x m : Str} {np pos apos : Pos} {e o : Expr} {es : List Expr} {kws : List Keyword} {fa fk : FA} {fo : FE}
theorem args_ok {σ : L2.St} {H : Hp} {Q : VK} {kk : List Itm → Sls → Ot Itm} (ha : DA X W es fa) (h : tE X.K W (fCallA kk fa) σ H Q) : ∃ F0 st0, Rl X.K F0 H σ st0 ∧ tA X.K W fa σ H (ArgP X W σ F0 H st0 kk es.length Q) := by
  obtain ⟨F, st, R, g0⟩ := h
  refine ⟨F, st, R, F, st, R, (Go.bind g0).with_eq.imp fun its F1 H1 s1 p1 g1 vs r => ⟨F1, s1, its, ?_, p1, r, g1.2⟩⟩
  rw [r.length, ha.len _ _ _ g1.1]
structure DK (X : Cx) (W : WX) (kws : List Keyword) (f : FA) : Prop where
  pk : PK X kws (tA X.K W f)
  len : ∀ st its st', f st = .ok its st' → its.length = kws.length
theorem PK.conseq {t t' : TA} (h : PK X kws t) (i : ∀ σ H Q, t' σ H Q → t σ H Q) : PK X kws t' := ⟨fun pos pins s σ H Q I q => h.run pos pins s σ H Q I (i σ H Q q)⟩
theorem dk_nil : DK X W [] fNil := ⟨PK.conseq pk_nil fun σ H Q h => by
  obtain ⟨F, st, R, g⟩ := h
  exact g F H (Stp.refl R) [] trivial, fun st its st' h => by
  unfold fNil at h
  cases h
  rfl⟩
theorem dk_cons {nm : Option Str} {kpos : Pos} {fe : FE} {fr : FA} (ha : DE X W e fe) (hr : DK X W kws fr) : DK X W (⟨nm, e, kpos⟩ :: kws) (fCons fe fr) := ⟨PK.conseq (pk_cons ha hr.pk) fun σ H Q h => by
  obtain ⟨F, st, R, g0⟩ := h
  refine ⟨F, st, R, (Go.bind g0).imp fun ia F1 H1 s1 p1 g1 v r1 => ⟨F1, s1, p1.rel, (Go.bind g1).shift p1 fun its F2 H2 s2 p2 p02 g2 vs r2 => g2 F2 H2 p02 (v :: vs) ⟨r1.step p2, fun m hm w m' hw z => ?_, r2.back p1.there⟩⟩⟩
  subst hm
  obtain ⟨q, e1, _, _, _, rm⟩ := r1
  obtain ⟨q', e2, hq⟩ := r2.fresh w m' hw
  rw [e2, e1] at z
  cases z
  exact rm.there hq, fun st its st' h => by
  obtain ⟨ia, s1, h1, h2⟩ := Ot.bind_ok h
  obtain ⟨its', s2, h3, h4⟩ := Ot.bind_ok h2
  cases h4
  rw [List.length_cons, List.length_cons, hr.len _ _ _ h3]⟩
theorem de_call (F : FnM hot X.prog X.w X.K X.mg X.base k f fd ps (spG X.K ps.length g)) (hr : Rm hot k X.A) (hh : HotX hot X p) (tk : L2N.Takes X W) (hg : Gl X x) (hm : X.mg x = some (.ref f)) (hk : PySem.W.keepIn X.K (.ref f) = true) (B : BnD X.K fd ps (e :: es).length [] src)
    (ha : DA X W (e :: es) fa) (hdb : (x == ("__debug__" : Str)) = false := by decide) (he : starEach (e :: es) X.env = (false, eval e X.env) :: starEach es X.env := by rfl) (hpl : (backTo pos (starEach es X.env)).any (·.1) = false := by rfl) :
    DE X W (.Call (.Name x np) (e :: es) [] pos) (fCallA (callA (g p) src) fa) := by
  refine ⟨fun pins s σ H Q I h => ?_⟩
  obtain ⟨F0, st0, R, h⟩ := args_ok ha h
  refine wpAny_Call_Name_kw (ld_glob I hg hm ?_ hdb)
  refine PySem.W.callWith_K (h₀ := X.base) I.ok.mod.kin hk (thn (ha.pa.run pos pins s σ H _ I h) fun us s1 hx => ?_) he hpl
  obtain ⟨vs, H1, I1, r, F1, t1, its, lv, p1, ri, q⟩ := hx
  refine ⟨I1.kIn, ?_⟩
  exact fire (us := us) (ws := []) (zs := []) F hr hh tk B I1 r .nil (by rw [← r.length]; exact lv) rfl p1 (by rw [List.append_nil]; exact ri.ix) q
theorem de_call0 (F : FnM hot X.prog X.w X.K X.mg X.base k f fd ps (spG X.K ps.length g)) (hr : Rm hot k X.A) (hh : HotX hot X p) (tk : L2N.Takes X W) (hg : Gl X x) (hm : X.mg x = some (.ref f)) (hk : PySem.W.keepIn X.K (.ref f) = true) (B : BnD X.K fd ps 0 [] src)
    (hdb : (x == ("__debug__" : Str)) = false := by decide) : DE X W (.Call (.Name x np) [] [] pos) (fCallA (callA (g p) src) fNil) := by
  refine ⟨fun pins s σ H Q I h => ?_⟩
  obtain ⟨F0, st0, R, g0⟩ := h
  refine wpAny_Call_Name_kw (ld_glob I hg hm ?_ hdb)
  refine PySem.W.callWith_K0 I.kIn hk ?_
  exact fire (us := []) (ws := []) (vs := []) (zs := []) (its := []) F hr hh tk B I .nil .nil rfl rfl (Stp.refl R) ⟨rfl, fun i it e => by simp at e⟩ g0
def fApp (fa fk : FA) : FA := fun st => (fa st).bind fun its s1 => (fk s1).bind fun jts s2 => .ok (its ++ jts) s2
def ArgK (X : Cx) (W : WX) (σ : L2.St) (F0 H0 : Hp) (st0 : Sls) (k : List Itm → Sls → Ot Itm) (n m : Nat) (Q : VK) : List V → List V → Hp → Prop := fun vs zs H1 => ∃ F1 s1 its, vs.length = n ∧ zs.length = m ∧ Stp X.K σ F0 H0 st0 σ F1 H1 s1 ∧ RIs X.K H0 F1 H1 σ s1 (vs ++ zs) its ∧
  Go X.K W σ F0 H0 st0 (k its s1) (fun it F' H' st' => ∀ v, RI X.K H0 F' H' σ st' v it → Q v H')
theorem argsK_ok {σ : L2.St} {H : Hp} {Q : VK} {kk : List Itm → Sls → Ot Itm} (ha : DA X W es fa) (hk : DK X W kws fk) (h : tE X.K W (fCallA kk (fApp fa fk)) σ H Q) :
    ∃ F0 st0, Rl X.K F0 H σ st0 ∧ tA X.K W fa σ H fun vs H1 => tA X.K W fk σ H1 fun zs H2 => ArgK X W σ F0 H st0 kk es.length kws.length Q vs zs H2 := by
  obtain ⟨F, st, R, g0⟩ := h
  have g0 : Go X.K W σ F H st ((fa st).bind fun its s1 => ((fk s1).bind fun jts s2 => kk (its ++ jts) s2)) (fun it F' H' st' => ∀ v, RI X.K H F' H' σ st' v it → Q v H') := by
    have e : fCallA kk (fApp fa fk) st = ((fa st).bind fun its s1 => ((fk s1).bind fun jts s2 => kk (its ++ jts) s2)) := by
      unfold fCallA fApp
      cases fa st with
      | ok its s1 =>
        show ((fk s1).bind _).bind kk = (fk s1).bind _
        cases fk s1 <;> rfl
      | exc => rfl
      | bad => rfl
    rw [← e]
    exact g0
  refine ⟨F, st, R, F, st, R, (Go.bind g0).with_eq.imp fun its F1 H1 s1 p1 g1 vs r => ⟨F1, s1, p1.rel, ((Go.bind g1.2).shift p1 fun its F2 H2 s2 p2 p02 g2 => g2).with_eq.imp fun jts F2 H2 s2 p2 g2 zs r2 => ⟨F2, s2, its ++ jts, ?_, ?_, p1.trans p2, ?_, ?_⟩⟩⟩
  · rw [r.length, ha.len _ _ _ g1.1]
  · rw [r2.length, hk.len _ _ _ g2.1]
  · exact (r.step p2).append r2 p1.there (r.there)
  · exact g2.2
theorem de_callK (F : FnM hot X.prog X.w X.K X.mg X.base k f fd ps (spG X.K ps.length g)) (hr : Rm hot k X.A) (hh : HotX hot X p) (tk : L2N.Takes X W) (hg : Gl X x) (hm : X.mg x = some (.ref f)) (hk : PySem.W.keepIn X.K (.ref f) = true) (B : BnD X.K fd ps (e :: es).length ks src) (hl : kws.length = ks.length)
    (ha : DA X W (e :: es) fa) (hkw : DK X W kws fk) (hall : (backToKw pos (keywordEach kws X.env)).all (·.1.isSome) = true := by rfl) (hks : (backToKw pos (keywordEach kws X.env)).filterMap (·.1) = ks := by rfl) (hdb : (x == ("__debug__" : Str)) = false := by decide)
    (he : starEach (e :: es) X.env = (false, eval e X.env) :: starEach es X.env := by rfl) (hpl : ((backTo pos (starEach (e :: es) X.env)).any (·.1) || (backToKw pos (keywordEach kws X.env)).any (·.1.isNone)) = false := by rfl) :
    DE X W (.Call (.Name x np) (e :: es) kws pos) (fCallA (callA (g p) src) (fApp fa fk)) := by
  refine ⟨fun pins s σ H Q I h => ?_⟩
  obtain ⟨F0, st0, R, h⟩ := argsK_ok ha hkw h
  refine wpAny_Call_Name_kw (ld_glob I hg hm ?_ hdb)
  refine PySem.W.callWith_KW (h₀ := X.base) I.ok.mod.kin hk hall (thn (ha.pa.run pos pins s σ H _ I h) fun us s1 ⟨vs, H1, I1, r, q⟩ => ?_) hpl he
  refine thn (hkw.pk.run pos pins s1 σ H1 _ I1 q) fun ws s2 ⟨zs, H2, I2, rz, F2, t2, its, lv, lz, p2, ri, q2⟩ => ⟨I2.kIn, ?_⟩
  rw [hks]
  exact fire (us := us) F hr hh tk B I2 r rz (by rw [← r.length]; exact lv) (by rw [← rz.length, lz, hl]) p2 ri.ix q2
theorem de_callK0 (F : FnM hot X.prog X.w X.K X.mg X.base k f fd ps (spG X.K ps.length g)) (hr : Rm hot k X.A) (hh : HotX hot X p) (tk : L2N.Takes X W) (hg : Gl X x) (hm : X.mg x = some (.ref f)) (hk : PySem.W.keepIn X.K (.ref f) = true) (B : BnD X.K fd ps 0 ks src) (hl : kws.length = ks.length)
    (hkw : DK X W kws fk) (hall : (backToKw pos (keywordEach kws X.env)).all (·.1.isSome) = true := by rfl) (hks : (backToKw pos (keywordEach kws X.env)).filterMap (·.1) = ks := by rfl) (hdb : (x == ("__debug__" : Str)) = false := by decide)
    (hpl : ((backTo pos (starEach [] X.env)).any (·.1) || (backToKw pos (keywordEach kws X.env)).any (·.1.isNone)) = false := by rfl) :
    DE X W (.Call (.Name x np) [] kws pos) (fCallA (callA (g p) src) (fApp fNil fk)) := by
  refine ⟨fun pins s σ H Q I h => ?_⟩
  obtain ⟨F0, st0, R, h⟩ := argsK_ok da_nil hkw h
  refine wpAny_Call_Name_kw (ld_glob I hg hm ?_ hdb)
  refine PySem.W.callWith_KW0 (h₀ := X.base) I.ok.mod.kin hk hall ?_ hpl
  obtain ⟨F1, st1, R1, g1⟩ := h
  have g2 := g1 F1 H (Stp.refl R1) [] trivial
  refine thn (hkw.pk.run pos pins s σ H _ I g2) fun ws s2 ⟨zs, H2, I2, rz, F2, t2, its, lv, lz, p2, ri, q2⟩ => ⟨I2.kIn, ?_⟩
  rw [hks]
  exact fire (us := []) (vs := []) F hr hh tk B I2 .nil rz rfl (by rw [← rz.length, lz, hl]) p2 ri.ix q2
end
end DL
set_option maxRecDepth 100000
set_option maxHeartbeats 4000000
namespace DL
open PySem PySem.Spec PyProof.Rows L2
@[reducible] def upU (n : Nat) (A : Around) : Around := { A with units := A.units + n }
theorem Rm.ups {hot : Bool} {k n : Nat} {A : Around} (r : Rm hot (k + 1) A) (h : n ≤ 16) : Rm hot k (upU n A) :=
  ⟨r.cool, by have := r.deep; show A.depth + 3 * k + 5 < _; omega, by have := r.unit; show A.units + n + 16 * k + 200 < _; omega, r.open_⟩
section
variable {X : Cx} {W : WX} {hot : Bool} {p : Pn} {k n : Nat} {f C : Addr} {fd : FuncData} {ps ks : List Str} {src : List Src} {g : Pn → FG} {pins : List (Addr × Obj)} {σ : L2.St} {F0 H0 F1 H1 : Hp} {st0 s1 : Sls} {s : Shared} {Q : VK}
theorem run_fnU {u : Nat} {sp : SpM} {us us' : List Value} {kw : List (Str × Value)} {vs : List V} (F : FnM hot X.prog X.w X.K X.mg X.base k f fd ps sp) (hr : Rm hot (k + 1) X.A) (hn : u ≤ 16) (hh : HotX hot X p) (tk : L2N.Takes X W) (I : Inv X pins σ H1 s) (hb : BindsTo s fd ⟨us, kw⟩ (ps.zip us')) (r : Vals vs us')
    (h : sp p vs H1 Q (fun c d H' => W c d σ H')) : wpAny (model X.prog X.w) (upU u X.A) (call (.ref f) us kw) (EP X pins σ Q) X.xe s := by
  have e0 := I.env0
  refine wpAny_call (codeAny_mono (F.run (upU u X.A) X.stack s H1 ⟨us, kw⟩ us' vs Q _ p (hr.ups hn) (fun z => ⟨⟨(pin_ok hh I z).1.1, (pin_ok hh I z).1.2⟩, (pin_ok hh I z).2⟩) ⟨e0.frames, e0.mod, e0.bs, e0.bsz, e0.funs, e0.frf, e0.hok, e0.bare⟩ hb r h) fun r s' hq => ?_)
  cases r with
  | error e => exact tk e s' (L2N.XE.of_call I (fun _ _ _ z => z) hq)
  | ok fl =>
    cases fl with
    | ret u => exact I.after hq
    | next => exact False.elim hq
    | brk => exact False.elim hq
    | cont => exact False.elim hq
theorem fireU {u : Nat} {us : List Value} {vs : List V} {its : List Itm} (F : FnM hot X.prog X.w X.K X.mg X.base k f fd ps (spG X.K ps.length g)) (hr : Rm hot (k + 1) X.A) (hn : u ≤ 16) (hh : HotX hot X p) (tk : L2N.Takes X W) (B : BnD X.K fd ps n [] src) (I : Inv X pins σ H1 s)
    (r1 : Vals vs us) (l1 : us.length = n) (st : Stp X.K σ F0 H0 st0 σ F1 H1 s1) (ri : RIx X.K H0 F1 H1 σ s1 vs its)
    (h : Go X.K W σ F0 H0 st0 (callA (g p) src its s1) (fun it F' H' st' => ∀ v, RI X.K H0 F' H' σ st' v it → Q v H')) : wpAny (model X.prog X.w) (upU u X.A) (call (.ref f) us) (EP X pins σ Q) X.xe s := by
  unfold callA at h
  split at h
  · rename_i its' e
    obtain ⟨us', hb, hv⟩ := B.to s us [] I.kIn l1 rfl
    obtain ⟨vs', a1, a2⟩ := hv vs [] r1 .nil
    rw [List.append_nil] at a1
    refine run_fnU F hr hn hh tk I hb a2 ⟨?_, ?_⟩
    · rw [(arr_get a1).1]
      exact B.len
    · exact call_go st (RIx.arr B.ok ri a1 e) h
  · exact h.elim
end
theorem RIs.cons {K : PySem.W.Frag} {H0 H1 F H F1 : Hp} {σ : L2.St} {st s1 : Sls} {v : V} {it : Itm} {vs : List V} {its : List Itm} (r1 : RI K H0 F1 H1 σ s1 v it) (p2 : Stp K σ F1 H1 s1 σ F H st) (hb : ∀ a, H0 a ≠ none → H1 a ≠ none) (r2 : RIs K H1 F H σ st vs its) : RIs K H0 F H σ st (v :: vs) (it :: its) := by
  refine ⟨r1.step p2, fun m hm w m' hw z => ?_, r2.back hb⟩
  subst hm
  obtain ⟨q, e1, _, _, _, rm⟩ := r1
  obtain ⟨q', e2, hq⟩ := r2.fresh w m' hw
  rw [e2, e1] at z
  cases z
  exact rm.there hq

def fMeth (C : Addr) (m : Str) (k : List Itm → Sls → Ot Itm) (fo : FE) (fa : FA) : FE := fun st => (fo st).bind fun ir s1 => match view s1 ir with
  | some (.ins C' fs _) => if C' = C ∧ fs.contains m = false then (fa s1).bind fun its s2 => k (ir :: its) s2 else .bad
  | _ => .bad
theorem lookup_nil {m : Str} : ∀ {xs : List (Str × V)}, (xs.map fun q => q.1).contains m = false → xs.lookup m = none
  | [], _ => rfl
  | (x, v) :: xs, h => by
    rw [List.map_cons, List.contains_cons, Bool.or_eq_false_iff] at h
    simp only [List.lookup, h.1]
    exact lookup_nil h.2
section
variable {X : Cx} {W : WX} {hot : Bool} {p : Pn} {k n : Nat} {f C : Addr} {fd : FuncData} {ps ks : List Str} {src : List Src} {g : Pn → FG} {x m : Str} {np pos apos : Pos} {e o : Expr} {es : List Expr} {kws : List Keyword} {fa fk : FA} {fo : FE}
def RecvP (X : Cx) (W : WX) (σ : L2.St) (F0 H0 : Hp) (st0 : Sls) (C : Addr) (m : Str) (k : List Itm → Sls → Ot Itm) (fa : FA) (n : Nat) (Q : VK) : VK := fun v H1 => ∃ a dx fs, v = .ref a ∧ H1 a = some (.ins C dx fs) ∧ fs.lookup m = none ∧
  tA X.K W fa σ H1 fun vs H2 => ∃ F2 s2 its, vs.length = n ∧ Stp X.K σ F0 H0 st0 σ F2 H2 s2 ∧ RIs X.K H0 F2 H2 σ s2 (v :: vs) its ∧ Go X.K W σ F0 H0 st0 (k its s2) (fun it F' H' st' => ∀ v, RI X.K H0 F' H' σ st' v it → Q v H')
theorem recv_ok {σ : L2.St} {H : Hp} {Q : VK} {kk : List Itm → Sls → Ot Itm} (ha : DA X W es fa) (h : tE X.K W (fMeth C m kk fo fa) σ H Q) : ∃ F0 st0, Rl X.K F0 H σ st0 ∧ tE X.K W fo σ H (RecvP X W σ F0 H st0 C m kk fa es.length Q) := by
  obtain ⟨F, st, R, g0⟩ := h
  refine ⟨F, st, R, F, st, R, (Go.bind g0).imp fun ir F1 H1 s1 p1 g1 v r1 => ?_⟩
  split at g1
  · rename_i C' fs ds e1
    split at g1
    · rename_i ec
      obtain ⟨ec, nm⟩ := ec
      subst ec
      obtain ⟨a, dx, xs, e3, h3, n3, r3⟩ := rw_ins p1.rel.sub (view_ok p1.rel r1 e1)
      refine ⟨a, dx, xs, e3, h3, lookup_nil (by rw [n3]; exact nm), F1, s1, p1.rel, ((Go.bind g1).shift p1 fun its F2 H2 s2 p2 p02 g2 => g2).with_eq.imp fun its F2 H2 s2 p2 g2 vs r2 => ⟨F2, s2, ir :: its, ?_, p1.trans p2, RIs.cons r1 p2 p1.there r2, g2.2⟩⟩
      rw [r2.length, ha.len _ _ _ g2.1]
    · exact g1.elim
  · exact g1.elim
theorem de_meth {pl : Sem Bool} (he : DE X W o fo) (c : Cls X.K C) (hm : Meth X.K C m f) (F : FnM hot X.prog X.w X.K X.mg X.base k f fd ps (spG X.K ps.length g)) (hr : Rm hot k X.A) (hh : HotX hot X p) (tk : L2N.Takes X W) (B : BnD X.K fd ps ((e :: es).length + 1) [] src) (ha : DA X W (e :: es) fa)
    (hst : starEach (e :: es) X.env = (false, eval e X.env) :: starEach es X.env := by rfl) (hpl : (backTo pos (starEach es X.env)).any (·.1) = false := by rfl)
    (ht : eval (.Call (.Attribute o m apos) (e :: es) [] pos) X.env = (do
      let ov ← eval o X.env
      standAt apos.atName
      let (f, first) ← holding [ov] (getMethod ov m pl)
      callWith pos f first (backTo pos (starEach (e :: es) X.env)) (backToKw pos (keywordEach [] X.env))) := by rfl) :
    DE X W (.Call (.Attribute o m apos) (e :: es) [] pos) (fMeth C m (callA (g p) src) fo fa) := by
  refine ⟨fun pins s σ H Q I h => ?_⟩
  obtain ⟨F0, st0, R, h⟩ := recv_ok ha h
  refine PySem.W.methodCall_KW (pl := pl) (thn (he.run pins s σ H _ I h) fun u s1 ⟨v, H1, I1, rx, a, dx, fs, ex, ea, l, q⟩ => ?_) ht
  subst ex
  obtain rfl : u = Value.ref a := rx
  refine getmeth_ok I1 ea c hm l ?_
  refine PySem.W.callWith_K (first := [.ref a]) (h₀ := X.base) I.ok.mod.kin hm.kp (thn (ha.pa.run pos pins s1 σ H1 _ I1 q) fun us s2 hx => ?_) hst hpl
  obtain ⟨vs, H2, I2, r, F2, t2, its, lv, p2, ri, q2⟩ := hx
  refine ⟨I2.kIn, ?_⟩
  exact fire (us := .ref a :: us) (ws := []) (vs := .ref a :: vs) (zs := []) F hr hh tk B I2 (.cons rfl r) .nil (by rw [List.length_cons, ← r.length, lv]) rfl p2 (by rw [List.append_nil]; exact ri.ix) q2
theorem de_meth0 {pl : Sem Bool} (he : DE X W o fo) (c : Cls X.K C) (hm : Meth X.K C m f) (F : FnM hot X.prog X.w X.K X.mg X.base k f fd ps (spG X.K ps.length g)) (hr : Rm hot k X.A) (hh : HotX hot X p) (tk : L2N.Takes X W) (B : BnD X.K fd ps 1 [] src)
    (ht : eval (.Call (.Attribute o m apos) [] [] pos) X.env = (do
      let ov ← eval o X.env
      standAt apos.atName
      let (f, first) ← holding [ov] (getMethod ov m pl)
      callWith pos f first (backTo pos (starEach [] X.env)) (backToKw pos (keywordEach [] X.env))) := by rfl) :
    DE X W (.Call (.Attribute o m apos) [] [] pos) (fMeth C m (callA (g p) src) fo fNil) := by
  refine ⟨fun pins s σ H Q I h => ?_⟩
  obtain ⟨F0, st0, R, h⟩ := recv_ok da_nil h
  refine PySem.W.methodCall_KW (pl := pl) (thn (he.run pins s σ H _ I h) fun u s1 ⟨v, H1, I1, rx, a, dx, fs, ex, ea, l, q⟩ => ?_) ht
  subst ex
  obtain rfl : u = Value.ref a := rx
  refine getmeth_ok I1 ea c hm l ?_
  obtain ⟨F1, t1, R1, g1⟩ := q
  obtain ⟨F2, t2, its, lv, p2, ri, q2⟩ := g1 F1 H1 (Stp.refl R1) [] trivial
  exact PySem.W.callWith_K0 (first := [.ref a]) I1.kIn hm.kp (fire (us := [.ref a]) (ws := []) (vs := [.ref a]) (zs := []) F hr hh tk B I1 (.cons rfl .nil) .nil rfl rfl p2 (by rw [List.append_nil]; exact ri.ix) q2)
theorem de_methK {pl : Sem Bool} (he : DE X W o fo) (c : Cls X.K C) (hm : Meth X.K C m f) (F : FnM hot X.prog X.w X.K X.mg X.base k f fd ps (spG X.K ps.length g)) (hr : Rm hot k X.A) (hh : HotX hot X p) (tk : L2N.Takes X W) (B : BnD X.K fd ps 1 ks src) (hl : kws.length = ks.length) (hkw : DK X W kws fk)
    (hall : (backToKw pos (keywordEach kws X.env)).all (·.1.isSome) = true := by rfl) (hks : (backToKw pos (keywordEach kws X.env)).filterMap (·.1) = ks := by rfl)
    (hpl : ((backTo pos (starEach [] X.env)).any (·.1) || (backToKw pos (keywordEach kws X.env)).any (·.1.isNone)) = false := by rfl)
    (ht : eval (.Call (.Attribute o m apos) [] kws pos) X.env = (do
      let ov ← eval o X.env
      standAt apos.atName
      let (f, first) ← holding [ov] (getMethod ov m pl)
      callWith pos f first (backTo pos (starEach [] X.env)) (backToKw pos (keywordEach kws X.env))) := by rfl) :
    DE X W (.Call (.Attribute o m apos) [] kws pos) (fMeth C m (callA (g p) src) fo fk) := by
  refine ⟨fun pins s σ H Q I h => ?_⟩
  have h2 : ∃ F0 st0, Rl X.K F0 H σ st0 ∧ tE X.K W fo σ H (RecvP X W σ F0 H st0 C m (callA (g p) src) fk kws.length Q) := by
    obtain ⟨F, st, R, g0⟩ := h
    refine ⟨F, st, R, F, st, R, (Go.bind g0).imp fun ir F1 H1 s1 p1 g1 v r1 => ?_⟩
    split at g1
    · rename_i C' fs ds e1
      split at g1
      · rename_i ec
        obtain ⟨ec, nm⟩ := ec
        subst ec
        obtain ⟨a, dx, xs, e3, h3, n3, r3⟩ := rw_ins p1.rel.sub (view_ok p1.rel r1 e1)
        refine ⟨a, dx, xs, e3, h3, lookup_nil (by rw [n3]; exact nm), F1, s1, p1.rel, ((Go.bind g1).shift p1 fun its F2 H2 s2 p2 p02 g2 => g2).with_eq.imp fun its F2 H2 s2 p2 g2 vs r2 => ⟨F2, s2, ir :: its, ?_, p1.trans p2, RIs.cons r1 p2 p1.there r2, g2.2⟩⟩
        rw [r2.length, hkw.len _ _ _ g2.1]
      · exact g1.elim
    · exact g1.elim
  obtain ⟨F0, st0, R, h⟩ := h2
  refine PySem.W.methodCall_KW (pl := pl) (thn (he.run pins s σ H _ I h) fun u s1 ⟨v, H1, I1, rx, a, dx, fs, ex, ea, l, q⟩ => ?_) ht
  subst ex
  obtain rfl : u = Value.ref a := rx
  refine getmeth_ok I1 ea c hm l ?_
  refine PySem.W.callWith_KW0 (first := [.ref a]) (h₀ := X.base) I.ok.mod.kin hm.kp hall ?_ hpl
  refine thn (hkw.pk.run pos pins s1 σ H1 _ I1 q) fun ws s2 ⟨zs, H2, I2, rz, F2, t2, its, lz, p2, ri, q2⟩ => ⟨I2.kIn, ?_⟩
  rw [hks]
  exact fire (us := [.ref a]) (vs := [.ref a]) F hr hh tk B I2 (.cons rfl .nil) rz rfl (by rw [← rz.length, lz, hl]) p2 ri.ix q2
end

def gSelf (g : FG) : FG := fun as => match g as with
  | .ok (.d .non) as' => .ok (.ref 0) as'
  | .exc e as' => .exc e as'
  | _ => .bad
def makeA (C : Addr) (g : FG) (src : List Src) (its : List Itm) (st : Sls) : Ot Itm := match src with
  | .arg 0 :: _ => callA (gSelf g) src (.own (.ins C [] []) :: its) st
  | _ => .bad
section
variable {X : Cx} {W : WX} {hot : Bool} {p : Pn} {k n : Nat} {f C : Addr} {fd : FuncData} {ps ks : List Str} {src : List Src} {g : Pn → FG} {x m : Str} {np pos apos : Pos} {e o : Expr} {es : List Expr} {kws : List Keyword} {fa fk : FA} {fo : FE}
theorem fireNew {pins : List (Addr × Obj)} {σ : L2.St} {F0 H0 F1 H1 : Hp} {st0 s1 : Sls} {s : Shared} {Q : VK} {us ws : List Value} {vs zs : List V} {its : List Itm} (M : Mk X.K C f) (F : FnM hot X.prog X.w X.K X.mg X.base k f fd ps (spG X.K ps.length g)) (hr : Rm hot (k + 1) X.A) (hh : HotX hot X p) (tk : L2N.Takes X W) (B : BnD X.K fd ps (n + 1) ks src) (I : Inv X pins σ H1 s)
    (r1 : Vals vs us) (r2 : Vals zs ws) (l1 : us.length = n) (l2 : ws.length = ks.length) (st : Stp X.K σ F0 H0 st0 σ F1 H1 s1) (ri : RIs X.K H0 F1 H1 σ s1 (vs ++ zs) its)
    (h : Go X.K W σ F0 H0 st0 (makeA C (g p) src its s1) (fun it F' H' st' => ∀ v, RI X.K H0 F' H' σ st' v it → Q v H')) : wpAny (model X.prog X.w) X.A (call (.ref C) us (ks.zip ws)) (EP X pins σ Q) X.xe s := by
  -- the new object
  have fx : H1 (s.heap.objs.size + 1) = none := I.hok.fresh (Nat.le_succ _)
  have fd0 : H1 s.heap.objs.size = none := I.hok.fresh (Nat.le_refl _)
  have I2 := Inv.made (C := C) I
  have ne : s.heap.objs.size ≠ s.heap.objs.size + 1 := Nat.ne_of_lt (Nat.lt_succ_self _)
  have back : ∀ a, H1 a = none → H0 a = none := fun a h => Classical.byContradiction fun z => st.there a z h
  have st1 : Stp X.K σ F1 H1 s1 σ F1 (upd H1 s.heap.objs.size (.own (s.heap.objs.size + 1))) s1 := Stp.alloc st.rel fd0 fun a ha => upd_ne ha
  have st2 : Stp X.K σ F1 (upd H1 s.heap.objs.size (.own (s.heap.objs.size + 1))) s1 σ F1 (upd (upd H1 s.heap.objs.size (.own (s.heap.objs.size + 1))) (s.heap.objs.size + 1) (.ins C s.heap.objs.size [])) s1 :=
    Stp.alloc (p := s.heap.objs.size + 1) st1.rel (by rw [upd_ne (Ne.symm ne)]; exact fx) fun a ha => upd_ne ha
  have stp := st1.trans st2
  have fF : F1 (s.heap.objs.size + 1) = none := by
    cases q : F1 (s.heap.objs.size + 1) with
    | none => rfl
    | some u => rw [st.rel.sub _ u q] at fx; cases fx
  have riS : RI X.K H0 F1 (upd (upd H1 s.heap.objs.size (.own (s.heap.objs.size + 1))) (s.heap.objs.size + 1) (.ins C s.heap.objs.size [])) σ s1 (.ref (s.heap.objs.size + 1)) (.own (.ins C [] [])) :=
    ⟨_, rfl, back _ fx, fF, fun z => (st.rel.own_free z).2 fx, _, [], upd_same, rfl, trivial⟩
  have riA : RIs X.K H0 F1 (upd (upd H1 s.heap.objs.size (.own (s.heap.objs.size + 1))) (s.heap.objs.size + 1) (.ins C s.heap.objs.size [])) σ s1 (.ref (s.heap.objs.size + 1) :: (vs ++ zs)) (.own (.ins C [] []) :: its) := by
    refine ⟨riS, fun m hm w m' hw z => ?_, ri.step stp⟩
    obtain ⟨q, e2, hq⟩ := ri.fresh w m' hw
    rw [e2] at z
    cases z
    exact (ri.there w m' hw _ e2) fx
  -- the call
  unfold makeA at h
  split at h
  · rename_i ss
    unfold callA at h
    split at h
    · rename_i its' e
      obtain ⟨us', hb, hv⟩ := B.to _ (.ref (s.heap.objs.size + 1) :: us) ws I2.kIn (by rw [List.length_cons, l1]) l2
      obtain ⟨vs', a1, a2⟩ := hv (.ref (s.heap.objs.size + 1) :: vs) zs (.cons rfl r1) r2
      have rx := RIx.arr B.ok riA.ix a1 e
      obtain ⟨Fa, as, Ra, ga⟩ := call_go (st.trans stp) rx h
      have v0 : vs'[0]? = some (.ref (s.heap.objs.size + 1)) := by
        obtain ⟨y, b1, b2⟩ := (arr_get a1).2 0 (.arg 0) rfl
        rw [b1]
        exact b2.symm
      refine wpAny_call (make_map (f := f) I.kIn M.makes M.init (beq_iff_eq.mp M.fn) (codeAny_mono (F.run _ X.stack _ _ ⟨Value.ref (s.heap.objs.size + 1) :: us, ks.zip ws⟩ us' vs' (fun v H2 => v = .non ∧ Q (.ref (s.heap.objs.size + 1)) H2) (fun c d H' => W c d σ H') p (hr.making C us (ks.zip ws)) (fun z => ⟨⟨(pin_ok hh I2 z).1.1, (pin_ok hh I2 z).1.2⟩, (pin_ok hh I2 z).2⟩)
        (I2.env0.make C us (ks.zip ws)) hb a2 ⟨by rw [(arr_get a1).1]; exact B.len, Fa, as, Ra, ?_⟩) fun r s' hq' => ?_))
      · unfold gSelf at ga
        cases q : g p as with
        | ok it as' =>
          rw [q] at ga
          split at ga
          · rename_i as2 e2
            cases e2
            intro F' H' c v rv
            refine ⟨rv, ga F' H' c (.ref (s.heap.objs.size + 1)) ?_⟩
            show (vs'.map some)[0]? = _
            rw [List.getElem?_map, v0]
            rfl
          · rename_i e2; cases e2
          · exact ga.elim
        | exc e2 as' =>
          rw [q] at ga
          exact ga
        | bad =>
          rw [q] at ga
          exact ga.elim
      · cases r with
        | error e => exact tk e s' (L2N.XE.of_call I2 (fun _ _ _ z => z) hq')
        | ok fl =>
          cases fl with
          | ret u =>
            obtain ⟨v, H', I3, rv, ev, q3⟩ := I2.after hq'
            subst ev
            exact ⟨rv, ⟨V.ref (s.heap.objs.size + 1), H', I3, rfl, q3⟩⟩
          | next => exact False.elim hq'
          | brk => exact False.elim hq'
          | cont => exact False.elim hq'
    · exact h.elim
  · exact h.elim
theorem de_make (M : Mk X.K C f) (F : FnM hot X.prog X.w X.K X.mg X.base k f fd ps (spG X.K ps.length g)) (hr : Rm hot (k + 1) X.A) (hh : HotX hot X p) (tk : L2N.Takes X W) (hg : Gl X x) (hm : X.mg x = some (.ref C)) (B : BnD X.K fd ps ((e :: es).length + 1) [] src) (ha : DA X W (e :: es) fa)
    (hdb : (x == ("__debug__" : Str)) = false := by decide) (he : starEach (e :: es) X.env = (false, eval e X.env) :: starEach es X.env := by rfl) (hpl : (backTo pos (starEach es X.env)).any (·.1) = false := by rfl) :
    DE X W (.Call (.Name x np) (e :: es) [] pos) (fCallA (makeA C (g p) src) fa) := by
  refine ⟨fun pins s σ H Q I h => ?_⟩
  obtain ⟨F0, st0, R, h⟩ := args_ok ha h
  refine wpAny_Call_Name_kw (ld_glob I hg hm ?_ hdb)
  refine PySem.W.callWith_K (h₀ := X.base) I.ok.mod.kin M.kp (thn (ha.pa.run pos pins s σ H _ I h) fun us s1 hx => ?_) he hpl
  obtain ⟨vs, H1, I1, r, F1, t1, its, lv, p1, ri, q⟩ := hx
  refine ⟨I1.kIn, ?_⟩
  exact fireNew (us := us) (ws := []) (zs := []) M F hr hh tk B I1 r .nil (by rw [← r.length]; exact lv) rfl p1 (by rw [List.append_nil]; exact ri) q
theorem de_make0 (M : Mk X.K C f) (F : FnM hot X.prog X.w X.K X.mg X.base k f fd ps (spG X.K ps.length g)) (hr : Rm hot (k + 1) X.A) (hh : HotX hot X p) (tk : L2N.Takes X W) (hg : Gl X x) (hm : X.mg x = some (.ref C)) (B : BnD X.K fd ps 1 [] src)
    (hdb : (x == ("__debug__" : Str)) = false := by decide) : DE X W (.Call (.Name x np) [] [] pos) (fCallA (makeA C (g p) src) fNil) := by
  refine ⟨fun pins s σ H Q I h => ?_⟩
  obtain ⟨F0, st0, R, g0⟩ := h
  refine wpAny_Call_Name_kw (ld_glob I hg hm ?_ hdb)
  exact PySem.W.callWith_K0 I.kIn M.kp (fireNew (us := []) (ws := []) (vs := []) (zs := []) (its := []) M F hr hh tk B I .nil .nil rfl rfl (Stp.refl R) trivial g0)
theorem de_makeK (M : Mk X.K C f) (F : FnM hot X.prog X.w X.K X.mg X.base k f fd ps (spG X.K ps.length g)) (hr : Rm hot (k + 1) X.A) (hh : HotX hot X p) (tk : L2N.Takes X W) (hg : Gl X x) (hm : X.mg x = some (.ref C)) (B : BnD X.K fd ps ((e :: es).length + 1) ks src) (hl : kws.length = ks.length) (ha : DA X W (e :: es) fa)
    (hkw : DK X W kws fk) (hall : (backToKw pos (keywordEach kws X.env)).all (·.1.isSome) = true := by rfl) (hks : (backToKw pos (keywordEach kws X.env)).filterMap (·.1) = ks := by rfl) (hdb : (x == ("__debug__" : Str)) = false := by decide)
    (he : starEach (e :: es) X.env = (false, eval e X.env) :: starEach es X.env := by rfl) (hpl : ((backTo pos (starEach (e :: es) X.env)).any (·.1) || (backToKw pos (keywordEach kws X.env)).any (·.1.isNone)) = false := by rfl) :
    DE X W (.Call (.Name x np) (e :: es) kws pos) (fCallA (makeA C (g p) src) (fApp fa fk)) := by
  refine ⟨fun pins s σ H Q I h => ?_⟩
  obtain ⟨F0, st0, R, h⟩ := argsK_ok ha hkw h
  refine wpAny_Call_Name_kw (ld_glob I hg hm ?_ hdb)
  refine PySem.W.callWith_KW (h₀ := X.base) I.ok.mod.kin M.kp hall (thn (ha.pa.run pos pins s σ H _ I h) fun us s1 ⟨vs, H1, I1, r, q⟩ => ?_) hpl he
  refine thn (hkw.pk.run pos pins s1 σ H1 _ I1 q) fun ws s2 ⟨zs, H2, I2, rz, F2, t2, its, lv, lz, p2, ri, q2⟩ => ⟨I2.kIn, ?_⟩
  rw [hks]
  exact fireNew (us := us) M F hr hh tk B I2 r rz (by rw [← r.length]; exact lv) (by rw [← rz.length, lz, hl]) p2 ri q2
theorem de_makeK0 (M : Mk X.K C f) (F : FnM hot X.prog X.w X.K X.mg X.base k f fd ps (spG X.K ps.length g)) (hr : Rm hot (k + 1) X.A) (hh : HotX hot X p) (tk : L2N.Takes X W) (hg : Gl X x) (hm : X.mg x = some (.ref C)) (B : BnD X.K fd ps 1 ks src) (hl : kws.length = ks.length)
    (hkw : DK X W kws fk) (hall : (backToKw pos (keywordEach kws X.env)).all (·.1.isSome) = true := by rfl) (hks : (backToKw pos (keywordEach kws X.env)).filterMap (·.1) = ks := by rfl) (hdb : (x == ("__debug__" : Str)) = false := by decide)
    (hpl : ((backTo pos (starEach [] X.env)).any (·.1) || (backToKw pos (keywordEach kws X.env)).any (·.1.isNone)) = false := by rfl) :
    DE X W (.Call (.Name x np) [] kws pos) (fCallA (makeA C (g p) src) (fApp fNil fk)) := by
  refine ⟨fun pins s σ H Q I h => ?_⟩
  obtain ⟨F0, st0, R, h⟩ := argsK_ok da_nil hkw h
  refine wpAny_Call_Name_kw (ld_glob I hg hm ?_ hdb)
  refine PySem.W.callWith_KW0 (h₀ := X.base) I.ok.mod.kin M.kp hall ?_ hpl
  obtain ⟨F1, st1, R1, g1⟩ := h
  have g2 := g1 F1 H (Stp.refl R1) [] trivial
  refine thn (hkw.pk.run pos pins s σ H _ I g2) fun ws s2 ⟨zs, H2, I2, rz, F2, t2, its, lv, lz, p2, ri, q2⟩ => ⟨I2.kIn, ?_⟩
  rw [hks]
  exact fireNew (us := []) (vs := []) M F hr hh tk B I2 .nil rz rfl (by rw [← rz.length, lz, hl]) p2 ri q2
end

def noExc (o : Ot Itm) : Ot Itm := match o with
  | .ok it st => .ok it st
  | _ => .bad
def fProp (C : Addr) (g : FG) (fo : FE) : FE := fun st => (fo st).bind fun ir s1 => match view s1 ir with
  | some (.ins C' _ _) => if C' = C then noExc (callG g [ir] s1) else .bad
  | _ => .bad
theorem Go.noExc {K : PySem.W.Frag} {W W' : WX} {σ : L2.St} {F H : Hp} {st : Sls} {o : Ot Itm} {Q : Itm → Hp → Hp → Sls → Prop} (h : Go K W σ F H st (DL.noExc o) Q) : Go K W' σ F H st o Q := by
  cases o with
  | ok a s => exact h
  | exc e s => exact h.elim
  | bad => exact h.elim
section
variable {X : Cx} {W : WX} {k : Nat} {C q g0 : Addr} {f : Str} {fd : FuncData} {ps : List Str} {g : Pn → FG} {e : Expr} {pos : Pos} {fo : FE} {hot : Bool} {p : Pn}
theorem de_prop (he : DE X W e fo) (c : Cls X.K C) (hp : PropOf X.K C f q g0) (F : FnM hot X.prog X.w X.K X.mg X.base k g0 fd ps (spG X.K ps.length g)) (hr : Rm hot (k + 1) X.A) (hh : HotX hot X p) (B : BnD X.K fd ps 1 [] [.arg 0]) (hab : attributeBase e f X.env (eval e X.env) = eval e X.env) :
    DE X W (.Attribute e f pos) (fProp C (g p) fo) := by
  refine ⟨fun pins s σ H Q I h => ?_⟩
  obtain ⟨F0, st0, R, g1⟩ := h
  have h2 : tE X.K W fo σ H (fun v H1 => ∃ a dx fs, v = .ref a ∧ H1 a = some (.ins C dx fs) ∧ spG X.K ps.length g p [v] H1 Q (fun _ _ _ => False)) := by
    refine ⟨F0, st0, R, (Go.bind g1).imp fun ir F1 H1 s1 p1 g2 v r1 => ?_⟩
    split at g2
    · rename_i C' fs ds e1
      split at g2
      · rename_i ec
        subst ec
        obtain ⟨a, dx, xs, e3, h3, n3, r3⟩ := rw_ins p1.rel.sub (view_ok p1.rel r1 e1)
        refine ⟨a, dx, xs, e3, h3, ?_, ?_⟩
        · have := B.len
          exact this
        · have rx : RIx X.K H F1 H1 σ s1 [v] [ir] := RIs.ix (show RIs X.K H F1 H1 σ s1 [v] [ir] from ⟨r1, fun m hm w m' hw => by simp at hw, trivial⟩)
          exact call_go (W := fun _ _ _ _ => False) p1 rx (g2.noExc)
      · exact g2.elim
    · exact g2.elim
  refine attr_of hab (thn (he.run pins s σ H _ I h2) fun u s1 ⟨x, H1, I1, rx, a, dx, fs, ex, ea, sp⟩ => ?_)
  subst ex
  obtain rfl : u = Value.ref a := rx
  obtain ⟨mA, O, _, _, _, _⟩ := ins_get I1.hok ea
  obtain ⟨od, J, _⟩ := O.look
  obtain ⟨rest, hrec⟩ := hp.rec_
  have I2 := I1.tok (s1.toks + 1)
  have hc : (PySem.W.clsIn X.K C).isSome = true := by
    obtain ⟨cd, hc, _⟩ := PySem.W.any_some c.hd
    rw [hc]
    rfl
  refine PySem.W.get_bind I1.kIn J (PySem.W.plainGet_of (c.get f)).1 (PySem.W.findObj_data hc hp.at_ hp.get hp.tak) (PySem.W.plainGet_of (c.get f)).2 (wpAny_call (PySem.W.prop_get (s := { s1 with toks := s1.toks + 1 }) I1.kIn hrec ?_))
  obtain ⟨us', hb, hv⟩ := B.to { s1 with toks := s1.toks + 1 } [.ref a] [] I2.kIn rfl rfl
  obtain ⟨vs', a1, a2⟩ := hv [.ref a] [] (.cons rfl .nil) .nil
  have ev : [V.ref a] = vs' := by
    have a1 : some [V.ref a] = some vs' := a1
    cases a1
    rfl
  subst ev
  have e0 := I2.env0
  refine codeAny_mono (F.run (upU 1 X.A) X.stack { s1 with toks := s1.toks + 1 } H1 ⟨[.ref a], []⟩ us' [.ref a] Q (fun _ _ _ => False) p (hr.ups (by omega)) (fun z => ⟨⟨(pin_ok hh I2 z).1.1, (pin_ok hh I2 z).1.2⟩, (pin_ok hh I2 z).2⟩) ⟨e0.frames, e0.mod, e0.bs, e0.bsz, e0.funs, e0.frf, e0.hok, e0.bare⟩ hb a2 sp) fun r s' hq => ?_
  cases r with
  | error er =>
    obtain ⟨_, _, _, _, _, _, _, _, _, _, _, _, z⟩ := hq
    exact z.elim
  | ok fl =>
    cases fl with
    | ret u =>
      obtain ⟨v, H', I3, rv, q3⟩ := I2.after hq
      show wpAny _ _ (handedOut u) _ _ _
      rw [PySem.W.handedOut_of (handed_of rv)]
      exact wpAny_pure ⟨v, H', I3, rv, q3⟩
    | next => exact False.elim hq
    | brk => exact False.elim hq
    | cont => exact False.elim hq
end
end DL
set_option maxRecDepth 100000
set_option maxHeartbeats 4000000
namespace DL
open PySem PySem.Spec PyProof.Rows L2
def RWs (K : PySem.W.Frag) (F H : Hp) : List V → List D → Prop
  | [], [] => True
  | v :: vs, d :: ds => RW K F H v d ∧ RWs K F H vs ds
  | _, _ => False
def views (st : Sls) : List Itm → Option (List D)
  | [] => some []
  | it :: its => con2 (view st it) (views st its)
theorem views_ok {K : PySem.W.Frag} {F H H0 : Hp} {σ : L2.St} {st : Sls} (R : Rl K F H σ st) : ∀ {vs : List V} {its : List Itm} {ds : List D}, RIs K H0 F H σ st vs its → views st its = some ds → RWs K F H vs ds
  | [], [], ds, _, h => by
    cases h
    trivial
  | [], _ :: _, _, q, _ => q.elim
  | _ :: _, [], _, q, _ => q.elim
  | v :: vs, it :: its, ds, q, h => by
    obtain ⟨y, ys, e1, e2, e3⟩ := con2_some h
    subst e3
    exact ⟨view_ok R q.1 e1, views_ok R q.2.2 e2⟩
def CallS (X : Cx) (f : Value) (g : List D → Rs) : Prop := ∃ r, CallR X f r ∧ ∀ F H vs ds Q, Same F H → RWs X.K F H vs ds → ResOk X.K F H (g ds) Q → r vs H Q
def fCallB (g : List D → Rs) (fa : FA) : FE := fun st => (fa st).bind fun its s1 => match views s1 its with
  | some ds => (g ds).out s1
  | none => .bad
section
variable {X : Cx} {W : WX} {x : Str} {np pos : Pos} {e : Expr} {es : List Expr} {fa : FA} {g : List D → Rs} {id T : String}
theorem callB_ok {r : List V → Hp → VK → Prop} {σ : L2.St} {H : Hp} {Q : VK} (hr : ∀ F H vs ds Q, Same F H → RWs X.K F H vs ds → ResOk X.K F H (g ds) Q → r vs H Q) (h : tE X.K W (fCallB g fa) σ H Q) : tCB r (tA X.K W fa) σ H Q := by
  obtain ⟨F, st, R, g0⟩ := h
  refine ⟨F, st, R, (Go.bind g0).imp fun its F1 H1 s1 p1 g1 vs rs => ?_⟩
  split at g1
  · rename_i ds e
    exact hr F1 H1 vs ds Q p1.rel.sub (views_ok p1.rel rs e) (res_ok p1 g1)
  · exact g1.elim
theorem de_callB (hc : CallS X (.builtin id) g) (hg : Gl X x) (hm : X.mg x = none) (hv : bootBuiltins x = some (.builtin id)) (ha : DA X W (e :: es) fa) (hn : x ≠ "__name__" := by decide) (hdb : (x == ("__debug__" : Str)) = false := by decide)
    (he : starEach (e :: es) X.env = (false, eval e X.env) :: starEach es X.env := by rfl) (hpl : (backTo pos (starEach es X.env)).any (·.1) = false := by rfl) : DE X W (.Call (.Name x np) (e :: es) [] pos) (fCallB g fa) := by
  obtain ⟨r, h1, h2⟩ := hc
  exact PE.conseq (pe_callB h1 hg hm hv ha.pa hn hdb he hpl) fun σ H Q h => callB_ok h2 h
theorem de_callTy (hc : CallS X (.type T) g) (hg : Gl X x) (hm : X.mg x = none) (hv : bootBuiltins x = some (.type T)) (ha : DA X W (e :: es) fa) (hn : x ≠ "__name__" := by decide) (hdb : (x == ("__debug__" : Str)) = false := by decide)
    (he : starEach (e :: es) X.env = (false, eval e X.env) :: starEach es X.env := by rfl) (hpl : (backTo pos (starEach es X.env)).any (·.1) = false := by rfl) : DE X W (.Call (.Name x np) (e :: es) [] pos) (fCallB g fa) := by
  obtain ⟨r, h1, h2⟩ := hc
  exact PE.conseq (pe_callTy h1 hg hm hv ha.pa hn hdb he hpl) fun σ H Q h => callB_ok h2 h
theorem de_callTy0 (hc : CallS X (.type T) g) (hg : Gl X x) (hm : X.mg x = none) (hv : bootBuiltins x = some (.type T)) (hn : x ≠ "__name__" := by decide) (hdb : (x == ("__debug__" : Str)) = false := by decide) : DE X W (.Call (.Name x np) [] [] pos) (fCallB g fNil) := by
  obtain ⟨r, h1, h2⟩ := hc
  refine PE.conseq (pe_callTy0 h1 hg hm hv hn hdb) fun σ H Q h => ?_
  obtain ⟨F, st, R, g0⟩ := h
  have g0 : Go X.K W σ F H st ((g []).out st) (fun it F' H' st' => ∀ v, RI X.K H F' H' σ st' v it → Q v H') := g0
  exact h2 F H [] [] Q R.sub trivial (res_ok (Stp.refl R) g0)
end
theorem CallS.one {X : Cx} {f : Value} {g : List D → Rs} {r : List V → Hp → VK → Prop} (hc : CallR X f r) (hg : ∀ ds, ds.length ≠ 1 → g ds = .bad) (h : ∀ F H v d Q, Same F H → RW X.K F H v d → ResOk X.K F H (g [d]) Q → r [v] H Q) : CallS X f g := by
  refine ⟨r, hc, fun F H vs ds Q s rw q => ?_⟩
  match vs, ds, rw with
  | [], [], _ => rw [hg _ (by simp)] at q; exact q.elim
  | [v], [d], rw => exact h F H v d Q s rw.1 q
  | _ :: _ :: _, _ :: _ :: _, _ => rw [hg _ (by simp)] at q; exact q.elim
theorem CallS.two {X : Cx} {f : Value} {g : List D → Rs} {r : List V → Hp → VK → Prop} (hc : CallR X f r) (hg : ∀ ds, ds.length ≠ 2 → g ds = .bad) (h : ∀ F H v w d e Q, Same F H → RW X.K F H v d → RW X.K F H w e → ResOk X.K F H (g [d, e]) Q → r [v, w] H Q) : CallS X f g := by
  refine ⟨r, hc, fun F H vs ds Q s rw q => ?_⟩
  match vs, ds, rw with
  | [], [], _ => rw [hg _ (by simp)] at q; exact q.elim
  | [v], [d], rw => rw [hg _ (by simp)] at q; exact q.elim
  | [v, w], [d, e], rw => exact h F H v w d e Q s rw.1 rw.2.1 q
  | _ :: _ :: _ :: _, _ :: _ :: _ :: _, _ => rw [hg _ (by simp)] at q; exact q.elim
def g1 (g : D → Rs) : List D → Rs
  | [d] => g d
  | _ => .bad
def g2 (g : D → D → Rs) : List D → Rs
  | [d, e] => g d e
  | _ => .bad
theorem g1_bad {g : D → Rs} (ds : List D) (h : ds.length ≠ 1) : g1 g ds = .bad := by
  match ds with
  | [] => rfl
  | [d] => exact absurd rfl h
  | _ :: _ :: _ => rfl
theorem g2_bad {g : D → D → Rs} (ds : List D) (h : ds.length ≠ 2) : g2 g ds = .bad := by
  match ds with
  | [] => rfl
  | [d] => rfl
  | [d, e] => exact absurd rfl h
  | _ :: _ :: _ :: _ => rfl

def gAbs : D → Rs
  | .int i => .val (.int (if i < 0 then -i else i))
  | _ => .bad
def gMax : D → D → Rs
  | .int i, .int j => .val (.int (if j > i then j else i))
  | _, _ => .bad
def gMin : D → D → Rs
  | .int i, .int j => .val (.int (if j < i then j else i))
  | _, _ => .bad
def gInt : D → Rs
  | .int i => .val (.int i)
  | .bl b => .val (.int (if b then 1 else 0))
  | _ => .bad
def gStr : D → Rs
  | .int i => if i.natAbs.log2 < 1920 then .val (.str (toString i)) else .bad
  | .str x => .val (.str x)
  | _ => .bad
def gLen : D → Rs
  | .lst ds => .val (.int ds.length)
  | .tup ds => .val (.int ds.length)
  | .scr ns => .val (.int ns.length)
  | .str x => if x.length ≤ sizeLine then .val (.int x.length) else .bad
  | .dic ks _ => .val (.int ks.length)
  | _ => .bad
def gDivmod : D → D → Rs
  | .int i, .int j => if 0 < j ∧ Builtin.divisionGoesByPylong i j = false then .tupn [.int (i / j), .int (i % j)] else .bad
  | _, _ => .bad
def gTuple : D → Rs
  | .lst ds => .tupn ds
  | .tup ds => .val (.tup ds)
  | _ => .bad
def gList : D → Rs
  | .lst ds => .new (.lst ds)
  | .tup ds => .new (.lst ds)
  | .scr ns => .new (.lst (ns.map D.int))
  | _ => .bad
def bls? : List D → Option (List Bool)
  | [] => some []
  | .bl b :: ds => con2 (some b) (bls? ds)
  | _ :: _ => none
def gAny : D → Rs
  | .lst ds => match bls? ds with
    | some bs => .val (.bl (bs.any fun b => b))
    | none => .bad
  | _ => .bad
def gAll : D → Rs
  | .lst ds => match bls? ds with
    | some bs => .val (.bl (bs.all fun b => b))
    | none => .bad
  | _ => .bad
def gSum : D → Rs
  | .lst ds => match ints? ds with
    | some ns => .val (.int ns.sum)
    | none => .bad
  | _ => .bad
section
variable {K : PySem.W.Frag} {F H : Hp}
theorem bls_ok : ∀ {vs : List V} {ds : List D} {bs : List Bool}, RDs K F vs ds → bls? ds = some bs → vs = bs.map V.bl
  | [], [], bs, _, h => by
    cases h
    rfl
  | [], _ :: _, _, q, _ => q.elim
  | _ :: _, [], _, q, _ => q.elim
  | v :: vs, d :: ds, bs, q, h => by
    cases d with
    | bl b =>
      obtain ⟨y, ys, e1, e2, e3⟩ := con2_some h
      cases e1
      subst e3
      have e := bls_ok q.2 e2
      have e0 : v = .bl b := q.1
      rw [e, e0]
      rfl
    | _ => cases h
end
section
variable {X : Cx}
theorem cs_abs : CallS X (.builtin "abs") (g1 gAbs) := CallS.one call_abs g1_bad fun F H v d Q s rv q => by
  cases d with
  | int i => exact ⟨i, by rw [rw_int rv], q _ rfl⟩
  | _ => exact q.elim
theorem cs_max (hc : X.calm = true) : CallS X (.builtin "max") (g2 gMax) := CallS.two (call_max2 hc) g2_bad fun F H v w d e Q s rv rw q => by
  cases d with
  | int i =>
    cases e with
    | int j => exact ⟨i, j, by rw [rw_int rv, rw_int rw], q _ rfl⟩
    | _ => exact q.elim
  | _ => exact q.elim
theorem cs_min (hc : X.calm = true) : CallS X (.builtin "min") (g2 gMin) := CallS.two (call_min2 hc) g2_bad fun F H v w d e Q s rv rw q => by
  cases d with
  | int i =>
    cases e with
    | int j => exact ⟨i, j, by rw [rw_int rv, rw_int rw], q _ rfl⟩
    | _ => exact q.elim
  | _ => exact q.elim
theorem cs_int : CallS X (.type "int") (g1 gInt) := CallS.one call_int1 g1_bad fun F H v d Q s rv q => by
  cases d with
  | int i => exact .inl ⟨i, by rw [rw_int rv], q _ rfl⟩
  | bl b => exact .inr ⟨b, by rw [rw_bl rv], q _ rfl⟩
  | _ => exact q.elim
theorem cs_str : CallS X (.type "str") (g1 gStr) := CallS.one (call_str_int.or SkE.call_str_str) g1_bad fun F H v d Q s rv q => by
  cases d with
  | int i =>
    simp only [g1, gStr] at q
    split at q
    · rename_i c
      exact .inl ⟨i, by rw [rw_int rv], c, q _ rfl⟩
    · exact q.elim
  | str x => exact .inr ⟨x, by rw [rw_str rv], q _ rfl⟩
  | _ => exact q.elim
theorem cs_len : CallS X (.builtin "len") (g1 gLen) := CallS.one (call_len_seq.or (call_len_str.or call_lenD)) g1_bad fun F H v d Q s rv q => by
  cases d with
  | lst ds =>
    obtain ⟨a, xs, e1, h1, r1⟩ := rw_lst s rv
    refine .inl ⟨a, xs, by rw [e1], .inl (SqL.of h1), ?_⟩
    rw [r1.length]
    exact q _ rfl
  | tup ds =>
    obtain ⟨a, xs, e1, h1, r1⟩ := rw_tup rv
    refine .inl ⟨a, xs, by rw [e1], .inr (h1.mono s).sq, ?_⟩
    rw [r1.length]
    exact q _ rfl
  | scr ns =>
    obtain ⟨a, e1, h1⟩ := rw_scr rv
    refine .inl ⟨a, ns.map V.int, by rw [e1], .inl (s.seq h1), ?_⟩
    rw [List.length_map]
    exact q _ rfl
  | str x =>
    simp only [g1, gLen] at q
    split at q
    · rename_i c
      exact .inr (.inl ⟨x, by rw [rw_str rv], c, q _ rfl⟩)
    · exact q.elim
  | dic ks vs =>
    obtain ⟨a, kvs, e1, h1, r1, r2⟩ := rw_dic s rv
    refine .inr (.inr ⟨a, kvs, by rw [e1], h1, ?_⟩)
    have e := r1.length
    rw [List.length_map] at e
    rw [e]
    exact q _ rfl
  | _ => exact q.elim
theorem call_divmodX : CallR X (.builtin "divmod") (fun xs H Q => ∃ i j, xs = [.int i, .int j] ∧ CDivP i j ∧ ∀ p o, H p = none → o.dict = none → Q (.ref p) (upd H p (.frz o (.tup [.int (i / j), .int (i % j)])))) := by
  rintro pins s σ H xs us Q I r ⟨i, j, rfl, ⟨hj, hd⟩, q⟩
  obtain ⟨u, v, rfl, ⟨t, rfl⟩, ⟨t', rfl⟩⟩ := vals2 r
  refine divmod_int (by omega) ?_ (.inl hd)
  rw [Int.fdiv_eq_ediv_of_nonneg i (by omega), Int.fmod_eq_emod_of_nonneg i (by omega)]
  have hv : Vals [V.int (i / j), V.int (i % j)] [Value.int (i / j) s.toks, Value.int (i % j) (s.toks + 1)] := .cons ⟨_, rfl⟩ (.cons ⟨_, rfl⟩ .nil)
  exact ⟨.ref s.heap.objs.size, _, Inv.tupLk (t' := _) I hv (by simp only [List.length_cons, List.length_nil]; rw [sizeLine_eq]; decide), rfl, q _ _ (I.hok.fresh (Nat.le_refl _)) rfl⟩
theorem cs_divmod : CallS X (.builtin "divmod") (g2 gDivmod) := CallS.two call_divmodX g2_bad fun F H v w d e Q s rv rw q => by
  cases d with
  | int i =>
    cases e with
    | int j =>
      simp only [g2, gDivmod] at q
      split at q
      · rename_i c
        exact ⟨i, j, by rw [rw_int rv, rw_int rw], c, fun p o hp ho => q.2 p _ o hp ⟨rfl, rfl, trivial⟩ ho⟩
      · exact q.elim
    | _ => exact q.elim
  | _ => exact q.elim
theorem call_tupleX : CallR X (.type "tuple") (fun xs H Q => ∃ p ys, xs = [.ref p] ∧ ((SqL X.K H p ys ∧ ∀ l o, H l = none → o.dict = none → Q (.ref l) (upd H l (.frz o (.tup ys)))) ∨ (SqT X.K H p ys ∧ Q (.ref p) H))) := by
  rintro pins s σ H xs us Q I r ⟨p, ys, rfl, h⟩
  obtain ⟨u, rfl, rx⟩ := vals1 r
  cases rx
  rcases h with ⟨hq, q⟩ | ⟨hq, q⟩
  · obtain ⟨its, r2, pl, hz⟩ := I.list hq
    have hlen := r2.length
    refine call_tuple_list pl.isList (fun h' kp => ?_) (by simp only [List.size_toArray] <;> omega)
    have I1 : Inv X pins σ H { s with heap := h' } := I.kept (t' := s.toks) kp
    exact ⟨.ref h'.objs.size, _, Inv.tupLk (t' := s.toks) I1 r2 hz, rfl, q _ _ (I1.hok.fresh (Nat.le_refl _)) rfl⟩
  · obtain ⟨its, r2, pl, hz⟩ := I.tuple hq
    exact call_tuple_same pl ⟨.ref p, H, I, rfl, q⟩
theorem cs_tuple : CallS X (.type "tuple") (g1 gTuple) := CallS.one call_tupleX g1_bad fun F H v d Q s rv q => by
  cases d with
  | lst ds =>
    obtain ⟨a, xs, e1, h1, r1⟩ := rw_lst s rv
    exact ⟨a, xs, by rw [e1], .inl ⟨SqL.of h1, fun l o hl ho => q.2 l _ o hl r1 ho⟩⟩
  | tup ds =>
    obtain ⟨a, xs, e1, h1, r1⟩ := rw_tup rv
    exact ⟨a, xs, by rw [e1], .inr ⟨(h1.mono s).sq, q _ ⟨a, xs, e1 ▸ rfl, h1, r1⟩⟩⟩
  | _ => exact q.elim
theorem cs_list : CallS X (.type "list") (g1 gList) := CallS.one call_list_of g1_bad fun F H v d Q s rv q => by
  cases d with
  | lst ds =>
    obtain ⟨a, xs, e1, h1, r1⟩ := rw_lst s rv
    exact ⟨a, xs, by rw [e1], .inl (SqL.of h1), fun l hl => q l _ hl (fun b hb => upd_ne hb) ⟨xs, upd_same, r1⟩⟩
  | tup ds =>
    obtain ⟨a, xs, e1, h1, r1⟩ := rw_tup rv
    exact ⟨a, xs, by rw [e1], .inr (h1.mono s).sq, fun l hl => q l _ hl (fun b hb => upd_ne hb) ⟨xs, upd_same, r1⟩⟩
  | scr ns =>
    obtain ⟨a, e1, h1⟩ := rw_scr rv
    have rn : ∀ ns : List Int, RDs X.K F (ns.map V.int) (ns.map D.int) := fun ns => by
      induction ns with
      | nil => trivial
      | cons n ns ih => exact ⟨rfl, ih⟩
    exact ⟨a, _, by rw [e1], .inl (s.seq h1), fun l hl => q l _ hl (fun b hb => upd_ne hb) ⟨_, upd_same, rn ns⟩⟩
  | _ => exact q.elim
theorem cs_any (hc : X.calm = true) : CallS X (.builtin "any") (g1 gAny) := CallS.one (cr_any hc) g1_bad fun F H v d Q s rv q => by
  cases d with
  | lst ds =>
    simp only [g1, gAny] at q
    split at q
    · rename_i bs e
      obtain ⟨a, xs, e1, h1, r1⟩ := rw_lst s rv
      have e2 := bls_ok r1 e
      subst e2
      exact ⟨a, bs, by rw [e1], SqL.of h1, q _ rfl⟩
    · exact q.elim
  | _ => exact q.elim
theorem cs_all (hc : X.calm = true) : CallS X (.builtin "all") (g1 gAll) := CallS.one (cr_all hc) g1_bad fun F H v d Q s rv q => by
  cases d with
  | lst ds =>
    simp only [g1, gAll] at q
    split at q
    · rename_i bs e
      obtain ⟨a, xs, e1, h1, r1⟩ := rw_lst s rv
      have e2 := bls_ok r1 e
      subst e2
      exact ⟨a, bs, by rw [e1], SqL.of h1, q _ rfl⟩
    · exact q.elim
  | _ => exact q.elim
end
def tyD : D → Option Value
  | .non => some (.type "NoneType")
  | .bl _ => some (.type "bool")
  | .int _ => some (.type "int")
  | .str _ => some (.type "str")
  | .tup _ => some (.type "tuple")
  | .lst _ => some (.type "list")
  | .dic _ _ => some (.type "dict")
  | .ins C _ _ => some (.ref C)
  | .scr _ => none
structure InsT (K : PySem.W.Frag) (C : Addr) : Prop where
  cl : Cls K C
  ha : PySem.W.findIn K (.ref C) "__class__" = some (some (.builtin "object.__class__"))
  hn : PySem.W.specialIn K (.builtin "object.__class__") "__get__" = some (some (.builtin "getset_descriptor.__get__"))
  tk : PySem.W.takesIn K (.builtin "object.__class__") = some true
  hm : PySem.W.mroIn K C (.type "object") = some true
structure KitT (K : PySem.W.Frag) (u : Value) (kit : Value → Option Bool) : Prop where
  ok : ∀ t b, kit t = some b → PySem.W.kitOne K t u = some b
  ins : ∀ C b, kit (.ref C) = some b → InsT K C
def gIsI (kit : Value → Option Bool) : D → Rs := fun d => match tyD d with
  | some t => (match kit t with
    | some b => .val (.bl b)
    | none => .bad)
  | none => .bad
theorem tyX_of {K : PySem.W.Frag} {F H : Hp} {v : V} {d : D} {t : Value} (s : Same F H) (r : RW K F H v d) (e : tyD d = some t) (hi : ∀ C, t = .ref C → InsT K C) : TyX K H v t := by
  cases d with
  | non =>
    cases e
    rw [rw_non r]
    exact .base .non
  | bl b =>
    cases e
    rw [rw_bl r]
    exact .base (.bl b)
  | int i =>
    cases e
    rw [rw_int r]
    exact .base (.int i)
  | str x =>
    cases e
    rw [rw_str r]
    exact .base (.str x)
  | tup ds =>
    cases e
    obtain ⟨a, xs, e1, h1, r1⟩ := rw_tup r
    rw [e1]
    rcases h1 with ⟨o, h, _⟩ | ⟨o, its, n, h, c, _⟩
    · exact .fTuple (s _ _ h)
    · exact .kTuple h c
  | lst ds =>
    cases e
    obtain ⟨a, xs, e1, h1, r1⟩ := rw_lst s r
    rw [e1]
    exact .base (.lst h1)
  | dic ks vs =>
    cases e
    obtain ⟨a, kvs, e1, h1, r1, r2⟩ := rw_dic s r
    rw [e1]
    exact .base (.dK h1)
  | ins C fs ds =>
    cases e
    obtain ⟨a, dx, xs, e1, h1, n1, r1⟩ := rw_ins s r
    rw [e1]
    have z := hi C rfl
    exact .base (.ins h1 z.cl z.ha z.hn z.tk z.hm)
  | scr ns => cases e
def fIsI (kit : Value → Option Bool) (fe : FE) : FE := fun st => (fe st).bind fun it s1 => match view s1 it with
  | some d => (gIsI kit d).out s1
  | none => .bad
theorem de_isi {X : Cx} {W : WX} {np pos : Pos} {e c : Expr} {fe : FE} {cv : V} {u : Value} {kit : Value → Option Bool} (kt : KitT X.K u kit) (hcv : ClsV cv u) (he : DE X W e fe) (hc : PE X c (tC cv)) (hg : Gl X "isinstance") (hm : X.mg "isinstance" = none)
    (h1 : starEach [e, c] X.env = (false, eval e X.env) :: starEach [c] X.env := by rfl) (h2 : starEach [c] X.env = (false, eval c X.env) :: starEach [] X.env := by rfl) (hpl : (backTo pos (starEach [c] X.env)).any (·.1) = false := by rfl) :
    DE X W (.Call (.Name "isinstance" np) [e, c] [] pos) (fIsI kit fe) := by
  refine PE.conseq (pe_callB (call_isi (X := X)) hg hm (by rfl) (pa_cons he (pa_cons hc pa_nil h2) h1) (by decide) (by decide) h1 hpl) fun σ H Q h => ?_
  obtain ⟨F, st, R, g0⟩ := h
  refine ⟨F, st, R, (Go.bind g0).imp fun it F1 H1 s1 p1 g1 v r => ?_⟩
  show ∃ (x c : V) (t u : Value) (b : Bool), [v, cv] = [x, c] ∧ ClsV c u ∧ TyX X.K H1 x t ∧ PySem.W.kitOne X.K t u = some b ∧ Q (.bl b) H1
  split at g1
  · rename_i d e1
    unfold gIsI at g1
    split at g1
    · rename_i t e2
      split at g1
      · rename_i b e3
        exact ⟨v, cv, t, u, b, rfl, hcv, tyX_of p1.rel.sub (view_ok p1.rel r e1) e2 (fun C z => kt.ins C b (by rw [← z]; exact e3)), kt.ok t b e3, g1 F1 H1 p1 (.bl b) rfl⟩
      · exact g1.elim
    · exact g1.elim
  · exact g1.elim
end DL
set_option maxRecDepth 100000
set_option maxHeartbeats 4000000
namespace DL
open PySem PySem.Spec PyProof.Rows L2
section
variable {K : PySem.W.Frag} {W : WX} {σ0 σ : L2.St} {F0 H0 F H : Hp} {st0 st st' : Sls} {v w : V} {it it2 : Itm} {i j : Nat}
theorem own_setSl {i : Nat} {a : Addr} {v : V} {s : Sl} (h : Own (σ.set i (some v)) (st.set i s) a) : Own σ st a ∨ (v = .ref a ∧ ∃ m, s = .own m) := by
  obtain ⟨k, ⟨m, h1⟩, h2⟩ := h
  by_cases z : i = k
  · subst z
    rw [List.getElem?_set] at h1 h2
    split at h1
    · split at h1
      · split at h2
        · split at h2
          · cases h1
            cases h2
            exact .inr ⟨rfl, m, rfl⟩
          · cases h2
        · rename_i z; exact absurd rfl z
      · cases h1
    · rename_i z; exact absurd rfl z
  · rw [List.getElem?_set_ne z] at h1 h2
    exact .inl ⟨k, ⟨m, h1⟩, h2⟩
theorem setSl_ok (s : Stp K σ0 F0 H0 st0 σ F H st) (r : RI K H0 F H σ st v it) (e : setSl i it st = .nx st') :
    ∃ F', Stp K σ0 F0 H0 st0 (σ.set i (some v)) F' H st' ∧ Same F F' ∧ (∀ a, F a = none → F' a ≠ none → Own σ st a) ∧ (∀ a, Own (σ.set i (some v)) st' a → Own σ st a ∨ (v = .ref a ∧ ∃ m, it = .own m)) := by
  cases it with
  | d x =>
    cases e
    exact ⟨F, s.store r, Same.refl F, fun a h1 h2 => absurd h1 h2, fun a h => (own_setSl h).elim .inl fun ⟨_, m, z⟩ => nomatch z⟩
  | own m =>
    cases e
    obtain ⟨p, e1, h0, f, n, rm⟩ := r
    subst e1
    refine ⟨F, s.storeOwn h0 f n rm, Same.refl F, fun a h1 h2 => absurd h1 h2, fun a h => (own_setSl h).elim .inl fun ⟨z, _⟩ => .inr ⟨z, m, rfl⟩⟩
  | ref k =>
    have e : (match frz (.ref k) st with | some (x, s2) => OtS.nx (s2.set i (.d x)) | none => .bad) = .nx st' := e
    cases q : frz (.ref k) st with
    | none => rw [q] at e; cases e
    | some y =>
      obtain ⟨x, s2⟩ := y
      rw [q] at e
      cases e
      have r0 : σ[k]? = some (some v) := r
      have s1 : Stp K σ F H st σ F H st := Stp.refl s.rel
      have r1 : RI K H F H σ st v (.ref k) := r0
      obtain ⟨F2, p2, rd, sm, nw, ow⟩ := frz_ok s1 r1 q
      refine ⟨F2, ?_, sm, fun a h1 h2 => ?_, fun a h => ?_⟩
      · exact (s.trans p2).store rd
      · obtain ⟨z1, z2⟩ := nw a h1 h2
        rcases z2 with z2 | ⟨m, z2⟩
        · exact z2
        · cases z2
      · rcases own_setSl h with z | ⟨_, m, z⟩
        · exact .inl (ow a z)
        · cases z
theorem rest_ok (e : setSl i it st = .nx st') {F' : Hp} (sm : Same F F') (nw : ∀ a, F a = none → F' a ≠ none → Own σ st a) (ow : ∀ a, Own (σ.set i (some v)) st' a → Own σ st a ∨ (v = .ref a ∧ ∃ m, it = .own m)) (r2 : RI K H0 F H σ st w it2)
    (dist : ∀ m m2, it = .own m → it2 = .own m2 → w ≠ v) (nr : isRef i it2 = false) : RI K H0 F' H (σ.set i (some v)) st' w it2 := by
  cases it2 with
  | d x => exact RD.mono sm x w r2
  | own m2 =>
    obtain ⟨q, e1, h0, f, n, rm⟩ := r2
    refine ⟨q, e1, h0, ?_, fun z => ?_, rm.mono sm rfl⟩
    · cases z : F' q with
      | none => rfl
      | some u => exact absurd (nw q f (by rw [z]; simp)) n
    · rcases ow q z with z | ⟨z, m, hm⟩
      · exact n z
      · exact dist m m2 hm rfl (by rw [e1, z])
  | ref k =>
    have r2 : σ[k]? = some (some w) := r2
    show (σ.set i (some v))[k]? = some (some w)
    have ne : i ≠ k := fun z => by
      have : (k == i) = false := nr
      rw [z] at this
      simp at this
    rw [List.getElem?_set_ne ne]
    exact r2
theorem rest_all (e : setSl i it st = .nx st') {F' : Hp} (sm : Same F F') (nw : ∀ a, F a = none → F' a ≠ none → Own σ st a) (ow : ∀ a, Own (σ.set i (some v)) st' a → Own σ st a ∨ (v = .ref a ∧ ∃ m, it = .own m)) : ∀ {ws : List V} {its : List Itm}, RIs K H0 F H σ st ws its →
    (∀ m, it = .own m → ∀ w m', (w, Itm.own m') ∈ ws.zip its → w ≠ v) → its.any (isRef i) = false → RIs K H0 F' H (σ.set i (some v)) st' ws its
  | [], [], _, _, _ => trivial
  | [], _ :: _, q, _, _ => q.elim
  | _ :: _, [], q, _, _ => q.elim
  | w :: ws, jt :: its, q, dist, nr => by
    rw [List.any_cons, Bool.or_eq_false_iff] at nr
    exact ⟨rest_ok e sm nw ow q.1 (fun m m2 h1 h2 => dist m h1 w m2 (by rw [h2, List.zip_cons_cons]; exact List.mem_cons_self)) nr.1, q.2.1,
      rest_all e sm nw ow q.2.2 (fun m h1 u m' h => dist m h1 u m' (by rw [List.zip_cons_cons]; exact List.mem_cons_of_mem _ h)) nr.2⟩
theorem setSl_nx (i : Nat) (it : Itm) (st : Sls) : (∃ st', setSl i it st = .nx st') ∨ setSl i it st = .bad := by
  cases it with
  | d x => exact .inl ⟨_, rfl⟩
  | own m => exact .inl ⟨_, rfl⟩
  | ref k =>
    show (∃ st', (match frz (.ref k) st with | some (x, s2) => OtS.nx (s2.set i (.d x)) | none => .bad) = .nx st') ∨ _
    cases q : frz (.ref k) st with
    | none =>
      refine .inr ?_
      show (match frz (.ref k) st with | some (x, s2) => OtS.nx (s2.set i (.d x)) | none => .bad) = .bad
      rw [q]
    | some y => exact .inl ⟨_, rfl⟩
def setAll : List Nat → List Itm → FS
  | [], [] => fun st => .nx st
  | i :: is, it :: its => fun st => if its.any (isRef i) then .bad else (setSl i it st).bindS (setAll is its)
  | _, _ => fun _ => .bad
def setVs : List Nat → List V → L2.St → L2.St
  | i :: is, v :: vs, σ => setVs is vs (σ.set i (some v))
  | _, _, σ => σ
theorem setAll_ok {E : L2.St → Hp → Prop} {asg : List Nat} : ∀ {is : List Nat} {its : List Itm} {vs : List V} {σ : L2.St} {F : Hp} {st : Sls}, Stp K σ0 F0 H0 st0 σ F H st → Keeps asg σ0 σ → (∀ i ∈ is, i ∈ asg) → RIs K H0 F H σ st vs its →
    GoS K W asg σ0 F0 H0 st0 (setAll is its st) { nx := E, rt := fun _ _ => False } → E (setVs is vs σ) H
  | [], [], [], σ, F, st, s, k, _, _, g => g σ F H s k
  | [], [], _ :: _, _, _, _, _, _, _, q, _ => q.elim
  | [], _ :: _, _, _, _, _, _, _, _, _, g => g.elim
  | _ :: _, [], _, _, _, _, _, _, _, _, g => g.elim
  | _ :: _, _ :: _, [], _, _, _, _, _, _, q, _ => q.elim
  | i :: is, it :: its, v :: vs, σ, F, st, s, k, ha, r, g => by
    have g : GoS K W asg σ0 F0 H0 st0 (if its.any (isRef i) then .bad else (setSl i it st).bindS (setAll is its)) { nx := E, rt := fun _ _ => False } := g
    split at g
    · exact g.elim
    · rename_i nr
      have nr : its.any (isRef i) = false := by simpa using nr
      rcases setSl_nx i it st with ⟨st', e⟩ | e
      · rw [e] at g
        obtain ⟨F', s', sm, nw, ow⟩ := setSl_ok s r.1 e
        exact setAll_ok (is := is) (its := its) (vs := vs) (σ := σ.set i (some v)) s' (k.trans (Keeps.set σ i (some v)) (fun _ z => z) (fun j hj => by
          have z : j = i := by simpa using hj
          rw [z]
          exact ha i List.mem_cons_self)) (fun j hj => ha j (List.mem_cons_of_mem _ hj)) (rest_all e sm nw ow r.2.2 r.2.1 nr) g
      · rw [e] at g
        exact g.elim
end
def fPar (is : List Nat) (fa : FA) : FS := fun st => (fa st).bindS fun its s1 => setAll is its s1
section
variable {X : Cx} {W : WX} {i j l : Nat} {x y z : Str} {a b c : Expr} {fa : FA} {px py pz pt pos : Pos} {kt k2 pt2}
theorem par_go {K : PySem.W.Frag} {σ : L2.St} {H : Hp} {D : Ends} {asg : List Nat} (h : tSt K W asg (fPar asg fa) D σ H) : ∃ F st, Rl K F H σ st ∧ Go K W σ F H st (fa st) (fun its F1 H1 s1 => ∀ vs, RIs K H F1 H1 σ s1 vs its → D.nx (setVs asg vs σ) H1 ∧ its.length = asg.length) := by
  obtain ⟨F, st, R, g0⟩ := h
  refine ⟨F, st, R, (GoS.ofBind g0).imp fun its F1 H1 s1 p1 g1 vs r => ⟨?_, ?_⟩⟩
  · refine setAll_ok (W := W) (asg := asg) p1 (Keeps.refl _ _) (fun i hi => hi) r ?_
    have key : ∀ (is : List Nat) (its : List Itm) (s : Sls), (∃ s', setAll is its s = .nx s') ∨ setAll is its s = .bad := by
      intro is
      induction is with
      | nil =>
        intro its s
        cases its with
        | nil => exact .inl ⟨_, rfl⟩
        | cons => exact .inr rfl
      | cons i is ih =>
        intro its s
        cases its with
        | nil => exact .inr rfl
        | cons it its =>
          show (∃ s', (if its.any (isRef i) then OtS.bad else (setSl i it s).bindS (setAll is its)) = .nx s') ∨ (if its.any (isRef i) then OtS.bad else (setSl i it s).bindS (setAll is its)) = .bad
          split
          · exact .inr rfl
          · rcases setSl_nx i it s with ⟨s', e⟩ | e
            · rw [e]; exact ih its s'
            · rw [e]; exact .inr rfl
    rcases key asg its s1 with ⟨s', e⟩ | e
    · rw [e] at g1 ⊢
      exact g1
    · rw [e] at g1
      exact g1.elim
  · have key : ∀ (is : List Nat) (its : List Itm) (s : Sls), is.length ≠ its.length → setAll is its s = .bad := by
      intro is
      induction is with
      | nil =>
        intro its s h
        cases its with
        | nil => exact absurd rfl h
        | cons => rfl
      | cons i is ih =>
        intro its s h
        cases its with
        | nil => rfl
        | cons it its =>
          show (if its.any (isRef i) then OtS.bad else (setSl i it s).bindS (setAll is its)) = .bad
          split
          · rfl
          · rcases setSl_nx i it s with ⟨s', e⟩ | e
            · rw [e]; exact ih its s' (fun z => h (congrArg (· + 1) z))
            · rw [e]; rfl
    refine Classical.byContradiction fun hne => ?_
    rw [key asg its s1 (fun z => hne z.symm)] at g1
    exact g1
theorem ds_par2 (hc : X.calm = true) (hN : X.N.Nodup) (hi : X.N[i]? = some x) (hj : X.N[j]? = some y) (hij : i ≠ j) (hx : X.env.scope.names.lookup x = some .local) (hy : X.env.scope.names.lookup y = some .local) (ha : DA X W [a, b] fa)
    (hw : swappedStores [.Tuple [.Name x px, .Name y py] kt pt] (.Tuple [a, b] k2 pt2) X.env = pure (some [x, y])) (hs : swapsWithSole [.Tuple [.Name x px, .Name y py] kt pt] (.Tuple [a, b] k2 pt2) pos.line X.env = pure false := by rfl) :
    DS X W (.Assign [.Tuple [.Name x px, .Name y py] kt pt] (.Tuple [a, b] k2 pt2) pos) [i, j] (fPar [i, j] fa) := PS.conseq (ps_par hc hN hi hj hij hx hy ha.pa hw hs) fun D σ H h => by
  obtain ⟨F, st, R, g0⟩ := par_go h
  refine ⟨F, st, R, g0.imp fun its F1 H1 s1 p1 g1 vs r => ?_⟩
  obtain ⟨g2, l2⟩ := g1 vs r
  have lv := r.length
  match vs, lv with
  | [v, w], _ => exact ⟨v, w, rfl, g2⟩
  | [], lv => rw [l2] at lv; cases lv
  | [_], lv => rw [l2] at lv; cases lv
  | _ :: _ :: _ :: _, lv => rw [l2] at lv; simp at lv
theorem ds_par3 (hc : X.calm = true) (hN : X.N.Nodup) (hi : X.N[i]? = some x) (hj : X.N[j]? = some y) (hl : X.N[l]? = some z) (hij : i ≠ j) (hil : i ≠ l) (hjl : j ≠ l) (hx : X.env.scope.names.lookup x = some .local) (hy : X.env.scope.names.lookup y = some .local) (hz : X.env.scope.names.lookup z = some .local)
    (ha : DA X W [a, b, c] fa) (hw : swappedStores [.Tuple [.Name x px, .Name y py, .Name z pz] kt pt] (.Tuple [a, b, c] k2 pt2) X.env = pure (some [x, y, z])) (hs : swapsWithSole [.Tuple [.Name x px, .Name y py, .Name z pz] kt pt] (.Tuple [a, b, c] k2 pt2) pos.line X.env = pure false := by rfl) :
    DS X W (.Assign [.Tuple [.Name x px, .Name y py, .Name z pz] kt pt] (.Tuple [a, b, c] k2 pt2) pos) [i, j, l] (fPar [i, j, l] fa) := PS.conseq (ps_par3 hc hN hi hj hl hij hil hjl hx hy hz ha.pa hw hs) fun D σ H h => by
  obtain ⟨F, st, R, g0⟩ := par_go h
  refine ⟨F, st, R, g0.imp fun its F1 H1 s1 p1 g1 vs r => ?_⟩
  obtain ⟨g2, l2⟩ := g1 vs r
  have lv := r.length
  match vs, lv with
  | [v, w, u], _ => exact ⟨v, w, u, rfl, g2⟩
  | [], lv => rw [l2] at lv; cases lv
  | [_], lv => rw [l2] at lv; cases lv
  | [_, _], lv => rw [l2] at lv; cases lv
  | _ :: _ :: _ :: _ :: _, lv => rw [l2] at lv; simp at lv
end

abbrev FTg := Itm → FS
def nxE (Q : L2.St → Hp → Prop) : Ends := { nx := Q, rt := fun _ _ => False }
def tTg (K : PySem.W.Frag) (W : WX) (asg : List Nat) (h : FTg) : TG := fun v σ H Q => ∃ asg0 σ0 F0 H0 st0 F st it, Stp K σ0 F0 H0 st0 σ F H st ∧ Keeps asg0 σ0 σ ∧ RI K H0 F H σ st v it ∧ GoS K W (asg0 ++ asg) σ0 F0 H0 st0 (h it st) (nxE Q)
abbrev DG (X : Cx) (W : WX) (tg : Expr) (asg : List Nat) (h : FTg) : Prop := PG X tg (tTg X.K W asg h)
def tTgs (K : PySem.W.Frag) (W : WX) (asg : List Nat) (h : List D → FS) : TGs := fun vs σ H Q => ∃ F st ds, Rl K F H σ st ∧ RDs K F vs ds ∧ GoS K W asg σ F H st (h ds st) (nxE Q)
abbrev DGs (X : Cx) (W : WX) (tgs : List Expr) (asg : List Nat) (h : List D → FS) : Prop := PGs X tgs (tTgs X.K W asg h)
def tTgW (K : PySem.W.Frag) (W : WX) (asg : List Nat) (h : FTg) : TG := fun v σ H Q => ∃ F st a xs ds, Rl K F H σ st ∧ v = .ref a ∧ SqT K H a xs ∧ RDs K F xs ds ∧ GoS K W asg σ F H st (h (.d (.tup ds)) st) (nxE Q)
abbrev DGW (X : Cx) (W : WX) (tg : Expr) (asg : List Nat) (h : FTg) : Prop := PG X tg (tTgW X.K W asg h)
theorem PG.conseq {X : Cx} {e : Expr} {t t' : TG} (h : PG X e t) (i : ∀ v σ H Q, t' v σ H Q → t v σ H Q) : PG X e t' := ⟨fun pins s σ H v u Q I r q => h.run pins s σ H v u Q I r (i v σ H Q q)⟩
theorem PGs.conseq {X : Cx} {e : List Expr} {t t' : TGs} (h : PGs X e t) (i : ∀ v σ H Q, t' v σ H Q → t v σ H Q) : PGs X e t' := ⟨fun pins s σ H v u Q I r q => h.run pins s σ H v u Q I r (i v σ H Q q)⟩
def hNil : List D → FS
  | [] => fun st => .nx st
  | _ => fun _ => .bad
def hCons (h : FTg) (hs : List D → FS) : List D → FS
  | d :: ds => fun st => (h (.d d) st).bindS (hs ds)
  | [] => fun _ => .bad
def hTup (n : Nat) (hs : List D → FS) : FTg := fun it st => match view st it with
  | some (.tup ds) => if ds.length = n then hs ds st else .bad
  | some (.lst ds) => if ds.length = n then hs ds st else .bad
  | _ => .bad
section
variable {X : Cx} {W : WX} {pos : Pos} {asg a1 a2 : List Nat} {h : FTg} {hs : List D → FS} {e : Expr} {es : List Expr}
theorem dg_name (i : Nat) {x : Str} (hN : X.N.Nodup) (hi : X.N[i]? = some x) (hx : Loc X.env.scope x) (hf : X.fn x = true ∨ X.env.scope.names.lookup x = some .local := by first | exact .inl rfl | exact .inr rfl | assumption) : DG X W (.Name x pos) [i] (setSl i) :=
  PG.conseq (pg_name hN hi hx hf) fun v σ H Q q => by
  obtain ⟨asg0, σ0, F0, H0, st0, F, st, it, s, k, r, g⟩ := q
  show Q (σ.set i (some v)) H
  rcases setSl_nx i it st with ⟨st', e⟩ | e
  · rw [e] at g
    obtain ⟨F', s', _⟩ := setSl_ok s r e
    exact g _ F' H s' (k.trans (Keeps.set σ i (some v)) (fun _ z => List.mem_append_left _ z) fun _ z => List.mem_append_right _ z)
  · rw [e] at g
    exact g.elim
theorem dgs_nil : DGs X W [] [] hNil := PGs.conseq pgs_nil fun vs σ H Q q => by
  obtain ⟨F, st, ds, R, rd, g⟩ := q
  match vs, ds, rd with
  | [], [], _ => exact ⟨rfl, g σ F H (Stp.refl R) (Keeps.refl _ _)⟩
  | _ :: _, _ :: _, _ => exact g.elim
theorem dgs_cons (h1 : DG X W e a1 h) (h2 : DGs X W es a2 hs) (he : (assignEach (e :: es) X.env).map (·.2) = assign e X.env :: (assignEach es X.env).map (·.2) := by rfl) : DGs X W (e :: es) (a1 ++ a2) (hCons h hs) := PGs.conseq (pgs_cons h1 h2 he) fun vs σ H Q q => by
  obtain ⟨F, st, ds, R, rd, g⟩ := q
  match vs, ds, rd with
  | [], [], _ => exact g.elim
  | v :: vs, d :: ds, rd =>
    refine ⟨v, vs, rfl, [], σ, F, H, st, F, st, .d d, Stp.refl R, Keeps.refl _ _, rd.1, ?_⟩
    have z := GoS.seq (asg' := a1) g (fun i hi => List.mem_append_left _ hi)
    refine z.ends (E' := nxE fun σ' H' => tTgs X.K W a2 hs vs σ' H' Q) (fun st' σ' F' H' e s k hq => ?_) (fun _ _ z => z) (fun _ _ _ _ _ _ _ z => z) fun _ _ _ _ _ _ _ z => z
    have g2 : GoS X.K W (a1 ++ a2) σ F H st (hs ds st') (nxE Q) := by
      have g : GoS X.K W (a1 ++ a2) σ F H st ((h (.d d) st).bindS (hs ds)) (nxE Q) := g
      rw [e] at g
      exact g
    exact ⟨F', st', ds, s.rel, RDs.mono s.fr _ _ rd.2, (g2.shift s k fun i hi => List.mem_append_left _ hi).less fun i hi => List.mem_append_right _ hi⟩
theorem dg_tup {k : Nat} (hc : X.calm = true) (hh : DGs X W es asg hs) (hst : (assignEach es X.env).findIdx? (·.1) = none := by rfl) (hn : (assignEach es X.env).length = es.length := by rfl) : DG X W (.Tuple es k pos) asg (hTup es.length hs) := by
  refine ⟨fun pins s σ H v u Q I r q => ?_⟩
  obtain ⟨asg0, σ0, F0, H0, st0, F, st, it, s', kk, ri, g⟩ := q
  unfold hTup at g
  split at g
  · rename_i ds e
    split at g
    · rename_i hl
      obtain ⟨a, xs, e1, h1, r1⟩ := rw_tup (view_ok s'.rel ri e)
      exact (pg_tup hc hh hn hst).run pins s σ H v u Q I r ⟨a, xs, e1, (h1.mono s'.rel.sub).sq, r1.length.trans hl, F, st, ds, s'.rel, r1, (g.shift s' kk fun i hi => List.mem_append_left _ hi).less fun i hi => List.mem_append_right _ hi⟩
    · exact g.elim
  · rename_i ds e
    split at g
    · rename_i hl
      obtain ⟨a, xs, e1, h1, r1⟩ := rw_lst s'.rel.sub (view_ok s'.rel ri e)
      exact (pg_unl hc hh hn hst).run pins s σ H v u Q I r ⟨a, xs, e1, SqL.of h1, r1.length.trans hl, F, st, ds, s'.rel, r1, (g.shift s' kk fun i hi => List.mem_append_left _ hi).less fun i hi => List.mem_append_right _ hi⟩
    · exact g.elim
  · exact g.elim
theorem dg_tupW {k : Nat} (hc : X.calm = true) (hh : DGs X W es asg hs) (hst : (assignEach es X.env).findIdx? (·.1) = none := by rfl) (hn : (assignEach es X.env).length = es.length := by rfl) : DGW X W (.Tuple es k pos) asg (hTup es.length hs) :=
  PG.conseq (pg_tup hc hh hn hst) fun v σ H Q q => by
  obtain ⟨F, st, a, xs, ds, R, e1, sq, r1, g⟩ := q
  have g : GoS X.K W asg σ F H st (if ds.length = es.length then hs ds st else .bad) (nxE Q) := g
  split at g
  · rename_i hl
    exact ⟨a, xs, e1, sq, r1.length.trans hl, F, st, ds, R, r1, g⟩
  · exact g.elim
def fAsgT (fe : FE) (h : FTg) : FS := fun st => (fe st).bindS fun it s1 => h it s1
theorem ds_asg {fe : FE} {tg : Expr} (he : DE X W e fe) (hg : DG X W tg asg h) (hnx : ∀ it st, (∃ st', h it st = .nx st') ∨ (∃ x st', h it st = .exc x st') ∨ h it st = .bad) (hs : swapsWithSole [tg] e pos.line X.env = pure false := by rfl) (hw : swappedStores [tg] e X.env = pure none := by rfl) (h1 : (assignEach [tg] X.env).map (·.2) = [assign tg X.env] := by rfl) :
    DS X W (.Assign [tg] e pos) asg (fAsgT fe h) := PS.conseq (ps_asg he hg hs hw h1) fun D σ H q => by
  obtain ⟨F, st, R, g⟩ := q
  refine ⟨F, st, R, (GoS.ofBind g).imp fun it F1 H1 s1 p1 g1 v r => ⟨[], σ, F, H, st, F1, s1, it, p1, Keeps.refl _ _, r, ?_⟩⟩
  rcases hnx it s1 with ⟨st', e⟩ | ⟨x, st', e⟩ | e
  · rw [e] at g1 ⊢
    exact g1
  · rw [e] at g1 ⊢
    exact g1
  · rw [e] at g1
    exact g1.elim
end

section
variable {K : PySem.W.Frag} {W : WX} {σ0 σ : L2.St} {F0 H0 F H : Hp} {st0 st : Sls} {p : Addr} {j : Nat} {m m' : MO} {o : HO}
theorem Stp.mut (s : Stp K σ0 F0 H0 st0 σ F H st) (e : st[j]? = some (.own m)) (hσ : σ[j]? = some (some (.ref p))) (rm : RM K F (upd H p o) p m') : Stp K σ0 F0 H0 st0 σ F (upd H p o) (st.set j (.own m')) := by
  have oj : OwnAt σ st p j := ⟨⟨m, e⟩, hσ⟩
  have fp := (s.rel.own_free ⟨j, oj⟩).1
  have hj : j < st.length := (List.getElem?_eq_some_iff.mp e).1
  have lo : ∀ {a : Addr} {i : Nat}, OwnAt σ (st.set j (.own m')) a i → OwnAt σ st a i := fun {a i} ⟨⟨m2, h1⟩, h2⟩ => by
    by_cases z : j = i
    · subst z
      exact ⟨⟨m, e⟩, h2⟩
    · rw [List.getElem?_set_ne z] at h1
      exact ⟨⟨m2, h1⟩, h2⟩
  refine ⟨s.fr, ⟨fun a u h => ?_, by rw [List.length_set]; exact s.rel.len, fun i sl h => ?_, fun a i k h1 h2 => s.rel.apart a i k (lo h1) (lo h2)⟩, s.new, fun a u h1 h2 h3 => ?_, fun a h => ?_, fun a ⟨i, h⟩ => s.own a ⟨i, lo h⟩⟩
  · rw [upd_ne (ne_of_none h fp)]
    exact s.rel.sub a u h
  · by_cases z : j = i
    · subst z
      rw [List.getElem?_set_self hj] at h
      cases h
      exact ⟨_, hσ, p, rfl, fp, rm⟩
    · rw [List.getElem?_set_ne z] at h
      obtain ⟨ov, h1, h2⟩ := s.rel.at_ i sl h
      refine ⟨ov, h1, ?_⟩
      cases sl with
      | un => trivial
      | cls c => exact h2
      | exc q u => exact h2
      | d x => exact h2
      | own m2 =>
        obtain ⟨a, e1, f, r⟩ := h2
        have z2 : a ≠ p := fun q => z (s.rel.apart p j i oj ⟨⟨m2, h⟩, by rw [h1, e1, q]⟩)
        exact ⟨a, e1, f, r.mono (Same.refl F) (upd_ne z2)⟩
  · have z : a ≠ p := fun q => by
      subst q
      rcases s.own a ⟨j, oj⟩ with y | y
      · exact h3 y
      · rw [h1] at y; cases y
    rw [upd_ne z]
    exact s.keep a u h1 h2 h3
  · by_cases z : a = p
    · subst z
      rw [upd_same]
      simp
    · rw [upd_ne z]
      exact s.there a h
end
def subRs (x : D) (io ii : Itm) (s2 : Sls) : OtS := match io with
  | .ref j => (match view s2 ii with
    | some (.int k) => (match s2[j]? with
      | some (.own (.lst ds)) => (match ixN ds.length k with
        | some n => .nx (s2.set j (.own (.lst (ds.set n x))))
        | none => .bad)
      | _ => .bad)
    | _ => .bad)
  | _ => .bad
def hSub (fo fi : FE) : FTg := fun it st => match frz it st with
  | some (x, s0) => (fo s0).bindS fun io s1 => (fi s1).bindS fun ii s2 => subRs x io ii s2
  | none => .bad
section
variable {X : Cx} {W : WX} {pos : Pos} {o i : Expr} {fo fi : FE}
theorem sub_go {K : PySem.W.Frag} {asg0 : List Nat} {σ0 σ : L2.St} {F0 H0 F H : Hp} {st0 st : Sls} {ov iv v : V} {io ii : Itm} {x : D} {Q : L2.St → Hp → Prop} (s : Stp K σ0 F0 H0 st0 σ F H st) (k : Keeps asg0 σ0 σ) (ro : RI K H F H σ st ov io) (ri : RI K H F H σ st iv ii) (rd : RD K F v x)
    (g : GoS K W asg0 σ0 F0 H0 st0 (subRs x io ii st) (nxE Q)) : rSetL ov iv v H (fun H3 => Q σ H3) := by
  unfold subRs at g
  split at g
  · rename_i j
    split at g
    · rename_i kk e1
      split at g
      · rename_i ds e3
        split at g
        · rename_i n e4
          have ro : σ[j]? = some (some ov) := ro
          obtain ⟨ov', h1, h2⟩ := s.rel.at_ j _ e3
          rw [ro] at h1
          cases h1
          obtain ⟨p, e5, fp, xs, hp, rds⟩ := h2
          cases e5
          have e6 := rw_int (view_ok s.rel ri e1)
          refine ⟨p, xs, kk, n, rfl, e6, hp, by rw [rds.length]; exact e4, ?_⟩
          exact g σ F _ (s.mut e3 ro ⟨_, upd_same, rds.set n rd⟩) k
        · exact g.elim
      · exact g.elim
    · exact g.elim
  · exact g.elim
theorem RI.upto {K : PySem.W.Frag} {H0 F H : Hp} {σ : L2.St} {st : Sls} {v : V} {it : Itm} (r : RI K H0 F H σ st v it) : (∀ m, it ≠ .own m) → RI K H F H σ st v it := fun h => by
  cases it with
  | d x => exact r
  | own m => exact absurd rfl (h m)
  | ref i => exact r
theorem dg_sub (ho : DE X W o fo) (hi : DE X W i fi)
    (ha : ∀ v, assign (.Subscript o i pos) X.env v = (do
      let ov ← holding [v] (eval o X.env)
      let iv ← holding [v, ov] (eval i X.env)
      standAt pos
      holding [v, ov, iv] (setItem ov iv v)
      release [v, ov, iv] []) := by intro _; rfl) : DG X W (.Subscript o i pos) [] (hSub fo fi) := PG.conseq (pg_sub ho hi set_list ha) fun v σ H Q q => by
  obtain ⟨asg0, σ0, F0, H0, st0, F, st, it, s, k, r, g⟩ := q
  unfold hSub at g
  split at g
  · rename_i x s0 e0
    obtain ⟨F', s', rd, sm, _, _⟩ := frz_ok s r e0
    have g1 := GoS.ofBind (g.shift s' k fun i hi => List.mem_append_left _ hi)
    refine ⟨F', s0, s'.rel, g1.imp fun io F1 H1 s1 p1 g2 ov ro => ?_⟩
    refine ⟨F1, s1, p1.rel, ((GoS.ofBind g2).shift p1 fun ii F2 H2 s2 p2 p02 g3 => g3).imp fun ii F2 H2 s2 p2 g3 iv rii => ?_⟩
    have p12 := p1.trans p2
    cases io with
    | ref j =>
      have ro : σ[j]? = some (some ov) := ro
      have go : GoS X.K W (asg0 ++ []) σ F' H s0 (subRs x (.ref j) ii s2) (nxE Q) := g3
      cases ii with
      | own m =>
        exfalso
        unfold subRs at go
        dsimp only at go
        split at go
        · rename_i kk e1
          have e1 : some m.toD = some (.int kk) := e1
          cases m <;> cases e1
        · exact go.elim
      | d y => exact sub_go (io := .ref j) p12 (Keeps.refl _ _) ro (show RI X.K H2 F2 H2 σ s2 iv (.d y) from rii) (RD.mono p12.fr _ _ rd) go
      | ref l => exact sub_go (io := .ref j) p12 (Keeps.refl _ _) ro (show RI X.K H2 F2 H2 σ s2 iv (.ref l) from rii) (RD.mono p12.fr _ _ rd) go
    | d y => exact g3.elim
    | own m => exact g3.elim
  · exact g.elim
end
end DL
set_option maxRecDepth 100000
set_option maxHeartbeats 4000000
namespace DL
open PySem PySem.Spec PyProof.Rows L2
structure Wk where
  n : Nat
  at_ : Nat → Sls → Option D
  fin : Sls → Bool
def seqW (ds : List D) : Wk := ⟨ds.length, fun k _ => ds[k]?, fun _ => true⟩
def ownW (i n : Nat) : Wk := ⟨n, fun k st => match st[i]? with
  | some (.own (.lst ds)) => if ds.length = n then ds[k]? else none
  | some (.d (.lst ds)) => if ds.length = n then ds[k]? else none
  | _ => none, fun st => match st[i]? with
  | some (.own (.lst ds)) => decide (ds.length = n)
  | some (.d (.lst ds)) => decide (ds.length = n)
  | _ => false⟩
def rngW (lo : Int) (n : Nat) : Wk := ⟨n, fun k _ => some (.int (lo + (k : Nat))), fun _ => true⟩
def enumW (ds : List D) : Wk := ⟨ds.length, fun k _ => ds[k]?.map fun d => .tup [.int (k : Nat), d], fun _ => true⟩
def Yd (K : PySem.W.Frag) (F' H' : Hp) (x : V) (H'' : Hp) (d : D) : Bool → Prop
  | false => H'' = H' ∧ RD K F' x d
  | true => ∃ T xs ds, x = .ref T ∧ d = .tup ds ∧ H' T = none ∧ H'' = upd H' T (.tup xs) ∧ RDs K F' xs ds
structure WSt (K : PySem.W.Frag) (F0 : Hp) (σ' : L2.St) (F' H' : Hp) (st' : Sls) : Prop where
  fr : Same F0 F'
  rel : Rl K F' H' σ' st'
def WkOk (K : PySem.W.Frag) (J : It) (w : Wk) (weak : Bool) (σ0 : L2.St) (F0 H0 : Hp) (st0 : Sls) (asg : List Nat) : Prop :=
  ∀ σ' F' H' st', WSt K F0 σ' F' H' st' → Keeps asg σ0 σ' → (w.fin st' = true → J.stop w.n H') ∧
    ∀ k d, k < w.n → w.at_ k st' = some d → J.go k H' ∧ ∀ x H'', J.yld k H' x H'' → Yd K F' H' x H'' d weak
def tWk (K : PySem.W.Frag) (W : WX) (weak : Bool) (asg : List Nat) (fw : Sls → Ot Wk) : TI := fun σ H R => ∃ F st, Rl K F H σ st ∧ Go K W σ F H st (fw st) (fun w F1 H1 s1 => ∀ J, WkOk K J w weak σ F1 H1 s1 asg → R J H1)
abbrev DI (X : Cx) (W : WX) (weak : Bool) (tg e : Expr) (asg : List Nat) (fw : Sls → Ot Wk) : Prop := PI X tg e (tWk X.K W weak asg fw)
theorem PI.conseq {X : Cx} {tg e : Expr} {t t' : TI} (h : PI X tg e t) (i : ∀ σ H R, t' σ H R → t σ H R) : PI X tg e t' := ⟨fun pins s σ H R I q => h.run pins s σ H R I (i σ H R q)⟩
def tTgk (K : PySem.W.Frag) (W : WX) (asg : List Nat) (h : FTg) : Bool → TG
  | false => tTg K W asg h
  | true => tTgW K W asg h
abbrev DGk (X : Cx) (W : WX) (weak : Bool) (tg : Expr) (asg : List Nat) (h : FTg) : Prop := PG X tg (tTgk X.K W asg h weak)
theorem tgk_ok {K : PySem.W.Frag} {W : WX} {asg : List Nat} {h : FTg} {weak : Bool} {σ' : L2.St} {F' H' H'' : Hp} {st' : Sls} {x : V} {d : D} {Q : L2.St → Hp → Prop} (R : Rl K F' H' σ' st') (y : Yd K F' H' x H'' d weak) (g : GoS K W asg σ' F' H' st' (h (.d d) st') (nxE Q)) : tTgk K W asg h weak x σ' H'' Q := by
  cases weak with
  | false =>
    obtain ⟨e, rd⟩ := y
    subst e
    exact ⟨[], σ', F', H'', st', F', st', .d d, Stp.refl R, Keeps.refl _ _, rd, g⟩
  | true =>
    obtain ⟨T, xs, ds, e1, e2, hT, e3, rds⟩ := y
    subst e1 e2 e3
    have s : Stp K σ' F' H' st' σ' F' (upd H' T (.tup xs)) st' := Stp.alloc R hT fun a ha => upd_ne ha
    exact ⟨F', st', T, xs, ds, s.rel, rfl, .inl (.inl upd_same), rds, g.shift s (Keeps.refl [] σ') (fun i z => by simp at z)⟩

def goOn (f : FS) : OtS → OtS
  | .nx s => f s
  | .ct s => f s
  | .bk s => .nx s
  | o => o
def loopF (w : Wk) (h : FTg) (body : FS) : Nat → Nat → FS
  | 0, _ => fun st => if w.fin st then .nx st else .bad
  | m + 1, k => fun st => match w.at_ k st with
    | some d => goOn (loopF w h body m (k + 1)) ((h (.d d) st).bindS body)
    | none => .bad
def fFor (fw : Sls → Ot Wk) (h : FTg) (body : FS) : FS := fun st => (fw st).bindS fun w s1 => loopF w h body w.n 0 s1
def TgNx (h : FTg) : Prop := ∀ it st, (∃ st', h it st = .nx st') ∨ (∃ x st', h it st = .exc x st') ∨ h it st = .bad
section
variable {X : Cx} {W : WX} {weak : Bool} {tg iter : Expr} {body : List Stmt} {a1 a2 asg : List Nat} {h : FTg} {fb : FS} {fw : Sls → Ot Wk} {pos : Pos}
theorem ds_for (hp : PassesOwn (model X.prog X.w) X.A X.env X.xe) (hc : X.calm = true) (hi : DI X W weak tg iter (a1 ++ a2) fw) (hg : DGk X W weak tg a1 h) (hnx : TgNx h) (hb : DSs X W body a2 fb) (hs : ∀ x, foldedSetIterable iter X.env x = pure x := by intro _; rfl) :
    DS X W (.For tg iter body [] pos) (a1 ++ a2) (fFor fw h fb) := PS.conseq (ps_for hp hc hi hg hb hs) fun D σ H q => by
  obtain ⟨F, st, R, q⟩ := q
  refine ⟨F, st, R, (GoS.ofBind q).imp fun w F1 H1 s1 p1 g1 J hw => ?_⟩
  refine ⟨fun i m σ' H' => m = w.n - i ∧ i ≤ w.n ∧ ∃ F' st', Stp X.K σ F1 H1 s1 σ' F' H' st' ∧ Keeps (a1 ++ a2) σ σ' ∧ GoS X.K W (a1 ++ a2) σ F1 H1 s1 (loopF w h fb (w.n - i) i st') D, ⟨w.n, rfl, Nat.zero_le _, F1, s1, Stp.refl p1.rel, Keeps.refl _ _, g1.shift p1 (Keeps.refl [] σ) (fun i z => by simp at z)⟩, ?_⟩
  rintro i m σ' H' ⟨rfl, hle, F', st', s', k', g⟩
  obtain ⟨ws, wg⟩ := hw σ' F' H' st' ⟨s'.fr, s'.rel⟩ k'
  by_cases hlt : i < w.n
  · have e1 : w.n - i = (w.n - (i + 1)) + 1 := by omega
    rw [e1] at g
    have g : GoS X.K W (a1 ++ a2) σ F1 H1 s1 (match w.at_ i st' with | some d => goOn (loopF w h fb (w.n - (i + 1)) (i + 1)) ((h (.d d) st').bindS fb) | none => .bad) D := g
    split at g
    · rename_i d ed
      obtain ⟨hgo, hy⟩ := wg i d hlt ed
      refine .inr ⟨hgo, fun σ2 H2 => (w.n - (i + 1)) = w.n - (i + 1) ∧ i + 1 ≤ w.n ∧ ∃ F' st', Stp X.K σ F1 H1 s1 σ2 F' H2 st' ∧ Keeps (a1 ++ a2) σ σ2 ∧ GoS X.K W (a1 ++ a2) σ F1 H1 s1 (loopF w h fb (w.n - (i + 1)) (i + 1) st') D, fun σ2 H2 z => ⟨w.n - (i + 1), by omega, z⟩, fun x H'' y => tgk_ok s'.rel (hy x H'' y) ?_⟩
      rcases hnx (.d d) st' with ⟨st1, eh⟩ | ⟨ex, st1, eh⟩ | eh
      · rw [eh] at g ⊢
        intro σ2 F2 H2 s2 k2
        have s02 := s'.trans s2
        have k02 : Keeps (a1 ++ a2) σ σ2 := k'.trans k2 (fun _ z => z) fun _ z => List.mem_append_left _ z
        refine ⟨F2, st1, s2.rel, ?_⟩
        have g : GoS X.K W (a1 ++ a2) σ F1 H1 s1 (goOn (loopF w h fb (w.n - (i + 1)) (i + 1)) (fb st1)) D := g
        have kk : ∀ {σ3 : L2.St}, Keeps a2 σ2 σ3 → Keeps (a1 ++ a2) σ σ3 := fun q => k02.trans q (fun _ z => z) fun _ z => List.mem_append_right _ z
        cases eb : fb st1 with
        | nx s => exact fun σ3 F3 H3 s3 k3 => ⟨rfl, hlt, F3, s, s02.trans s3, kk k3, by rw [eb] at g; exact g⟩
        | ct s => exact fun σ3 F3 H3 s3 k3 => ⟨rfl, hlt, F3, s, s02.trans s3, kk k3, by rw [eb] at g; exact g⟩
        | bk s =>
          rw [eb] at g
          exact fun σ3 F3 H3 s3 k3 => g σ3 F3 H3 (s02.trans s3) (kk k3)
        | rt it s =>
          rw [eb] at g
          exact fun σ3 F3 H3 v s3 k3 r => g σ3 F3 H3 v (s02.trans s3) (kk k3) (r.back s02.there)
        | exc e s =>
          rw [eb] at g
          exact fun dd σ3 F3 H3 s3 k3 => g dd σ3 F3 H3 (s02.trans s3) (kk k3)
        | bad => rw [eb] at g; exact g.elim
      · rw [eh] at g ⊢
        intro dd σ2 F2 H2 s2 k2
        exact g dd σ2 F2 H2 (s'.trans s2) (k'.trans k2 (fun _ z => z) fun _ z => List.mem_append_left _ z)
      · rw [eh] at g
        exact g.elim
    · exact g.elim
  · have e1 : i = w.n := by omega
    subst e1
    rw [Nat.sub_self] at g
    have g : GoS X.K W (a1 ++ a2) σ F1 H1 s1 (if w.fin st' then .nx st' else .bad) D := g
    split at g
    · rename_i hf
      exact .inl ⟨ws hf, g σ' F' H' s' k'⟩
    · exact g.elim
end

def fWkSeq (asg : List Nat) (fe : FE) : Sls → Ot Wk := fun st => (fe st).bind fun it s1 => match it with
  | .ref i => (match s1[i]? with
    | some (.own (.lst ds)) => if asg.contains i then .ok (seqW ds) (s1.set i (.d (.lst ds))) else .ok (ownW i ds.length) s1
    | some (.d (.lst ds)) => .ok (seqW ds) s1
    | some (.d (.tup ds)) => .ok (seqW ds) s1
    | _ => .bad)
  | .own (.lst ds) => .ok (seqW ds) s1
  | .d (.lst ds) => .ok (seqW ds) s1
  | .d (.tup ds) => .ok (seqW ds) s1
  | .d (.scr ns) => .ok (seqW (ns.map D.int)) s1
  | .d (.str z) => .ok (seqW (z.cps.toList.map fun c => .str ⟨#[c]⟩)) s1
  | _ => .bad
def iAny (K : PySem.W.Frag) (td : TE) : TI := fun σ H R => td σ H fun x H1 => (∃ a, x = .ref a ∧ (∃ xs, SqL K H1 a xs) ∧ R (Itl K a) H1) ∨ (∃ a, x = .ref a ∧ (∃ xs, SqT K H1 a xs) ∧ R (Itt K a) H1) ∨ ∃ z, x = .str z ∧ R (Its z) H1
theorem pi_any {X : Cx} {tg l : Expr} {tl : TE} (hl : PE X l tl) : PI X tg l (iAny X.K tl) := by
  refine ⟨fun pins s σ H R I h => ?_⟩
  refine thn (hl.run pins s σ H _ I h) fun v s1 ⟨x, H1, I1, r1, q1⟩ => ?_
  rcases q1 with ⟨a, e, ⟨xs, hq⟩, q⟩ | ⟨a, e, ⟨xs, hq⟩, q⟩ | ⟨z, e, q⟩
  · subst e
    cases r1
    obtain ⟨its, rv, p, hz⟩ := I1.list hq
    refine wpAny_pyIter_list p.isList ⟨s1.heap.objs.size, [s1.heap.objs.size], _, _, H1, rfl, I1.kept (t' := s1.toks) fun b o e => Heap.get?_push_of_some _ e, turn_list a _, ⟨_, Heap.get?_push_size _ rfl, rfl, rfl⟩, fun b hb => ?_, q⟩
    have eb : b = s1.heap.objs.size := by simpa using hb
    rw [eb]
    exact I1.fpOk (Nat.le_refl _) (I1.hok.fresh (Nat.le_refl _))
  · subst e
    cases r1
    obtain ⟨its, rv, p, hz⟩ := I1.tuple hq
    refine wpAny_pyIter_tuple (show s1.heap.IsTuple a its.toArray from p) ⟨s1.heap.objs.size, [s1.heap.objs.size], _, _, H1, rfl, I1.kept (t' := s1.toks) fun b o e => Heap.get?_push_of_some _ e, turn_tuple a _, ⟨_, Heap.get?_push_size _ rfl, rfl, rfl⟩, fun b hb => ?_, q⟩
    have eb : b = s1.heap.objs.size := by simpa using hb
    rw [eb]
    exact I1.fpOk (Nat.le_refl _) (I1.hok.fresh (Nat.le_refl _))
  · subst e
    obtain ⟨t, rfl⟩ := r1
    cases ha : z.cps.all (· < 128)
    · exact wpAny_pyIter_wide ha (pi_one (tk := s1.toks) I1 _ (turn_str _ z t "str_iterator" (.inr rfl)) ⟨_, Heap.get?_push_size _ rfl, rfl, rfl⟩ q)
    · exact wpAny_pyIter_ascii ha (pi_one (tk := s1.toks) I1 _ (turn_str _ z t "str_ascii_iterator" (.inl rfl)) ⟨_, Heap.get?_push_size _ rfl, rfl, rfl⟩ q)
section
variable {K : PySem.W.Frag} {σ : L2.St} {F H : Hp} {st : Sls} {a : Addr} {xs : List V} {ds : List D} {asg : List Nat}
theorem wk_seq {J : It} (w : Walk J xs.length (fun H' => Same F H') (YAt xs)) (r : RDs K F xs ds) : WkOk K J (seqW ds) false σ F H st asg := fun σ' F' H' st' s k => by
  have sm : Same F H' := fun a u e => s.rel.sub a u (s.fr a u e)
  refine ⟨fun _ => by show J.stop ds.length H'; rw [← r.length]; exact w.stops H' sm, fun k d hk e => ?_⟩
  have hk' : k < xs.length := by rw [r.length]; exact hk
  refine ⟨w.goes k H' hk' sm, fun x H'' y => ?_⟩
  obtain ⟨e1, e2⟩ := w.yields k H' x H'' hk' sm y
  obtain ⟨d', e3, rd⟩ := r.getV e2
  have e : ds[k]? = some d := e
  rw [e] at e3
  cases e3
  exact ⟨e1, RD.mono s.fr d x rd⟩
theorem wk_lst (h : F a = some (.lst xs)) (r : RDs K F xs ds) : WkOk K (Itl K a) (seqW ds) false σ F H st asg :=
  wk_seq (walk_list.mono (G' := fun H' => Same F H') (fun H' sm => SqL.of (sm a _ h)) fun _ _ _ _ _ _ y => y) r
theorem wk_tup (h : SqX K F a xs) (r : RDs K F xs ds) : WkOk K (Itt K a) (seqW ds) false σ F H st asg :=
  wk_seq (walk_tup.mono (G' := fun H' => Same F H') (fun H' sm => (h.mono sm).sq) fun _ _ _ _ _ _ y => y) r
theorem wk_scr {ns : List Int} (h : SqL K F a (ns.map V.int)) : WkOk K (Itl K a) (seqW (ns.map D.int)) false σ F H st asg := by
  have rn : ∀ ns : List Int, RDs K F (ns.map V.int) (ns.map D.int) := fun ns => by
    induction ns with
    | nil => trivial
    | cons n ns ih => exact ⟨rfl, ih⟩
  exact wk_seq (walk_list.mono (G' := fun H' => Same F H') (fun H' sm => sm.seq h) fun _ _ _ _ _ _ y => y) (rn ns)
theorem wk_str {z : Str} : WkOk K (Its z) (seqW (z.cps.toList.map fun c => .str ⟨#[c]⟩)) false σ F H st asg := by
  have rn : ∀ cs : List Nat, RDs K F (cs.map fun c => V.str ⟨#[c]⟩) (cs.map fun c => D.str ⟨#[c]⟩) := fun cs => by
    induction cs with
    | nil => trivial
    | cons n ns ih => exact ⟨rfl, ih⟩
  have w := walk_str (z := z)
  have w2 : Walk (Its z) (z.cps.toList.map fun c => V.str ⟨#[c]⟩).length (fun H' => Same F H') (YAt (z.cps.toList.map fun c => V.str ⟨#[c]⟩)) := by
    rw [List.length_map, Array.length_toList]
    refine w.mono (fun _ _ => trivial) fun i H' x H'' _ _ y => ?_
    obtain ⟨e, c, e1, e2⟩ := y
    refine ⟨e, ?_⟩
    rw [List.getElem?_map, Array.getElem?_toList, e1, e2]
    rfl
  exact wk_seq w2 (rn z.cps.toList)
theorem wk_own {i : Nat} (hσ : σ[i]? = some (some (.ref a))) (hi : i ∉ asg) {n : Nat} : WkOk K (Itl K a) (ownW i n) false σ F H st asg := fun σ' F' H' st' s k => by
  have hσ' : σ'[i]? = some (some (.ref a)) := (k i hi).trans hσ
  have get : ∀ {ds : List D}, (st'[i]? = some (.own (.lst ds)) ∨ st'[i]? = some (.d (.lst ds))) → ∃ xs, H' a = some (.lst xs) ∧ RDs K F' xs ds := fun {ds} e => by
    rcases e with e | e
    · obtain ⟨ov, h1, p, e1, _, xs, hx, r⟩ := s.rel.at_ i _ e
      rw [hσ'] at h1
      cases h1
      cases e1
      exact ⟨xs, hx, r⟩
    · obtain ⟨ov, h1, v, e1, b, xs, e2, hx, r⟩ := s.rel.at_ i _ e
      rw [hσ'] at h1
      cases h1
      cases e1
      cases e2
      exact ⟨xs, s.rel.sub _ _ hx, r⟩
  have fin : ∀ {ds : List D}, (st'[i]? = some (.own (.lst ds)) ∨ st'[i]? = some (.d (.lst ds))) → ds.length = n → (Itl K a).stop n H' := fun {ds} e l => by
    obtain ⟨xs, hx, r⟩ := get e
    have w := walk_list (K := K) (a := a) (xs := xs)
    rw [← l, ← r.length]
    exact w.stops H' (SqL.of hx)
  have item : ∀ {ds : List D} {j : Nat} {d : D}, (st'[i]? = some (.own (.lst ds)) ∨ st'[i]? = some (.d (.lst ds))) → ds[j]? = some d → (Itl K a).go j H' ∧ ∀ x H'', (Itl K a).yld j H' x H'' → Yd K F' H' x H'' d false := fun {ds j d} e ed => by
    obtain ⟨xs, hx, r⟩ := get e
    have w := walk_list (K := K) (a := a) (xs := xs)
    have hj : j < xs.length := by rw [r.length]; exact (List.getElem?_eq_some_iff.mp ed).1
    refine ⟨w.goes j H' hj (SqL.of hx), fun x H'' y => ?_⟩
    obtain ⟨e1, e2⟩ := w.yields j H' x H'' hj (SqL.of hx) y
    obtain ⟨d', e3, rd⟩ := r.getV e2
    rw [ed] at e3
    cases e3
    exact ⟨e1, rd⟩
  refine ⟨fun hf => ?_, fun j d _ e => ?_⟩
  · have hf : (match st'[i]? with | some (.own (.lst ds)) => decide (ds.length = n) | some (.d (.lst ds)) => decide (ds.length = n) | _ => false) = true := hf
    split at hf
    · rename_i ds e1
      exact fin (.inl e1) (of_decide_eq_true hf)
    · rename_i ds e1
      exact fin (.inr e1) (of_decide_eq_true hf)
    · cases hf
  · have e : (match st'[i]? with | some (.own (.lst ds)) => if ds.length = n then ds[j]? else none | some (.d (.lst ds)) => if ds.length = n then ds[j]? else none | _ => none) = some d := e
    split at e
    · rename_i ds e1
      split at e
      · exact item (.inl e1) e
      · cases e
    · rename_i ds e1
      split at e
      · exact item (.inr e1) e
      · cases e
    · cases e
theorem wk_rng {lo : Int} {n : Nat} : WkOk K (Itr lo n) (rngW lo n) false σ F H st asg := fun σ' F' H' st' s k => by
  have w := walk_range (lo := lo) (n := n)
  refine ⟨fun _ => w.stops H' trivial, fun j d hj e => ⟨w.goes j H' hj trivial, fun x H'' y => ?_⟩⟩
  obtain ⟨e1, e2⟩ := w.yields j H' x H'' hj trivial y
  cases e
  exact ⟨e1, e2⟩
end
section
variable {X : Cx} {W : WX} {tg e : Expr} {asg : List Nat} {fe : FE} {fa : FA}
theorem di_seq (he : DE X W e fe) : DI X W false tg e asg (fWkSeq asg fe) := PI.conseq (pi_any he) fun σ H R h => by
  obtain ⟨F, st, R0, g0⟩ := h
  refine ⟨F, st, R0, (Go.bind g0).imp fun it F1 H1 s1 p1 g1 v r => ?_⟩
  have still : ∀ {ds : List D}, RD X.K F1 v (.lst ds) → (∀ J, WkOk X.K J (seqW ds) false σ F1 H1 s1 asg → R J H1) → (∃ a, v = .ref a ∧ (∃ xs, SqL X.K H1 a xs) ∧ R (Itl X.K a) H1) := fun {ds} rd q => by
    obtain ⟨a, xs, e1, h1, r1⟩ := rd
    exact ⟨a, e1, ⟨xs, SqL.of (p1.rel.sub _ _ h1)⟩, q _ (wk_lst h1 r1)⟩
  have stillT : ∀ {ds : List D}, RD X.K F1 v (.tup ds) → (∀ J, WkOk X.K J (seqW ds) false σ F1 H1 s1 asg → R J H1) → (∃ a, v = .ref a ∧ (∃ xs, SqT X.K H1 a xs) ∧ R (Itt X.K a) H1) := fun {ds} rd q => by
    obtain ⟨a, xs, e1, h1, r1⟩ := rd
    exact ⟨a, e1, ⟨xs, (h1.mono p1.rel.sub).sq⟩, q _ (wk_tup h1 r1)⟩
  split at g1
  · rename_i i
    have r : σ[i]? = some (some v) := r
    split at g1
    · rename_i ds e1
      split at g1
      · -- it stands still from here on
        have ef : frz (.ref i) s1 = some (.lst ds, s1.set i (.d (.lst ds))) := by
          show (match s1[i]? with | some (.d x) => some (x, s1) | some (.own m) => some (m.toD, s1.set i (.d m.toD)) | _ => none) = _
          rw [e1]
          rfl
        obtain ⟨F2, p2, rd, sm, _, _⟩ := frz_ok p1 (show RI X.K H F1 H1 σ s1 v (.ref i) from r) ef
        obtain ⟨a, xs, e2, h1, r1⟩ := rd
        exact .inl ⟨a, e2, ⟨xs, SqL.of (p2.rel.sub _ _ h1)⟩, g1 F2 H1 p2 _ (wk_lst h1 r1)⟩
      · rename_i hc
        obtain ⟨ov, h1, p, e2, fp, xs, hx, r1⟩ := p1.rel.at_ i _ e1
        rw [r] at h1
        cases h1
        cases e2
        refine .inl ⟨p, rfl, ⟨xs, SqL.of hx⟩, g1 F1 H1 p1 _ (wk_own r fun z => hc ?_)⟩
        exact List.contains_iff_mem.mpr z
    · rename_i ds e1
      obtain ⟨ov, h1, u, e2, rd⟩ := p1.rel.at_ i _ e1
      rw [r] at h1
      cases h1
      cases e2
      exact .inl (still rd (g1 F1 H1 p1))
    · rename_i ds e1
      obtain ⟨ov, h1, u, e2, rd⟩ := p1.rel.at_ i _ e1
      rw [r] at h1
      cases h1
      cases e2
      exact .inr (.inl (stillT rd (g1 F1 H1 p1)))
    · exact g1.elim
  · rename_i ds
    obtain ⟨F2, p2, rd, sm, _, _⟩ := frz_ok p1 r (show frz (.own (.lst ds)) s1 = some (.lst ds, s1) from rfl)
    obtain ⟨a, xs, e2, h1, r1⟩ := rd
    exact .inl ⟨a, e2, ⟨xs, SqL.of (p2.rel.sub _ _ h1)⟩, g1 F2 H1 p2 _ (wk_lst h1 r1)⟩
  · exact .inl (still r (g1 F1 H1 p1))
  · exact .inr (.inl (stillT r (g1 F1 H1 p1)))
  · obtain ⟨a, e1, h1⟩ := r
    exact .inl ⟨a, e1, ⟨_, p1.rel.sub.seq h1⟩, g1 F1 H1 p1 _ (wk_scr h1)⟩
  · rename_i z
    exact .inr (.inr ⟨z, r, g1 F1 H1 p1 _ wk_str⟩)
  · exact g1.elim
def rngOf : List D → Option (Int × Int)
  | [.int j] => some (0, j)
  | [.int i, .int j] => some (i, j)
  | _ => none
def fWkRng (fa : FA) : Sls → Ot Wk := fun st => (fa st).bind fun its s1 => match views s1 its with
  | some ds => (match rngOf ds with
    | some (i, j) => if -(2 ^ 62) ≤ i ∧ i < 2 ^ 62 ∧ -(2 ^ 62) ≤ j ∧ j < 2 ^ 62 then .ok (rngW i (j - i).toNat) s1 else .bad
    | none => .bad)
  | none => .bad
theorem di_rng1 {p pos : Pos} (hg : Gl X "range") (hm : X.mg "range" = none) (ha : DA X W [e] fa) (hs : starEach [e] X.env = [(false, eval e X.env)] := by rfl) : DI X W false tg (.Call (.Name "range" p) [e] [] pos) asg (fWkRng fa) := PI.conseq (pi_range1 hg hm ha.pa hs) fun σ H R h => by
  obtain ⟨F, st, R0, g0⟩ := h
  refine ⟨F, st, R0, (Go.bind g0).with_eq.imp fun its F1 H1 s1 p1 g1 vs r => ?_⟩
  obtain ⟨e0, g1⟩ := g1
  have hl := ha.len _ _ _ e0
  split at g1
  · rename_i ds e1
    have rw1 := views_ok p1.rel r e1
    split at g1
    · rename_i i j e2
      split at g1
      · rename_i hb
        match ds, vs, rw1, e2 with
        | [.int j'], [v], rw1, e2 =>
          cases e2
          refine ⟨j, by rw [rw_int rw1.1], hb.2.2.1, hb.2.2.2, ?_⟩
          have q := g1 F1 H1 p1 (Itr 0 j.toNat) 
          have ez : (j - 0).toNat = j.toNat := by omega
          rw [ez] at q
          exact q wk_rng
        | [.int i', .int j'], [v, w], rw1, e2 =>
          rw [← r.length] at hl
          simp at hl
      · exact g1.elim
    · exact g1.elim
  · exact g1.elim
theorem di_rng2 {e2 : Expr} {p pos : Pos} (hg : Gl X "range") (hm : X.mg "range" = none) (ha : DA X W [e, e2] fa) (hs : starEach [e, e2] X.env = [(false, eval e X.env), (false, eval e2 X.env)] := by rfl) (hs2 : starEach [e2] X.env = [(false, eval e2 X.env)] := by rfl) : DI X W false tg (.Call (.Name "range" p) [e, e2] [] pos) asg (fWkRng fa) := PI.conseq (pi_range2 hg hm ha.pa hs hs2) fun σ H R h => by
  obtain ⟨F, st, R0, g0⟩ := h
  refine ⟨F, st, R0, (Go.bind g0).with_eq.imp fun its F1 H1 s1 p1 g1 vs r => ?_⟩
  obtain ⟨e0, g1⟩ := g1
  have hl := ha.len _ _ _ e0
  split at g1
  · rename_i ds e1
    have rw1 := views_ok p1.rel r e1
    split at g1
    · rename_i i j e2
      split at g1
      · rename_i hb
        match ds, vs, rw1, e2 with
        | [.int j'], [v], rw1, e2 =>
          rw [← r.length] at hl
          simp at hl
        | [.int i', .int j'], [v, w], rw1, e2 =>
          cases e2
          exact ⟨i, j, by rw [rw_int rw1.1, rw_int rw1.2.1], hb, g1 F1 H1 p1 _ wk_rng⟩
      · exact g1.elim
    · exact g1.elim
  · exact g1.elim
end
end DL
set_option maxRecDepth 100000
set_option maxHeartbeats 4000000
namespace DL
open PySem PySem.Spec PyProof.Rows L2
def unS (st : Sls) : List Nat → Sls
  | [] => st
  | v :: vs => (unS st vs).set v .un
theorem unS_len {st : Sls} : ∀ {vs : List Nat}, (unS st vs).length = st.length
  | [] => rfl
  | v :: vs => by
    show ((unS st vs).set v .un).length = _
    rw [List.length_set]
    exact unS_len
theorem unS_out {st : Sls} {i : Nat} : ∀ {vs : List Nat}, i ∉ vs → (unS st vs)[i]? = st[i]?
  | [], _ => rfl
  | v :: vs, h => by
    show ((unS st vs).set v .un)[i]? = _
    rw [List.getElem?_set_ne (fun z => h (by rw [z]; exact List.mem_cons_self))]
    exact unS_out fun z => h (List.mem_cons_of_mem _ z)
theorem unS_in {st : Sls} {i : Nat} {s : Sl} : ∀ {vs : List Nat}, i ∈ vs → (unS st vs)[i]? = some s → s = .un
  | [], h, _ => by simp at h
  | v :: vs, h, e => by
    have e : ((unS st vs).set v .un)[i]? = some s := e
    by_cases z : v = i
    · subst z
      rw [List.getElem?_set] at e
      split at e
      · split at e
        · cases e
          rfl
        · cases e
      · rename_i z; exact absurd rfl z
    · rw [List.getElem?_set_ne z] at e
      rcases List.mem_cons.mp h with q | q
      · exact absurd q.symm z
      · exact unS_in q e
theorem wipe_in {σ : L2.St} {i : Nat} : ∀ {vs : List Nat}, i ∈ vs → i < σ.length → (wipe σ vs)[i]? = some none
  | [], h, _ => by simp at h
  | v :: vs, h, l => by
    show ((wipe σ vs).set v none)[i]? = _
    by_cases z : v = i
    · subst z
      rw [List.getElem?_set_self (by rw [wipe_length]; exact l)]
    · rw [List.getElem?_set_ne z]
      rcases List.mem_cons.mp h with q | q
      · exact absurd q.symm z
      · exact wipe_in q l
section
variable {K : PySem.W.Frag} {σ0 σ σ2 : L2.St} {F0 H0 F H F2 H2 : Hp} {st0 st s2 : Sls} {vs : List Nat} {p : Addr} {o : HO}
theorem ownAt_unS {i : Nat} (h : OwnAt σ (unS st vs) p i) : i ∉ vs ∧ OwnAt σ st p i := by
  obtain ⟨⟨m, h1⟩, h2⟩ := h
  have hi : i ∉ vs := fun z => by
    have e := unS_in z h1
    cases e
  rw [unS_out hi] at h1
  exact ⟨hi, ⟨m, h1⟩, h2⟩
theorem Stp.unset (s : Stp K σ0 F0 H0 st0 σ F H st) (vs : List Nat) : Stp K σ0 F0 H0 st0 σ F H (unS st vs) := by
  refine ⟨s.fr, ⟨s.rel.sub, by rw [unS_len]; exact s.rel.len, fun i sl e => ?_, fun a i j h1 h2 => s.rel.apart a i j (ownAt_unS h1).2 (ownAt_unS h2).2⟩, s.new, s.keep, s.there, fun a ⟨i, h⟩ => s.own a ⟨i, (ownAt_unS h).2⟩⟩
  by_cases hi : i ∈ vs
  · have z := unS_in hi e
    subst z
    have hl : i < σ.length := by rw [s.rel.len, ← unS_len (vs := vs)]; exact (List.getElem?_eq_some_iff.mp e).1
    exact ⟨_, List.getElem?_eq_getElem hl, trivial⟩
  · rw [unS_out hi] at e
    exact s.rel.at_ i sl e
theorem Rl.wiped (R : Rl K F H σ st) (vs : List Nat) : Rl K F H (wipe σ vs) (unS st vs) := by
  have lo : ∀ {a : Addr} {i : Nat}, OwnAt (wipe σ vs) (unS st vs) a i → OwnAt σ st a i := fun {a i} h => by
    obtain ⟨hi, h1, h2⟩ := ownAt_unS h
    rw [wipe_out hi] at h2
    exact ⟨h1, h2⟩
  refine ⟨R.sub, by rw [unS_len, wipe_length]; exact R.len, fun i sl e => ?_, fun a i j h1 h2 => R.apart a i j (lo h1) (lo h2)⟩
  by_cases hi : i ∈ vs
  · have z := unS_in hi e
    subst z
    have hl : i < (wipe σ vs).length := by rw [wipe_length, R.len, ← unS_len (vs := vs)]; exact (List.getElem?_eq_some_iff.mp e).1
    exact ⟨_, List.getElem?_eq_getElem hl, trivial⟩
  · rw [unS_out hi] at e
    rw [wipe_out hi]
    exact R.at_ i sl e
theorem own_wiped {a : Addr} (h : Own (wipe σ vs) (unS st vs) a) : Own σ st a := by
  obtain ⟨i, h⟩ := h
  obtain ⟨hi, h1, h2⟩ := ownAt_unS h
  rw [wipe_out hi] at h2
  exact ⟨i, h1, h2⟩
theorem Stp.unwipe (R : Rl K F H σ st) (s : Stp K (wipe σ vs) F H (unS st vs) σ2 F2 H2 s2) (hw : wipe σ2 vs = wipe σ vs) : Stp K σ F H st σ F2 H2 (unS s2 vs) := by
  have same : ∀ {i : Nat}, i ∉ vs → σ2[i]? = σ[i]? := fun {i} hi => by
    rw [← wipe_out (σ := σ2) hi, ← wipe_out (σ := σ) hi, hw]
  have len : σ2.length = σ.length := by rw [← wipe_length σ2 vs, hw, wipe_length]
  have lo : ∀ {a : Addr} {i : Nat}, OwnAt σ (unS s2 vs) a i → OwnAt σ2 s2 a i := fun {a i} h => by
    obtain ⟨hi, h1, h2⟩ := ownAt_unS h
    exact ⟨h1, by rw [same hi]; exact h2⟩
  refine ⟨s.fr, ⟨s.rel.sub, by rw [unS_len, ← s.rel.len, len], fun i sl e => ?_, fun a i j h1 h2 => s.rel.apart a i j (lo h1) (lo h2)⟩, fun a h1 h2 => ?_, fun a u h1 h2 h3 => s.keep a u h1 h2 fun z => h3 (own_wiped z), s.there, fun a ⟨i, h⟩ => ?_⟩
  · by_cases hi : i ∈ vs
    · have z := unS_in hi e
      subst z
      have hl : i < σ.length := by rw [← len, s.rel.len, ← unS_len (vs := vs)]; exact (List.getElem?_eq_some_iff.mp e).1
      exact ⟨_, List.getElem?_eq_getElem hl, trivial⟩
    · rw [unS_out hi] at e
      rw [← same hi]
      exact s.rel.at_ i sl e
  · rcases s.new a h1 h2 with z | z
    · exact .inl z
    · exact .inr (own_wiped z)
  · rcases s.own a ⟨i, lo h⟩ with z | z
    · exact .inl (own_wiped z)
    · exact .inr z
theorem Stp.poke (s : Stp K σ0 F0 H0 st0 σ F H st) (h0 : H0 p = none) (fp : F p = none) (n : ¬ Own σ st p) : Stp K σ0 F0 H0 st0 σ F (upd H p o) st := by
  refine ⟨s.fr, ⟨fun a u e => ?_, s.rel.len, fun i sl e => ?_, s.rel.apart⟩, s.new, fun a u h1 h2 h3 => ?_, fun a h => ?_, s.own⟩
  · rw [upd_ne (ne_of_none e fp)]
    exact s.rel.sub a u e
  · obtain ⟨ov, h1, h2⟩ := s.rel.at_ i sl e
    refine ⟨ov, h1, ?_⟩
    cases sl with
    | un => trivial
    | cls c => exact h2
    | exc q u => exact h2
    | d x => exact h2
    | own m =>
      obtain ⟨a, e1, f, r⟩ := h2
      have z : a ≠ p := fun q => n ⟨i, ⟨m, e⟩, by rw [h1, e1, q]⟩
      exact ⟨a, e1, f, r.mono (Same.refl F) (upd_ne z)⟩
  · rw [upd_ne (ne_of_none h1 h0)]
    exact s.keep a u h1 h2 h3
  · by_cases z : a = p
    · subst z
      rw [upd_same]
      simp
    · rw [upd_ne z]
      exact s.there a h
theorem keeps_wipe {asg : List Nat} (k : Keeps asg (wipe σ vs) σ2) (ha : ∀ i ∈ asg, i ∈ vs) (hl : σ2.length = σ.length) : wipe σ2 vs = wipe σ vs := by
  apply List.ext_getElem?
  intro i
  by_cases hi : i ∈ vs
  · by_cases l : i < σ.length
    · rw [wipe_in hi (by rw [hl]; exact l), wipe_in hi l]
    · rw [List.getElem?_eq_none (by rw [wipe_length, hl]; omega), List.getElem?_eq_none (by rw [wipe_length]; omega)]
  · rw [wipe_out hi]
    exact k i fun z => hi (ha i z)
end
abbrev noW : WX := fun _ _ _ _ => False
def Ot.bindN {α β : Type} (o : Ot α) (k : α → Sls → Ot β) : Ot β := match o with
  | .ok a st => k a st
  | _ => .bad
def OtS.bindN {β : Type} (o : OtS) (k : Sls → Ot β) : Ot β := match o with
  | .nx st => k st
  | _ => .bad
def lcF (w : Wk) (h : FTg) (ft : FT) (fe : FE) (vs : List Nat) : Nat → Nat → List D → Sls → Ot Itm
  | 0, _, acc, st => if w.fin st then .ok (.own (.lst acc)) st else .bad
  | m + 1, k, acc, st => match w.at_ k st with
    | some d => (h (.d d) (unS st vs)).bindN fun s2 => (ft s2).bindN fun b s3 => if b = true then (fe s3).bindN fun it s4 => (match frz it s4 with
        | some (x, s5) => if acc.length < sizeLine then lcF w h ft fe vs m (k + 1) (acc ++ [x]) (unS s5 vs) else .bad
        | none => .bad) else lcF w h ft fe vs m (k + 1) acc (unS s3 vs)
    | none => .bad
def fLc (fw : Sls → Ot Wk) (h : FTg) (ft : FT) (fe : FE) (vs : List Nat) : FE := fun st => (fw st).bind fun w s1 => lcF w h ft fe vs w.n 0 [] (unS s1 vs)
abbrev DTs (X : Cx) (W : WX) (ifs : List Expr) (f : FT) : Prop := PTs X ifs (tTs X.K W f)
def fYes : FT := fun st => .ok true st
theorem PTs.conseq {X : Cx} {e : List Expr} {t t' : TT} (h : PTs X e t) (i : ∀ σ H Q, t' σ H Q → t σ H Q) : PTs X e t' := ⟨fun pins s σ H Q I q => h.run pins s σ H Q I (i σ H Q q)⟩
theorem dts_nil {X : Cx} {W : WX} : DTs X W [] fYes := PTs.conseq pts_nil fun σ H Q h => by
  obtain ⟨F, st, R, g⟩ := h
  exact g F H (Stp.refl R)
theorem dts_one {X : Cx} {W : WX} {c : Expr} {f : FT} (h : DT X W c f) : DTs X W [c] f := pts_one h
def TgLen (h : FTg) : Prop := ∀ it st st', h it st = .nx st' → st'.length = st.length
theorem takes_no {X : Cx} : L2N.Takes X noW := fun _ _ ⟨_, _, _, _, _, _, _, _, _, _, _, _, _, _, _, _, w⟩ => w.elim
theorem Go.bindN {K : PySem.W.Frag} {W W' : WX} {α β : Type} {σ : L2.St} {F H : Hp} {st : Sls} {o : Ot α} {k : α → Sls → Ot β} {Q : β → Hp → Hp → Sls → Prop} (h : Go K W σ F H st (o.bindN k) Q) {σ' : L2.St} {F' H' : Hp} {st' : Sls} : Go K W' σ' F' H' st' o (fun a _ _ st1 => Go K W σ F H st (k a st1) Q) := by
  cases o with
  | ok a st' => exact fun _ _ _ => h
  | exc e st' => exact h.elim
  | bad => exact h.elim
section
variable {X : Cx} {W : WX} {weak : Bool} {tg iter elt : Expr} {ifs : List Expr} {scope : Scope} {own : List (Str × Nat)} {a1 : List Nat} {h : FTg} {ft : FT} {fe : FE} {fw : Sls → Ot Wk} {pos : Pos}
theorem lc_go {K : PySem.W.Frag} {vs : List Nat} {σ : L2.St} {H : Hp} {Q : VK} (hvs : ∀ i ∈ a1, i ∈ vs) (hnx : TgNx h) (hlen : TgLen h) (q : tE K W (fLc fw h ft fe vs) σ H Q) : tLc (tWk K W weak [] fw) (tTgk K noW a1 h weak) (tTs K noW ft) (tE K noW fe) vs σ H Q := by
  obtain ⟨F, st, R, g0⟩ := q
  refine ⟨F, st, R, (Go.bind g0).imp fun w F1 H1 s1 p1 g1 J hw => fun D hD => ?_⟩
  have fD1 : F1 D = none := by
    cases z : F1 D with
    | none => rfl
    | some u => rw [p1.rel.sub D u z] at hD; cases hD
  have g1 := g1.shift p1 (Q' := fun it F' H' st' => ∀ v, RI K H F' H' σ st' v it → Q v H') fun a F2 H2 st2 _ _ z => z
  have start : Stp K σ F1 H1 s1 σ F1 (upd H1 D (.lst [])) (unS s1 vs) := (Stp.alloc p1.rel hD fun a ha => upd_ne ha).unset vs
  refine ⟨fun i m H' => m = w.n - i ∧ i ≤ w.n ∧ ∃ F' st' acc accV, Stp K σ F1 H1 s1 σ F' H' st' ∧ H' D = some (.lst accV) ∧ F' D = none ∧ ¬ Own σ st' D ∧ RDs K F' accV acc ∧ Go K W σ F1 H1 s1 (lcF w h ft fe vs (w.n - i) i acc st') (fun it F' H' st' => ∀ v, RI K H F' H' σ st' v it → Q v H'),
    ⟨w.n, rfl, Nat.zero_le _, F1, unS s1 vs, [], [], start, upd_same, fD1, fun z => ?_, trivial, g1⟩, ?_⟩
  · obtain ⟨i, z⟩ := z
    exact absurd hD (p1.rel.own_free ⟨i, (ownAt_unS z).2⟩).2
  rintro i m H' ⟨rfl, hle, F', st', acc, accV, s', hDl, fD, nD, rds, g⟩
  obtain ⟨ws, wg⟩ := hw σ F' H' st' ⟨s'.fr, s'.rel⟩ (Keeps.refl _ _)
  by_cases hlt : i < w.n
  · have e1 : w.n - i = (w.n - (i + 1)) + 1 := by omega
    rw [e1] at g
    have g : Go K W σ F1 H1 s1 (match w.at_ i st' with
      | some d => (h (.d d) (unS st' vs)).bindN fun s2 => (ft s2).bindN fun b s3 => if b = true then (fe s3).bindN fun it s4 => (match frz it s4 with
        | some (x, s5) => if acc.length < sizeLine then lcF w h ft fe vs (w.n - (i + 1)) (i + 1) (acc ++ [x]) (unS s5 vs) else .bad
        | none => .bad) else lcF w h ft fe vs (w.n - (i + 1)) (i + 1) acc (unS s3 vs)
      | none => .bad) (fun it F' H' st' => ∀ v, RI K H F' H' σ st' v it → Q v H') := g
    split at g
    · rename_i d ed
      obtain ⟨hgo, hy⟩ := wg i d hlt ed
      refine .inr ⟨hgo, fun H2 => w.n - (i + 1) = w.n - (i + 1) ∧ i + 1 ≤ w.n ∧ ∃ F' st' acc accV, Stp K σ F1 H1 s1 σ F' H2 st' ∧ H2 D = some (.lst accV) ∧ F' D = none ∧ ¬ Own σ st' D ∧ RDs K F' accV acc ∧ Go K W σ F1 H1 s1 (lcF w h ft fe vs (w.n - (i + 1)) (i + 1) acc st') (fun it F' H' st' => ∀ v, RI K H F' H' σ st' v it → Q v H'),
        fun H2 z => ⟨w.n - (i + 1), by omega, z⟩, fun x H'' y => ?_⟩
      have Rw := s'.rel.wiped vs
      refine tgk_ok (σ' := wipe σ vs) Rw (hy x H'' y) ?_
      rcases hnx (.d d) (unS st' vs) with ⟨s2, eh⟩ | ⟨ex, s2, eh⟩ | eh
      · rw [eh] at g ⊢
        intro σ2 F2 H2 st2 k2
        have hl : σ2.length = σ.length := by
          rw [st2.rel.len, hlen _ _ _ eh, unS_len, ← s'.rel.len]
        have hw2 := keeps_wipe k2 hvs hl
        refine ⟨hw2, F2, s2, st2.rel, ?_⟩
        have g : Go K W σ F1 H1 s1 ((ft s2).bindN fun b s3 => if b = true then (fe s3).bindN fun it s4 => (match frz it s4 with
          | some (x, s5) => if acc.length < sizeLine then lcF w h ft fe vs (w.n - (i + 1)) (i + 1) (acc ++ [x]) (unS s5 vs) else .bad
          | none => .bad) else lcF w h ft fe vs (w.n - (i + 1)) (i + 1) acc (unS s3 vs)) (fun it F' H' st' => ∀ v, RI K H F' H' σ st' v it → Q v H') := g
        refine (Go.bindN g (W' := noW) (σ' := σ2) (F' := F2) (H' := H2) (st' := s2)).imp fun b F3 H3 s3 p3 g3 => ?_
        have st3 := st2.trans p3
        -- the new list has not been touched
        have keepD : ∀ {F4 H4 : Hp} {s4 : Sls}, Stp K (wipe σ vs) F' H' (unS st' vs) σ2 F4 H4 s4 → H4 D = some (.lst accV) ∧ F4 D = none ∧ ¬ Own σ2 s4 D := fun {F4 H4 s4} st4 => by
          have nO : ¬ Own (wipe σ vs) (unS st' vs) D := fun z => nD (own_wiped z)
          refine ⟨st4.keep D _ hDl fD nO, ?_, fun z => ?_⟩
          · cases q : F4 D with
            | none => rfl
            | some u =>
              rcases st4.new D fD (by rw [q]; simp) with z | z
              · rw [hDl] at z; cases z
              · exact absurd z nO
          · rcases st4.own D z with z | z
            · exact nO z
            · rw [hDl] at z; cases z
        cases b with
        | false =>
          refine Eq.mpr (if_neg Bool.false_ne_true) ?_
          rw [if_neg Bool.false_ne_true] at g3
          obtain ⟨k1, k2', k3⟩ := keepD st3
          have sO := Stp.unwipe s'.rel st3 hw2
          have nO3 : ¬ Own σ (unS s3 vs) D := fun z => by
            rcases sO.own D z with z | z
            · exact nD z
            · rw [hDl] at z; cases z
          exact ⟨rfl, hlt, F3, unS s3 vs, acc, accV, s'.trans sO, k1, k2', nO3, RDs.mono st3.fr _ _ rds, g3⟩
        | true =>
          refine Eq.mpr (if_pos rfl) ?_
          rw [if_pos rfl] at g3
          refine ⟨F3, s3, p3.rel, (Go.bindN g3 (W' := noW) (σ' := σ2) (F' := F3) (H' := H3) (st' := s3)).imp fun it F4 H4 s4 p4 g4 yv ri => ?_⟩
          have st4 := st3.trans p4
          obtain ⟨k1, k2', k3⟩ := keepD st4
          split at g4
          · rename_i xx s5 ef
            split at g4
            · rename_i hz
              have ri2 : RI K H' F4 H4 σ2 s4 yv it := ri.back st3.there
              obtain ⟨F5, st5, rd, sm, nw, ow⟩ := frz_ok st4 ri2 ef
              have f5 : F5 D = none := by
                cases q : F5 D with
                | none => rfl
                | some u =>
                  obtain ⟨z1, z2⟩ := nw D k2' (by rw [q]; simp)
                  rcases z2 with z2 | ⟨m, z2⟩
                  · exact absurd z2 k3
                  · subst z2
                    obtain ⟨pp, e5, h5, _⟩ := ri2
                    rw [z1] at e5
                    cases e5
                    rw [hDl] at h5
                    cases h5
              have sO := Stp.unwipe s'.rel st5 hw2
              have nO5 : ¬ Own σ (unS s5 vs) D := fun z => by
                rcases sO.own D z with z | z
                · exact nD z
                · rw [hDl] at z; cases z
              refine ⟨accV, k1, by rw [rds.length]; exact hz, rfl, hlt, F5, unS s5 vs, acc ++ [xx], accV ++ [yv], (s'.trans sO).poke hD f5 nO5, upd_same, f5, nO5, (RDs.mono st5.fr _ _ rds).append (RDs.one rd), g4⟩
            · exact g4.elim
          · exact g4.elim
      · rw [eh] at g
        exact g.elim
      · rw [eh] at g
        exact g.elim
    · exact g.elim
  · have e1 : i = w.n := by omega
    subst e1
    rw [Nat.sub_self] at g
    have g : Go K W σ F1 H1 s1 (if w.fin st' then .ok (.own (.lst acc)) st' else .bad) (fun it F' H' st' => ∀ v, RI K H F' H' σ st' v it → Q v H') := g
    split at g
    · rename_i hf
      refine .inl ⟨ws hf, g F' H' s' (.ref D) ⟨D, rfl, ?_, fD, nD, accV, hDl, rds⟩⟩
      exact Classical.byContradiction fun z => p1.there D z hD
    · exact g.elim
theorem de_lc (hc : X.calm = true) (hN : X.N.Nodup) (hi : DI X W weak tg iter [] fw) (ok : BlkOk X.N X.env.scope scope own) (hvs : ∀ i ∈ a1, i ∈ own.map (·.2)) (hnx : TgNx h) (hlen : TgLen h)
    (hg : ∀ (s : Shared) (H : Hp) (C : Addr) (cl : List (Str × Addr)) (fp : List Addr), DGk (X.blk s H scope (compEnvC scope cl C X.env) fp) noW weak tg a1 h) (ht : ∀ (s : Shared) (H : Hp) (C : Addr) (cl : List (Str × Addr)) (fp : List Addr), DTs (X.blk s H scope (compEnvC scope cl C X.env) fp) noW ifs ft)
    (he : ∀ (s : Shared) (H : Hp) (C : Addr) (cl : List (Str × Addr)) (fp : List Addr), DE (X.blk s H scope (compEnvC scope cl C X.env) fp) noW elt fe) (hs : ∀ x, foldedSetIterable iter X.env x = pure x := by intro _; rfl) :
    DE X W (.ListComp elt [⟨tg, iter, ifs, 0⟩] scope pos) (fLc fw h ft fe (own.map (·.2))) := PE.conseq (pe_lc hc hN hi ok hg ht he hs) fun σ H Q q => lc_go hvs hnx hlen q
theorem ds_setLc (i : Nat) {y : Str} {py spos : Pos} (hc : X.calm = true) (hN : X.N.Nodup) (hy : X.N[i]? = some y) (hyl : X.env.scope.names.lookup y = some .local) (hsw : swapsWith (.ListComp elt [⟨tg, iter, ifs, 0⟩] scope pos) (some (.Name y py)) spos.line X.env = pure true)
    (hi : DI X W weak tg iter [] fw) (ok : BlkOk X.N X.env.scope scope own) (hvs : ∀ i ∈ a1, i ∈ own.map (·.2)) (hnx : TgNx h) (hlen : TgLen h)
    (hg : ∀ (s : Shared) (H : Hp) (C : Addr) (cl : List (Str × Addr)) (fp : List Addr), DGk (X.blk s H scope (compEnvC scope cl C X.env) fp) noW weak tg a1 h) (ht : ∀ (s : Shared) (H : Hp) (C : Addr) (cl : List (Str × Addr)) (fp : List Addr), DTs (X.blk s H scope (compEnvC scope cl C X.env) fp) noW ifs ft)
    (he : ∀ (s : Shared) (H : Hp) (C : Addr) (cl : List (Str × Addr)) (fp : List Addr), DE (X.blk s H scope (compEnvC scope cl C X.env) fp) noW elt fe) (hs : ∀ x, foldedSetIterable iter X.env x = pure x := by intro _; rfl) :
    DS X W (.Assign [.Name y py] (.ListComp elt [⟨tg, iter, ifs, 0⟩] scope pos) spos) [i] (fAsg i (fLc fw h ft fe (own.map (·.2)))) := PS.conseq (ps_setLc hc hN hy hyl hsw hi ok hg ht he hs) fun D σ H q => by
  have q2 : tAsg (tE X.K W (fLc fw h ft fe (own.map (·.2)))) (gName i) D σ H := asg_ok q
  exact lc_go hvs hnx hlen q2
end
end DL
set_option maxRecDepth 100000
set_option maxHeartbeats 4000000
namespace DL
open PySem PySem.Spec PyProof.Rows L2
def MutS (X : Cx) (id : String) (g : List D → List D → Option (List D × D)) : Prop := ∃ r, MtR X id r ∧
  ∀ F H p xs ds vs es ds' y Q, H p = some (.lst xs) → RDs X.K F xs ds → RDs X.K F vs es → g ds es = some (ds', y) → (∀ xs' v, RDs X.K F xs' ds' → RD X.K F v y → Q v (upd H p (.lst xs'))) → r (.ref p) vs H Q
def mutR (g : List D → List D → Option (List D × D)) (ir : Itm) (its : List Itm) (st : Sls) : Ot Itm := match ir with
  | .ref j => (match frzs its st with
    | some (es, s3) => (match s3[j]? with
      | some (.own (.lst ds)) => (match g ds es with
        | some (ds', y) => .ok (.d y) (s3.set j (.own (.lst ds')))
        | none => .bad)
      | _ => .bad)
    | none => .bad)
  | _ => .bad
def isLst (st : Sls) : Itm → Bool
  | .ref j => match st[j]? with
    | some (.own (.lst _)) => true
    | _ => false
  | _ => false
def fMut (g : List D → List D → Option (List D × D)) (fo : FE) (fa : FA) : FE := fun st => (fo st).bind fun ir s1 => if isLst s1 ir then (fa s1).bind fun its s2 => mutR g ir its s2 else .bad
section
variable {X : Cx} {W : WX} {o e : Expr} {es : List Expr} {fo : FE} {fa : FA} {name : Str} {apos cpos : Pos} {id : String} {g : List D → List D → Option (List D × D)}
theorem mut_go {K : PySem.W.Frag} {σ : L2.St} {F0 H0 F H : Hp} {st0 st : Sls} {ir : Itm} {its : List Itm} {x : V} {vs : List V} {r : V → List V → Hp → VK → Prop} {Q : VK} (s : Stp K σ F0 H0 st0 σ F H st) (rx : RI K H0 F H σ st x ir) (ri : RIs K H0 F H σ st vs its)
    (hr : ∀ F H p xs ds vs es ds' y Q, H p = some (.lst xs) → RDs K F xs ds → RDs K F vs es → g ds es = some (ds', y) → (∀ xs' v, RDs K F xs' ds' → RD K F v y → Q v (upd H p (.lst xs'))) → r (.ref p) vs H Q)
    (h : Go K W σ F0 H0 st0 (mutR g ir its st) (fun it F' H' st' => ∀ v, RI K H0 F' H' σ st' v it → Q v H')) : r x vs H Q := by
  unfold mutR at h
  split at h
  · rename_i j
    have rx : σ[j]? = some (some x) := rx
    split at h
    · rename_i es s3 e1
      obtain ⟨F2, p2, rds, sm⟩ := frzs_ok s ri e1
      split at h
      · rename_i ds e2
        split at h
        · rename_i ds' y e3
          obtain ⟨ov, h1, p, e4, fp, xs, hx, rx2⟩ := p2.rel.at_ j _ e2
          rw [rx] at h1
          cases h1
          cases e4
          exact hr F2 H p xs ds vs es ds' y Q hx rx2 rds e3 fun xs' v r1 r2 => h F2 _ (p2.mut e2 rx ⟨xs', upd_same, r1⟩) v r2
        · exact h.elim
      · exact h.elim
    · exact h.elim
  · exact h.elim
theorem isLst_ok {K : PySem.W.Frag} {σ : L2.St} {H0 F H : Hp} {st : Sls} {ir : Itm} {x : V} (R : Rl K F H σ st) (r : RI K H0 F H σ st x ir) (h : isLst st ir = true) : tyV K "list" x H := by
  cases ir with
  | ref j =>
    have r : σ[j]? = some (some x) := r
    have h : (match st[j]? with | some (.own (.lst _)) => true | _ => false) = true := h
    split at h
    · rename_i ds e
      obtain ⟨ov, h1, p, e1, _, xs, hx, _⟩ := R.at_ j _ e
      rw [r] at h1
      cases h1
      cases e1
      exact .inl ⟨rfl, xs, SqL.of hx⟩
    · cases h
  | d x => cases h
  | own m => cases h
theorem de_mut (slot : Slot "list" name id) (hty : typeOf (.builtin id) = pure (.type "method_descriptor")) (hm : MutS X id g) (ho : DE X W o fo) (ha : DA X W (e :: es) fa)
    (hbase : attributeBase o name X.env (eval o X.env) = eval o X.env := by rfl)
    (hfew : ((backTo cpos (starEach (e :: es) X.env)).all (fun x => !x.1) && (backToKw cpos (keywordEach [] X.env)).all (fun x => x.1.isSome)
      && decide ((e :: es).length + ([] : List Keyword).length + (if ([] : List Keyword).isEmpty then 0 else 1) < 30)) = true := by rfl)
    (hline : (apos.endLine == cpos.line) = true := by rfl) (hs : starEach (e :: es) X.env = (false, eval e X.env) :: starEach es X.env := by rfl) (hplain : (backTo cpos (starEach es X.env)).any (·.1) = false := by rfl) :
    DE X W (.Call (.Attribute o name apos) (e :: es) [] cpos) (fMut g fo fa) := by
  obtain ⟨r, h1, h2⟩ := hm
  refine PE.conseq (pe_bm PySem.F.plainAttrs_list slot hty h1 ho ha.pa hbase hfew hline hs hplain) fun σ H Q h => ?_
  obtain ⟨F, st, R, g0⟩ := h
  refine ⟨F, st, R, (Go.bind g0).imp fun ir F1 H1 s1 p1 g1 x rx => ?_⟩
  split at g1
  · rename_i hl
    refine ⟨isLst_ok p1.rel rx hl, F1, s1, p1.rel, ((Go.bind g1).shift p1 fun its F2 H2 s2 p2 p02 g2 => g2).imp fun its F2 H2 s2 p2 g2 vs r2 => ?_⟩
    exact mut_go (p1.trans p2) (rx.step p2) (r2.back p1.there) h2 g2
  · exact g1.elim
theorem de_mut0 (slot : Slot "list" name id) (hty : typeOf (.builtin id) = pure (.type "method_descriptor")) (hm : MutS X id g) (ho : DE X W o fo)
    (hbase : attributeBase o name X.env (eval o X.env) = eval o X.env := by rfl) (hline : (apos.endLine == cpos.line) = true := by rfl) :
    DE X W (.Call (.Attribute o name apos) [] [] cpos) (fMut g fo fNil) := by
  obtain ⟨r, h1, h2⟩ := hm
  refine PE.conseq (pe_bm0 PySem.F.plainAttrs_list slot hty h1 ho hbase hline) fun σ H Q h => ?_
  obtain ⟨F, st, R, g0⟩ := h
  refine ⟨F, st, R, (Go.bind g0).imp fun ir F1 H1 s1 p1 g1 x rx => ?_⟩
  split at g1
  · rename_i hl
    refine ⟨isLst_ok p1.rel rx hl, ?_⟩
    have g1 : Go X.K W σ F H st (mutR g ir [] s1) (fun it F' H' st' => ∀ v, RI X.K H F' H' σ st' v it → Q v H') := g1
    exact mut_go p1 rx (show RIs X.K H F1 H1 σ s1 [] [] from trivial) h2 g1
  · exact g1.elim
end
def gAppend : List D → List D → Option (List D × D)
  | ds, [e] => if ds.length < sizeLine then some (ds ++ [e], .non) else none
  | _, _ => none
def gInsert : List D → List D → Option (List D × D)
  | ds, [.int i, e] => if ds.length < sizeLine ∧ 0 ≤ i ∧ i < 2 ^ 63 then some (ds.take i.toNat ++ [e] ++ ds.drop i.toNat, .non) else none
  | _, _ => none
def gPop : List D → List D → Option (List D × D)
  | ds, [] => match ds[ds.length - 1]? with
    | some y => some (ds.dropLast, y)
    | none => none
  | ds, [.int i] => if -(2 ^ 63) ≤ i ∧ i < 2 ^ 63 then (match seqIndex? i ds.length with
    | some k => (match ds[k]? with
      | some y => some (ds.eraseIdx k, y)
      | none => none)
    | none => none) else none
  | _, _ => none
section
variable {X : Cx} {K : PySem.W.Frag} {F : Hp}
theorem RDs.dropLast {vs : List V} {ds : List D} (h : RDs K F vs ds) : RDs K F vs.dropLast ds.dropLast := by
  rw [List.dropLast_eq_take, List.dropLast_eq_take, h.length]
  exact h.take _
theorem ms_append : MutS X "list.append" gAppend := by
  refine ⟨_, mt_append, fun F H p xs ds vs es ds' y Q hp r1 r2 e q => ?_⟩
  match es, vs, r2, e with
  | [e0], [v0], r2, e =>
    have e : (if ds.length < sizeLine then some (ds ++ [e0], .non) else none) = some (ds', y) := e
    split at e
    · rename_i c
      cases e
      exact ⟨p, xs, v0, rfl, rfl, hp, by rw [r1.length]; exact c, q _ .non (r1.append (RDs.one r2.1)) rfl⟩
    · cases e
theorem ms_insert : MutS X "list.insert" gInsert := by
  refine ⟨_, mt_insert, fun F H p xs ds vs es ds' y Q hp r1 r2 e q => ?_⟩
  match es, vs, r2, e with
  | [.int i, e0], [u0, v0], r2, e =>
    have e : (if ds.length < sizeLine ∧ 0 ≤ i ∧ i < 2 ^ 63 then some (ds.take i.toNat ++ [e0] ++ ds.drop i.toNat, .non) else none) = some (ds', y) := e
    split at e
    · rename_i c
      cases e
      have eu : u0 = .int i := r2.1
      subst eu
      exact ⟨p, xs, i, v0, rfl, rfl, hp, by rw [r1.length]; exact c.1, c.2.1, c.2.2, q _ .non (((r1.take _).append (RDs.one r2.2.1)).append (r1.drop _)) rfl⟩
    · cases e
theorem ms_pop : MutS X "list.pop" gPop := by
  refine ⟨_, MtR.or mt_pop mt_popAt, fun F H p xs ds vs es ds' y Q hp r1 r2 e q => ?_⟩
  match es, vs, r2, e with
  | [], [], r2, e =>
    have e : (match ds[ds.length - 1]? with | some y => some (ds.dropLast, y) | none => none) = some (ds', y) := e
    split at e
    · rename_i y0 e1
      cases e
      obtain ⟨v, h1, h2⟩ := r1.get e1
      refine .inl ⟨p, xs, v, rfl, rfl, hp, by rw [r1.length]; exact h1, q _ v r1.dropLast h2⟩
    · cases e
  | [.int i], [u0], r2, e =>
    have eu : u0 = .int i := r2.1
    subst eu
    have e : (if -(2 ^ 63) ≤ i ∧ i < 2 ^ 63 then (match seqIndex? i ds.length with | some k => (match ds[k]? with | some y => some (ds.eraseIdx k, y) | none => none) | none => none) else none) = some (ds', y) := e
    split at e
    · rename_i c
      split at e
      · rename_i k ek
        split at e
        · rename_i y0 e1
          cases e
          obtain ⟨v, h1, h2⟩ := r1.get e1
          exact .inr ⟨p, xs, i, k, v, rfl, rfl, hp, c.1, c.2, by rw [r1.length]; exact ek, h1, q _ v (r1.eraseIdx k) h2⟩
        · cases e
      · cases e
    · cases e
end

def tyNm : D → String
  | .lst _ => "list"
  | .scr _ => "list"
  | .str _ => "str"
  | .dic _ _ => "dict"
  | .int _ => "int"
  | _ => ""
def MtS (X : Cx) (id : String) (g : D → List D → Rs) : Prop := ∃ r, MtR X id r ∧ ∀ F H x d vs ds Q, Same F H → RW X.K F H x d → RWs X.K F H vs ds → ResOk X.K F H (g d ds) Q → r x vs H Q
def fMtV (T : String) (g : D → List D → Rs) (fo : FE) (fa : FA) : FE := fun st => (fo st).bind fun ir s1 => match view s1 ir with
  | some dx => if tyNm dx = T then (fa s1).bind fun its s2 => (match view s2 ir, views s2 its with
    | some d, some ds => (g d ds).out s2
    | _, _ => .bad) else .bad
  | none => .bad
section
variable {X : Cx} {W : WX} {o e : Expr} {es : List Expr} {fo : FE} {fa : FA} {name : Str} {apos cpos : Pos} {T id : String} {g : D → List D → Rs}
theorem tyV_of {K : PySem.W.Frag} {F H : Hp} {x : V} {d : D} (s : Same F H) (r : RW K F H x d) (hT : T ≠ "") (h : tyNm d = T) : tyV K T x H := by
  cases d with
  | lst ds =>
    obtain ⟨a, xs, e1, h1, _⟩ := rw_lst s r
    rw [e1, ← h]
    exact .inl ⟨rfl, xs, SqL.of h1⟩
  | scr ns =>
    obtain ⟨a, e1, h1⟩ := rw_scr r
    rw [e1, ← h]
    exact .inl ⟨rfl, _, s.seq h1⟩
  | str z =>
    rw [rw_str r, ← h]
    rfl
  | dic ks vs =>
    obtain ⟨a, kvs, e1, h1, _⟩ := rw_dic s r
    rw [e1, ← h]
    exact .inr (.inr (.inl ⟨rfl, .inl ⟨kvs, h1⟩⟩))
  | int i =>
    rw [rw_int r, ← h]
    rfl
  | non => exact absurd h.symm hT
  | bl b => exact absurd h.symm hT
  | tup ds => exact absurd h.symm hT
  | ins C fs ds => exact absurd h.symm hT
theorem de_mtv (pa : PlainAttrs T) (slot : Slot T name id) (hty : typeOf (.builtin id) = pure (.type "method_descriptor")) (hm : MtS X id g) (hT : T ≠ "") (ho : DE X W o fo) (ha : DA X W (e :: es) fa)
    (hbase : attributeBase o name X.env (eval o X.env) = eval o X.env := by rfl)
    (hfew : ((backTo cpos (starEach (e :: es) X.env)).all (fun x => !x.1) && (backToKw cpos (keywordEach [] X.env)).all (fun x => x.1.isSome)
      && decide ((e :: es).length + ([] : List Keyword).length + (if ([] : List Keyword).isEmpty then 0 else 1) < 30)) = true := by rfl)
    (hline : (apos.endLine == cpos.line) = true := by rfl) (hs : starEach (e :: es) X.env = (false, eval e X.env) :: starEach es X.env := by rfl) (hplain : (backTo cpos (starEach es X.env)).any (·.1) = false := by rfl) :
    DE X W (.Call (.Attribute o name apos) (e :: es) [] cpos) (fMtV T g fo fa) := by
  obtain ⟨r, h1, h2⟩ := hm
  refine PE.conseq (pe_bm pa slot hty h1 ho ha.pa hbase hfew hline hs hplain) fun σ H Q h => ?_
  obtain ⟨F, st, R, g0⟩ := h
  refine ⟨F, st, R, (Go.bind g0).imp fun ir F1 H1 s1 p1 g1 x rx => ?_⟩
  split at g1
  · rename_i dx ev
    split at g1
    · rename_i ht
      refine ⟨tyV_of p1.rel.sub (view_ok p1.rel rx ev) hT ht, F1, s1, p1.rel, ((Go.bind g1).shift p1 fun its F2 H2 s2 p2 p02 g2 => g2).imp fun its F2 H2 s2 p2 g2 vs r2 => ?_⟩
      split at g2
      · rename_i d ds e1 e2
        exact h2 F2 H2 x d vs ds Q p2.rel.sub (view_ok p2.rel (rx.step p2) e1) (views_ok p2.rel r2 e2) (res_ok (p1.trans p2) g2)
      · exact g2.elim
    · exact g1.elim
  · exact g1.elim
theorem de_mtv0 (pa : PlainAttrs T) (slot : Slot T name id) (hty : typeOf (.builtin id) = pure (.type "method_descriptor")) (hm : MtS X id g) (hT : T ≠ "") (ho : DE X W o fo)
    (hbase : attributeBase o name X.env (eval o X.env) = eval o X.env := by rfl) (hline : (apos.endLine == cpos.line) = true := by rfl) :
    DE X W (.Call (.Attribute o name apos) [] [] cpos) (fMtV T g fo fNil) := by
  obtain ⟨r, h1, h2⟩ := hm
  refine PE.conseq (pe_bm0 pa slot hty h1 ho hbase hline) fun σ H Q h => ?_
  obtain ⟨F, st, R, g0⟩ := h
  refine ⟨F, st, R, (Go.bind g0).imp fun ir F1 H1 s1 p1 g1 x rx => ?_⟩
  split at g1
  · rename_i dx ev
    split at g1
    · rename_i ht
      refine ⟨tyV_of p1.rel.sub (view_ok p1.rel rx ev) hT ht, ?_⟩
      have g1 : Go X.K W σ F H st (match view s1 ir, views s1 [] with | some d, some ds => (g d ds).out s1 | _, _ => .bad) (fun it F' H' st' => ∀ v, RI X.K H F' H' σ st' v it → Q v H') := g1
      split at g1
      · rename_i d ds e1 e2
        cases e2
        exact h2 F1 H1 x d [] [] Q p1.rel.sub (view_ok p1.rel rx e1) trivial (res_ok p1 g1)
      · exact g1.elim
    · exact g1.elim
  · exact g1.elim
end
def strs? : List D → Option (List Str)
  | [] => some []
  | .str x :: ds => con2 (some x) (strs? ds)
  | _ :: _ => none
theorem strs_ok {K : PySem.W.Frag} {F : Hp} : ∀ {vs : List V} {ds : List D} {ys : List Str}, RDs K F vs ds → strs? ds = some ys → vs = ys.map V.str
  | [], [], ys, _, h => by
    cases h
    rfl
  | [], _ :: _, _, q, _ => q.elim
  | _ :: _, [], _, q, _ => q.elim
  | v :: vs, d :: ds, ys, q, h => by
    cases d with
    | str b =>
      obtain ⟨y, zs, e1, e2, e3⟩ := con2_some h
      cases e1
      subst e3
      have e := strs_ok q.2 e2
      have e0 : v = .str b := q.1
      rw [e, e0]
      rfl
    | _ => cases h
def gJoin : D → List D → Rs
  | .str a, [.lst ds] => match strs? ds with
    | some ys => if (ys.map (·.length)).sum + ys.length * a.length ≤ 16777216 then .val (.str (Txt.join a ys)) else .bad
    | none => .bad
  | _, _ => .bad
theorem vs_join {X : Cx} : MtS X "str.join" gJoin := by
  refine ⟨_, mt_join, fun F H x d vs ds Q s rx rv q => ?_⟩
  cases d with
  | str a =>
    match vs, ds, rv with
    | [], [], _ => exact q.elim
    | v :: v2 :: vs, d :: d2 :: ds, _ => cases d <;> exact q.elim
    | [v], [d], rv =>
      cases d with
      | lst es =>
        have q : ResOk X.K F H (match strs? es with | some ys => if (ys.map (·.length)).sum + ys.length * a.length ≤ 16777216 then .val (.str (Txt.join a ys)) else .bad | none => .bad) Q := q
        split at q
        · rename_i ys e
          split at q
          · rename_i c
            obtain ⟨p, xs, e1, h1, r1⟩ := rw_lst s rv.1
            have e2 := strs_ok r1 e
            subst e2
            exact ⟨a, p, ys, rw_str rx, by rw [e1], .inl (SqL.of h1), c, q _ rfl⟩
          · exact q.elim
        · exact q.elim
      | _ => exact q.elim
  | _ => exact q.elim

mutual
def pyD : D → Option PyData
  | .non => some .none
  | .bl b => some (.bool b)
  | .int i => some (.int i)
  | .str x => some (.str x)
  | .tup ds => (pyDs ds).map .tuple
  | .lst ds => (pyDs ds).map .list
  | .dic [] [] => some (.dict [])
  | .dic _ _ => none
  | .ins _ _ _ => none
  | .scr _ => none
def pyDs : List D → Option (List PyData)
  | [] => some []
  | d :: ds => con2 (pyD d) (pyDs ds)
end
mutual
/-- no dict within a list -/
def dicOk : D → Bool
  | .lst ds => noDic ds
  | .tup ds => dicOks ds
  | _ => true
def dicOks : List D → Bool
  | [] => true
  | d :: ds => dicOk d && dicOks ds
def noDic : List D → Bool
  | [] => true
  | d :: ds => noDic1 d && noDic ds
def noDic1 : D → Bool
  | .lst ds => noDic ds
  | .tup ds => noDic ds
  | .dic _ _ => false
  | _ => true
end
def gRepr : D → Rs := fun d => match pyD d with
  | some p => if p.showable = true ∧ p.depth ≤ 12 ∧ p.shown.length ≤ sizeLine ∧ p.hasDict = false then .val (.str p.shown) else (match p with
    | .dict [] => .val (.str "{}")
    | _ => .bad)
  | none => .bad
section
variable {X : Cx} {pins : List (Addr × Obj)} {σ : L2.St} {F H : Hp} {s : Shared}
mutual
theorem reads_of (I : Inv X pins σ H s) (sm : Same F H) : ∀ (d : D) (v : V) (u : Value) (p : PyData), RD X.K F v d → pyD d = some p → RelV v u → ∃ as, Reads s.heap u p as
  | .non, v, u, p, r, e, ru => by
    have e1 : v = .non := r
    subst e1
    have e : some PyData.none = some p := by simpa [pyD] using e
    cases e
    cases ru
    exact ⟨_, .none⟩
  | .bl b, v, u, p, r, e, ru => by
    have e1 : v = .bl b := r
    subst e1
    have e : some (PyData.bool b) = some p := by simpa [pyD] using e
    cases e
    cases ru
    exact ⟨_, .bool b⟩
  | .int i, v, u, p, r, e, ru => by
    have e1 : v = .int i := r
    subst e1
    have e : some (PyData.int i) = some p := by simpa [pyD] using e
    cases e
    obtain ⟨t, rfl⟩ := ru
    exact ⟨_, .int i t⟩
  | .str x, v, u, p, r, e, ru => by
    have e1 : v = .str x := r
    subst e1
    have e : some (PyData.str x) = some p := by simpa [pyD] using e
    cases e
    obtain ⟨t, rfl⟩ := ru
    exact ⟨_, .str x t⟩
  | .tup ds, v, u, p, r, e, ru => by
    obtain ⟨a, xs, e1, sq, rs⟩ := r
    subst e1
    cases ru
    have e : (pyDs ds).map PyData.tuple = some p := by simpa [pyD] using e
    obtain ⟨ps, e2, e3⟩ := Option.map_eq_some_iff.mp e
    subst e3
    obtain ⟨its, rv, ⟨o, ho, hc, n, hd⟩, _⟩ := I.tuple (sq.mono sm).sq
    obtain ⟨as, hr⟩ := reads_all I sm ds xs its ps rs e2 rv
    exact ⟨_, .tuple ho hc hd (by simpa using hr)⟩
  | .lst ds, v, u, p, r, e, ru => by
    obtain ⟨a, xs, e1, sq, rs⟩ := r
    subst e1
    cases ru
    have e : (pyDs ds).map PyData.list = some p := by simpa [pyD] using e
    obtain ⟨ps, e2, e3⟩ := Option.map_eq_some_iff.mp e
    subst e3
    obtain ⟨its, rv, ⟨o, n, ho, hc, _, hd⟩, _⟩ := I.list (SqL.of (sm _ _ sq))
    obtain ⟨as, hr⟩ := reads_all I sm ds xs its ps rs e2 rv
    exact ⟨_, .list ho hc hd (by simpa using hr)⟩
  | .dic ks vs, v, u, p, r, e, ru => by
    obtain ⟨a, kvs, e1, hd, r1, r2⟩ := r
    subst e1
    cases ru
    cases ks with
    | cons k ks => simp [pyD] at e
    | nil =>
      cases vs with
      | cons w ws => simp [pyD] at e
      | nil =>
        have e : some (PyData.dict []) = some p := by simpa [pyD] using e
        cases e
        cases kvs with
        | cons q qs => exact r1.elim
        | nil =>
          obtain ⟨_, _, vs, kv, o, es, ep, ho, hx, hdat, hk, hp, _⟩ := (show ObjOk X.prog X.w H s.heap a (.dK []) from I.hok a _ (sm _ _ hd))
          cases kv
          have e0 : es.toList = [] := by
            cases q : es.toList with
            | nil => rfl
            | cons x l => rw [q] at hp; cases hp
          have z1 : ReadsAll s.heap (es.toList.map (·.key)) (([] : List (PyData × PyData)).map (·.1)) [] := by rw [e0]; exact .nil
          have z2 : ReadsAll s.heap (es.toList.map (·.val)) (([] : List (PyData × PyData)).map (·.2)) [] := by rw [e0]; exact .nil
          exact ⟨_, .dict ho hx.1 hdat z1 z2⟩
  | .ins _ _ _, v, u, p, r, e, ru => by simp [pyD] at e
  | .scr _, v, u, p, r, e, ru => by simp [pyD] at e
theorem reads_all (I : Inv X pins σ H s) (sm : Same F H) : ∀ (ds : List D) (vs : List V) (us : List Value) (ps : List PyData), RDs X.K F vs ds → pyDs ds = some ps → Vals vs us → ∃ as, ReadsAll s.heap us ps as
  | [], [], us, ps, _, e, ru => by
    have e : some ([] : List PyData) = some ps := by simpa [pyDs] using e
    cases e
    cases ru
    exact ⟨_, .nil⟩
  | [], _ :: _, _, _, r, _, _ => r.elim
  | _ :: _, [], _, _, r, _, _ => r.elim
  | d :: ds, v :: vs, us, ps, r, e, ru => by
    have e : con2 (pyD d) (pyDs ds) = some ps := by simpa [pyDs] using e
    obtain ⟨y, ys, e1, e2, e3⟩ := con2_some e
    subst e3
    cases ru with
    | cons r1 r2 =>
      obtain ⟨as, q1⟩ := reads_of I sm d v _ y r.1 e1 r1
      obtain ⟨bs, q2⟩ := reads_all I sm ds vs _ ys r.2 e2 r2
      exact ⟨_, .cons q1 q2⟩
end
end
theorem cs_repr {X : Cx} (hg : X.A.guards = some []) (hu : X.A.units + 64 < cLine) : CallS X (.builtin "repr") (g1 gRepr) := by
  refine CallS.one (r := fun xs H Q => ∃ F v d, xs = [v] ∧ Same F H ∧ RW X.K F H v d ∧ ResOk X.K F H (gRepr d) Q) ?_ g1_bad fun F H v d Q s rv q => ⟨F, v, d, rfl, s, rv, q⟩
  rintro pins s σ H xs us Q I r ⟨F, v, d, rfl, sm, rw, q⟩
  obtain ⟨u, rfl, ru⟩ := vals1 r
  have rd := rw.rd sm
  unfold gRepr at q
  split at q
  · rename_i p e
    obtain ⟨as, rr⟩ := reads_of I (Same.refl H) d v u p rd e ru
    split at q
    · rename_i c
      obtain ⟨c1, c2, c3, c4⟩ := c
      have q : ∀ v, RD X.K F v (.str p.shown) → Q v H := q
      have fin : ∀ h' t tk, (∀ b o, s.heap.get? b = some o → h'.get? b = some o) → EP X pins σ Q (.str p.shown t) { s with heap := h', toks := tk } := fun h' t tk k => ⟨.str p.shown, H, I.kept k, ⟨t, rfl⟩, q _ rfl⟩
      cases rr with
      | none => exact PySem.P.repr_of_none (by have := fin s.heap s.toks (s.toks + 1) (fun _ _ z => z); simpa [PyData.shown] using this)
      | bool b => exact PySem.P.repr_of_bool (by have := fin s.heap s.toks (s.toks + 1) (fun _ _ z => z); simpa [PyData.shown] using this)
      | int i t => exact PySem.P.repr_of_int (by simpa [PyData.showable] using c1) (by have := fin s.heap s.toks (s.toks + 1) (fun _ _ z => z); simpa [PyData.shown] using this)
      | str x t => exact PySem.P.repr_of_str (by have := fin s.heap s.toks (s.toks + 1) (fun _ _ z => z); simpa [PyData.shown] using this) (by simpa [PyData.shown] using c3)
      | list h1 h2 h3 h4 => exact repr_of_reads' (.list h1 h2 h3 h4) c1 (PyData.noDict_hsm c4) hg (by omega) (fun _ _ z => z) fin c3
      | tuple h1 h2 h3 h4 => exact repr_of_reads' (.tuple h1 h2 h3 h4) c1 (PyData.noDict_hsm c4) hg (by omega) (fun _ _ z => z) fin c3
      | dict h1 h2 h3 h4 h5 => simp [PyData.hasDict] at c4
    · split at q
      · have q : ∀ v, RD X.K F v (.str "{}") → Q v H := q
        cases d with
        | dic ks vs =>
          cases ks with
          | cons => simp [pyD] at e
          | nil =>
            cases vs with
            | cons => simp [pyD] at e
            | nil =>
              obtain ⟨a, kvs, e1, hd, r1, r2⟩ := rd
              subst e1
              cases ru
              cases kvs with
              | cons => exact r1.elim
              | nil =>
                obtain ⟨_, hsys, vs, kv, o, es, ep, ho, hx, hdat, hk, hp, _⟩ := (show ObjOk X.prog X.w H s.heap a (.dK []) from I.hok a _ hd)
                cases kv
                have e0 : es.toList = [] := by
                  cases q : es.toList with
                  | nil => rfl
                  | cons x l => rw [q] at hp; cases hp
                have z1 : ReadsAll s.heap (es.toList.map (·.key)) (([] : List (PyData × PyData)).map (·.1)) [] := by rw [e0]; exact .nil
                have z2 : ReadsAll s.heap (es.toList.map (·.val)) (([] : List (PyData × PyData)).map (·.2)) [] := by rw [e0]; exact .nil
                have hs0 : (PyData.dict []).showable = true := by simp [PyData.showable, PyData.showableKv]
                have hd0 : (PyData.dict []).depth = 1 := by simp [PyData.depth, PyData.depthKv]
                have ht0 : (PyData.dict []).shown = "{}" := by decide +kernel
                refine repr_of_reads' (.dict ho hx.1 hdat z1 z2) hs0 (fun _ hm => ?_) hg (by rw [hd0]; omega) (fun _ _ z => z) (fun h' t tk k => ?_) (by rw [ht0]; decide)
                · have hm : sysModules ∈ [a] := by simpa using hm
                  have z : sysModules = a := by simpa using hm
                  rw [← z] at hsys
                  simp at hsys
                · rw [ht0]
                  exact ⟨.str "{}", H, I.kept k, ⟨t, rfl⟩, q _ rfl⟩
        | _ => simp [pyD] at e <;> (first | cases e | (obtain ⟨_, _, z⟩ := e; cases z))
      · exact q.elim
  · exact q.elim
end DL
set_option maxRecDepth 100000
set_option maxHeartbeats 4000000
namespace DL
open PySem PySem.Spec PyProof.Rows L2
open AutoSeq1 (wpAny_loadPart')
section
variable {prog : Program} {w : World} {A : Around} {E : Value → Shared → Prop} {s : Shared} {R : Result → Shared → Prop} {y C : Addr}
theorem dec_tuple {l : Addr} {items : Array Value} {n : Nat} {dd : Option Addr} {sl : Array (Option Value)} (hl : s.heap.get? l = some { cls := .type "tuple", dict := dd, data := .seq items n, slots := sl })
    (LI : PySem.W.Looks (model prog w) s.heap (isInstance (.ref y) (.type "tuple")) false) (h : R (.ok (.ret .notImplemented)) s) :
    wpAny (model prog w) A.in1 (Builtin.«tuple.__eq__» ⟨[.ref l, .ref y], []⟩) (GQ.FinOf prog w A R) (fun e s' => R (.error e) s') s := by
  obtain ⟨hp, g, d, tk, os⟩ := s
  wp_walk using wpAny_loadPart' hl, LI.here
  exact h
theorem dec_list {l : Addr} {items : Array Value} {n : Nat} {dd : Option Addr} {sl : Array (Option Value)} (hl : s.heap.get? l = some { cls := .type "list", dict := dd, data := .seq items n, slots := sl })
    (LI : PySem.W.Looks (model prog w) s.heap (isInstance (.ref y) (.type "list")) false) (h : R (.ok (.ret .notImplemented)) s) :
    wpAny (model prog w) A.in1 (Builtin.«list.__eq__» ⟨[.ref l, .ref y], []⟩) (GQ.FinOf prog w A R) (fun e s' => R (.error e) s') s := by
  obtain ⟨hp, g, d, tk, os⟩ := s
  wp_walk using wpAny_loadPart' hl, LI.here
  exact h
theorem dec_none (h : R (.ok (.ret .notImplemented)) s) :
    wpAny (model prog w) A.in1 (Builtin.«NoneType.__eq__» ⟨[.none, .ref y], []⟩) (GQ.FinOf prog w A R) (fun e s' => R (.error e) s') s := by
  obtain ⟨hp, g, d, tk, os⟩ := s
  wp_walk
  exact h
theorem dec_int {i : Int} {t : Tok} {oy : Obj} (hy : s.heap.get? y = some oy) (hd : oy.data = .plain) (h : R (.ok (.ret .notImplemented)) s) :
    wpAny (model prog w) A.in1 (Builtin.«int.__eq__» ⟨[.int i t, .ref y], []⟩) (GQ.FinOf prog w A R) (fun e s' => R (.error e) s') s := by
  obtain ⟨oc, od, oda, osl⟩ := oy
  dsimp only at hd
  subst hd
  obtain ⟨hp, g, d, tk, os⟩ := s
  wp_walk using wpAny_loadPart' hy, wpAny_load hy
  exact h
theorem dec_bool {b : Bool} {oy : Obj} (hy : s.heap.get? y = some oy) (hd : oy.data = .plain) (h : R (.ok (.ret .notImplemented)) s) :
    wpAny (model prog w) A.in1 (Builtin.«int.__eq__» ⟨[.bool b, .ref y], []⟩) (GQ.FinOf prog w A R) (fun e s' => R (.error e) s') s := by
  obtain ⟨oc, od, oda, osl⟩ := oy
  dsimp only at hd
  subst hd
  obtain ⟨hp, g, d, tk, os⟩ := s
  wp_walk using wpAny_loadPart' hy, wpAny_load hy
  exact h
theorem dec_str {x : Str} {t : Tok} {oy : Obj} (hy : s.heap.get? y = some oy) (hd : oy.data = .plain) (h : R (.ok (.ret .notImplemented)) s) :
    wpAny (model prog w) A.in1 (Builtin.«str.__eq__» ⟨[.str x t, .ref y], []⟩) (GQ.FinOf prog w A R) (fun e s' => R (.error e) s') s := by
  obtain ⟨oc, od, oda, osl⟩ := oy
  dsimp only at hd
  subst hd
  obtain ⟨hp, g, d, tk, os⟩ := s
  wp_walk using wpAny_loadPart' hy, wpAny_load hy
  exact h
theorem dec_dict {l : Addr} {ob : Obj} {es : Array DictEntry} {ep : Nat} (hl : s.heap.get? l = some ob) (hd : ob.data = .dict es ep)
    (LI : PySem.W.Looks (model prog w) s.heap (isInstance (.ref y) (.type "dict")) false) (h : R (.ok (.ret .notImplemented)) s) :
    wpAny (model prog w) A.in1 (Builtin.«dict.__eq__» ⟨[.ref l, .ref y], []⟩) (GQ.FinOf prog w A R) (fun e s' => R (.error e) s') s := by
  obtain ⟨oc, od, oda, osl⟩ := ob
  dsimp only at hd
  subst hd
  obtain ⟨hp, g, d, tk, os⟩ := s
  wp_walk using wpAny_loadPart' hl, wpAny_load hl, LI.here
  exact h
end
section
variable {prog : Program} {w : World} {A : Around} {E : Value → Shared → Prop} {s : Shared} {K : PySem.W.Frag} {x y C f : Addr} {ox oy : Obj} {od : Option Obj} {b : Value} {tb : Value}
theorem decl_call {T : String} {id : String} {a : Value} {B : Builtin} {Q : Value → Shared → Prop} (slot : Slot T (cmpInfo .Eq).2.1 id) (ha : s.TypeIs a T) (entry : entryFor table id = some B) (args : argsOk id ⟨[a, b], []⟩)
    (dec : ∀ R : Result → Shared → Prop, R (.ok (.ret .notImplemented)) s → wpAny (model prog w) A.in1 (B ⟨[a, b], []⟩) (GQ.FinOf prog w A R) (fun e s' => R (.error e) s') s) (q : Q .notImplemented s) : wpAny (model prog w) A (call (.builtin id) [a, b]) Q E s :=
  GQ.call_here slot ha entry args (dec _ q)
theorem rc_ownR {T id : String} {a : Value} {Q : Value → Shared → Prop} (ha : s.TypeIs a T) (X : K.In s.heap) (I : PySem.W.InstAt s.heap y oy C od) (slot : Slot T (cmpInfo .Eq).2.1 id) (hsub : PySem.W.subIn K (.ref C) (.type T) = some false)
    (dec : ∀ Q' : Value → Shared → Prop, Q' .notImplemented s → wpAny (model prog w) A (call (.builtin id) [a, .ref y]) Q' E s) (hs : PySem.W.findIn K (.ref C) "__eq__" = some (some (.ref f))) (hf : PySem.W.isFn K (.ref f) = true) (hu : A.units < cLine)
    (h : wpAny (model prog w) A (call (.ref f) [.ref y, a]) (PySem.W.CmpBack Q) E s) : wpAny (model prog w) A (richCompare .Eq a (.ref y)) Q E s := by
  have one : wpAny (model prog w) A (tryCompare (.ref y) "__eq__" a) (fun r s' => ∃ v, r = some v ∧ Q v s') E s := by
    unfold tryCompare
    refine wpAny_bind (PySem.W.ifBound_K X I hs hf (wpAny_mono h (fun v s' hv => ?_) fun _ _ e => e))
    cases v <;> first | exact hv.elim | exact wpAny_pure ⟨_, rfl, hv⟩
  have slot : Slot T "__eq__" id := slot
  have hne : (Value.type T != Value.ref C) = true := by
    rw [bne_iff_ne]
    exact fun z => nomatch z
  have hi : cmpInfo CmpOp.Eq = (("==" : String), ("__eq__" : Str), ("__eq__" : Str)) := rfl
  simp only [richCompare, hi, ha.oneThing_none]
  refine wpAny_holding (wpAny_bind (wpAny_cRoomFor hu ?_))
  refine wpAny_bind (wpAny_typeOf ha (wpAny_bind (I.type.here ?_)))
  simp only [hne, if_true]
  refine wpAny_bind ((PySem.W.looks_subIn X hsub).here ?_)
  simp only [Bool.false_eq_true, if_false, Bool.not_false, if_true]
  refine wpAny_bind (m := tryCompare a _ (.ref y)) (wpAny_tryCompare_declines ha slot (dec _ ⟨rfl, ?_⟩))
  refine wpAny_bind (m := tryCompare (.ref y) _ a) (wpAny_mono one (fun r s' z => ?_) fun _ _ e => e)
  obtain ⟨v, rfl, hq⟩ := z
  exact wpAny_pure hq
theorem ifBound_B {M : Model} {args : List Value} {name : Str} {id : String} {Q : Option Value → Shared → Prop} (X : K.In s.heap) (I : PySem.W.InstAt s.heap x ox C od) (hs : PySem.W.findIn K (.ref C) name = some (some (.builtin id)))
    (hb : ∀ self, bindSpecial (.builtin id) self = pure (.builtin id, [self])) (h : wpAny M A (call (.builtin id) (.ref x :: args)) (fun v => Q (some v)) E s) : wpAny M A (callSpecialIfBound? (.ref x) name args) Q E s := by
  simp only [callSpecialIfBound?, bindSpecialIfBound?]
  refine wpAny_holding (wpAny_bind (wpAny_bind (wpAny_bind (I.type.here ((PySem.W.looks_findIn X hs).here ?_)))))
  refine wpAny_bind (wpAny_askSetting (wpAny_ite ?_))
  have fin : wpAny M A (call (.builtin id) ([.ref x] ++ args) >>= fun v => pure (some v)) Q E s := wpAny_bind (wpAny_mono h (fun v s' z => wpAny_pure z) fun _ _ z => z)
  rw [hb]
  split
  · exact wpAny_bind (wpAny_pure (wpAny_pure (by exact fin)))
  · exact wpAny_tryCatch (wpAny_bind (wpAny_pure (wpAny_pure (by exact fin))))
theorem rc_ownNe {Q : Value → Shared → Prop} (X : K.In s.heap) (I : PySem.W.InstAt s.heap x ox C od) (hb : PySem.W.Looks (model prog w) s.heap (typeOf b) tb) (hn : PySem.W.notFirst K C tb = true) (hm : PySem.W.mroIn K C (.type "object") = some true)
    (hne : PySem.W.findIn K (.ref C) "__ne__" = some (some (.builtin "object.__ne__"))) (hs : PySem.W.findIn K (.ref C) "__eq__" = some (some (.ref f))) (hf : PySem.W.isFn K (.ref f) = true) (hu : A.units + 1 < cLine)
    (h : wpAny (model prog w) A.in1 (call (.ref f) [.ref x, b]) (fun v s' => ∃ r, v = .bool r ∧ Q (.bool (!r)) s') E s) : wpAny (model prog w) A (richCompare .NotEq (.ref x) b) Q E s := by
  have body : wpAny (model prog w) A (call (.builtin "object.__ne__") [.ref x, b]) (fun v s' => v ≠ .notImplemented ∧ Q v s') E s := by
    have sub : PySem.W.Looks (model prog w) s.heap (isInstance (.ref x) (.type "object")) true := I.type.andThen (PySem.W.looks_mroIn X hm)
    refine wpAny_call (codeAny_call_builtin PySem.F.slot_object_ne.plain PySem.F.entry_object_ne (@PySem.W.check_slot (model prog w) _ _ s "object.__ne__" "object" "__ne__" (.ref x) [b] [] _ (by decide +kernel) (by decide +kernel) sub (PySem.F.args_object_ne_2 (.ref x) b) ?_))
    have go : ∀ {Q' : Option Value → Shared → Prop} {E' : Value → Shared → Prop}, (∀ r s', Q (.bool (!r)) s' → Q' (some (.bool r)) s') → (∀ e s', E e s' → E' e s') → wpAny (model prog w) A.in1 (callSpecialIfBound? (.ref x) "__eq__" [b]) Q' E' s := fun hq he =>
      PySem.W.ifBound_K X I hs hf (wpAny_mono h (fun v s' ⟨r, e, q⟩ => by subst e; exact hq r s' q) he)
    unfold Builtin.«object.__ne__»
    refine wpAny_bind (wpAny_of_eq (a := ((Value.ref x : Value), [b])) (by first | rfl | (simp only [slotArgs]; rfl)) ?_)
    refine wpAny_bind (wpAny_cRoomFor (by show A.units + 1 < cLine; exact hu) ?_)
    refine wpAny_bind (go (fun r s' q => ?_) fun e s' q => q)
    refine wpAny_bind (wpAny_truthy_bool ?_)
    exact wpAny_pure ⟨(fun z => nomatch z), q⟩
  have one : wpAny (model prog w) A (tryCompare (.ref x) "__ne__" b) (fun r s' => ∃ v, r = some v ∧ Q v s') E s := by
    unfold tryCompare
    refine wpAny_bind (ifBound_B X I hne PySem.F.slot_object_ne.bind (wpAny_mono body (fun v s' hv => ?_) fun _ _ e => e))
    obtain ⟨h1, h2⟩ := hv
    cases v <;> first | exact absurd rfl h1 | exact wpAny_pure ⟨_, rfl, h2⟩
  have hi : cmpInfo CmpOp.NotEq = (("!=" : String), ("__ne__" : Str), ("__ne__" : Str)) := rfl
  unfold richCompare
  simp only [oneThing_ref, hi]
  refine wpAny_holding (wpAny_bind (wpAny_cRoomFor (by omega) ?_))
  refine wpAny_bind (I.type.here (wpAny_bind (hb.here ?_)))
  split
  · rename_i q
    have e : PySem.W.subIn K tb (.ref C) = some false := by
      rcases Bool.or_eq_true_iff.mp hn with e | e
      · rw [beq_iff_eq.mp e] at q; simp at q
      · exact beq_iff_eq.mp e
    refine wpAny_bind ((PySem.W.looks_subIn X e).here ?_)
    simp only [Bool.false_eq_true, if_false]
    refine wpAny_bind (wpAny_mono one (fun r s' z => ?_) fun _ _ e => e)
    obtain ⟨v, rfl, hq⟩ := z
    exact wpAny_pure hq
  · refine wpAny_bind (wpAny_pure ?_)
    simp only [Bool.false_eq_true, if_false]
    refine wpAny_bind (wpAny_mono one (fun r s' z => ?_) fun _ _ e => e)
    obtain ⟨v, rfl, hq⟩ := z
    exact wpAny_pure hq
end
end DL
set_option maxRecDepth 100000
set_option maxHeartbeats 4000000
namespace DL
open PySem PySem.Spec PyProof.Rows L2
structure EqC (X : Cx) (hot : Bool) (C f : Addr) (oth : List Addr) (k : Nat) (fd : FuncData) (ps : List Str) (g : Pn → FG) : Prop where
  it : InsT X.K C
  eq : PySem.W.findIn X.K (.ref C) "__eq__" = some (some (.ref f))
  fn : PySem.W.isFn X.K (.ref f) = true
  ne : PySem.W.findIn X.K (.ref C) "__ne__" = some (some (.builtin "object.__ne__"))
  sub : ∀ T ∈ dTys, PySem.W.subIn X.K (.ref C) (.type T) = some false
  nf : ∀ T ∈ dTys, PySem.W.notFirst X.K C (.type T) = true
  nfo : ∀ D ∈ oth, PySem.W.notFirst X.K C (.ref D) = true ∧ InsT X.K D
  F : FnM hot X.prog X.w X.K X.mg X.base k f fd ps (spG X.K ps.length g)
  B : BnD X.K fd ps 2 [] [.arg 0, .arg 1]
inductive BL (K : PySem.W.Frag) (H : Hp) : V → Prop where
  | non : BL K H .non
  | bl (b : Bool) : BL K H (.bl b)
  | int (i : Int) : BL K H (.int i)
  | str (x : Str) : BL K H (.str x)
  | tup {a : Addr} {xs : List V} (h : SqT K H a xs) : BL K H (.ref a)
  | lst {a : Addr} {xs : List V} (h : SqL K H a xs) : BL K H (.ref a)
  | dic {a : Addr} {kvs : List (Key × V)} (h : H a = some (.dK kvs)) : BL K H (.ref a)
theorem notNI {v : V} {u : Value} (r : RelV v u) : u ≠ .notImplemented := fun z => by
  subst z
  cases v <;> first | (cases r; done) | (obtain ⟨t, q⟩ := r; cases q; done) | (obtain ⟨t, q, _⟩ := r; cases q; done) | exact (nomatch r)
section
variable {X : Cx} {hot : Bool} {p : Pn} {C f : Addr} {oth : List Addr} {k : Nat} {fd : FuncData} {ps : List Str} {g : Pn → FG} {pins : List (Addr × Obj)} {σ : L2.St} {H : Hp} {s : Shared}
theorem cmpBack {Q : VK} {A : Around} {t : Sem Value} (h : wpAny (model X.prog X.w) A t (EP X pins σ Q) X.xe s) : wpAny (model X.prog X.w) A t (PySem.W.CmpBack (EP X pins σ Q)) X.xe s := wpAny_mono h (fun u s' q => by
  obtain ⟨v, H', I, r, z⟩ := q
  have n := notNI r
  cases u <;> first | exact absurd rfl n | exact ⟨v, H', I, r, z⟩) fun _ _ z => z
theorem own_run {u : Nat} {a b : Value} {x y : V} {Q : VK} (Z : EqC X hot C f oth k fd ps g) (hr : Rm hot (k + 1) X.A) (hh : HotX hot X p) (hu : u ≤ 16) (I : Inv X pins σ H s) (rx : RelV x a) (ry : RelV y b) (h : spG X.K ps.length g p [x, y] H Q (fun _ _ _ => False)) :
    wpAny (model X.prog X.w) (upU u X.A) (call (.ref f) [a, b]) (EP X pins σ Q) X.xe s := by
  obtain ⟨us', hb, hv⟩ := Z.B.to s [a, b] [] I.kIn rfl rfl
  obtain ⟨vs', a1, a2⟩ := hv [x, y] [] (.cons rx (.cons ry .nil)) .nil
  have ev : [x, y] = vs' := by
    have a1 : some [x, y] = some vs' := a1
    cases a1
    rfl
  subst ev
  exact run_fnU (W := noW) Z.F hr hu hh takes_no I hb a2 h
theorem own_looks {b : Value} {y : V} {tb : Value} (I : Inv X pins σ H s) (ry : RelV y b) (ty : TyX X.K H y tb) : PySem.W.Looks (model X.prog X.w) s.heap (typeOf b) tb := by
  obtain ⟨P, Z, q, _⟩ := kit_of I ry ty
  exact Z.ty _ _ I.kIn q
def rOwnL (X : Cx) (C : Addr) (n : Nat) (g : Pn → FG) (p : Pn) (neg : Bool) : R2 := fun x y H Q => ∃ a dx fs tb, x = .ref a ∧ H a = some (.ins C dx fs) ∧ TyX X.K H y tb ∧ PySem.W.notFirst X.K C tb = true ∧
  spG X.K n g p [x, y] H (if neg then fun v H' => ∃ b, v = .bl b ∧ Q (.bl (!b)) H' else Q) (fun _ _ _ => False)
def rOwnR (X : Cx) (C : Addr) (n : Nat) (g : Pn → FG) (p : Pn) : R2 := fun x y H Q => ∃ a dx fs, y = .ref a ∧ H a = some (.ins C dx fs) ∧ BL X.K H x ∧ spG X.K n g p [y, x] H Q (fun _ _ _ => False)
theorem op_ownL (Z : EqC X hot C f oth k fd ps g) (hr : Rm hot (k + 1) X.A) (hh : HotX hot X p) : OpR X (compareOp .Eq) (rOwnL X C ps.length g p false) := by
  rintro pins s σ H x y v u Q I rx ry ⟨a, dx, fs, tb, rfl, ha, ty, nf, sp⟩
  show wpAny (model X.prog X.w) X.A (richCompare .Eq v u) (EP X pins σ Q) X.xe s
  cases (show v = Value.ref a from rx)
  obtain ⟨mA, O, _⟩ := ins_get I.hok ha
  obtain ⟨od, J, _⟩ := O.look
  obtain ⟨m, hF⟩ := I.fr
  refine PySem.W.cmp_K (op := .Eq) (tb := tb) (by have := hr.un; omega) hF I.ok.mod.kin J (own_looks I ry ty) nf Z.eq Z.fn ?_
  exact cmpBack (own_run (u := 0) Z hr hh (by omega) I rx ry sp)
theorem op_ownNe (Z : EqC X hot C f oth k fd ps g) (hr : Rm hot (k + 1) X.A) (hh : HotX hot X p) : OpR X (compareOp .NotEq) (rOwnL X C ps.length g p true) := by
  rintro pins s σ H x y v u Q I rx ry ⟨a, dx, fs, tb, rfl, ha, ty, nf, sp⟩
  show wpAny (model X.prog X.w) X.A (richCompare .NotEq v u) (EP X pins σ Q) X.xe s
  cases (show v = Value.ref a from rx)
  obtain ⟨mA, O, _⟩ := ins_get I.hok ha
  obtain ⟨od, J, _⟩ := O.look
  refine rc_ownNe I.kIn J (own_looks I ry ty) nf Z.it.hm Z.ne Z.eq Z.fn (by have := hr.un; omega) ?_
  refine wpAny_mono (own_run (u := 1) Z hr hh (by omega) I rx ry sp) (fun r s' q => ?_) fun _ _ z => z
  obtain ⟨w, H', I', r', b, e, q⟩ := q
  subst e
  cases (show r = Value.bool b from r')
  exact ⟨b, rfl, .bl (!b), H', I', rfl, q⟩
theorem op_ownR (Z : EqC X hot C f oth k fd ps g) (hr : Rm hot (k + 1) X.A) (hh : HotX hot X p) : OpR X (compareOp .Eq) (rOwnR X C ps.length g p) := by
  rintro pins s σ H x y v u Q I rx ry ⟨a, dx, fs, rfl, ha, bl, sp⟩
  show wpAny (model X.prog X.w) X.A (richCompare .Eq v u) (EP X pins σ Q) X.xe s
  cases (show u = Value.ref a from ry)
  obtain ⟨mA, O, _⟩ := ins_get I.hok ha
  obtain ⟨od, J, _⟩ := O.look
  have hu : X.A.units < cLine := by have := hr.un; omega
  have run := cmpBack (own_run (u := 0) Z hr hh (by omega) I ry rx sp)
  have sub := fun T hT => Z.sub T hT
  have notI : ∀ T, PySem.W.subIn X.K (.ref C) (.type T) = some false → PySem.W.Looks (model X.prog X.w) s.heap (isInstance (.ref a) (.type T)) false := fun T h => J.type.andThen (PySem.W.looks_subIn I.kIn h)
  have pl : (PySem.W.instObj C dx).data = .plain := rfl
  obtain ⟨_, _, _, hget, _⟩ := (show ObjOk X.prog X.w H s.heap a (.ins C dx fs) from I.hok a _ ha)
  cases bl with
  | non =>
    cases (show v = Value.none from rx)
    exact rc_ownR (typeIs_none s) I.kIn J PySem.F.slot_NoneType_eq (sub "NoneType" (by decide)) (fun Q' q => decl_call PySem.F.slot_NoneType_eq (typeIs_none s) PySem.F.entry_NoneType_eq (PySem.F.args_NoneType_eq_2 _ _) (fun R h => dec_none h) q) Z.eq Z.fn hu run
  | bl b =>
    cases (show v = Value.bool b from rx)
    exact rc_ownR (PySem.typeIs_bool s b) I.kIn J PySem.F.slot_bool_eq (sub "bool" (by decide)) (fun Q' q => decl_call PySem.F.slot_bool_eq (PySem.typeIs_bool s b) PySem.F.entry_int_eq (PySem.F.args_int_eq_2 _ _) (fun R h => dec_bool hget pl h) q) Z.eq Z.fn hu run
  | int i =>
    obtain ⟨t, rfl⟩ := (show ∃ t, v = Value.int i t from rx)
    exact rc_ownR (typeIs_int s i t) I.kIn J PySem.F.slot_int_eq (sub "int" (by decide)) (fun Q' q => decl_call PySem.F.slot_int_eq (typeIs_int s i t) PySem.F.entry_int_eq (PySem.F.args_int_eq_2 _ _) (fun R h => dec_int hget pl h) q) Z.eq Z.fn hu run
  | str z =>
    obtain ⟨t, rfl⟩ := (show ∃ t, v = Value.str z t from rx)
    exact rc_ownR (typeIs_str s z t) I.kIn J PySem.F.slot_str_eq (sub "str" (by decide)) (fun Q' q => decl_call PySem.F.slot_str_eq (typeIs_str s z t) PySem.F.entry_str_eq (PySem.F.args_str_eq_2 _ _) (fun R h => dec_str hget pl h) q) Z.eq Z.fn hu run
  | @tup b xs h =>
    cases (show v = Value.ref b from rx)
    obtain ⟨its, _, ⟨⟨oc, od2, da, sl⟩, ho, hc, n, hd⟩, _⟩ := I.tuple h
    simp only at hc hd
    subst hc hd
    exact rc_ownR ⟨_, ho, rfl⟩ I.kIn J PySem.F.slot_tuple_eq (sub "tuple" (by decide)) (fun Q' q => decl_call PySem.F.slot_tuple_eq ⟨_, ho, rfl⟩ PySem.F.entry_tuple_eq (PySem.F.args_tuple_eq_2 _ _) (fun R h => dec_tuple ho (notI "tuple" (sub "tuple" (by decide))) h) q) Z.eq Z.fn hu run
  | @lst b xs h =>
    cases (show v = Value.ref b from rx)
    obtain ⟨its, _, ⟨⟨oc, od2, da, sl⟩, n, ho, hc, _, hd⟩, _⟩ := I.list h
    simp only at hc hd
    subst hc hd
    exact rc_ownR ⟨_, ho, rfl⟩ I.kIn J PySem.F.slot_list_eq (sub "list" (by decide)) (fun Q' q => decl_call PySem.F.slot_list_eq ⟨_, ho, rfl⟩ PySem.F.entry_list_eq (PySem.F.args_list_eq_2 _ _) (fun R h => dec_list ho (notI "list" (sub "list" (by decide))) h) q) Z.eq Z.fn hu run
  | @dic b kvs h =>
    cases (show v = Value.ref b from rx)
    obtain ⟨_, _, vs, _, o, es, ep, ho, hx, hdat, _⟩ := (show ObjOk X.prog X.w H s.heap b (.dK kvs) from I.hok b _ h)
    exact rc_ownR ⟨_, ho, hx.1⟩ I.kIn J PySem.F.slot_dict_eq (sub "dict" (by decide)) (fun Q' q => decl_call PySem.F.slot_dict_eq ⟨_, ho, hx.1⟩ PySem.F.entry_dict_eq (PySem.F.args_dict_eq_2 _ _) (fun R h => dec_dict ho hdat (notI "dict" (sub "dict" (by decide))) h) q) Z.eq Z.fn hu run
end

def isIns : D → Bool
  | .ins _ _ _ => true
  | .scr _ => true
  | _ => false
def okR (C : Addr) (oth : List Addr) : D → Bool
  | .ins D _ _ => D == C || oth.contains D
  | .scr _ => false
  | _ => true
def neRes (o : Ot Itm) : Ot Itm := match o with
  | .ok (.d (.bl b)) st => .ok (.d (.bl (!b))) st
  | _ => .bad
def cmpC (C : Addr) (oth : List Addr) (g : FG) (neg : Bool) (ia ib : Itm) (st : Sls) : Ot Itm := match view st ia, view st ib with
  | some (.ins C' fs ds), some y => if C' = C ∧ okR C oth y = true then (if neg then neRes (callG g [ia, ib] st) else noExc (callG g [ia, ib] st)) else .bad
  | some x, some (.ins C' fs ds) => if C' = C ∧ isIns x = false ∧ neg = false then noExc (callG g [ib, ia] st) else .bad
  | some x, some y => ((if neg then gNe else gEq) x y).out st
  | _, _ => .bad
def fCmpC (C : Addr) (oth : List Addr) (g : FG) (neg : Bool) (fa fb : FE) : FE := fun st => (fa st).bind fun ia s1 => (fb s1).bind fun ib s2 => cmpC C oth g neg ia ib s2
section
variable {X : Cx} {W : WX} {hot : Bool} {p : Pn} {C f : Addr} {oth : List Addr} {k : Nat} {fd : FuncData} {ps : List Str} {g : Pn → FG} {a b : Expr} {fa fb : FE} {pos : Pos}
theorem bl_of {K : PySem.W.Frag} {F H : Hp} {v : V} {d : D} (s : Same F H) (r : RW K F H v d) (h : isIns d = false) : BL K H v := by
  cases d with
  | non => rw [rw_non r]; exact .non
  | bl b => rw [rw_bl r]; exact .bl b
  | int i => rw [rw_int r]; exact .int i
  | str x => rw [rw_str r]; exact .str x
  | tup ds =>
    obtain ⟨a, xs, e1, h1, _⟩ := rw_tup r
    rw [e1]
    exact .tup (h1.mono s).sq
  | lst ds =>
    obtain ⟨a, xs, e1, h1, _⟩ := rw_lst s r
    rw [e1]
    exact .lst (SqL.of h1)
  | dic ks vs =>
    obtain ⟨a, kvs, e1, h1, _⟩ := rw_dic s r
    rw [e1]
    exact .dic h1
  | ins => cases h
  | scr => cases h
theorem okR_ty {K : PySem.W.Frag} {d : D} (h : okR C oth d = true) : ∃ t, tyD d = some t ∧ ((∃ T ∈ dTys, t = .type T) ∨ t = .ref C ∨ ∃ D ∈ oth, t = .ref D) := by
  cases d with
  | non => exact ⟨_, rfl, .inl ⟨_, by decide, rfl⟩⟩
  | bl b => exact ⟨_, rfl, .inl ⟨_, by decide, rfl⟩⟩
  | int i => exact ⟨_, rfl, .inl ⟨_, by decide, rfl⟩⟩
  | str x => exact ⟨_, rfl, .inl ⟨_, by decide, rfl⟩⟩
  | tup ds => exact ⟨_, rfl, .inl ⟨_, by decide, rfl⟩⟩
  | lst ds => exact ⟨_, rfl, .inl ⟨_, by decide, rfl⟩⟩
  | dic ks vs => exact ⟨_, rfl, .inl ⟨_, by decide, rfl⟩⟩
  | ins D fs ds =>
    have h : (D == C || oth.contains D) = true := h
    rw [Bool.or_eq_true] at h
    rcases h with h | h
    · exact ⟨_, rfl, .inr (.inl (by rw [beq_iff_eq.mp h]))⟩
    · exact ⟨_, rfl, .inr (.inr ⟨D, List.contains_iff_mem.mp h, rfl⟩)⟩
  | scr ns => cases h
theorem two_ix {K : PySem.W.Frag} {H0 H1 F1 F H : Hp} {σ : L2.St} {s1 st : Sls} {x y : V} {ia ib : Itm} (r1 : RI K H0 F1 H1 σ s1 x ia) (p2 : Stp K σ F1 H1 s1 σ F H st) (hb : ∀ a, H0 a ≠ none → H1 a ≠ none) (r2 : RI K H1 F H σ st y ib) : RIx K H0 F H σ st [x, y] [ia, ib] ∧ RIx K H0 F H σ st [y, x] [ib, ia] := by
  have r1' := r1.step p2
  have r2' := r2.back hb
  have dist : ∀ m m', ia = .own m → ib = .own m' → x ≠ y := fun m m' e1 e2 z => by
    subst e1 e2
    obtain ⟨q, e3, _, _, _, rm⟩ := r1
    obtain ⟨q', e4, h4, _⟩ := r2
    rw [e3, e4] at z
    cases z
    exact rm.there h4
  constructor
  · exact RIs.ix (show RIs K H0 F H σ st [x, y] [ia, ib] from ⟨r1', fun m hm w m' hw z => by
      have hw : (w, Itm.own m') ∈ [(y, ib)] := hw
      simp only [List.mem_singleton, Prod.mk.injEq] at hw
      exact dist m m' hm hw.2.symm (by rw [← z, hw.1]), r2', fun m hm w m' hw => by simp at hw, trivial⟩)
  · exact RIs.ix (show RIs K H0 F H σ st [y, x] [ib, ia] from ⟨r2', fun m hm w m' hw z => by
      have hw : (w, Itm.own m') ∈ [(x, ia)] := hw
      simp only [List.mem_singleton, Prod.mk.injEq] at hw
      exact dist m' m hw.2.symm hm (by rw [← z, hw.1]), r1', fun m hm w m' hw => by simp at hw, trivial⟩)
theorem cmpC_go (Z : EqC X hot C f oth k fd ps g) {neg : Bool} {σ : L2.St} {H : Hp} {Q : VK} {r0 : R2} (h0 : ∀ F H x y dx dy Q, Same F H → RW X.K F H x dx → RW X.K F H y dy → ResOk X.K F H ((if neg then gNe else gEq) dx dy) Q → r0 x y H Q)
    (h : tE X.K W (fCmpC C oth (g p) neg fa fb) σ H Q) : tOp (fun x y H Q => rOwnL X C ps.length g p neg x y H Q ∨ ((neg = false ∧ rOwnR X C ps.length g p x y H Q) ∨ r0 x y H Q)) (tE X.K W fa) (tE X.K W fb) σ H Q := by
  obtain ⟨F, st, R, g0⟩ := h
  refine ⟨F, st, R, (Go.bind g0).imp fun ia F1 H1 s1 p1 g1 v1 r1 => ?_⟩
  refine ⟨F1, s1, p1.rel, ((Go.bind g1).shift p1 fun ib F2 H2 s2 p2 p02 g2 => g2).imp fun ib F2 H2 s2 p2 g2 v2 r2 => ?_⟩
  have p02 := p1.trans p2
  have r1' := r1.step p2
  obtain ⟨x1, x2⟩ := two_ix r1 p2 p1.there r2
  have hlen : ps.length = 2 := Z.B.len.symm
  unfold cmpC at g2
  split at g2
  · rename_i C' fs ds y e1 e2
    split at g2
    · rename_i c
      obtain ⟨ec, ok⟩ := c
      subst ec
      obtain ⟨a, dx, xs, e3, h3, n3, r3⟩ := rw_ins p2.rel.sub (view_ok p2.rel r1' e1)
      obtain ⟨t, ht, hk⟩ := okR_ty (K := X.K) ok
      have hins : ∀ D, t = .ref D → InsT X.K D := fun D hD => by
        rcases hk with ⟨T, _, e⟩ | e | ⟨D', hD', e⟩
        · rw [hD] at e; cases e
        · rw [hD] at e; cases e; exact Z.it
        · rw [hD] at e; cases e; exact (Z.nfo _ hD').2
      have hnf : PySem.W.notFirst X.K C' t = true := by
        rcases hk with ⟨T, hT, e⟩ | e | ⟨D', hD', e⟩
        · rw [e]; exact Z.nf T hT
        · rw [e]; simp [PySem.W.notFirst]
        · rw [e]; exact (Z.nfo _ hD').1
      refine .inl ⟨a, dx, xs, t, e3, h3, tyX_of p2.rel.sub (view_ok p2.rel r2 e2) ht hins, hnf, hlen.symm, ?_⟩
      cases neg with
      | false =>
        have g2 : Go X.K W σ F H st (noExc (callG (g p) [ia, ib] s2)) (fun it F' H' st' => ∀ v, RI X.K H F' H' σ st' v it → Q v H') := g2
        exact call_go (W := noW) p02 x1 g2.noExc
      | true =>
        have g2 : Go X.K W σ F H st (neRes (callG (g p) [ia, ib] s2)) (fun it F' H' st' => ∀ v, RI X.K H F' H' σ st' v it → Q v H') := g2
        refine call_go (W := noW) (Q := fun v H' => ∃ b, v = .bl b ∧ Q (.bl (!b)) H') p02 x1 ?_
        unfold neRes at g2
        split at g2
        · rename_i b st' e5
          rw [e5]
          intro F' H' s' v rv
          exact ⟨b, rv, g2 F' H' s' _ rfl⟩
        · exact g2.elim
    · exact g2.elim
  · rename_i x C' fs ds hx e1 e2
    split at g2
    · rename_i c
      obtain ⟨ec, hb, hn⟩ := c
      subst ec hn
      obtain ⟨a, dx, xs, e3, h3, n3, r3⟩ := rw_ins p2.rel.sub (view_ok p2.rel r2 e2)
      exact .inr (.inl ⟨rfl, a, dx, xs, e3, h3, bl_of p2.rel.sub (view_ok p2.rel r1' e1) hb, hlen.symm, call_go (W := noW) p02 x2 g2.noExc⟩)
    · exact g2.elim
  · rename_i x y _ _ e1 e2
    exact .inr (.inr (h0 F2 H2 v1 v2 x y Q p2.rel.sub (view_ok p2.rel r1' e1) (view_ok p2.rel r2 e2) (res_ok p02 g2)))
  · exact g2.elim
theorem de_eqC (Z : EqC X hot C f oth k fd ps g) (hr : Rm hot (k + 1) X.A) (hh : HotX hot X p) (ha : DE X W a fa) (hb : DE X W b fb) (hm : behindInMarks .Eq b = false) : DE X W (.Compare a [.Eq] [b] pos) (fCmpC C oth (g p) false fa fb) := by
  obtain ⟨r0, o0, h0⟩ := os_eq (X := X) hr.un
  have op : OpR X (compareOp .Eq) (fun x y H Q => rOwnL X C ps.length g p false x y H Q ∨ ((false = false ∧ rOwnR X C ps.length g p x y H Q) ∨ r0 x y H Q)) := by
    intro pins s σ H x y v u Q I rx ry q
    rcases q with q | ⟨_, q⟩ | q
    · exact op_ownL Z hr hh pins s σ H x y v u Q I rx ry q
    · exact op_ownR Z hr hh pins s σ H x y v u Q I rx ry q
    · exact o0 pins s σ H x y v u Q I rx ry q
  exact PE.conseq (pe_cmpR op ha hb hm) fun σ H Q h => cmpC_go Z h0 h
theorem de_neC (Z : EqC X hot C f oth k fd ps g) (hr : Rm hot (k + 1) X.A) (hh : HotX hot X p) (ha : DE X W a fa) (hb : DE X W b fb) (hm : behindInMarks .NotEq b = false) : DE X W (.Compare a [.NotEq] [b] pos) (fCmpC C oth (g p) true fa fb) := by
  obtain ⟨r0, o0, h0⟩ := os_ne (X := X) hr.un
  have op : OpR X (compareOp .NotEq) (fun x y H Q => rOwnL X C ps.length g p true x y H Q ∨ ((true = false ∧ rOwnR X C ps.length g p x y H Q) ∨ r0 x y H Q)) := by
    intro pins s σ H x y v u Q I rx ry q
    rcases q with q | ⟨z, q⟩ | q
    · exact op_ownNe Z hr hh pins s σ H x y v u Q I rx ry q
    · cases z
    · exact o0 pins s σ H x y v u Q I rx ry q
  exact PE.conseq (pe_cmpR op ha hb hm) fun σ H Q h => cmpC_go Z h0 h
end
end DL
set_option maxRecDepth 100000
set_option maxHeartbeats 4000000
namespace DL
open PySem PySem.Spec PyProof.Rows L2
def putN (f : Str) : List Str → List Str
  | [] => [f]
  | g :: fs => if g = f then g :: fs else g :: putN f fs
def putD (f : Str) (x : D) : List Str → List D → List D
  | g :: fs, d :: ds => if g = f then x :: ds else d :: putD f x fs ds
  | _, _ => [x]
section
variable {K : PySem.W.Frag} {F : Hp} {f : Str} {y : V} {x : D}
theorem putN_ok : ∀ {xs : List (Str × V)}, ((putF f y xs).map fun q => q.1) = putN f (xs.map fun q => q.1)
  | [] => rfl
  | (g, v) :: xs => by
    unfold putF
    show ((if g = f then (g, y) :: xs else (g, v) :: putF f y xs).map fun q => q.1) = if g = f then g :: (xs.map fun q => q.1) else g :: putN f (xs.map fun q => q.1)
    split
    · rfl
    · rw [← putN_ok]
      rfl
theorem putD_ok (ry : RD K F y x) : ∀ {xs : List (Str × V)} {ds : List D}, RDs K F (xs.map fun q => q.2) ds → RDs K F ((putF f y xs).map fun q => q.2) (putD f x (xs.map fun q => q.1) ds)
  | [], [], _ => ⟨ry, trivial⟩
  | [], _ :: _, r => r.elim
  | (g, v) :: xs, [], r => r.elim
  | (g, v) :: xs, d :: ds, r => by
    unfold putF
    show RDs K F ((if g = f then (g, y) :: xs else (g, v) :: putF f y xs).map fun q => q.2) (if g = f then x :: ds else d :: putD f x (xs.map fun q => q.1) ds)
    split
    · exact ⟨ry, r.2⟩
    · exact ⟨r.1, putD_ok ry r.2⟩
end
def setF (C : Addr) (f : Str) (iv io : Itm) (st : Sls) : OtS := match io with
  | .ref j => (match frz iv st with
    | some (x, s3) => (match s3[j]? with
      | some (.own (.ins C' fs ds)) => if C' = C ∧ fs.length < 900 then .nx (s3.set j (.own (.ins C (putN f fs) (putD f x fs ds)))) else .bad
      | _ => .bad)
    | none => .bad)
  | _ => .bad
def fSetF (C : Addr) (f : Str) (fv fo : FE) : FS := fun st => (fv st).bindS fun iv s1 => (fo s1).bindS fun io s2 => setF C f iv io s2
section
variable {X : Cx} {W : WX} {o e : Expr} {f : Str} {pos pos' : Pos} {fv fo : FE} {C : Addr}
theorem ds_fldS (c : Cls X.K C) (n : NoAttr X.K C f) (ho : DE X W o fo) (hv : DE X W e fv) (hs : swapsWith e (some (.Attribute o f pos')) pos.line X.env = pure false := by rfl) : DS X W (.Assign [.Attribute o f pos'] e pos) [] (fSetF C f fv fo) := PS.conseq (ps_fld ho hv hs) fun D σ H q => by
  obtain ⟨F, st, R, g⟩ := q
  refine ⟨F, st, R, (GoS.ofBind g).imp fun iv F1 H1 s1 p1 g1 v rv => ?_⟩
  refine ⟨F1, s1, p1.rel, ((GoS.ofBind g1).shift p1 fun io F2 H2 s2 p2 p02 g2 => g2).imp fun io F2 H2 s2 p2 g2 ov ro => ?_⟩
  have p02 := p1.trans p2
  have rv2 := rv.step p2
  unfold setF at g2
  split at g2
  · rename_i j
    have ro : σ[j]? = some (some ov) := ro
    split at g2
    · rename_i x s3 ef
      obtain ⟨F3, p3, rd, sm, _, _⟩ := frz_ok p02 rv2 ef
      split at g2
      · rename_i C' fs ds e3
        split at g2
        · rename_i c2
          obtain ⟨ec, hl⟩ := c2
          subst ec
          obtain ⟨ov', h1, a, e4, fp, dx, xs, ha, hn, rds⟩ := p3.rel.at_ j _ e3
          rw [ro] at h1
          cases h1
          cases e4
          refine ⟨a, C', dx, xs, rfl, ha, c, n, by have := congrArg List.length hn; rw [List.length_map] at this; omega, ?_⟩
          refine g2 σ F3 _ (p3.mut e3 ro ⟨dx, putF f v xs, upd_same, ?_, ?_⟩) (Keeps.refl _ _)
          · rw [putN_ok, hn]
          · rw [← hn]
            exact putD_ok rd rds
        · exact g2.elim
      · exact g2.elim
    · exact g2.elim
  · exact g2.elim
end

def whF (fc : FT) (fb : FS) : Nat → FS
  | 0 => fun _ => .bad
  | n + 1 => fun st => (fc st).bindS fun b s1 => if b = true then goOn (whF fc fb n) (fb s1) else .nx s1
def fNever : FS := fun _ => .bad
def fAug (g : Int → Int → Int) (i : Nat) (fe : FE) : FS := fun st => match st[i]? with
  | some (.d (.int a)) => (fe st).bindS fun it s1 => (match view s1 it with
    | some (.int b) => .nx (s1.set i (.d (.int (g a b))))
    | _ => .bad)
  | _ => .bad
section
variable {X : Cx} {W : WX} {c e : Expr} {body : List Stmt} {a2 : List Nat} {fc : FT} {fb : FS} {fe : FE} {pos : Pos} {st : Stmt} {sts : List Stmt}
theorem ds_never : DS X W st [] fNever := ⟨fun _ _ _ _ _ _ h => by
  obtain ⟨F, st, R, g⟩ := h
  exact g.elim⟩
theorem dss_never : DSs X W sts [] fNever := ⟨fun _ _ _ _ _ _ h => by
  obtain ⟨F, st, R, g⟩ := h
  exact g.elim⟩
theorem ds_while (n : Nat) (hp : PassesOwn (model X.prog X.w) X.A X.env X.xe) (hc : DT X W c fc) (hb : DSs X W body a2 fb) : DS X W (.While c body [] pos) a2 (whF fc fb n) := PS.conseq (ps_while hp hc hb) fun D σ H q => by
  obtain ⟨F, st, R, q⟩ := q
  refine ⟨fun m σ' H' => ∃ F' st', Stp X.K σ F H st σ' F' H' st' ∧ Keeps a2 σ σ' ∧ GoS X.K W a2 σ F H st (whF fc fb m st') D, ⟨n, F, st, Stp.refl R, Keeps.refl _ _, q⟩, ?_⟩
  rintro m σ' H' ⟨F', st', s', k', g⟩
  cases m with
  | zero => exact g.elim
  | succ m =>
    have g : GoS X.K W a2 σ F H st ((fc st').bindS fun b s1 => if b = true then goOn (whF fc fb m) (fb s1) else .nx s1) D := g
    refine ⟨F', st', s'.rel, (GoS.ofBind (g.shift s' k' fun _ z => z)).with_eq.imp fun b F1 H1 s1 p1 g1 => ?_⟩
    obtain ⟨e0, g1⟩ := g1
    rw [e0] at g
    have s01 := s'.trans p1
    have kk : ∀ {σ3 : L2.St}, Keeps a2 σ' σ3 → Keeps a2 σ σ3 := fun q => k'.trans q (fun _ z => z) fun _ z => z
    cases b with
    | false =>
      refine Eq.mpr (if_neg Bool.false_ne_true) ?_
      exact g σ' F1 H1 s01 k'
    | true =>
      refine Eq.mpr (if_pos rfl) ?_
      have g : GoS X.K W a2 σ F H st (goOn (whF fc fb m) (fb s1)) D := g
      refine ⟨fun σ2 H2 => ∃ F' st', Stp X.K σ F H st σ2 F' H2 st' ∧ Keeps a2 σ σ2 ∧ GoS X.K W a2 σ F H st (whF fc fb m st') D, fun σ2 H2 z => ⟨m, Nat.lt_succ_self m, z⟩, F1, s1, p1.rel, ?_⟩
      cases eb : fb s1 with
      | nx s =>
        rw [eb] at g
        exact fun σ3 F3 H3 s3 k3 => ⟨F3, s, s01.trans s3, kk k3, g⟩
      | ct s =>
        rw [eb] at g
        exact fun σ3 F3 H3 s3 k3 => ⟨F3, s, s01.trans s3, kk k3, g⟩
      | bk s =>
        rw [eb] at g
        exact fun σ3 F3 H3 s3 k3 => g σ3 F3 H3 (s01.trans s3) (kk k3)
      | rt it s =>
        rw [eb] at g
        exact fun σ3 F3 H3 v s3 k3 r => g σ3 F3 H3 v (s01.trans s3) (kk k3) (r.back s01.there)
      | exc e s =>
        rw [eb] at g
        exact fun dd σ3 F3 H3 s3 k3 => g dd σ3 F3 H3 (s01.trans s3) (kk k3)
      | bad =>
        rw [eb] at g
        exact g.elim
theorem ds_aug (i : Nat) {x : Str} {pos' : Pos} (hN : X.N.Nodup) (hi : X.N[i]? = some x) (hx : Loc X.env.scope x) (he : DE X W e fe) (hf : X.fn x = true ∨ X.env.scope.names.lookup x = some .local := by first | exact .inl rfl | exact .inr rfl | assumption) :
    DS X W (.AugAssign (.Name x pos') .Add e pos) [i] (fAug (fun a b => a + b) i fe) := PS.conseq (ps_aug hN hi hx he ip_add hf) fun D σ H q => by
  obtain ⟨F, st, R, g⟩ := q
  unfold fAug at g
  split at g
  · rename_i a ea
    obtain ⟨ov, h1, v, e1, rd⟩ := R.at_ i _ ea
    subst e1
    have rd : v = .int a := rd
    subst rd
    refine ⟨.int a, h1, F, st, R, (GoS.ofBind g).imp fun it F1 H1 s1 p1 g1 w r => ?_⟩
    split at g1
    · rename_i b eb
      have ew := rw_int (view_ok p1.rel r eb)
      subst ew
      exact ⟨a, b, rfl, rfl, g1 _ F1 H1 (p1.store (x := .int (a + b)) rfl) (Keeps.set σ i _)⟩
    · exact g1.elim
  · exact g.elim
end
end DL
set_option maxRecDepth 100000
set_option maxHeartbeats 4000000
namespace DL
open PySem PySem.Spec PyProof.Rows L2
theorem DefY.funD {K : PySem.W.Frag} {d : DefY} (e : fnAt K (d.ad K) = d.val) (c : d.ok K = true) : ∃ fd, FunD K d.name d.qual d.params d.body d.scope [] d.kwd (d.ad K) fd := by
  obtain ⟨kp, c2⟩ := He.ba c
  unfold fnAt at e
  cases look : K.lookup (d.ad K) with
  | none =>
    rw [look] at c2
    cases c2
  | some o =>
    obtain ⟨oc, od, dt, osl⟩ := o
    rw [look] at c2 e
    cases dt with
    | func fd =>
      obtain ⟨n1, n2, n3, n4, n5, n6, n7, n8, n9, n10, n11, n12, n13, n14, n15⟩ := fd
      have same : (some (n1, n2, n3, n4, n5, n6, n7, n15) : He.FnW) = some (d.name, d.qual, d.params, .stmts d.body, d.scope, mainGlobals, [], builtinsNs) := e
      simp only [Option.some.injEq, Prod.mk.injEq] at same
      obtain ⟨h1, h2, h3, h4, h5, h6, h7, h8⟩ := same
      subst h1 h2 h3 h4 h5 h6 h7 h8
      have c3 : (PySem.W.codeIn K n13 d.qual && (He.dflB K n8 [] && He.kwdB K n9 d.kwd)) = true := c2
      obtain ⟨k1, k2⟩ := He.ba c3
      obtain ⟨k3, k4⟩ := He.ba k2
      exact ⟨_, ⟨oc, od, n8, n9, n10, n11, n12, n13, n14, osl, rfl, look, k1, He.dflB_ok k3, He.kwdB_ok k4⟩, kp⟩
    | _ => cases c2
def obsY (n : Nat) (ex : PySem.W.Frag → Bool) (fn : List DefY) (g : Addr → Option Obj) : AlY := obsK ex fn (He.frG g (He.asD g n))
def hookY (n : Nat) (ex : PySem.W.Frag → Bool) (fn : List DefY) : PySem.W.Hook where
  α := AlY
  obs := fun s => obsY n ex fn s.heap.get?
  val := fun _ => valY fn
  says := fun _ h => ∃ K : PySem.W.Frag, K.In h ∧ SaysY ex fn K
  of := fun _ _ e => ⟨_, He.frG_in, e⟩
  keeps := fun _ _ _ ⟨K, hK, c⟩ k => ⟨K, PySem.W.Frag.In.keeps hK k, c⟩
theorem obsY_eq {n : Nat} {ex : PySem.W.Frag → Bool} {fn : List DefY} {g : Addr → Option Obj} {s : Shared} (h : ∀ a, g a = s.heap.get? a) : obsY n ex fn g = (hookY n ex fn).obs s := by
  have e : g = s.heap.get? := funext h
  rw [e] <;> rfl
section
variable {ex : PySem.W.Frag → Bool} {fn : List DefY} {K : PySem.W.Frag}
theorem SaysY.more (c : SaysY ex fn K) : ex K = true := (He.ba (show (ex K && fn.all fun d => d.ok K) = true from congrArg (fun z : AlY => z.1) c)).1
theorem SaysY.def_ (c : SaysY ex fn K) (i : Nat) {d : DefY} (h : fn[i]? = some d := by rfl) : ∃ fd, FunD K d.name d.qual d.params d.body d.scope [] d.kwd (d.ad K) fd := by
  have c2 := (He.ba (show (ex K && fn.all fun d => d.ok K) = true from congrArg (fun z : AlY => z.1) c)).2
  have e : fn.map (fun d => fnAt K (d.ad K)) = fn.map DefY.val := congrArg (fun z : AlY => z.2) c
  have e2 : (fn.map fun d => fnAt K (d.ad K))[i]? = (fn.map DefY.val)[i]? := by rw [e]
  rw [List.getElem?_map, List.getElem?_map, h] at e2
  exact DefY.funD (Option.some.inj e2) (List.all_eq_true.mp c2 d (List.mem_of_getElem? h))
end
def cmA (K : PySem.W.Frag) (C : Addr) (f : Str) : Addr := match PySem.W.recIn K (He.ma K C f) "classmethod" with
  | some (.ref g :: _) => g
  | _ => 0
theorem propB_ok {K : PySem.W.Frag} {C : Addr} {f : Str} (h : propB K C f = true) : PropOf K C f (He.ma K C f) (pgA K C f) := by
  obtain ⟨h1, h⟩ := He.ba h
  obtain ⟨h2, h⟩ := He.ba h
  obtain ⟨h3, h4⟩ := He.ba h
  refine ⟨He.eqO_ok h1, of_decide_eq_true h2, of_decide_eq_true h3, ?_⟩
  unfold pgA
  split at h4
  · rename_i g rest e
    rw [e]
    exact ⟨rest, rfl⟩
  · cases h4
theorem insB_ok {K : PySem.W.Frag} {C : Addr} (h : insB K C = true) : InsT K C := by
  obtain ⟨h0, h⟩ := He.ba h
  obtain ⟨c1, h0⟩ := He.ba h0
  obtain ⟨c2, h0⟩ := He.ba h0
  obtain ⟨c3, c4⟩ := He.ba h0
  obtain ⟨h1, h⟩ := He.ba h
  obtain ⟨h2, h⟩ := He.ba h
  obtain ⟨h3, h4⟩ := He.ba h
  exact ⟨⟨c1, c2, c3, He.eqO_ok c4⟩, He.eqO_ok h1, of_decide_eq_true h2, of_decide_eq_true h3, of_decide_eq_true h4⟩
def kitF (ts : List String) (own : List (Addr × Bool)) : Value → Option Bool
  | .type n => if dTys.contains n then some (ts.contains n) else none
  | .ref C => own.lookup C
  | _ => none
theorem lookup_mem2 {α β : Type} [BEq α] [LawfulBEq α] {a : α} {b : β} : ∀ {l : List (α × β)}, l.lookup a = some b → (a, b) ∈ l
  | [], h => by cases h
  | (x, y) :: l, h => by
    by_cases e : a = x
    · subst e
      have : some y = some b := by simpa [List.lookup] using h
      cases this
      exact List.mem_cons_self
    · have q : (a == x) = false := by simpa using e
      have h : l.lookup a = some b := by simpa [List.lookup, q] using h
      exact List.mem_cons_of_mem _ (lookup_mem2 h)
theorem kitBK_ok {K : PySem.W.Frag} {u : Value} {ts : List String} {own : List (Addr × Bool)} (h : kitBK K u ts own = true) : KitT K u (kitF ts own) := by
  obtain ⟨h1, h2⟩ := He.ba h
  refine ⟨fun t b e => ?_, fun C b e => ?_⟩
  · cases t with
    | type n =>
      have e : (if dTys.contains n then some (ts.contains n) else none) = some b := e
      split at e
      · rename_i c
        cases e
        exact of_decide_eq_true (List.all_eq_true.mp h1 n (List.contains_iff_mem.mp c))
      · cases e
    | ref C =>
      have m := lookup_mem2 (show own.lookup C = some b from e)
      exact of_decide_eq_true (He.ba (List.all_eq_true.mp h2 _ m)).1
    | _ => cases e
  · have m := lookup_mem2 (show own.lookup C = some b from e)
    exact insB_ok (He.ba (List.all_eq_true.mp h2 _ m)).2
theorem eqcB_ok {X : Cx} {hot : Bool} {C : Addr} {oth : List Addr} {k : Nat} {fd : FuncData} {ps : List Str} {g : Pn → FG} (h : eqcB X.K C oth = true) (F : FnM hot X.prog X.w X.K X.mg X.base k (He.ma X.K C "__eq__") fd ps (spG X.K ps.length g)) (B : BnD X.K fd ps 2 [] [.arg 0, .arg 1]) :
    EqC X hot C (He.ma X.K C "__eq__") oth k fd ps g := by
  obtain ⟨h1, h⟩ := He.ba h
  obtain ⟨h2, h⟩ := He.ba h
  obtain ⟨h3, h⟩ := He.ba h
  obtain ⟨h4, h⟩ := He.ba h
  obtain ⟨h5, h6⟩ := He.ba h
  refine ⟨insB_ok h1, He.eqO_ok h2, h3, He.eqO_ok h4, fun T hT => ?_, fun T hT => ?_, fun D hD => ?_, F, B⟩
  · exact of_decide_eq_true (He.ba (List.all_eq_true.mp h5 T hT)).1
  · exact (He.ba (List.all_eq_true.mp h5 T hT)).2
  · obtain ⟨a, b⟩ := He.ba (List.all_eq_true.mp h6 D hD)
    exact ⟨a, insB_ok b⟩
theorem all_get {fa : List He.Fa} {K : PySem.W.Frag} (h : (fa.all fun f => f.ok K) = true) (i : Nat) {f : He.Fa} (e : fa[i]? = some f := by rfl) : f.ok K = true := List.all_eq_true.mp h f (List.mem_of_getElem? e)
theorem bool_get {bs : List Bool} (h : (bs.all fun b => b) = true) (i : Nat) {b : Bool} (e : bs[i]? = some b := by rfl) : b = true := List.all_eq_true.mp h b (List.mem_of_getElem? e)

theorem law_callM {P : Program} {w : World} {K : PySem.W.Frag} {mg mb : Str → Option Value} {k : Nat} {fa a : Addr} {fd : FuncData} {x : Str} {sp : SpM} {s₁ : Shared} {vs : List Value} {ns : List Int}
    (KX : K.In s₁.heap) (hns : s₁.heap.Ns mainGlobals mg) (hb : s₁.heap.Ns builtinsNs mb) (hbb : ∀ x : Str, x ≠ "__name__" → mb x = bootBuiltins x) (hlim : s₁.heap.NoLimit) (hg : s₁.gens = #[])
    (ha : s₁.heap.get? a = some { cls := .type "list", data := .seq vs.toArray }) (hi : IntsAre vs ns) (hl : ns.length ≤ sizeLine) (hr : Rm false k callerA)
    (F : ∀ base : Heap, K.In base → base.Ns mainGlobals mg → FnM false P w K mg base k fa fd [x] sp) (hbind : ∀ (s : Shared) (u : Value), BindsTo s fd ⟨[u], []⟩ [(x, u)])
    (hsp : ∀ (H : Hp) (p : Pn), Only H → SqL K H a (ns.map V.int) → sp p [.ref a] H (fun v _ => v = .bl true) fun _ _ _ => False) :
    codeAny (model P w) callerA (.call (.ref fa) ⟨[.ref a], []⟩) (fun r s' => r = .ok (.ret (.bool true)) ∧ OldK s₁.heap s'.heap ∧ s'.os = s₁.os ∧ AllBare s'.gens) s₁ := by
  have rv := vals_ints hi
  have lenV := hi.length
  have core : ∀ H : Hp, Only H → SqL K H a (ns.map V.int) → HOk P w H s₁.heap → (∀ b, H b ≠ none → b = a) → (H a ≠ none → K.lookup a = none) →
      codeAny (model P w) callerA (.call (.ref fa) ⟨[.ref a], []⟩) (fun r s' => r = .ok (.ret (.bool true)) ∧ OldK s₁.heap s'.heap ∧ s'.os = s₁.os ∧ AllBare s'.gens) s₁ := by
    intro H hO hS hok hA hK
    have here : ∀ {b : Addr}, H b ≠ none → b = a := fun {b} z => hA b z
    have base_of : ∀ {b : Addr} {o : Obj}, s₁.heap.get? b = some o → H b = none → (hidT s₁.heap H).get? b = some o := fun e n => hidT_get e n
    have noA : ∀ {b : Addr} {o : Obj} {es : Array DictEntry} {ep : Nat}, s₁.heap.get? b = some o → o.data = .dict es ep → H b = none := fun {b o es ep} e d => by
      cases q : H b with
      | none => rfl
      | some u =>
        have eb : b = a := here (by rw [q]; simp)
        rw [eb, ha] at e
        cases e
        have d' : Data.seq vs.toArray _ = Data.dict es ep := d
        cases d'
    have nsK : ∀ {b : Addr} {m : Str → Option Value}, s₁.heap.Ns b m → (hidT s₁.heap H).Ns b m := fun {b m} z => by
      obtain ⟨o, es, ep, e, d, r⟩ := z
      exact ⟨o, es, ep, base_of e (noA e d), d, r⟩
    have hKb : K.In (hidT s₁.heap H) := fun b o e => base_of (KX b o e) (by
      cases q : H b with
      | none => rfl
      | some u =>
        have eb : b = a := here (by rw [q]; simp)
        subst eb
        rw [hK (by rw [q]; simp)] at e
        cases e)
    have hM : Mod K mg (hidT s₁.heap H) := ⟨hKb, nsK hns, ⟨mb, nsK hb, hbb⟩, let ⟨mc, h1, h2⟩ := hlim; ⟨mc, nsK h1, h2⟩⟩
    have e0 : Env0 P w K mg (hidT s₁.heap H) callerA [] s₁ H := ⟨rfl, hM, fun b o e => of_hidT e, Nat.le_of_eq (hidT_size _ _), trivial, fun b hb => absurd (show b ∈ ([] : List Addr) from hb) (by simp), hok, .of_eq hg⟩
    have pd : Pn := (0, { cls := .none, data := .plain })
    refine codeAny_mono ((F _ hKb (nsK hns)).run callerA [] s₁ H ⟨[.ref a], []⟩ [.ref a] [.ref a] _ _ pd hr (fun z => nomatch z) e0 (hbind s₁ (.ref a)) (.cons rfl .nil) (hsp H pd hO hS)) fun r s' h => ?_
    cases r with
    | error e =>
      obtain ⟨_, _, _, _, _, _, _, _, _, _, _, _, z⟩ := h
      exact z.elim
    | ok fl =>
      cases fl with
      | next => exact False.elim h
      | brk => exact False.elim h
      | cont => exact False.elim h
      | ret u =>
        obtain ⟨v, H', os, bare, un, hok', r', q⟩ := h
        have ev : v = .bl true := q
        subst ev
        obtain rfl : u = Value.bool true := r'
        refine ⟨rfl, OldK.of_keep fun b o e => ?_, os, bare⟩
        cases q : H b with
        | none => exact un.keep b o e q (by intro z; exact absurd (show b ∈ ([] : List Addr) from z) (by simp)) (by simp)
        | some u =>
          rcases hO b with z | ⟨ob, xs, z⟩
          · rw [q] at z; cases z
          · obtain ⟨e1, _⟩ := hok b _ z
            obtain ⟨e2, _⟩ := hok' b _ (un.frzs b ob _ z)
            rw [e] at e1
            cases e1
            exact e2
  cases hk : K.lookup a with
  | some o =>
    have e := KX a o hk
    rw [ha] at e
    cases e
    refine core (fun _ => none) (fun _ => .inl rfl) (.inr ⟨_, vs.toArray, _, hk, rfl, rfl, rfl, by rw [List.size_toArray, lenV]; exact hl, by simpa using rv⟩) (fun b u z => by have z' : (none : Option HO) = some u := z; cases z') (fun b z => absurd rfl z) fun z => absurd rfl z
  | none =>
    refine core (fun b => if b = a then some (.frz { cls := .type "list", data := .seq vs.toArray } (.lst (ns.map V.int))) else none) (fun b => ?_) (.inl (.inr ⟨{ cls := .type "list", data := .seq vs.toArray }, if_pos rfl⟩)) (fun b u z => ?_) (fun b z => ?_) fun _ => hk
    · by_cases hb : b = a
      · exact .inr ⟨_, _, if_pos hb⟩
      · exact .inl (if_neg hb)
    · by_cases hb : b = a
      · have z' := (if_pos hb).symm.trans z
        cases z'
        subst hb
        exact ⟨ha, by rw [List.length_map]; exact hl, vs, _, rv, ha⟩
      · have z' := (if_neg hb).symm.trans z
        cases z'
    · by_cases hb : b = a
      · exact hb
      · exact absurd (if_neg hb) z
theorem walk_ofM {l : PySem.W.OpenLaw} {n k : Nat} {q : Program} {loose : List Str} {XP : (Str → Option Value) → Heap → Prop} {YP : World → Heap → Prop} {d : DefRec} {x : Str}
    (hn : l.most = some n) (hn2 : n ≤ sizeLine) (hdf : d.params.defaults = []) (hr : Rm false k callerA)
    (F : ∀ (w : World) (mg : Str → Option Value) (fa : Addr) (h : Heap), YP w h → h.Ns mainGlobals mg → mg d.name = some (.ref fa) →
      ∃ (K : PySem.W.Frag) (fd : FuncData) (sp : SpM), K.In h ∧ (∀ (s : Shared) (u : Value), BindsTo s fd ⟨[u], []⟩ [(x, u)]) ∧
        (∀ (H : Hp) (p : Pn) (a : Addr) (ns : List Int), ns.length ≤ n → Only H → SqL K H a (ns.map V.int) → sp p [.ref a] H (fun v _ => v = .bl true) fun _ _ _ => False) ∧
        ∀ base : Heap, K.In base → base.Ns mainGlobals mg → FnM false l.prog w K mg base k fa fd [x] sp) :
    PySem.W.WalkO q loose XP YP l.row.toRowW d [] (fun f vs => PySem.call f vs) := by
  refine Att.attach_call hn hdf fun w s₀ s₁ mg mb fa o pm cd doc a vs ns G Y ho hd hcd hmg hobj hints hlen hg => ?_
  obtain ⟨K, fd, sp, KX, hb, hsp, hF⟩ := F w mg fa _ Y G.T.g hmg
  exact law_callM KX G.T.g G.T.b G.T.builtins G.T.nolimit hg hobj hints (Nat.le_trans hlen hn2) hr hF hb (fun H p hO hS => hsp H p a ns hlen hO hS)
theorem script_go {K : PySem.W.Frag} {H : Hp} {a : Addr} {ns : List Int} {g : FG} {as' : Sls} (hO : Only H) (hS : SqL K H a (ns.map V.int)) (e : g [.d (.scr ns)] = .ok (.d (.bl true)) as') (p : Pn) : spG K 1 (fun _ => g) p [.ref a] H (fun v _ => v = .bl true) (fun _ _ _ => False) := by
  refine ⟨rfl, H, [.d (.scr ns)], ⟨Same.refl H, rfl, fun i s h => ?_, fun q i j h1 h2 => ?_⟩, ?_⟩
  · cases i with
    | zero =>
      simp at h
      subst h
      exact ⟨some (.ref a), rfl, .ref a, rfl, a, rfl, hS⟩
    | succ i => simp at h
  · obtain ⟨⟨m, h1⟩, _⟩ := h1
    cases i with
    | zero => simp at h1
    | succ i => simp at h1
  · show Go K _ _ H H _ (g [.d (.scr ns)]) _
    rw [e]
    exact fun F' H' s v r => r
end DL
set_option maxRecDepth 100000
set_option maxHeartbeats 4000000
namespace DL
open PySem PySem.Spec PyProof.Rows L2
theorem nx_name (i : Nat) : TgNx (setSl i) := fun it st => (setSl_nx i it st).elim .inl fun h => .inr (.inr h)
theorem len_name (i : Nat) : TgLen (setSl i) := fun it st st' h => by
  cases it with
  | d x =>
    cases h
    exact List.length_set
  | own m =>
    cases h
    exact List.length_set
  | ref k =>
    have h : (match frz (.ref k) st with | some (x, s2) => OtS.nx (s2.set i (.d x)) | none => .bad) = .nx st' := h
    split at h
    · rename_i x s2 e
      cases h
      rw [List.length_set]
      have e : (match st[k]? with | some (.d x) => some (x, st) | some (.own m) => some (m.toD, st.set k (.d m.toD)) | _ => none) = some (x, s2) := e
      split at e
      · cases e
        rfl
      · cases e
        rw [List.length_set]
      · cases e
    · cases h
def HsNx (hs : List D → FS) : Prop := (∀ ds st, (∃ st', hs ds st = .nx st') ∨ hs ds st = .bad) ∧ ∀ ds st st', hs ds st = .nx st' → st'.length = st.length
def HNx (h : FTg) : Prop := (∀ it st, (∃ st', h it st = .nx st') ∨ h it st = .bad) ∧ ∀ it st st', h it st = .nx st' → st'.length = st.length
theorem hnx_name (i : Nat) : HNx (setSl i) := ⟨setSl_nx i, len_name i⟩
theorem hs_nil : HsNx hNil := by
  refine ⟨fun ds st => ?_, fun ds st st' h => ?_⟩
  · cases ds with
    | nil => exact .inl ⟨_, rfl⟩
    | cons => exact .inr rfl
  · cases ds with
    | nil =>
      cases h
      rfl
    | cons => cases h
theorem hs_cons {h : FTg} {hs : List D → FS} (a : HNx h) (b : HsNx hs) : HsNx (hCons h hs) := by
  refine ⟨fun ds st => ?_, fun ds st st' q => ?_⟩
  · cases ds with
    | nil => exact .inr rfl
    | cons d ds =>
      show (∃ st', (h (.d d) st).bindS (hs ds) = .nx st') ∨ (h (.d d) st).bindS (hs ds) = .bad
      rcases a.1 (.d d) st with ⟨s1, e⟩ | e
      · rw [e]
        exact b.1 ds s1
      · rw [e]
        exact .inr rfl
  · cases ds with
    | nil => cases q
    | cons d ds =>
      have q : (h (.d d) st).bindS (hs ds) = .nx st' := q
      rcases a.1 (.d d) st with ⟨s1, e⟩ | e
      · rw [e] at q
        rw [b.2 ds s1 st' q, a.2 _ _ _ e]
      · rw [e] at q
        cases q
theorem hnx_tup {n : Nat} {hs : List D → FS} (a : HsNx hs) : HNx (hTup n hs) := by
  refine ⟨fun it st => ?_, fun it st st' h => ?_⟩
  · unfold hTup
    split
    · split
      · exact a.1 _ _
      · exact .inr rfl
    · split
      · exact a.1 _ _
      · exact .inr rfl
    · exact .inr rfl
  · unfold hTup at h
    split at h
    · split at h
      · exact a.2 _ _ _ h
      · cases h
    · split at h
      · exact a.2 _ _ _ h
      · cases h
    · cases h
theorem HNx.nx {h : FTg} (a : HNx h) : TgNx h := fun it st => (a.1 it st).elim .inl fun z => .inr (.inr z)
theorem HNx.len {h : FTg} (a : HNx h) : TgLen h := a.2
def HsX (hs : List D → FS) : Prop := ∀ ds st, (∃ st', hs ds st = .nx st') ∨ (∃ x st', hs ds st = .exc x st') ∨ hs ds st = .bad
theorem sub_nx (x : D) (io ii : Itm) (st : Sls) : (∃ st', subRs x io ii st = .nx st') ∨ subRs x io ii st = .bad := by
  unfold subRs
  split
  · split
    · split
      · split
        · exact .inl ⟨_, rfl⟩
        · exact .inr rfl
      · exact .inr rfl
    · exact .inr rfl
  · exact .inr rfl
theorem hx_sub (fo fi : FE) : TgNx (hSub fo fi) := fun it st => by
  unfold hSub
  split
  · rename_i x s0 e
    cases fo s0 with
    | ok io s1 =>
      show (∃ st', (fi s1).bindS _ = .nx st') ∨ (∃ y st', (fi s1).bindS _ = .exc y st') ∨ (fi s1).bindS _ = .bad
      cases fi s1 with
      | ok ii s2 => exact (sub_nx x io ii s2).elim .inl fun z => .inr (.inr z)
      | exc y s2 => exact .inr (.inl ⟨_, _, rfl⟩)
      | bad => exact .inr (.inr rfl)
    | exc y s1 => exact .inr (.inl ⟨_, _, rfl⟩)
    | bad => exact .inr (.inr rfl)
  · exact .inr (.inr rfl)
theorem hx_nil : HsX hNil := fun ds st => (hs_nil.1 ds st).elim .inl fun z => .inr (.inr z)
theorem hx_cons {h : FTg} {hs : List D → FS} (a : TgNx h) (b : HsX hs) : HsX (hCons h hs) := fun ds st => by
  cases ds with
  | nil => exact .inr (.inr rfl)
  | cons d ds =>
    show (∃ st', (h (.d d) st).bindS (hs ds) = .nx st') ∨ (∃ x st', (h (.d d) st).bindS (hs ds) = .exc x st') ∨ (h (.d d) st).bindS (hs ds) = .bad
    rcases a (.d d) st with ⟨s1, e⟩ | ⟨x, s1, e⟩ | e
    · rw [e]
      exact b ds s1
    · rw [e]
      exact .inr (.inl ⟨_, _, rfl⟩)
    · rw [e]
      exact .inr (.inr rfl)
theorem hx_tup {n : Nat} {hs : List D → FS} (a : HsX hs) : TgNx (hTup n hs) := fun it st => by
  unfold hTup
  split
  · split
    · exact a _ _
    · exact .inr (.inr rfl)
  · split
    · exact a _ _
    · exact .inr (.inr rfl)
  · exact .inr (.inr rfl)
def fDict0 : FE := fun st => (Rs.new (.dic [] [])).out st
theorem de_dict0 {X : Cx} {W : WX} {pos : Pos} : DE X W (.Dict [] [] pos) fDict0 := PE.conseq pe_dnewK fun σ H Q h => by
  obtain ⟨F, st, R, g⟩ := h
  have g : Go X.K W σ F H st ((Rs.new (.dic [] [])).out st) (fun it F' H' st' => ∀ v, RI X.K H F' H' σ st' v it → Q v H') := g
  exact fun p hp => res_ok (Stp.refl R) g p _ hp (fun a ha => upd_ne ha) ⟨[], upd_same, trivial, trivial⟩
end DL
set_option maxRecDepth 100000
set_option maxHeartbeats 4000000
namespace DL
open PySem PySem.Spec PyProof.Rows L2
def AllD (d : D) : List Src → Prop
  | [] => True
  | .arg _ :: ss => AllD d ss
  | .dfl d' :: ss => d' = d ∧ AllD d ss
theorem AllD.to {d : D} : ∀ {src : List Src}, AllD d src → ∀ s ∈ src, ∀ d', s = .dfl d' → d' = d
  | .arg i :: ss, h, s, hs, d', e => by
    rcases List.mem_cons.mp hs with z | z
    · rw [z] at e; cases e
    · exact AllD.to (src := ss) h s z d' e
  | .dfl x :: ss, h, s, hs, d', e => by
    rcases List.mem_cons.mp hs with z | z
    · rw [z] at e; cases e; exact h.1
    · exact AllD.to (src := ss) h.2 s z d' e
theorem FunD.bndA {K : PySem.W.Frag} {x qual : Str} {params : Arguments} {body : List Stmt} {scope : Scope} {f : Addr} {fd : FuncData} {ps ks : List Str} {n : Nat} {src : List Src} {kw : List (Str × V)} (F : FunD K x qual params body scope [] kw f fd) (ok : srcOk src = true) (len : src.length = ps.length)
    (h : ∀ (kV doc pm : Value) (an : Option Addr) (cdv ct : Value) (us ws : List Value), us.length = n → ws.length = ks.length →
      ∃ us', bindArgs (PySem.W.fnOf x qual params body scope .none kV doc pm an cdv ct) ⟨us, ks.zip ws⟩ = pure (ps.zip us') ∧ arr (fun _ => none) src (us ++ ws) = some us') : BnD K fd ps n ks src := by
  obtain ⟨oc, od, dV, kV, doc, pm, an, cdv, ct, osl, rfl, lk, hcd, hD, hK⟩ := F.ex
  rcases hD with ⟨_, rfl⟩ | ⟨e, _⟩
  · refine ⟨ok, len, fun s us ws X l1 l2 => ?_⟩
    obtain ⟨us', e1, e2⟩ := h kV doc pm an cdv ct us ws l1 l2
    exact ⟨us', .of_eq e1, fun vs zs r1 r2 => Vals.arr (fun d u z => absurd z (by simp)) (r1.append r2) e2⟩
  · exact absurd rfl e
section
variable {X : Cx} {W : WX} {hot : Bool} {p : Pn} {C f : Addr} {oth : List Addr} {k : Nat} {fd : FuncData} {ps : List Str} {g : Pn → FG} {a b : Expr} {fa fb : FE} {pos : Pos}
theorem dt_eqC (Z : EqC X hot C f oth k fd ps g) (hr : Rm hot (k + 1) X.A) (hh : HotX hot X p) (ha : DE X W a fa) (hb : DE X W b fb) (hm : behindInMarks .Eq b = false) : DT X W (.Compare a [.Eq] [b] pos) (fTest (fCmpC C oth (g p) false fa fb)) := by
  obtain ⟨r0, o0, h0⟩ := os_eq (X := X) hr.un
  have op : OpR X (compareOp .Eq) (fun x y H Q => rOwnL X C ps.length g p false x y H Q ∨ ((false = false ∧ rOwnR X C ps.length g p x y H Q) ∨ r0 x y H Q)) := by
    intro pins s σ H x y v u Q I rx ry q
    rcases q with q | ⟨_, q⟩ | q
    · exact op_ownL Z hr hh pins s σ H x y v u Q I rx ry q
    · exact op_ownR Z hr hh pins s σ H x y v u Q I rx ry q
    · exact o0 pins s σ H x y v u Q I rx ry q
  exact PT.conseq (pt_cmpR op ha hb hm) fun σ H Q h => cmpC_go Z h0 (test_E h)
theorem dt_neC (Z : EqC X hot C f oth k fd ps g) (hr : Rm hot (k + 1) X.A) (hh : HotX hot X p) (ha : DE X W a fa) (hb : DE X W b fb) (hm : behindInMarks .NotEq b = false) : DT X W (.Compare a [.NotEq] [b] pos) (fTest (fCmpC C oth (g p) true fa fb)) := by
  obtain ⟨r0, o0, h0⟩ := os_ne (X := X) hr.un
  have op : OpR X (compareOp .NotEq) (fun x y H Q => rOwnL X C ps.length g p true x y H Q ∨ ((true = false ∧ rOwnR X C ps.length g p x y H Q) ∨ r0 x y H Q)) := by
    intro pins s σ H x y v u Q I rx ry q
    rcases q with q | ⟨z, q⟩ | q
    · exact op_ownNe Z hr hh pins s σ H x y v u Q I rx ry q
    · cases z
    · exact o0 pins s σ H x y v u Q I rx ry q
  exact PT.conseq (pt_cmpR op ha hb hm) fun σ H Q h => cmpC_go Z h0 (test_E h)
end
end DL
set_option maxRecDepth 100000
set_option maxHeartbeats 4000000
namespace DL
open PySem PySem.Spec PyProof.Rows L2
structure Sm where
  a : Int
  b : Int
  c : Int
def Sm.ds (S : Sm) : List D := [.int S.a, .int S.b, .int S.c]
def Sm.nx (S : Sm) (m : Int) : Sm := if 0 < S.b then ⟨S.a, S.b / m, S.c⟩ else ⟨(S.a * 48271 + 11 * (S.c + 1) ^ 2 + 17) % 2147483563, S.b, S.c + 1⟩
def Sm.dr (S : Sm) (m : Int) : Int := if 0 < S.b then S.b % m else (S.nx m).a / 256 % m
def Sm.ok (S : Sm) (n : Nat) : Prop := 0 ≤ S.c ∧ S.c ≤ n
theorem Sm.dr_lo (S : Sm) {m : Int} (h : 0 < m) : 0 ≤ S.dr m := by
  unfold Sm.dr
  split <;> exact Int.emod_nonneg _ (by omega)
theorem Sm.dr_hi (S : Sm) {m : Int} (h : 0 < m) : S.dr m < m := by
  unfold Sm.dr
  split <;> exact Int.emod_lt_of_pos _ h
theorem Sm.ok_nx {S : Sm} {n : Nat} (h : S.ok n) (m : Int) : (S.nx m).ok (n + 1) := by
  obtain ⟨h1, h2⟩ := h
  unfold Sm.nx
  split
  · exact ⟨h1, by show S.c ≤ ((n + 1 : Nat) : Int); omega⟩
  · exact ⟨by show 0 ≤ S.c + 1; omega, by show S.c + 1 ≤ ((n + 1 : Nat) : Int); omega⟩
theorem Sm.ok.mono {S : Sm} {n k : Nat} (h : S.ok n) (l : n ≤ k) : S.ok k := ⟨h.1, by have := h.2; omega⟩
def drawFS : FS :=
  (fSeq (fIfS (fTest (fBin gGt (fBin gIx (fName 0) (fC (.int 1))) (fC (.int 0))))
  (fSeq (fAsgT (fCallB (g2 gDivmod) (fCons (fBin gIx (fName 0) (fC (.int 1))) (fCons (fName 1) fNil))) (hTup 2 (hCons (hSub (fName 0) (fC (.int 1))) (hCons (setSl 2) hNil))))
  (fRet (fName 2)))
  fSkip)
  (fSeq (fAsgT (fBin gAdd (fBin gIx (fName 0) (fC (.int 2))) (fC (.int 1))) (hSub (fName 0) (fC (.int 2))))
  (fSeq (fAsgT (fBin gMod (fCallB (g1 gInt) (fCons (fBin gAdd (fBin gAdd (fBin gMul (fBin gIx (fName 0) (fC (.int 0))) (fC (.int 48271))) (fBin gMul (fC (.int 11)) (fBin gPow (fBin gIx (fName 0) (fC (.int 2))) (fC (.int 2))))) (fC (.int 17))) fNil)) (fC (.int 2147483563))) (hSub (fName 0) (fC (.int 0))))
  (fRet (fBin gMod (fCallB (g1 gInt) (fCons (fBin gDiv (fBin gIx (fName 0) (fC (.int 0))) (fC (.int 256))) fNil)) (fName 1))))))
theorem ix3 {x y z : D} : gIx (.lst [x, y, z]) (.int 0) = .val x ∧ gIx (.lst [x, y, z]) (.int 1) = .val y ∧ gIx (.lst [x, y, z]) (.int 2) = .val z := ⟨rfl, rfl, rfl⟩
theorem no_pylong {x y : Int} (h0 : 0 < y) (h : y < 2 ^ 60) : Builtin.divisionGoesByPylong x y = false := by
  have z : (if y == 0 then 0 else y.natAbs.log2 / 30 + 1) ≤ 300 := by
    split
    · omega
    · have : y.natAbs.log2 < 60 := (Nat.log2_lt (by omega)).mpr (by omega)
      omega
  unfold Builtin.divisionGoesByPylong
  simp only [Bool.and_eq_false_iff, decide_eq_false_iff_not]
  left
  omega
theorem gOf_rt {asg : List Nat} {N : Nat} {f : FS} {as st : Sls} {it : Itm} (h : f (as ++ List.replicate (N - as.length) .un) = .rt it st) : gOf asg N f as = gOut asg as st it := by
  unfold gOf
  rw [h]
theorem gOf_nx {asg : List Nat} {N : Nat} {f : FS} {as st : Sls} (h : f (as ++ List.replicate (N - as.length) .un) = .nx st) : gOf asg N f as = gOut asg as st (.d .non) := by
  unfold gOf
  rw [h]
theorem draw_ev {asg : List Nat} (ha : asg.contains 0 = false) (ha1 : asg.contains 1 = false) {S : Sm} {n : Nat} {m : Int} (h : S.ok n) (hn : n < 2 ^ 60) (h0 : 0 < m) (hm : m < 2 ^ 60) :
    gOf asg 3 drawFS [.own (.lst S.ds), .d (.int m)] = .ok (.d (.int (S.dr m))) [.own (.lst (S.nx m).ds), .d (.int m)] := by
  obtain ⟨h1, h2⟩ := h
  have p := no_pylong (x := S.b) h0 hm
  by_cases hb : 0 < S.b
  · have e : ∀ st, drawFS [.own (.lst S.ds), .d (.int m), .un] = st → st = .rt (.d (.int (S.b % m))) [.own (.lst [.int S.a, .int (S.b / m), .int S.c]), .d (.int m), .d (.int (S.b % m))] := by
      intro st hst
      subst hst
      simp [drawFS, fSeq, fIfS, fTest, fBin, fName, fC, Ot.bind, Ot.bindS, OtS.bindS, view, MO.toD, Sm.ds, ix3, Rs.out, gGt, hb, fAsgT, fCallB, fCons, fNil, views, con2, g2, gDivmod, h0, p, hTup, hCons, hSub, frz, subRs, ixN, setSl, hNil, fRet]
    rw [gOf_rt (e _ rfl)]
    have ha' : 0 ∉ asg := by simpa using ha
    have ha1' : 1 ∉ asg := by simpa using ha1
    simp [gOut, fitAll, fitSl, isOwn, argsBk, Sm.dr, Sm.nx, hb, Sm.ds, ha', ha1']
  · have hc : (S.c + 1).natAbs < 2 ^ 64 := by omega
    have e : ∀ st, drawFS [.own (.lst S.ds), .d (.int m), .un] = st → st = .rt (.d (.int ((S.nx m).a / 256 % m))) [.own (.lst (S.nx m).ds), .d (.int m), .un] := by
      intro st hst
      subst hst
      have hc' : (S.c + 1).natAbs < 18446744073709551616 := by omega
      simp [drawFS, fSeq, fIfS, fTest, fBin, fName, fC, Ot.bind, Ot.bindS, OtS.bindS, view, MO.toD, Sm.ds, Sm.nx, ix3, Rs.out, gGt, hb, fAsgT, fCallB, fCons, fNil, views, con2, g1, gInt, h0, hSub, frz, subRs, ixN, setSl, fRet, fSkip, gAdd, gMul, gPow, gMod, gDiv, small64, hc']
    rw [gOf_rt (e _ rfl)]
    have ha' : 0 ∉ asg := by simpa using ha
    have ha1' : 1 ∉ asg := by simpa using ha1
    simp [gOut, fitAll, fitSl, isOwn, argsBk, Sm.dr, hb, ha', ha1']
end DL
set_option maxRecDepth 100000
set_option maxHeartbeats 4000000
namespace DL
open PySem PySem.Spec PyProof.Rows L2
theorem loop_from {w : Wk} {h : FTg} {body : FS} {Inv : Nat → Sls → Prop} {Post : OtS → Prop}
    (step : ∀ k st, k < w.n → Inv k st → ∃ d, w.at_ k st = some d ∧ ((∃ st1, ((h (.d d) st).bindS body = .nx st1 ∨ (h (.d d) st).bindS body = .ct st1) ∧ Inv (k + 1) st1) ∨
      (∃ st1, (h (.d d) st).bindS body = .bk st1 ∧ Post (.nx st1)) ∨ ∃ it st1, (h (.d d) st).bindS body = .rt it st1 ∧ Post (.rt it st1)))
    (fin : ∀ st, Inv w.n st → w.fin st = true ∧ Post (.nx st)) : ∀ m k st, k + m = w.n → Inv k st → Post (loopF w h body m k st) := by
  intro m
  induction m with
  | zero =>
    intro k st e i
    have e : k = w.n := by omega
    subst e
    obtain ⟨f1, f2⟩ := fin st i
    show Post (if w.fin st then .nx st else .bad)
    rw [f1]
    exact f2
  | succ m ih =>
    intro k st e i
    obtain ⟨d, hd, q⟩ := step k st (by omega) i
    show Post (match w.at_ k st with
      | some d => goOn (loopF w h body m (k + 1)) ((h (.d d) st).bindS body)
      | none => .bad)
    rw [hd]
    rcases q with ⟨st1, e1 | e1, i1⟩ | ⟨st1, e1, p⟩ | ⟨it, st1, e1, p⟩
    · show Post (goOn _ ((h (.d d) st).bindS body))
      rw [e1]
      exact ih (k + 1) st1 (by omega) i1
    · show Post (goOn _ ((h (.d d) st).bindS body))
      rw [e1]
      exact ih (k + 1) st1 (by omega) i1
    · show Post (goOn _ ((h (.d d) st).bindS body))
      rw [e1]
      exact p
    · show Post (goOn _ ((h (.d d) st).bindS body))
      rw [e1]
      exact p
theorem loop_post {w : Wk} {h : FTg} {body : FS} (Inv : Nat → Sls → Prop) (Post : OtS → Prop) {st : Sls} (h0 : Inv 0 st)
    (step : ∀ k st, k < w.n → Inv k st → ∃ d, w.at_ k st = some d ∧ ((∃ st1, ((h (.d d) st).bindS body = .nx st1 ∨ (h (.d d) st).bindS body = .ct st1) ∧ Inv (k + 1) st1) ∨
      (∃ st1, (h (.d d) st).bindS body = .bk st1 ∧ Post (.nx st1)) ∨ ∃ it st1, (h (.d d) st).bindS body = .rt it st1 ∧ Post (.rt it st1)))
    (fin : ∀ st, Inv w.n st → w.fin st = true ∧ Post (.nx st)) : Post (loopF w h body w.n 0 st) := loop_from step fin w.n 0 st (by omega) h0
theorem loop_nx {w : Wk} {h : FTg} {body : FS} (Inv : Nat → Sls → Prop) {st : Sls} (h0 : Inv 0 st)
    (step : ∀ k st, k < w.n → Inv k st → ∃ d st1, w.at_ k st = some d ∧ (h (.d d) st).bindS body = .nx st1 ∧ Inv (k + 1) st1)
    (fin : ∀ st, Inv w.n st → w.fin st = true) : ∃ st', loopF w h body w.n 0 st = .nx st' ∧ Inv w.n st' :=
  loop_post Inv (fun o => ∃ st', o = .nx st' ∧ Inv w.n st') h0 (fun k st hk i => by
    obtain ⟨d, st1, e1, e2, e3⟩ := step k st hk i
    exact ⟨d, e1, .inl ⟨st1, .inl e2, e3⟩⟩) fun st i => ⟨fin st i, st, rfl, i⟩
theorem lc_from {w : Wk} {h : FTg} {ft : FT} {fe : FE} {vs : List Nat} {Inv : Nat → List D → Sls → Prop}
    (step : ∀ k acc st, k < w.n → Inv k acc st → ∃ d s2 b s3, w.at_ k st = some d ∧ h (.d d) (unS st vs) = .nx s2 ∧ ft s2 = .ok b s3 ∧
      (b = true → ∃ it s4 x s5, fe s3 = .ok it s4 ∧ frz it s4 = some (x, s5) ∧ acc.length < sizeLine ∧ Inv (k + 1) (acc ++ [x]) (unS s5 vs)) ∧ (b = false → Inv (k + 1) acc (unS s3 vs)))
    (fin : ∀ acc st, Inv w.n acc st → w.fin st = true) : ∀ m k acc st, k + m = w.n → Inv k acc st → ∃ acc' st', lcF w h ft fe vs m k acc st = .ok (.own (.lst acc')) st' ∧ Inv w.n acc' st' := by
  intro m
  induction m with
  | zero =>
    intro k acc st e i
    have e : k = w.n := by omega
    subst e
    refine ⟨acc, st, ?_, i⟩
    show (if w.fin st then _ else _) = _
    rw [fin acc st i]
    rfl
  | succ m ih =>
    intro k acc st e i
    obtain ⟨d, s2, b, s3, hd, h2, h3, ht, hf⟩ := step k acc st (by omega) i
    have one : lcF w h ft fe vs (m + 1) k acc st = (if b = true then (fe s3).bindN fun it s4 => (match frz it s4 with
        | some (x, s5) => if acc.length < sizeLine then lcF w h ft fe vs m (k + 1) (acc ++ [x]) (unS s5 vs) else .bad
        | none => .bad) else lcF w h ft fe vs m (k + 1) acc (unS s3 vs)) := by
      show (match w.at_ k st with
        | some d => (h (.d d) (unS st vs)).bindN fun s2 => (ft s2).bindN fun b s3 => if b = true then (fe s3).bindN fun it s4 => (match frz it s4 with
          | some (x, s5) => if acc.length < sizeLine then lcF w h ft fe vs m (k + 1) (acc ++ [x]) (unS s5 vs) else .bad
          | none => .bad) else lcF w h ft fe vs m (k + 1) acc (unS s3 vs)
        | none => .bad) = _
      rw [hd]
      show ((h (.d d) (unS st vs)).bindN fun s2 => (ft s2).bindN fun b s3 => if b = true then (fe s3).bindN fun it s4 => (match frz it s4 with
          | some (x, s5) => if acc.length < sizeLine then lcF w h ft fe vs m (k + 1) (acc ++ [x]) (unS s5 vs) else .bad
          | none => .bad) else lcF w h ft fe vs m (k + 1) acc (unS s3 vs)) = _
      rw [h2]
      show ((ft s2).bindN fun b s3 => if b = true then (fe s3).bindN fun it s4 => (match frz it s4 with
          | some (x, s5) => if acc.length < sizeLine then lcF w h ft fe vs m (k + 1) (acc ++ [x]) (unS s5 vs) else .bad
          | none => .bad) else lcF w h ft fe vs m (k + 1) acc (unS s3 vs)) = _
      rw [h3]
      rfl
    rw [one]
    cases b with
    | true =>
      obtain ⟨it, s4, x, s5, h4, h5, hl, i'⟩ := ht rfl
      rw [if_pos rfl, h4]
      show ∃ acc' st', (match frz it s4 with
        | some (x, s5) => if acc.length < sizeLine then lcF w h ft fe vs m (k + 1) (acc ++ [x]) (unS s5 vs) else .bad
        | none => .bad) = _ ∧ _
      rw [h5]
      show ∃ acc' st', (if acc.length < sizeLine then lcF w h ft fe vs m (k + 1) (acc ++ [x]) (unS s5 vs) else .bad) = _ ∧ _
      rw [if_pos hl]
      exact ih (k + 1) _ _ (by omega) i'
    | false =>
      rw [if_neg (by simp)]
      exact ih (k + 1) _ _ (by omega) (hf rfl)
theorem lc_ok {w : Wk} {h : FTg} {ft : FT} {fe : FE} {vs : List Nat} (Inv : Nat → List D → Sls → Prop) {st : Sls} (h0 : Inv 0 [] st)
    (step : ∀ k acc st, k < w.n → Inv k acc st → ∃ d s2 b s3, w.at_ k st = some d ∧ h (.d d) (unS st vs) = .nx s2 ∧ ft s2 = .ok b s3 ∧
      (b = true → ∃ it s4 x s5, fe s3 = .ok it s4 ∧ frz it s4 = some (x, s5) ∧ acc.length < sizeLine ∧ Inv (k + 1) (acc ++ [x]) (unS s5 vs)) ∧ (b = false → Inv (k + 1) acc (unS s3 vs)))
    (fin : ∀ acc st, Inv w.n acc st → w.fin st = true) : ∃ acc' st', lcF w h ft fe vs w.n 0 [] st = .ok (.own (.lst acc')) st' ∧ Inv w.n acc' st' := lc_from step fin w.n 0 [] st (by omega) h0
@[simp] theorem Ot.bind_ok1 {α β : Type} {a : α} {s : Sls} {k : α → Sls → Ot β} : (Ot.ok a s).bind k = k a s := (by rfl)
@[simp] theorem Ot.bindS_ok1 {α : Type} {a : α} {s : Sls} {k : α → Sls → OtS} : (Ot.ok a s).bindS k = k a s := (by rfl)
@[simp] theorem Ot.bindN_ok1 {α β : Type} {a : α} {s : Sls} {k : α → Sls → Ot β} : (Ot.ok a s).bindN k = k a s := (by rfl)
@[simp] theorem OtS.bindS_nx1 {s : Sls} {k : Sls → OtS} : (OtS.nx s).bindS k = k s := (by rfl)
@[simp] theorem OtS.bindS_rt1 {s : Sls} {it : Itm} {k : Sls → OtS} : (OtS.rt it s).bindS k = .rt it s := (by rfl)
@[simp] theorem OtS.bindS_bk1 {s : Sls} {k : Sls → OtS} : (OtS.bk s).bindS k = .bk s := (by rfl)
@[simp] theorem OtS.bindS_ct1 {s : Sls} {k : Sls → OtS} : (OtS.ct s).bindS k = .ct s := (by rfl)
@[simp] theorem OtS.bindN_nx1 {β : Type} {s : Sls} {k : Sls → Ot β} : (OtS.nx s).bindN k = k s := (by rfl)
@[simp] theorem setSl_d {i : Nat} {x : D} {st : Sls} : setSl i (.d x) st = .nx (st.set i (.d x)) := (by rfl)
@[simp] theorem setSl_own {i : Nat} {m : MO} {st : Sls} : setSl i (.own m) st = .nx (st.set i (.own m)) := (by rfl)
@[simp] theorem setSl_ref {i j : Nat} {st : Sls} : setSl i (.ref j) st = (match frz (.ref j) st with
    | some (x, s2) => .nx (s2.set i (.d x))
    | none => .bad) := (by rfl)
section
variable {st : Sls} {x y z : D} {m : MO} {i j : Int} {n k : Nat} {it : Itm} {its : List Itm} {ds es : List D} {b : Bool} {s t : Str}
@[simp] theorem view_d1 : view st (.d x) = some x := (by rfl)
@[simp] theorem view_own1 : view st (.own m) = some m.toD := (by rfl)
@[simp] theorem view_ref1 : view st (.ref n) = (match st[n]? with
    | some (.d x) => some x
    | some (.own m) => some m.toD
    | _ => none) := (by rfl)
@[simp] theorem toD_lst : (MO.lst ds).toD = .lst ds := (by rfl)
@[simp] theorem toD_dic : (MO.dic ds es).toD = .dic ds es := (by rfl)
@[simp] theorem toD_ins {C : Addr} {fs : List Str} : (MO.ins C fs ds).toD = .ins C fs ds := (by rfl)
@[simp] theorem views_nil1 : views st [] = some [] := (by rfl)
@[simp] theorem views_cons1 : views st (it :: its) = con2 (view st it) (views st its) := (by rfl)
@[simp] theorem con2_1 {α : Type} {a : α} {as : List α} : con2 (some a) (some as) = some (a :: as) := (by rfl)
@[simp] theorem out_val1 : (Rs.val x).out st = .ok (.d x) st := (by rfl)
@[simp] theorem out_new1 : (Rs.new m).out st = .ok (.own m) st := (by rfl)
@[simp] theorem out_tupn1 : (Rs.tupn ds).out st = .ok (.d (.tup ds)) st := (by rfl)
@[simp] theorem frz_d1 : frz (.d x) st = some (x, st) := (by rfl)
@[simp] theorem frz_own1 : frz (.own m) st = some (m.toD, st) := (by rfl)
@[simp] theorem frz_ref1 : frz (.ref n) st = (match st[n]? with
    | some (.d x) => some (x, st)
    | some (.own m) => some (m.toD, st.set n (.d m.toD))
    | _ => none) := (by rfl)
@[simp] theorem frzs_nil1 : frzs [] st = some ([], st) := (by rfl)
@[simp] theorem frzs_cons1 : frzs (it :: its) st = (match frz it st with
    | some (x, s1) => (match frzs its s1 with
      | some (xs, s2) => some (x :: xs, s2)
      | none => none)
    | none => none) := (by rfl)
@[simp] theorem g1_1 {g : D → Rs} : g1 g [x] = g x := (by rfl)
@[simp] theorem g2_1 {g : D → D → Rs} : g2 g [x, y] = g x y := (by rfl)
@[simp] theorem gAdd_int : gAdd (.int i) (.int j) = .val (.int (i + j)) := (by rfl)
theorem gAdd_str : gAdd (.str s) (.str t) = (if s.length + t.length ≤ sizeLine then .val (.str (s ++ t)) else .bad) := (by rfl)
theorem gAdd_lst : gAdd (.lst ds) (.lst es) = (if ds.length + es.length ≤ sizeLine then .new (.lst (ds ++ es)) else .bad) := (by rfl)
theorem gAdd_tup : gAdd (.tup ds) (.tup es) = (if ds.length + es.length ≤ sizeLine then .tupn (ds ++ es) else .bad) := (by rfl)
@[simp] theorem gSub_int : gSub (.int i) (.int j) = .val (.int (i - j)) := (by rfl)
@[simp] theorem gMul_int : gMul (.int i) (.int j) = (if small64 i || small64 j then .val (.int (i * j)) else .bad) := (by rfl)
@[simp] theorem gDiv_int : gDiv (.int i) (.int j) = (if 0 < j ∧ j < 1073741824 then .val (.int (i / j)) else .bad) := (by rfl)
@[simp] theorem gMod_int : gMod (.int i) (.int j) = (if 0 < j then .val (.int (i % j)) else .bad) := (by rfl)
@[simp] theorem gPow_int : gPow (.int i) (.int j) = (if 0 ≤ j ∧ j ≤ 1000000 ∧ i.natAbs < 2 ^ 64 then .val (.int (i ^ j.toNat)) else .bad) := (by rfl)
@[simp] theorem gLt_int : gLt (.int i) (.int j) = .val (.bl (decide (i < j))) := (by rfl)
@[simp] theorem gLe_int : gLe (.int i) (.int j) = .val (.bl (decide (i ≤ j))) := (by rfl)
@[simp] theorem gGt_int : gGt (.int i) (.int j) = .val (.bl (decide (j < i))) := (by rfl)
@[simp] theorem gGe_int : gGe (.int i) (.int j) = .val (.bl (decide (j ≤ i))) := (by rfl)
@[simp] theorem gAbs_int : gAbs (.int i) = .val (.int (if i < 0 then -i else i)) := (by rfl)
@[simp] theorem gMax_int : gMax (.int i) (.int j) = .val (.int (if j > i then j else i)) := (by rfl)
@[simp] theorem gMin_int : gMin (.int i) (.int j) = .val (.int (if j < i then j else i)) := (by rfl)
@[simp] theorem gInt_int : gInt (.int i) = .val (.int i) := (by rfl)
@[simp] theorem gLen_lst : gLen (.lst ds) = .val (.int ds.length) := (by rfl)
@[simp] theorem gLen_tup : gLen (.tup ds) = .val (.int ds.length) := (by rfl)
@[simp] theorem gLen_scr {ns : List Int} : gLen (.scr ns) = .val (.int ns.length) := (by rfl)
@[simp] theorem gLen_str : gLen (.str s) = (if s.length ≤ sizeLine then .val (.int s.length) else .bad) := (by rfl)
@[simp] theorem gLen_dic : gLen (.dic ds es) = .val (.int ds.length) := (by rfl)
@[simp] theorem gList_lst : gList (.lst ds) = .new (.lst ds) := (by rfl)
@[simp] theorem gList_tup : gList (.tup ds) = .new (.lst ds) := (by rfl)
@[simp] theorem gTuple_lst : gTuple (.lst ds) = .tupn ds := (by rfl)
@[simp] theorem gTuple_tup : gTuple (.tup ds) = .val (.tup ds) := (by rfl)
@[simp] theorem gIs_non : gIs x .non = .val (.bl (isNon x)) := (by rfl)
@[simp] theorem gIs_bl : gIs x (.bl b) = .val (.bl (isBl b x)) := (by rfl)
@[simp] theorem gIsNot_non : gIsNot x .non = .val (.bl (!isNon x)) := (by rfl)
@[simp] theorem gIsNot_bl : gIsNot x (.bl b) = .val (.bl (!isBl b x)) := (by rfl)
@[simp] theorem gIx_lst : gIx (.lst ds) (.int i) = (match atI ds i with
    | some d => .val d
    | none => .bad) := (by rfl)
@[simp] theorem gIx_tup : gIx (.tup ds) (.int i) = (match atI ds i with
    | some d => .val d
    | none => .bad) := (by rfl)
@[simp] theorem gIx_scr {ns : List Int} : gIx (.scr ns) (.int i) = (match atI ns i with
    | some n => .val (.int n)
    | none => .bad) := (by rfl)
@[simp] theorem gSl_scr {ns : List Int} {lo hi : Option Int} : gSl (.scr ns) lo hi = .new (.lst ((cutD ns lo hi).map D.int)) := (by rfl)
@[simp] theorem gSl_lst {lo hi : Option Int} : gSl (.lst ds) lo hi = .new (.lst (cutD ds lo hi)) := (by rfl)
@[simp] theorem gSl_tup {lo hi : Option Int} : gSl (.tup ds) lo hi = .tupn (cutD ds lo hi) := (by rfl)
@[simp] theorem hNil_1 : hNil [] st = .nx st := (by rfl)
@[simp] theorem hCons_1 {h : FTg} {hs : List D → FS} : hCons h hs (x :: ds) st = (h (.d x) st).bindS (hs ds) := (by rfl)
@[simp] theorem hTup_1 {hs : List D → FS} : hTup n hs it st = (match view st it with
    | some (.tup ds) => if ds.length = n then hs ds st else .bad
    | some (.lst ds) => if ds.length = n then hs ds st else .bad
    | _ => .bad) := (by rfl)
@[simp] theorem hSub_1 {fo fi : FE} : hSub fo fi it st = (match frz it st with
    | some (x, s0) => (fo s0).bindS fun io s1 => (fi s1).bindS fun ii s2 => subRs x io ii s2
    | none => .bad) := (by rfl)
@[simp] theorem subRs_1 {ii : Itm} : subRs x (.ref n) ii st = (match view st ii with
    | some (.int k) => (match st[n]? with
      | some (.own (.lst ds)) => (match ixN ds.length k with
        | some l => .nx (st.set n (.own (.lst (ds.set l x))))
        | none => .bad)
      | _ => .bad)
    | _ => .bad) := (by rfl)
@[simp] theorem setAll_nil1 : setAll [] [] st = .nx st := (by rfl)
@[simp] theorem setAll_cons1 {is : List Nat} : setAll (n :: is) (it :: its) st = (if its.any (isRef n) then .bad else (setSl n it st).bindS (setAll is its)) := (by rfl)
@[simp] theorem isRef_d : isRef n (.d x) = false := (by rfl)
@[simp] theorem isRef_own : isRef n (.own m) = false := (by rfl)
@[simp] theorem isRef_ref : isRef n (.ref k) = (k == n) := (by rfl)
@[simp] theorem unS_nil1 : unS st [] = st := (by rfl)
@[simp] theorem isNon_1 : isNon .non = true := (by rfl)
@[simp] theorem isNon_2 : isNon (.int i) = false := (by rfl)
@[simp] theorem isNon_3 : isNon (.str s) = false := (by rfl)
@[simp] theorem isNon_4 : isNon (.bl b) = false := (by rfl)
@[simp] theorem isBl_1 {c : Bool} : isBl b (.bl c) = (c == b) := (by rfl)
@[simp] theorem isBl_2 : isBl b .non = false := (by rfl)
@[simp] theorem isBl_3 : isBl b (.int i) = false := (by rfl)
@[simp] theorem isBl_4 : isBl b (.str s) = false := (by rfl)
@[simp] theorem rngOf_1 : rngOf [.int j] = some (0, j) := (by rfl)
@[simp] theorem rngOf_2 : rngOf [.int i, .int j] = some (i, j) := (by rfl)
end
def k1_fUn (g : D → Rs) (fa : FE) : Itm → Sls → Ot Itm := fun ia s1 => match view s1 ia with
  | some x => (g x).out s1
  | none => .bad
def k1_fBin (g : D → D → Rs) (fa fb : FE) : Itm → Sls → Ot Itm := fun ia s1 => (fb s1).bind fun ib s2 => match view s2 ia, view s2 ib with
  | some x, some y => (g x y).out s2
  | _, _ => .bad
def k2_fBin (g : D → D → Rs) (fa fb : FE) (ia : Itm) : Itm → Sls → Ot Itm := fun ib s2 => match view s2 ia, view s2 ib with
  | some x, some y => (g x y).out s2
  | _, _ => .bad
def k1_fTest (fa : FE) : Itm → Sls → Ot Bool := fun ia s1 => match view s1 ia with
  | some (.bl b) => .ok b s1
  | _ => .bad
def k1_fAndT (f g : FT) : Bool → Sls → Ot Bool := fun b s1 => if b = true then g s1 else .ok false s1
def k1_fOrT (f g : FT) : Bool → Sls → Ot Bool := fun b s1 => if b = true then .ok true s1 else g s1
def k1_fNotT (f : FT) : Bool → Sls → Ot Bool := fun b s1 => .ok (!b) s1
def k1_fAndV (fa fb : FE) : Itm → Sls → Ot Itm := fun ia s1 => match view s1 ia with
  | some (.bl true) => fb s1
  | some (.bl false) => .ok (.d (.bl false)) s1
  | _ => .bad
def k1_fOrV (fa fb : FE) : Itm → Sls → Ot Itm := fun ia s1 => match view s1 ia with
  | some (.bl true) => .ok (.d (.bl true)) s1
  | some (.bl false) => fb s1
  | _ => .bad
def k1_fNotV (fa : FE) : Itm → Sls → Ot Itm := fun ia s1 => match view s1 ia with
  | some (.bl b) => .ok (.d (.bl (!b))) s1
  | _ => .bad
def k1_fIf (ft : FT) (fa fb : FE) : Bool → Sls → Ot Itm := fun b s1 => if b = true then fa s1 else fb s1
def k1_fChain (g g' : D → D → Rs) (fa fb fc : FE) : Itm → Sls → Ot Itm := fun ia s1 => (fb s1).bind fun ib s2 => match view s2 ia, view s2 ib with
  | some x, some y => (match g x y with
    | .val (.bl true) => (fc s2).bind fun ic s3 => (match view s3 ib, view s3 ic with
      | some y', some z => (g' y' z).out s3
      | _, _ => .bad)
    | .val (.bl false) => .ok (.d (.bl false)) s2
    | _ => .bad)
  | _, _ => .bad
def k2_fChain (g g' : D → D → Rs) (fa fb fc : FE) (ia : Itm) : Itm → Sls → Ot Itm := fun ib s2 => match view s2 ia, view s2 ib with
  | some x, some y => (match g x y with
    | .val (.bl true) => (fc s2).bind fun ic s3 => (match view s3 ib, view s3 ic with
      | some y', some z => (g' y' z).out s3
      | _, _ => .bad)
    | .val (.bl false) => .ok (.d (.bl false)) s2
    | _ => .bad)
  | _, _ => .bad
def k1_fCons (fa : FE) (fr : FA) : Itm → Sls → Ot (List Itm) := fun ia s1 => (fr s1).bind fun its s2 => .ok (ia :: its) s2
def k2_fCons (fa : FE) (fr : FA) (ia : Itm) : List Itm → Sls → Ot (List Itm) := fun its s2 => .ok (ia :: its) s2
def k1_fTup (f : FA) : List Itm → Sls → Ot Itm := fun its s1 => match frzs its s1 with
  | some (ds, s2) => .ok (.d (.tup ds)) s2
  | none => .bad
def k1_fLst (f : FA) : List Itm → Sls → Ot Itm := fun its s1 => match frzs its s1 with
  | some (ds, s2) => .ok (.own (.lst ds)) s2
  | none => .bad
def k1_fPart (fa : FE) : Itm → Sls → Ot (Option Int) := fun ia s1 => match view s1 ia with
  | some (.int i) => .ok (some i) s1
  | _ => .bad
def k1_fSl (g : D → Option Int → Option Int → Rs) (fa : FE) (fl fh : FO) : Itm → Sls → Ot Itm := fun ia s1 => (fl s1).bind fun lo s2 => (fh s2).bind fun hi s3 => match view s3 ia with
  | some x => (g x lo hi).out s3
  | none => .bad
def k2_fSl (g : D → Option Int → Option Int → Rs) (fa : FE) (fl fh : FO) (ia : Itm) : Option Int → Sls → Ot Itm := fun lo s2 => (fh s2).bind fun hi s3 => match view s3 ia with
  | some x => (g x lo hi).out s3
  | none => .bad
def k3_fSl (g : D → Option Int → Option Int → Rs) (fa : FE) (fl fh : FO) (ia : Itm) (lo : Option Int) : Option Int → Sls → Ot Itm := fun hi s3 => match view s3 ia with
  | some x => (g x lo hi).out s3
  | none => .bad
def k1_fFld (C : Addr) (f : Str) (fa : FE) : Itm → Sls → Ot Itm := fun ia s1 => match view s1 ia with
  | some (.ins C' fs ds) => if C' = C then (match fldD f fs ds with
    | some d => .ok (.d d) s1
    | none => .bad) else .bad
  | _ => .bad
def k1_fExpr (fe : FE) : Itm → Sls → OtS := fun x1 s1 => .nx s1
def k1_fRet (fe : FE) : Itm → Sls → OtS := fun it s1 => .rt it s1
def k1_fIfS (fc : FT) (f g : FS) : Bool → Sls → OtS := fun b s1 => if b = true then f s1 else g s1
def k1_fAsg (i : Nat) (fe : FE) : Itm → Sls → OtS := fun it s1 => setSl i it s1
def k1_fApp (fa fk : FA) : List Itm → Sls → Ot (List Itm) := fun its s1 => (fk s1).bind fun jts s2 => .ok (its ++ jts) s2
def k2_fApp (fa fk : FA) (its : List Itm) : List Itm → Sls → Ot (List Itm) := fun jts s2 => .ok (its ++ jts) s2
def k1_fMeth (C : Addr) (m : Str) (k : List Itm → Sls → Ot Itm) (fo : FE) (fa : FA) : Itm → Sls → Ot Itm := fun ir s1 => match view s1 ir with
  | some (.ins C' fs _) => if C' = C ∧ fs.contains m = false then (fa s1).bind fun its s2 => k (ir :: its) s2 else .bad
  | _ => .bad
def k1_fProp (C : Addr) (g : FG) (fo : FE) : Itm → Sls → Ot Itm := fun ir s1 => match view s1 ir with
  | some (.ins C' _ _) => if C' = C then noExc (callG g [ir] s1) else .bad
  | _ => .bad
def k1_fCallB (g : List D → Rs) (fa : FA) : List Itm → Sls → Ot Itm := fun its s1 => match views s1 its with
  | some ds => (g ds).out s1
  | none => .bad
def k1_fIsI (kit : Value → Option Bool) (fe : FE) : Itm → Sls → Ot Itm := fun it s1 => match view s1 it with
  | some d => (gIsI kit d).out s1
  | none => .bad
def k1_fPar (is : List Nat) (fa : FA) : List Itm → Sls → OtS := fun its s1 => setAll is its s1
def k1_fAsgT (fe : FE) (h : FTg) : Itm → Sls → OtS := fun it s1 => h it s1
def k1_fFor (fw : Sls → Ot Wk) (h : FTg) (body : FS) : Wk → Sls → OtS := fun w s1 => loopF w h body w.n 0 s1
def k1_fWkSeq (asg : List Nat) (fe : FE) : Itm → Sls → Ot Wk := fun it s1 => match it with
  | .ref i => (match s1[i]? with
    | some (.own (.lst ds)) => if asg.contains i then .ok (seqW ds) (s1.set i (.d (.lst ds))) else .ok (ownW i ds.length) s1
    | some (.d (.lst ds)) => .ok (seqW ds) s1
    | some (.d (.tup ds)) => .ok (seqW ds) s1
    | _ => .bad)
  | .own (.lst ds) => .ok (seqW ds) s1
  | .d (.lst ds) => .ok (seqW ds) s1
  | .d (.tup ds) => .ok (seqW ds) s1
  | .d (.scr ns) => .ok (seqW (ns.map D.int)) s1
  | .d (.str z) => .ok (seqW (z.cps.toList.map fun c => .str ⟨#[c]⟩)) s1
  | _ => .bad
def k1_fWkRng (fa : FA) : List Itm → Sls → Ot Wk := fun its s1 => match views s1 its with
  | some ds => (match rngOf ds with
    | some (i, j) => if -(2 ^ 62) ≤ i ∧ i < 2 ^ 62 ∧ -(2 ^ 62) ≤ j ∧ j < 2 ^ 62 then .ok (rngW i (j - i).toNat) s1 else .bad
    | none => .bad)
  | none => .bad
def k1_fLc (fw : Sls → Ot Wk) (h : FTg) (ft : FT) (fe : FE) (vs : List Nat) : Wk → Sls → Ot Itm := fun w s1 => lcF w h ft fe vs w.n 0 [] (unS s1 vs)
def k1_fMut (g : List D → List D → Option (List D × D)) (fo : FE) (fa : FA) : Itm → Sls → Ot Itm := fun ir s1 => if isLst s1 ir then (fa s1).bind fun its s2 => mutR g ir its s2 else .bad
def k1_fMtV (T : String) (g : D → List D → Rs) (fo : FE) (fa : FA) : Itm → Sls → Ot Itm := fun ir s1 => match view s1 ir with
  | some dx => if tyNm dx = T then (fa s1).bind fun its s2 => (match view s2 ir, views s2 its with
    | some d, some ds => (g d ds).out s2
    | _, _ => .bad) else .bad
  | none => .bad
def k1_fCmpC (C : Addr) (oth : List Addr) (g : FG) (neg : Bool) (fa fb : FE) : Itm → Sls → Ot Itm := fun ia s1 => (fb s1).bind fun ib s2 => cmpC C oth g neg ia ib s2
def k2_fCmpC (C : Addr) (oth : List Addr) (g : FG) (neg : Bool) (fa fb : FE) (ia : Itm) : Itm → Sls → Ot Itm := fun ib s2 => cmpC C oth g neg ia ib s2
def k1_fSetF (C : Addr) (f : Str) (fv fo : FE) : Itm → Sls → OtS := fun iv s1 => (fo s1).bindS fun io s2 => setF C f iv io s2
def k2_fSetF (C : Addr) (f : Str) (fv fo : FE) (iv : Itm) : Itm → Sls → OtS := fun io s2 => setF C f iv io s2
@[simp] theorem ap0_fName (i : Nat) {st : Sls} : fName i st = (match st[i]? with
  | some (.d x) => .ok (.d x) st
  | some (.own _) => .ok (.ref i) st
  | _ => .bad) := (by rfl)
@[simp] theorem ap1_fC (d : D) {st : Sls} : fC d st = (.ok (.d d) st) := (by rfl)
@[simp] theorem ap2_fUn (g : D → Rs) (fa : FE) {st : Sls} : fUn g fa st = ((fa st).bind (k1_fUn g fa)) := (by rfl)
@[simp] theorem ap3_fUn (g : D → Rs) (fa : FE) (ia : Itm) (s1 : Sls) : k1_fUn g fa  ia s1 = (match view s1 ia with
  | some x => (g x).out s1
  | none => .bad) := (by rfl)
@[simp] theorem ap4_fBin (g : D → D → Rs) (fa fb : FE) {st : Sls} : fBin g fa fb st = ((fa st).bind (k1_fBin g fa fb)) := (by rfl)
@[simp] theorem ap5_fBin (g : D → D → Rs) (fa fb : FE) (ia : Itm) (s1 : Sls) : k1_fBin g fa fb  ia s1 = ((fb s1).bind (k2_fBin g fa fb  ia)) := (by rfl)
@[simp] theorem ap6_fBin (g : D → D → Rs) (fa fb : FE) (ia : Itm) (ib : Itm) (s2 : Sls) : k2_fBin g fa fb  ia ib s2 = (match view s2 ia, view s2 ib with
  | some x, some y => (g x y).out s2
  | _, _ => .bad) := (by rfl)
@[simp] theorem ap7_fTest (fa : FE) {st : Sls} : fTest fa st = ((fa st).bind (k1_fTest fa)) := (by rfl)
@[simp] theorem ap8_fTest (fa : FE) (ia : Itm) (s1 : Sls) : k1_fTest fa  ia s1 = (match view s1 ia with
  | some (.bl b) => .ok b s1
  | _ => .bad) := (by rfl)
@[simp] theorem ap9_fAndT (f g : FT) {st : Sls} : fAndT f g st = ((f st).bind (k1_fAndT f g)) := (by rfl)
@[simp] theorem ap10_fAndT (f g : FT) (b : Bool) (s1 : Sls) : k1_fAndT f g  b s1 = (if b = true then g s1 else .ok false s1) := (by rfl)
@[simp] theorem ap11_fOrT (f g : FT) {st : Sls} : fOrT f g st = ((f st).bind (k1_fOrT f g)) := (by rfl)
@[simp] theorem ap12_fOrT (f g : FT) (b : Bool) (s1 : Sls) : k1_fOrT f g  b s1 = (if b = true then .ok true s1 else g s1) := (by rfl)
@[simp] theorem ap13_fNotT (f : FT) {st : Sls} : fNotT f st = ((f st).bind (k1_fNotT f)) := (by rfl)
@[simp] theorem ap14_fNotT (f : FT) (b : Bool) (s1 : Sls) : k1_fNotT f  b s1 = (.ok (!b) s1) := (by rfl)
@[simp] theorem ap15_fAndV (fa fb : FE) {st : Sls} : fAndV fa fb st = ((fa st).bind (k1_fAndV fa fb)) := (by rfl)
@[simp] theorem ap16_fAndV (fa fb : FE) (ia : Itm) (s1 : Sls) : k1_fAndV fa fb  ia s1 = (match view s1 ia with
  | some (.bl true) => fb s1
  | some (.bl false) => .ok (.d (.bl false)) s1
  | _ => .bad) := (by rfl)
@[simp] theorem ap17_fOrV (fa fb : FE) {st : Sls} : fOrV fa fb st = ((fa st).bind (k1_fOrV fa fb)) := (by rfl)
@[simp] theorem ap18_fOrV (fa fb : FE) (ia : Itm) (s1 : Sls) : k1_fOrV fa fb  ia s1 = (match view s1 ia with
  | some (.bl true) => .ok (.d (.bl true)) s1
  | some (.bl false) => fb s1
  | _ => .bad) := (by rfl)
@[simp] theorem ap19_fNotV (fa : FE) {st : Sls} : fNotV fa st = ((fa st).bind (k1_fNotV fa)) := (by rfl)
@[simp] theorem ap20_fNotV (fa : FE) (ia : Itm) (s1 : Sls) : k1_fNotV fa  ia s1 = (match view s1 ia with
  | some (.bl b) => .ok (.d (.bl (!b))) s1
  | _ => .bad) := (by rfl)
@[simp] theorem ap21_fIf (ft : FT) (fa fb : FE) {st : Sls} : fIf ft fa fb st = ((ft st).bind (k1_fIf ft fa fb)) := (by rfl)
@[simp] theorem ap22_fIf (ft : FT) (fa fb : FE) (b : Bool) (s1 : Sls) : k1_fIf ft fa fb  b s1 = (if b = true then fa s1 else fb s1) := (by rfl)
@[simp] theorem ap23_fChain (g g' : D → D → Rs) (fa fb fc : FE) {st : Sls} : fChain g g' fa fb fc st = ((fa st).bind (k1_fChain g g' fa fb fc)) := (by rfl)
@[simp] theorem ap24_fChain (g g' : D → D → Rs) (fa fb fc : FE) (ia : Itm) (s1 : Sls) : k1_fChain g g' fa fb fc  ia s1 = ((fb s1).bind (k2_fChain g g' fa fb fc  ia)) := (by rfl)
@[simp] theorem ap25_fChain (g g' : D → D → Rs) (fa fb fc : FE) (ia : Itm) (ib : Itm) (s2 : Sls) : k2_fChain g g' fa fb fc  ia ib s2 = (match view s2 ia, view s2 ib with
  | some x, some y => (match g x y with
    | .val (.bl true) => (fc s2).bind fun ic s3 => (match view s3 ib, view s3 ic with
      | some y', some z => (g' y' z).out s3
      | _, _ => .bad)
    | .val (.bl false) => .ok (.d (.bl false)) s2
    | _ => .bad)
  | _, _ => .bad) := (by rfl)
@[simp] theorem ap26_fNil {st : Sls} : fNil  st = (.ok [] st) := (by rfl)
@[simp] theorem ap27_fCons (fa : FE) (fr : FA) {st : Sls} : fCons fa fr st = ((fa st).bind (k1_fCons fa fr)) := (by rfl)
@[simp] theorem ap28_fCons (fa : FE) (fr : FA) (ia : Itm) (s1 : Sls) : k1_fCons fa fr  ia s1 = ((fr s1).bind (k2_fCons fa fr  ia)) := (by rfl)
@[simp] theorem ap29_fCons (fa : FE) (fr : FA) (ia : Itm) (its : List Itm) (s2 : Sls) : k2_fCons fa fr  ia its s2 = (.ok (ia :: its) s2) := (by rfl)
@[simp] theorem ap30_fTup (f : FA) {st : Sls} : fTup f st = ((f st).bind (k1_fTup f)) := (by rfl)
@[simp] theorem ap31_fTup (f : FA) (its : List Itm) (s1 : Sls) : k1_fTup f  its s1 = (match frzs its s1 with
  | some (ds, s2) => .ok (.d (.tup ds)) s2
  | none => .bad) := (by rfl)
@[simp] theorem ap32_fLst (f : FA) {st : Sls} : fLst f st = ((f st).bind (k1_fLst f)) := (by rfl)
@[simp] theorem ap33_fLst (f : FA) (its : List Itm) (s1 : Sls) : k1_fLst f  its s1 = (match frzs its s1 with
  | some (ds, s2) => .ok (.own (.lst ds)) s2
  | none => .bad) := (by rfl)
@[simp] theorem ap34_fNoPart {st : Sls} : fNoPart  st = (.ok none st) := (by rfl)
@[simp] theorem ap35_fPart (fa : FE) {st : Sls} : fPart fa st = ((fa st).bind (k1_fPart fa)) := (by rfl)
@[simp] theorem ap36_fPart (fa : FE) (ia : Itm) (s1 : Sls) : k1_fPart fa  ia s1 = (match view s1 ia with
  | some (.int i) => .ok (some i) s1
  | _ => .bad) := (by rfl)
@[simp] theorem ap37_fSl (g : D → Option Int → Option Int → Rs) (fa : FE) (fl fh : FO) {st : Sls} : fSl g fa fl fh st = ((fa st).bind (k1_fSl g fa fl fh)) := (by rfl)
@[simp] theorem ap38_fSl (g : D → Option Int → Option Int → Rs) (fa : FE) (fl fh : FO) (ia : Itm) (s1 : Sls) : k1_fSl g fa fl fh  ia s1 = ((fl s1).bind (k2_fSl g fa fl fh  ia)) := (by rfl)
@[simp] theorem ap39_fSl (g : D → Option Int → Option Int → Rs) (fa : FE) (fl fh : FO) (ia : Itm) (lo : Option Int) (s2 : Sls) : k2_fSl g fa fl fh  ia lo s2 = ((fh s2).bind (k3_fSl g fa fl fh  ia lo)) := (by rfl)
@[simp] theorem ap40_fSl (g : D → Option Int → Option Int → Rs) (fa : FE) (fl fh : FO) (ia : Itm) (lo : Option Int) (hi : Option Int) (s3 : Sls) : k3_fSl g fa fl fh  ia lo hi s3 = (match view s3 ia with
  | some x => (g x lo hi).out s3
  | none => .bad) := (by rfl)
@[simp] theorem ap41_fFld (C : Addr) (f : Str) (fa : FE) {st : Sls} : fFld C f fa st = ((fa st).bind (k1_fFld C f fa)) := (by rfl)
@[simp] theorem ap42_fFld (C : Addr) (f : Str) (fa : FE) (ia : Itm) (s1 : Sls) : k1_fFld C f fa  ia s1 = (match view s1 ia with
  | some (.ins C' fs ds) => if C' = C then (match fldD f fs ds with
    | some d => .ok (.d d) s1
    | none => .bad) else .bad
  | _ => .bad) := (by rfl)
@[simp] theorem ap43_fSkip {st : Sls} : fSkip  st = (.nx st) := (by rfl)
@[simp] theorem ap44_fSeq (f g : FS) {st : Sls} : fSeq f g st = ((f st).bindS g) := (by rfl)
@[simp] theorem ap45_fBreak {st : Sls} : fBreak  st = (.bk st) := (by rfl)
@[simp] theorem ap46_fCont {st : Sls} : fCont  st = (.ct st) := (by rfl)
@[simp] theorem ap47_fExpr (fe : FE) {st : Sls} : fExpr fe st = ((fe st).bindS (k1_fExpr fe)) := (by rfl)
@[simp] theorem ap48_fExpr (fe : FE) (x1 : Itm) (s1 : Sls) : k1_fExpr fe  x1 s1 = (.nx s1) := (by rfl)
@[simp] theorem ap49_fRet (fe : FE) {st : Sls} : fRet fe st = ((fe st).bindS (k1_fRet fe)) := (by rfl)
@[simp] theorem ap50_fRet (fe : FE) (it : Itm) (s1 : Sls) : k1_fRet fe  it s1 = (.rt it s1) := (by rfl)
@[simp] theorem ap51_fRetN {st : Sls} : fRetN  st = (.rt (.d .non) st) := (by rfl)
@[simp] theorem ap52_fIfS (fc : FT) (f g : FS) {st : Sls} : fIfS fc f g st = ((fc st).bindS (k1_fIfS fc f g)) := (by rfl)
@[simp] theorem ap53_fIfS (fc : FT) (f g : FS) (b : Bool) (s1 : Sls) : k1_fIfS fc f g  b s1 = (if b = true then f s1 else g s1) := (by rfl)
@[simp] theorem ap54_fAsg (i : Nat) (fe : FE) {st : Sls} : fAsg i fe st = ((fe st).bindS (k1_fAsg i fe)) := (by rfl)
@[simp] theorem ap55_fAsg (i : Nat) (fe : FE) (it : Itm) (s1 : Sls) : k1_fAsg i fe  it s1 = (setSl i it s1) := (by rfl)
@[simp] theorem ap56_fCallA (k : List Itm → Sls → Ot Itm) (fa : FA) {st : Sls} : fCallA k fa st = ((fa st).bind k) := (by rfl)
@[simp] theorem ap57_fApp (fa fk : FA) {st : Sls} : fApp fa fk st = ((fa st).bind (k1_fApp fa fk)) := (by rfl)
@[simp] theorem ap58_fApp (fa fk : FA) (its : List Itm) (s1 : Sls) : k1_fApp fa fk  its s1 = ((fk s1).bind (k2_fApp fa fk  its)) := (by rfl)
@[simp] theorem ap59_fApp (fa fk : FA) (its : List Itm) (jts : List Itm) (s2 : Sls) : k2_fApp fa fk  its jts s2 = (.ok (its ++ jts) s2) := (by rfl)
@[simp] theorem ap60_fMeth (C : Addr) (m : Str) (k : List Itm → Sls → Ot Itm) (fo : FE) (fa : FA) {st : Sls} : fMeth C m k fo fa st = ((fo st).bind (k1_fMeth C m k fo fa)) := (by rfl)
@[simp] theorem ap61_fMeth (C : Addr) (m : Str) (k : List Itm → Sls → Ot Itm) (fo : FE) (fa : FA) (ir : Itm) (s1 : Sls) : k1_fMeth C m k fo fa  ir s1 = (match view s1 ir with
  | some (.ins C' fs _) => if C' = C ∧ fs.contains m = false then (fa s1).bind fun its s2 => k (ir :: its) s2 else .bad
  | _ => .bad) := (by rfl)
@[simp] theorem ap62_fProp (C : Addr) (g : FG) (fo : FE) {st : Sls} : fProp C g fo st = ((fo st).bind (k1_fProp C g fo)) := (by rfl)
theorem ap63_fProp (C : Addr) (g : FG) (fo : FE) (ir : Itm) (s1 : Sls) : k1_fProp C g fo  ir s1 = (match view s1 ir with
  | some (.ins C' _ _) => if C' = C then noExc (callG g [ir] s1) else .bad
  | _ => .bad) := (by rfl)
@[simp] theorem ap64_fCallB (g : List D → Rs) (fa : FA) {st : Sls} : fCallB g fa st = ((fa st).bind (k1_fCallB g fa)) := (by rfl)
@[simp] theorem ap65_fCallB (g : List D → Rs) (fa : FA) (its : List Itm) (s1 : Sls) : k1_fCallB g fa  its s1 = (match views s1 its with
  | some ds => (g ds).out s1
  | none => .bad) := (by rfl)
@[simp] theorem ap66_fIsI (kit : Value → Option Bool) (fe : FE) {st : Sls} : fIsI kit fe st = ((fe st).bind (k1_fIsI kit fe)) := (by rfl)
@[simp] theorem ap67_fIsI (kit : Value → Option Bool) (fe : FE) (it : Itm) (s1 : Sls) : k1_fIsI kit fe  it s1 = (match view s1 it with
  | some d => (gIsI kit d).out s1
  | none => .bad) := (by rfl)
@[simp] theorem ap68_fPar (is : List Nat) (fa : FA) {st : Sls} : fPar is fa st = ((fa st).bindS (k1_fPar is fa)) := (by rfl)
@[simp] theorem ap69_fPar (is : List Nat) (fa : FA) (its : List Itm) (s1 : Sls) : k1_fPar is fa  its s1 = (setAll is its s1) := (by rfl)
@[simp] theorem ap70_fAsgT (fe : FE) (h : FTg) {st : Sls} : fAsgT fe h st = ((fe st).bindS (k1_fAsgT fe h)) := (by rfl)
@[simp] theorem ap71_fAsgT (fe : FE) (h : FTg) (it : Itm) (s1 : Sls) : k1_fAsgT fe h  it s1 = (h it s1) := (by rfl)
theorem ap72_fFor (fw : Sls → Ot Wk) (h : FTg) (body : FS) {st : Sls} : fFor fw h body st = ((fw st).bindS (k1_fFor fw h body)) := (by rfl)
@[simp] theorem ap73_fFor (fw : Sls → Ot Wk) (h : FTg) (body : FS) (w : Wk) (s1 : Sls) : k1_fFor fw h body  w s1 = (loopF w h body w.n 0 s1) := (by rfl)
@[simp] theorem ap74_fWkSeq (asg : List Nat) (fe : FE) {st : Sls} : fWkSeq asg fe st = ((fe st).bind (k1_fWkSeq asg fe)) := (by rfl)
@[simp] theorem ap75_fWkSeq (asg : List Nat) (fe : FE) (it : Itm) (s1 : Sls) : k1_fWkSeq asg fe  it s1 = (match it with
  | .ref i => (match s1[i]? with
    | some (.own (.lst ds)) => if asg.contains i then .ok (seqW ds) (s1.set i (.d (.lst ds))) else .ok (ownW i ds.length) s1
    | some (.d (.lst ds)) => .ok (seqW ds) s1
    | some (.d (.tup ds)) => .ok (seqW ds) s1
    | _ => .bad)
  | .own (.lst ds) => .ok (seqW ds) s1
  | .d (.lst ds) => .ok (seqW ds) s1
  | .d (.tup ds) => .ok (seqW ds) s1
  | .d (.scr ns) => .ok (seqW (ns.map D.int)) s1
  | .d (.str z) => .ok (seqW (z.cps.toList.map fun c => .str ⟨#[c]⟩)) s1
  | _ => .bad) := (by rfl)
theorem ap76_fWkRng (fa : FA) {st : Sls} : fWkRng fa st = ((fa st).bind (k1_fWkRng fa)) := (by rfl)
theorem ap77_fWkRng (fa : FA) (its : List Itm) (s1 : Sls) : k1_fWkRng fa  its s1 = (match views s1 its with
  | some ds => (match rngOf ds with
    | some (i, j) => if -(2 ^ 62) ≤ i ∧ i < 2 ^ 62 ∧ -(2 ^ 62) ≤ j ∧ j < 2 ^ 62 then .ok (rngW i (j - i).toNat) s1 else .bad
    | none => .bad)
  | none => .bad) := (by rfl)
theorem ap78_fLc (fw : Sls → Ot Wk) (h : FTg) (ft : FT) (fe : FE) (vs : List Nat) {st : Sls} : fLc fw h ft fe vs st = ((fw st).bind (k1_fLc fw h ft fe vs)) := (by rfl)
theorem ap79_fLc (fw : Sls → Ot Wk) (h : FTg) (ft : FT) (fe : FE) (vs : List Nat) (w : Wk) (s1 : Sls) : k1_fLc fw h ft fe vs  w s1 = (lcF w h ft fe vs w.n 0 [] (unS s1 vs)) := (by rfl)
@[simp] theorem ap80_fYes {st : Sls} : fYes  st = (.ok true st) := (by rfl)
@[simp] theorem ap81_fMut (g : List D → List D → Option (List D × D)) (fo : FE) (fa : FA) {st : Sls} : fMut g fo fa st = ((fo st).bind (k1_fMut g fo fa)) := (by rfl)
@[simp] theorem ap82_fMut (g : List D → List D → Option (List D × D)) (fo : FE) (fa : FA) (ir : Itm) (s1 : Sls) : k1_fMut g fo fa  ir s1 = (if isLst s1 ir then (fa s1).bind fun its s2 => mutR g ir its s2 else .bad) := (by rfl)
theorem ap83_fMtV (T : String) (g : D → List D → Rs) (fo : FE) (fa : FA) {st : Sls} : fMtV T g fo fa st = ((fo st).bind (k1_fMtV T g fo fa)) := (by rfl)
theorem ap84_fMtV (T : String) (g : D → List D → Rs) (fo : FE) (fa : FA) (ir : Itm) (s1 : Sls) : k1_fMtV T g fo fa  ir s1 = (match view s1 ir with
  | some dx => if tyNm dx = T then (fa s1).bind fun its s2 => (match view s2 ir, views s2 its with
    | some d, some ds => (g d ds).out s2
    | _, _ => .bad) else .bad
  | none => .bad) := (by rfl)
@[simp] theorem ap85_fCmpC (C : Addr) (oth : List Addr) (g : FG) (neg : Bool) (fa fb : FE) {st : Sls} : fCmpC C oth g neg fa fb st = ((fa st).bind (k1_fCmpC C oth g neg fa fb)) := (by rfl)
@[simp] theorem ap86_fCmpC (C : Addr) (oth : List Addr) (g : FG) (neg : Bool) (fa fb : FE) (ia : Itm) (s1 : Sls) : k1_fCmpC C oth g neg fa fb  ia s1 = ((fb s1).bind (k2_fCmpC C oth g neg fa fb  ia)) := (by rfl)
@[simp] theorem ap87_fCmpC (C : Addr) (oth : List Addr) (g : FG) (neg : Bool) (fa fb : FE) (ia : Itm) (ib : Itm) (s2 : Sls) : k2_fCmpC C oth g neg fa fb  ia ib s2 = (cmpC C oth g neg ia ib s2) := (by rfl)
@[simp] theorem ap88_fSetF (C : Addr) (f : Str) (fv fo : FE) {st : Sls} : fSetF C f fv fo st = ((fv st).bindS (k1_fSetF C f fv fo)) := (by rfl)
@[simp] theorem ap89_fSetF (C : Addr) (f : Str) (fv fo : FE) (iv : Itm) (s1 : Sls) : k1_fSetF C f fv fo  iv s1 = ((fo s1).bindS (k2_fSetF C f fv fo  iv)) := (by rfl)
@[simp] theorem ap90_fSetF (C : Addr) (f : Str) (fv fo : FE) (iv : Itm) (io : Itm) (s2 : Sls) : k2_fSetF C f fv fo  iv io s2 = (setF C f iv io s2) := (by rfl)
@[simp] theorem ap91_fAug (g : Int → Int → Int) (i : Nat) (fe : FE) {st : Sls} : fAug g i fe st = (match st[i]? with
  | some (.d (.int a)) => (fe st).bindS fun it s1 => (match view s1 it with
    | some (.int b) => .nx (s1.set i (.d (.int (g a b))))
    | _ => .bad)
  | _ => .bad) := (by rfl)
@[simp] theorem ap92_fDict0 {st : Sls} : fDict0  st = ((Rs.new (.dic [] [])).out st) := (by rfl)
end DL
set_option maxRecDepth 100000
set_option maxHeartbeats 4000000
namespace DL
open PySem PySem.Spec PyProof.Rows L2
def streamBd : FS := (fAsg 3 (fBin gMod (fCallB (g1 gInt) (fCons (fBin gAdd (fBin gAdd (fBin gMul (fName 3) (fC (.int 48271))) (fBin gMod (fCallB (g1 gInt) (fCons (fName 4) fNil)) (fC (.int 2147483543)))) (fC (.int 29))) fNil)) (fC (.int 2147483587))))
def streamFS : FS :=
  (fSeq (fAsg 2 (fIf (fTest (fBin gLt (fName 1) (fCallB (g1 gLen) (fCons (fName 0) fNil)))) (fBin gIx (fName 0) (fName 1)) (fC (.int 0))))
  (fSeq (fAsg 3 (fBin gAdd (fC (.int 6007)) (fBin gMul (fC (.int 9341)) (fName 1))))
  (fSeq (fFor (fWkSeq ([4] ++ [3]) (fSl gSl (fName 0) fNoPart (fPart (fC (.int 5))))) (setSl 4)
  streamBd)
  (fSeq (fAsg 3 (fBin gMod (fCallB (g1 gInt) (fCons (fBin gAdd (fBin gAdd (fBin gMul (fName 3) (fC (.int 39373))) (fBin gMod (fCallB (g1 gInt) (fCons (fName 2) fNil)) (fC (.int 2147483549)))) (fC (.int 3))) fNil)) (fC (.int 2147483587))))
  (fRet (fLst (fCons (fName 3) (fCons (fIf (fTest (fBin gGe (fCallB (g1 gAbs) (fCons (fName 2) fNil)) (fBin gPow (fC (.int 10)) (fC (.int 18))))) (fCallB (g1 gAbs) (fCons (fName 2) fNil)) (fC (.int 0))) (fCons (fC (.int 0)) fNil)))))))))
theorem stream_ev {asg : List Nat} (ha : asg.contains 0 = false) (ha1 : asg.contains 1 = false) {ns : List Int} {k : Nat} :
    ∃ S : Sm, S.ok 0 ∧ gOf asg 5 streamFS [.d (.scr ns), .d (.int k)] = .ok (.own (.lst S.ds)) [.d (.scr ns), .d (.int k)] := by
  have ha' : 0 ∉ asg := by simpa using ha
  have ha1' : 1 ∉ asg := by simpa using ha1
  have key : ∀ c : Int, ((k < ns.length ∧ ns[k]? = some c) ∨ (¬ k < ns.length ∧ c = 0)) → ∃ S : Sm, S.ok 0 ∧ gOf asg 5 streamFS [.d (.scr ns), .d (.int k)] = .ok (.own (.lst S.ds)) [.d (.scr ns), .d (.int k)] := by
    intro c hcell
    obtain ⟨st', e2, x, y, e3⟩ := loop_nx (w := seqW ((cutD ns none (some 5)).map D.int)) (h := setSl 4) (body := streamBd) (st := [.d (.scr ns), .d (.int k), .d (.int c), .d (.int (6007 + 9341 * k)), .un])
      (fun _ st => ∃ x y, st = [.d (.scr ns), .d (.int k), .d (.int c), .d (.int x), y]) ⟨_, _, rfl⟩ (fun i st hi ⟨x, y, e⟩ => by
        subst e
        have hi' : i < (cutD ns none (some 5)).length := by simpa [seqW] using hi
        generalize hv : (cutD ns none (some 5))[i] = v
        refine ⟨.int v, [.d (.scr ns), .d (.int k), .d (.int c), .d (.int ((x * 48271 + v % 2147483543 + 29) % 2147483587)), .d (.int v)], ?_, ?_, _, _, rfl⟩
        · simp [seqW, hi', hv]
        · simp [streamBd, small64]) (fun _ _ => rfl)
    subst e3
    have fin : ∀ b : Int, (fIf (fTest (fBin gGe (fCallB (g1 gAbs) (fCons (fName 2) fNil)) (fBin gPow (fC (.int 10)) (fC (.int 18))))) (fCallB (g1 gAbs) (fCons (fName 2) fNil)) (fC (.int 0))) [.d (.scr ns), .d (.int k), .d (.int c), .d (.int ((x * 39373 + c % 2147483549 + 3) % 2147483587)), y] = .ok (.d (.int b)) [.d (.scr ns), .d (.int k), .d (.int c), .d (.int ((x * 39373 + c % 2147483549 + 3) % 2147483587)), y] →
        ∃ S : Sm, S.ok 0 ∧ gOf asg 5 streamFS [.d (.scr ns), .d (.int k)] = .ok (.own (.lst S.ds)) [.d (.scr ns), .d (.int k)] := by
      intro b hb
      refine ⟨⟨(x * 39373 + c % 2147483549 + 3) % 2147483587, b, 0⟩, ⟨Int.le_refl 0, Int.le_refl 0⟩, ?_⟩
      rw [gOf_rt (it := .own (.lst [.int ((x * 39373 + c % 2147483549 + 3) % 2147483587), .int b, .int 0])) (st := [.d (.scr ns), .d (.int k), .d (.int c), .d (.int ((x * 39373 + c % 2147483549 + 3) % 2147483587)), y])]
      · simp [gOut, fitAll, isOwn, argsBk, ha', ha1', Sm.ds]
      · show streamFS [.d (.scr ns), .d (.int k), .un, .un, .un] = _
        have hb' := hb
        simp [small64] at hb'
        rcases hcell with ⟨h, h2⟩ | ⟨h, h2⟩
        · have h3 : ns[k] = c := by simpa [h] using h2
          simp [ap72_fFor, streamFS, h, h3, atI, ixN, small64, e2, Sm.ds, hb']
        · subst h2
          simp [ap72_fFor, streamFS, h, atI, ixN, small64, e2, Sm.ds] at hb' e2 ⊢
          simp [ap72_fFor, streamFS, h, atI, ixN, small64, e2, Sm.ds, hb']
    by_cases hc : (1000000000000000000 : Int) ≤ (if c < 0 then -c else c)
    · exact fin (if c < 0 then -c else c) (by simp [hc])
    · exact fin 0 (by simp [hc])
  by_cases h : k < ns.length
  · exact key ns[k] (.inl ⟨h, by simp [h]⟩)
  · exact key 0 (.inr ⟨h, rfl⟩)
end DL
set_option maxRecDepth 100000
set_option maxHeartbeats 4000000
namespace DL
open PySem PySem.Spec PyProof.Rows L2
section
variable {g : FG} {its : List Itm} {st as : Sls} {src : List Src} {it : Itm} {n k : Nat} {x : D} {m : MO} {s : Sl}
@[simp] theorem callA_ap : callA g src its st = (match arr cI src its with
    | some js => callG g js st
    | none => .bad) := (by rfl)
@[simp] theorem arr_nil1 {α : Type} {c : D → Option α} {xs : List α} : arr c [] xs = some [] := (by rfl)
@[simp] theorem arr_arg1 {α : Type} {c : D → Option α} {xs : List α} {ss : List Src} : arr c (.arg n :: ss) xs = con2 (xs[n]?) (arr c ss xs) := (by rfl)
@[simp] theorem arr_dfl1 {ss : List Src} : arr cI (.dfl x :: ss) its = con2 (some (.d x)) (arr cI ss its) := (by rfl)
@[simp] theorem callG_ap : callG g its st = (if refsOk its then (match argsSl st its with
    | some as => (match g as with
      | .ok it as' => (match resIt its as' it with
        | some r => .ok r (putBk its as' st)
        | none => .bad)
      | .exc e as' => .exc e (putBk its as' st)
      | .bad => .bad)
    | none => .bad) else .bad) := (by rfl)
@[simp] theorem refsOk_nil1 : refsOk [] = true := (by rfl)
@[simp] theorem refsOk_d1 : refsOk (.d x :: its) = refsOk its := (by rfl)
@[simp] theorem refsOk_own1 : refsOk (.own m :: its) = refsOk its := (by rfl)
@[simp] theorem refsOk_ref1 : refsOk (.ref n :: its) = (!its.any (isRef n) && refsOk its) := (by rfl)
@[simp] theorem argsSl_nil1 : argsSl st [] = some [] := (by rfl)
@[simp] theorem argsSl_cons1 : argsSl st (it :: its) = (match argSl st it, argsSl st its with
    | some s, some ss => some (s :: ss)
    | _, _ => none) := (by rfl)
@[simp] theorem argSl_d1 : argSl st (.d x) = some (.d x) := (by rfl)
@[simp] theorem argSl_own1 : argSl st (.own m) = some (.own m) := (by rfl)
@[simp] theorem argSl_ref1 : argSl st (.ref n) = (match st[n]? with
    | some (.own m) => some (.own m)
    | some (.d x) => some (.d x)
    | _ => none) := (by rfl)
@[simp] theorem putBk_nil1 : putBk [] as st = st := by
  cases as <;> rfl
@[simp] theorem putBk_d1 : putBk (.d x :: its) (s :: as) st = putBk its as st := (by rfl)
@[simp] theorem putBk_own1 : putBk (.own m :: its) (s :: as) st = putBk its as st := (by rfl)
@[simp] theorem putBk_ref1 : putBk (.ref n :: its) (s :: as) st = putBk its as (st.set n s) := (by rfl)
@[simp] theorem resIt_d1 : resIt its as (.d x) = some (.d x) := (by rfl)
@[simp] theorem resIt_own1 : resIt its as (.own m) = some (.own m) := (by rfl)
end
theorem g_rt_d {asg : List Nat} {N : Nat} {f : FS} {as st : Sls} {x : D} (h : f (as ++ List.replicate (N - as.length) .un) = .rt (.d x) st) (hf : fitAll asg 0 as st = true) : gOf asg N f as = .ok (.d x) (argsBk asg 0 as st) := by
  rw [gOf_rt h]
  unfold gOut
  rw [if_pos hf]
theorem g_rt_own {asg : List Nat} {N : Nat} {f : FS} {as st : Sls} {m : MO} (h : f (as ++ List.replicate (N - as.length) .un) = .rt (.own m) st) (hf : fitAll asg 0 as st = true) : gOf asg N f as = .ok (.own m) (argsBk asg 0 as st) := by
  rw [gOf_rt h]
  unfold gOut
  rw [if_pos hf]
theorem g_nx {asg : List Nat} {N : Nat} {f : FS} {as st : Sls} (h : f (as ++ List.replicate (N - as.length) .un) = .nx st) (hf : fitAll asg 0 as st = true) : gOf asg N f as = .ok (.d .non) (argsBk asg 0 as st) := by
  rw [gOf_nx h]
  unfold gOut
  rw [if_pos hf]
end DL
set_option maxRecDepth 100000
set_option maxHeartbeats 4000000
namespace DL
open PySem PySem.Spec PyProof.Rows L2
theorem rng_go {fa : FA} {st s1 : Sls} {its : List Itm} {i j : Int} (e : fa st = .ok its s1) (v : (match views s1 its with | some ds => rngOf ds | none => none) = some (i, j)) (h1 : -1000000000 ≤ i) (h2 : i ≤ 1000000000) (h3 : -1000000000 ≤ j) (h4 : j ≤ 1000000000) :
    fWkRng fa st = .ok (rngW i (j - i).toNat) s1 := by
  unfold fWkRng
  rw [e]
  simp only [Ot.bind]
  cases q : views s1 its with
  | none => rw [q] at v; cases v
  | some ds =>
    rw [q] at v
    have v : rngOf ds = some (i, j) := v
    simp only [v]
    rw [if_pos (by constructor; · omega
                   constructor; · omega
                   constructor <;> omega)]
theorem mtv_go {T : String} {g : D → List D → Rs} {fo : FE} {fa : FA} {st s1 s2 : Sls} {ir : Itm} {its : List Itm} {d : D} {ds : List D} (e1 : fo st = .ok ir s1) (v : view s1 ir = some d) (ht : tyNm d = T) (e2 : fa s1 = .ok its s2) (v1 : view s2 ir = some d) (v2 : views s2 its = some ds) :
    fMtV T g fo fa st = (g d ds).out s2 := by
  unfold fMtV
  rw [e1]
  simp only [Ot.bind, v, ht, e2, v1, v2, if_true]
end DL
set_option maxRecDepth 100000
set_option maxHeartbeats 4000000
namespace DL
open PySem PySem.Spec PyProof.Rows L2
structure Wk.Is (w : Wk) (P : Sls → Prop) (ds : List D) : Prop where
  n : w.n = ds.length
  at_ : ∀ k st, P st → k < ds.length → w.at_ k st = ds[k]?
  fin : ∀ st, P st → w.fin st = true
variable {P : Sls → Prop}
theorem seqW_is (ds : List D) : (seqW ds).Is P ds := ⟨rfl, fun _ _ _ _ => rfl, fun _ _ => rfl⟩
theorem rngW_is (lo : Int) (n : Nat) : (rngW lo n).Is P ((List.range n).map fun k => D.int (lo + (k : Nat))) := by
  refine ⟨by simp [rngW], fun k st _ h => ?_, fun _ _ => rfl⟩
  have h : k < n := by simpa using h
  simp [rngW, h]
theorem rngW_is0 (n : Nat) : (rngW 0 n).Is P ((List.range n).map fun k => D.int (k : Nat)) := by
  have h := rngW_is (P := P) 0 n
  simpa using h
theorem enumW_is (ds : List D) : (enumW ds).Is P (ds.mapIdx fun k d => .tup [.int (k : Nat), d]) := by
  refine ⟨by simp [enumW], fun k st _ _ => ?_, fun _ _ => rfl⟩
  simp [enumW]
theorem ownW_is (i : Nat) (ds : List D) (h : ∀ st, P st → st[i]? = some (.own (.lst ds)) ∨ st[i]? = some (.d (.lst ds))) : (ownW i ds.length).Is P ds := by
  refine ⟨rfl, fun k st p _ => ?_, fun st p => ?_⟩
  · rcases h st p with e | e <;> simp [ownW, e]
  · rcases h st p with e | e <;> simp [ownW, e]
theorem for_inv {α : Type} {w : Wk} {h : FTg} {body : FS} {xs : List α} {emb : α → D} (hw : w.Is P (xs.map emb)) (Inv : Nat → Sls → Prop) (hP : ∀ k st, Inv k st → P st) {st : Sls} (h0 : Inv 0 st)
    (step : ∀ (k : Nat) (x : α) (st : Sls), xs[k]? = some x → Inv k st → ∃ st1, ((h (.d (emb x)) st).bindS body = .nx st1 ∨ (h (.d (emb x)) st).bindS body = .ct st1) ∧ Inv (k + 1) st1) :
    ∃ st', loopF w h body w.n 0 st = .nx st' ∧ Inv xs.length st' := by
  have e : xs.length = w.n := by rw [hw.n, List.length_map]
  rw [e]
  refine loop_post Inv (fun o => ∃ st', o = .nx st' ∧ Inv w.n st') h0 (fun k st hk i => ?_) fun st i => ⟨hw.fin st (hP _ _ i), st, rfl, i⟩
  have hk' : k < xs.length := by omega
  obtain ⟨st1, e1, e2⟩ := step k xs[k] st (List.getElem?_eq_getElem hk') i
  refine ⟨emb xs[k], ?_, .inl ⟨st1, e1, e2⟩⟩
  rw [hw.at_ k st (hP _ _ i) (by rw [List.length_map]; exact hk'), List.getElem?_map, List.getElem?_eq_getElem hk']
  rfl
def OkI (I : Sls → Prop) : OtS → Prop
  | .nx s => I s
  | .ct s => I s
  | _ => False
@[simp] theorem OkI_nx {I : Sls → Prop} {s : Sls} : OkI I (.nx s) = I s := (by rfl)
@[simp] theorem OkI_ct {I : Sls → Prop} {s : Sls} : OkI I (.ct s) = I s := (by rfl)
theorem for_do {α : Type} {w : Wk} {h : FTg} {body : FS} {xs : List α} {emb : α → D} (hw : w.Is P (xs.map emb)) (Inv : Nat → Sls → Prop) (hP : ∀ k st, Inv k st → P st) {st : Sls} (h0 : Inv 0 st)
    (step : ∀ (k : Nat) (x : α) (st : Sls), xs[k]? = some x → Inv k st → OkI (Inv (k + 1)) ((h (.d (emb x)) st).bindS body)) :
    ∃ st', loopF w h body w.n 0 st = .nx st' ∧ Inv xs.length st' := for_inv hw Inv hP h0 fun k x st hk i => by
  have z := step k x st hk i
  cases q : (h (.d (emb x)) st).bindS body with
  | nx s => rw [q] at z; exact ⟨s, .inl rfl, z⟩
  | ct s => rw [q] at z; exact ⟨s, .inr rfl, z⟩
  | rt _ _ => rw [q] at z; exact z.elim
  | bk _ => rw [q] at z; exact z.elim
  | exc _ _ => rw [q] at z; exact z.elim
  | bad => rw [q] at z; exact z.elim
theorem for_fold {α β γ : Type} {w : Wk} {h : FTg} {body : FS} {xs : List α} {emb : α → D} (hw : w.Is P (xs.map emb)) (S : β → γ → Sls) (hP : ∀ b y, P (S b y)) (f : β → α → β) (b : β) (y : γ)
    (step : ∀ (b : β) (y : γ) (x : α), x ∈ xs → ∃ y', (h (.d (emb x)) (S b y)).bindS body = .nx (S (f b x) y') ∨ (h (.d (emb x)) (S b y)).bindS body = .ct (S (f b x) y')) :
    ∃ y', loopF w h body w.n 0 (S b y) = .nx (S (xs.foldl f b) y') := by
  obtain ⟨st', e, y', e'⟩ := for_inv hw (fun k st => ∃ y, st = S ((xs.take k).foldl f b) y) (fun k st ⟨y, e⟩ => by rw [e]; exact hP _ _) ⟨y, rfl⟩ (fun k x st hk ⟨y, e⟩ => by
    subst e
    obtain ⟨y', e⟩ := step ((xs.take k).foldl f b) y x (List.mem_of_getElem? hk)
    have t : (xs.take (k + 1)).foldl f b = f ((xs.take k).foldl f b) x := by
      rw [List.take_add_one, hk]
      simp
    rcases e with e | e
    · exact ⟨_, .inl e, y', by rw [t]⟩
    · exact ⟨_, .inr e, y', by rw [t]⟩)
  subst e'
  rw [List.take_length] at e
  exact ⟨y', e⟩
theorem for_find {α : Type} {w : Wk} {h : FTg} {body : FS} {xs : List α} {emb : α → D} (hw : w.Is P (xs.map emb)) (Inv : Nat → Sls → Prop) (hP : ∀ k st, Inv k st → P st) (Post : OtS → Prop) {st : Sls} (h0 : Inv 0 st)
    (step : ∀ (k : Nat) (x : α) (st : Sls), xs[k]? = some x → Inv k st → (∃ st1, ((h (.d (emb x)) st).bindS body = .nx st1 ∨ (h (.d (emb x)) st).bindS body = .ct st1) ∧ Inv (k + 1) st1) ∨
      (∃ st1, (h (.d (emb x)) st).bindS body = .bk st1 ∧ Post (.nx st1)) ∨ ∃ it st1, (h (.d (emb x)) st).bindS body = .rt it st1 ∧ Post (.rt it st1))
    (fin : ∀ st, Inv xs.length st → Post (.nx st)) : Post (loopF w h body w.n 0 st) := by
  have e : xs.length = w.n := by rw [hw.n, List.length_map]
  rw [e] at fin
  refine loop_post Inv Post h0 (fun k st hk i => ?_) fun st i => ⟨hw.fin st (hP _ _ i), fin st i⟩
  have hk' : k < xs.length := by omega
  refine ⟨emb xs[k], ?_, step k xs[k] st (List.getElem?_eq_getElem hk') i⟩
  rw [hw.at_ k st (hP _ _ i) (by rw [List.length_map]; exact hk'), List.getElem?_map, List.getElem?_eq_getElem hk']
  rfl
theorem lc_map {α : Type} {w : Wk} {h : FTg} {ft : FT} {fe : FE} {vs : List Nat} {st : Sls} {xs : List α} {emb : α → D} (hw : w.Is (fun s => s = st) (xs.map emb)) (hst : unS st vs = st) (p : α → Bool) (f : α → D) (hl : xs.length ≤ sizeLine)
    (step : ∀ x ∈ xs, ∃ s2, h (.d (emb x)) st = .nx s2 ∧ ft s2 = .ok (p x) s2 ∧ unS s2 vs = st ∧ (p x = true → ∃ it, fe s2 = .ok it s2 ∧ frz it s2 = some (f x, s2))) :
    lcF w h ft fe vs w.n 0 [] st = .ok (.own (.lst ((xs.filter p).map f))) st := by
  have en : xs.length = w.n := by rw [hw.n, List.length_map]
  obtain ⟨acc, st', e, e1, e2⟩ := lc_ok (w := w) (h := h) (ft := ft) (fe := fe) (vs := vs) (fun k acc s => acc = ((xs.take k).filter p).map f ∧ s = st) (st := st) ⟨rfl, rfl⟩ (fun k acc s hk ⟨e1, e2⟩ => by
    subst e1 e2
    have hk' : k < xs.length := by omega
    have hx : xs[k]? = some xs[k] := List.getElem?_eq_getElem hk'
    obtain ⟨s2, a1, a2, a3, a4⟩ := step xs[k] (List.mem_of_getElem? hx)
    have t : (xs.take (k + 1)).filter p = (xs.take k).filter p ++ (if p xs[k] = true then [xs[k]] else []) := by
      rw [List.take_add_one, hx, List.filter_append]
      by_cases q : p xs[k] = true
      · simp [q]
      · simp [q]
    refine ⟨emb xs[k], s2, p xs[k], s2, ?_, by rw [hst]; exact a1, a2, fun q => ?_, fun q => ?_⟩
    · rw [hw.at_ k s rfl (by rw [List.length_map]; exact hk'), List.getElem?_map, hx]
      rfl
    · obtain ⟨it, b1, b2⟩ := a4 q
      refine ⟨it, s2, f xs[k], s2, b1, b2, ?_, ?_, a3⟩
      · rw [List.length_map]
        have z := List.length_filter_le p (xs.take k)
        rw [List.length_take] at z
        omega
      · rw [t, if_pos q, List.map_append]
        rfl
    · refine ⟨?_, a3⟩
      rw [t, if_neg (by rw [q]; simp), List.append_nil]) (fun acc s z => hw.fin s z.2)
  subst e1 e2
  rw [← en, List.take_length] at e
  rw [← en]
  exact e
theorem lc_each {α : Type} {w : Wk} {h : FTg} {fe : FE} {vs : List Nat} {st : Sls} {xs : List α} {emb : α → D} (hw : w.Is (fun s => s = st) (xs.map emb)) (hst : unS st vs = st) (f : α → D) (hl : xs.length ≤ sizeLine)
    (step : ∀ x ∈ xs, ∃ s2, h (.d (emb x)) st = .nx s2 ∧ unS s2 vs = st ∧ ∃ it, fe s2 = .ok it s2 ∧ frz it s2 = some (f x, s2)) :
    lcF w h fYes fe vs w.n 0 [] st = .ok (.own (.lst (xs.map f))) st := by
  have e := lc_map (ft := fYes) hw hst (fun _ => true) f hl fun x hx => by
    obtain ⟨s2, a1, a2, a3⟩ := step x hx
    exact ⟨s2, a1, rfl, a2, fun _ => a3⟩
  rw [e, List.filter_eq_self.mpr (fun _ _ => rfl)]
theorem pfor {fw : Sls → Ot Wk} {h : FTg} {body : FS} {st s1 : Sls} {w : Wk} {o : OtS} (e : fw st = .ok w s1) (e2 : loopF w h body w.n 0 s1 = o) : fFor fw h body st = o := by
  rw [ap72_fFor, e]
  exact e2
theorem plc {fw : Sls → Ot Wk} {h : FTg} {ft : FT} {fe : FE} {vs : List Nat} {st s1 s2 : Sls} {w : Wk} {o : Ot Itm} (e : fw st = .ok w s1) (e1 : unS s1 vs = s2) (e2 : lcF w h ft fe vs w.n 0 [] s2 = o) : fLc fw h ft fe vs st = o := by
  rw [ap78_fLc, e, Ot.bind_ok1, ap79_fLc, e1]
  exact e2
theorem rng1 {fa : FA} {st s1 : Sls} {it : Itm} {j : Nat} (e : fa st = .ok [it] s1) (v : view s1 it = some (.int j)) (h : j < 1000000) : fWkRng fa st = .ok (rngW 0 j) s1 := by
  have := rng_go (fa := fa) (st := st) (s1 := s1) (its := [it]) (i := 0) (j := j) e (by rw [views_cons1, v]; rfl) (by omega) (by omega) (by omega) (by omega)
  rw [this]
  congr 2
@[simp] theorem unS_cons1 {st : Sls} {v : Nat} {vs : List Nat} : unS st (v :: vs) = (unS st vs).set v .un := (by rfl)
end DL
set_option maxRecDepth 100000
set_option maxHeartbeats 4000000
namespace DL
open PySem PySem.Spec PyProof.Rows L2
theorem sq {f g : FS} {st s1 : Sls} {o : OtS} (h : f st = .nx s1) (h2 : g s1 = o) : fSeq f g st = o := by
  unfold fSeq
  rw [h]
  exact h2
theorem sqr {f g : FS} {st s1 : Sls} {it : Itm} (h : f st = .rt it s1) : fSeq f g st = .rt it s1 := by
  unfold fSeq
  rw [h]
  rfl
theorem okDs_iff {ds : List D} {n : Nat} : okDs ds n = true ↔ ∀ d ∈ ds, okD d n = true := by
  induction ds with
  | nil => simp [okDs]
  | cons d ds ih => simp [okDs, ih]
theorem okDs_map {α : Type} {f : α → D} {xs : List α} {n : Nat} (h : ∀ x ∈ xs, okD (f x) n = true) : okDs (xs.map f) n = true := by
  rw [okDs_iff]
  intro d hd
  obtain ⟨x, hx, e⟩ := List.mem_map.mp hd
  rw [← e]
  exact h x hx
@[simp] theorem okD_str {w : Str} {n : Nat} : okD (.str w) n = true := by simp [okD]
@[simp] theorem okD_int {i : Int} {n : Nat} : okD (.int i) n = true := by simp [okD]
@[simp] theorem okD_bl {b : Bool} {n : Nat} : okD (.bl b) n = true := by simp [okD]
@[simp] theorem okD_non {n : Nat} : okD .non n = true := by simp [okD]
@[simp] theorem okD_tup {ds : List D} {n : Nat} : okD (.tup ds) (n + 1) = okDs ds n := by simp [okD]
@[simp] theorem okD_lst {ds : List D} {n : Nat} : okD (.lst ds) (n + 1) = okDs ds n := by simp [okD]
@[simp] theorem okDs_nil {n : Nat} : okDs [] n = true := by simp [okDs]
@[simp] theorem okDs_cons {d : D} {ds : List D} {n : Nat} : okDs (d :: ds) n = (okD d n && okDs ds n) := by simp [okDs]
@[simp] theorem deq_str {v w : Str} : deq (.str v) (.str w) = (v == w) := by simp [deq]
@[simp] theorem deq_int {i j : Int} : deq (.int i) (.int j) = (i == j) := by simp [deq]
@[simp] theorem deq_bl {i j : Bool} : deq (.bl i) (.bl j) = (i == j) := by simp [deq]
@[simp] theorem deq_tup {xs ys : List D} : deq (.tup xs) (.tup ys) = deqs xs ys := by simp [deq]
@[simp] theorem deq_lst {xs ys : List D} : deq (.lst xs) (.lst ys) = deqs xs ys := by simp [deq]
@[simp] theorem deqs_nil : deqs [] [] = true := by simp [deqs]
@[simp] theorem deqs_cons {x y : D} {xs ys : List D} : deqs (x :: xs) (y :: ys) = (deq x y && deqs xs ys) := by simp [deqs]
theorem inDs_map {α : Type} {f : α → D} {xs : List α} {d : D} : inDs d (xs.map f) = xs.any fun x => deq (f x) d := by simp [inDs, Function.comp_def]
theorem inDs_strs {w : Str} {ws : List Str} : inDs (.str w) (ws.map D.str) = decide (w ∈ ws) := by
  rw [inDs_map, Bool.eq_iff_iff]
  simp
theorem oks_strs {ws : List Str} {n : Nat} : okDs (ws.map D.str) n = true := okDs_map fun _ _ => okD_str
theorem gIn_strs {w : Str} {ws : List Str} : gIn (.str w) (.lst (ws.map D.str)) = .val (.bl (decide (w ∈ ws))) := by
  show (if okD (.str w) 60 && okDs (ws.map D.str) 60 then Rs.val (.bl (inDs (.str w) (ws.map D.str))) else .bad) = _
  rw [oks_strs, inDs_strs]
  simp
theorem gNotIn_strs {w : Str} {ws : List Str} : gNotIn (.str w) (.lst (ws.map D.str)) = .val (.bl (!decide (w ∈ ws))) := by
  show (if okD (.str w) 60 && okDs (ws.map D.str) 60 then Rs.val (.bl (!inDs (.str w) (ws.map D.str))) else .bad) = _
  rw [oks_strs, inDs_strs]
  simp
theorem nodup_len {α : Type} [DecidableEq α] : ∀ {xs ys : List α}, xs.Nodup → (∀ x ∈ xs, x ∈ ys) → xs.length ≤ ys.length
  | [], _, _, _ => Nat.zero_le _
  | x :: xs, ys, h, s => by
    have h' := List.nodup_cons.mp h
    have m : x ∈ ys := s x List.mem_cons_self
    have l := List.length_erase_of_mem m
    have p : 0 < ys.length := List.length_pos_of_mem m
    have r := nodup_len (xs := xs) (ys := ys.erase x) h'.2 fun z hz => (List.mem_erase_of_ne (fun q => h'.1 (by rw [← q]; exact hz))).mpr (s z (List.mem_cons_of_mem _ hz))
    rw [List.length_cons]
    omega
@[simp] theorem isLst_ref {st : Sls} {j : Nat} : isLst st (.ref j) = (match st[j]? with
    | some (.own (.lst _)) => true
    | _ => false) := (by rfl)
@[simp] theorem mutR_ref {g : List D → List D → Option (List D × D)} {j : Nat} {its : List Itm} {st : Sls} : mutR g (.ref j) its st = (match frzs its st with
    | some (es, s3) => (match s3[j]? with
      | some (.own (.lst ds)) => (match g ds es with
        | some (ds', y) => .ok (.d y) (s3.set j (.own (.lst ds')))
        | none => .bad)
      | _ => .bad)
    | none => .bad) := (by rfl)
@[simp] theorem gAppend_1 {ds : List D} {e : D} : gAppend ds [e] = (if ds.length < sizeLine then some (ds ++ [e], .non) else none) := (by rfl)
@[simp] theorem gInsert_1 {ds : List D} {i : Int} {e : D} : gInsert ds [.int i, e] = (if ds.length < sizeLine ∧ 0 ≤ i ∧ i < 2 ^ 63 then some (ds.take i.toNat ++ [e] ++ ds.drop i.toNat, .non) else none) := (by rfl)
theorem size_ge {n : Nat} (h : n ≤ 1000000) : n ≤ sizeLine := Nat.le_trans h (by decide)
theorem size_gt {n : Nat} (h : n < 1000000) : n < sizeLine := Nat.lt_of_lt_of_le h (by decide)
@[simp] theorem atN {α : Type} {xs : List α} {k : Nat} : atI xs (k : Int) = xs[k]? := by
  unfold atI ixN
  by_cases h : k < xs.length
  · have : (k : Int) < (xs.length : Int) := by omega
    simp [h, this]
  · have : ¬ (k : Int) < (xs.length : Int) := by omega
    simp [h, this]
theorem atI_zero {α : Type} {xs : List α} : atI xs 0 = xs[0]? := atN (k := 0)
@[simp] theorem atI_cons0 {α : Type} {x : α} {xs : List α} : atI (x :: xs) 0 = some x := by rw [atI_zero]; rfl
@[simp] theorem atI_cons1 {α : Type} {x y : α} {xs : List α} : atI (x :: y :: xs) 1 = some y := by
  have := atN (xs := x :: y :: xs) (k := 1)
  simpa using this
@[simp] theorem atI_cons2 {α : Type} {x y z : α} {xs : List α} : atI (x :: y :: z :: xs) 2 = some z := by
  have := atN (xs := x :: y :: z :: xs) (k := 2)
  simpa using this
end DL
set_option maxRecDepth 100000
set_option maxHeartbeats 4000000
namespace DL
open PySem PySem.Spec PyProof.Rows L2
mutual
/-- plain, at most n deep -/
def rpB : D → Nat → Bool
  | .non, _ => true
  | .bl _, _ => true
  | .int i, _ => decide (-999999999999 ≤ i) && decide (i ≤ 999999999999)
  | .str x, _ => x.cps.toList.all fun c => decide (c < 16 ^ 8)
  | .tup ds, n + 1 => rpBs ds n
  | .lst ds, n + 1 => rpBs ds n
  | _, _ => false
def rpBs : List D → Nat → Bool
  | [], _ => true
  | d :: ds, n => rpB d n && rpBs ds n
end
mutual
def rpW : D → Nat
  | .str x => x.cps.size
  | .tup ds => rpWs ds
  | .lst ds => rpWs ds
  | _ => 0
def rpWs : List D → Nat
  | [] => 0
  | d :: ds => rpW d + 1 + rpWs ds
end
mutual
theorem rpB_ok : ∀ (d : D) (n : Nat), rpB d n = true → ∃ p, pyD d = some p ∧ p.showable = true ∧ p.depth ≤ n ∧ p.leavesShort 13 = true ∧ p.hasDict = false ∧ p.bulk = rpW d
  | .non, n, _ => ⟨.none, rfl, rfl, Nat.zero_le _, rfl, rfl, rfl⟩
  | .bl b, n, _ => ⟨.bool b, rfl, rfl, Nat.zero_le _, rfl, rfl, rfl⟩
  | .int i, n, h => by
    have h : (decide (-999999999999 ≤ i) && decide (i ≤ 999999999999)) = true := by simpa [rpB] using h
    rw [Bool.and_eq_true] at h
    have h1 := of_decide_eq_true h.1
    have h2 := of_decide_eq_true h.2
    refine ⟨.int i, rfl, ?_, Nat.zero_le _, ?_, rfl, rfl⟩
    · simp only [PyData.showable, decide_eq_true_eq]
      exact log2_small (Nat.lt_of_le_of_lt (show i.natAbs ≤ 999999999999 by omega) (by decide))
    · simp only [PyData.leavesShort, decide_eq_true_eq]
      exact PyData.shown_int_le2 h1 h2
  | .str x, n, h => by
    have h : (x.cps.toList.all fun c => decide (c < 16 ^ 8)) = true := by simpa [rpB] using h
    exact ⟨.str x, rfl, rfl, Nat.zero_le _, by simp only [PyData.leavesShort]; exact h, rfl, rfl⟩
  | .tup ds, 0, h => by simp [rpB] at h
  | .lst ds, 0, h => by simp [rpB] at h
  | .tup ds, n + 1, h => by
    have h : rpBs ds n = true := by simpa [rpB] using h
    obtain ⟨ps, e, h1, h2, h3, h4, h5⟩ := rpBs_ok ds n h
    refine ⟨.tuple ps, by show (pyDs ds).map PyData.tuple = _; rw [e]; rfl, ?_, ?_, ?_, ?_, ?_⟩
    · simpa only [PyData.showable] using h1
    · simp only [PyData.depth]; omega
    · simpa only [PyData.leavesShort] using h3
    · simpa only [PyData.hasDict] using h4
    · simpa only [PyData.bulk, rpW] using h5
  | .lst ds, n + 1, h => by
    have h : rpBs ds n = true := by simpa [rpB] using h
    obtain ⟨ps, e, h1, h2, h3, h4, h5⟩ := rpBs_ok ds n h
    refine ⟨.list ps, by show (pyDs ds).map PyData.list = _; rw [e]; rfl, ?_, ?_, ?_, ?_, ?_⟩
    · simpa only [PyData.showable] using h1
    · simp only [PyData.depth]; omega
    · simpa only [PyData.leavesShort] using h3
    · simpa only [PyData.hasDict] using h4
    · simpa only [PyData.bulk, rpW] using h5
  | .dic _ _, _, h => by simp [rpB] at h
  | .ins _ _ _, _, h => by simp [rpB] at h
  | .scr _, _, h => by simp [rpB] at h
theorem rpBs_ok : ∀ (ds : List D) (n : Nat), rpBs ds n = true → ∃ ps, pyDs ds = some ps ∧ PyData.showableAll ps = true ∧ PyData.depthAll ps ≤ n ∧ PyData.leavesShortAll 13 ps = true ∧ PyData.hasDictAll ps = false ∧ PyData.bulkAll ps = rpWs ds
  | [], n, _ => ⟨[], rfl, rfl, Nat.zero_le _, rfl, rfl, rfl⟩
  | d :: ds, n, h => by
    have h : rpB d n = true ∧ rpBs ds n = true := by simpa [rpBs] using h
    obtain ⟨p, e, h1, h2, h3, h4, h5⟩ := rpB_ok d n h.1
    obtain ⟨ps, e', g1, g2, g3, g4, g5⟩ := rpBs_ok ds n h.2
    refine ⟨p :: ps, by show con2 (pyD d) (pyDs ds) = _; rw [e, e']; rfl, ?_, ?_, ?_, ?_, ?_⟩
    · simp only [PyData.showableAll, h1, g1, Bool.and_self]
    · simp only [PyData.depthAll]; omega
    · simp only [PyData.leavesShortAll, h3, g3, Bool.and_self]
    · simp only [PyData.hasDictAll, h4, g4, Bool.or_self]
    · simp only [PyData.bulkAll, rpWs, h5, g5]
end
def rep (d : D) : Str := match pyD d with
  | some p => p.shown
  | none => Str.empty
theorem gRepr_ok {d : D} (h : rpB d 12 = true) (w : rpW d ≤ 1000000) : gRepr d = .val (.str (rep d)) := by
  obtain ⟨p, e, h1, h2, h3, h4, h5⟩ := rpB_ok d 12 h
  have z : p.shown.length ≤ sizeLine := PyData.shown_fits_bulk (B := 13) (by decide) (by decide) h3 (by rw [h5]; exact Nat.le_trans w (by decide))
  unfold gRepr rep
  rw [e]
  show (if p.showable = true ∧ p.depth ≤ 12 ∧ p.shown.length ≤ sizeLine ∧ p.hasDict = false then _ else _) = _
  rw [if_pos ⟨h1, h2, z, h4⟩]
theorem gRepr_of {d : D} {x : Str} (h : rpB d 12 = true) (w : rpW d ≤ 1000000) (e : rep d = x) : gRepr d = .val (.str x) := by rw [gRepr_ok h w, e]
@[simp] theorem rpB_non {n : Nat} : rpB .non n = true := by simp [rpB]
@[simp] theorem rpB_bl {b : Bool} {n : Nat} : rpB (.bl b) n = true := by simp [rpB]
@[simp] theorem rpB_tup {ds : List D} {n : Nat} : rpB (.tup ds) (n + 1) = rpBs ds n := by simp [rpB]
@[simp] theorem rpB_lst {ds : List D} {n : Nat} : rpB (.lst ds) (n + 1) = rpBs ds n := by simp [rpB]
@[simp] theorem rpBs_nil {n : Nat} : rpBs [] n = true := by simp [rpBs]
@[simp] theorem rpBs_cons {d : D} {ds : List D} {n : Nat} : rpBs (d :: ds) n = (rpB d n && rpBs ds n) := by simp [rpBs]
theorem rpB_int {i : Int} {n : Nat} (h1 : -999999999999 ≤ i) (h2 : i ≤ 999999999999) : rpB (.int i) n = true := by simp [rpB, h1, h2]
theorem rpBs_map {α : Type} {f : α → D} {xs : List α} {n : Nat} (h : ∀ x ∈ xs, rpB (f x) n = true) : rpBs (xs.map f) n = true := by
  induction xs with
  | nil => simp
  | cons x xs ih =>
    rw [List.map_cons, rpBs_cons, h x List.mem_cons_self, ih fun y hy => h y (List.mem_cons_of_mem _ hy)]
    rfl
@[simp] theorem rpW_non : rpW .non = 0 := by simp [rpW]
@[simp] theorem rpW_bl {b : Bool} : rpW (.bl b) = 0 := by simp [rpW]
@[simp] theorem rpW_int {b : Int} : rpW (.int b) = 0 := by simp [rpW]
@[simp] theorem rpW_str {x : Str} : rpW (.str x) = x.length := by simp [rpW, Str.length]
@[simp] theorem rpW_tup {ds : List D} : rpW (.tup ds) = rpWs ds := by simp [rpW]
@[simp] theorem rpW_lst {ds : List D} : rpW (.lst ds) = rpWs ds := by simp [rpW]
@[simp] theorem rpWs_nil : rpWs [] = 0 := by simp [rpWs]
@[simp] theorem rpWs_cons {d : D} {ds : List D} : rpWs (d :: ds) = rpW d + 1 + rpWs ds := by simp [rpWs]
theorem rpWs_map {α : Type} {f : α → D} {xs : List α} {b : Nat} (h : ∀ x ∈ xs, rpW (f x) + 1 ≤ b) : rpWs (xs.map f) ≤ xs.length * b := by
  induction xs with
  | nil => simp
  | cons x xs ih =>
    have h1 := h x List.mem_cons_self
    have h2 := ih fun y hy => h y (List.mem_cons_of_mem _ hy)
    rw [List.map_cons, rpWs_cons, List.length_cons, Nat.succ_mul]
    omega
@[simp] theorem gNe_str {x y : Str} : gNe (.str x) (.str y) = .val (.bl (!(x == y))) := by simp [gNe]
@[simp] theorem gEq_str {x y : Str} : gEq (.str x) (.str y) = .val (.bl (x == y)) := by simp [gEq]
@[simp] theorem gEq_int {x y : Int} : gEq (.int x) (.int y) = .val (.bl (x == y)) := by simp [gEq]
@[simp] theorem gNe_int {x y : Int} : gNe (.int x) (.int y) = .val (.bl (!(x == y))) := by simp [gNe]
end DL
set_option maxRecDepth 100000
set_option maxHeartbeats 4000000
namespace DL
open PySem PySem.Spec PyProof.Rows L2
def lawBd (gr gs : FG) : FS :=
  (fIfS (fNotT (fTest (fCallA (callA gr [.arg 0]) (fCons (fCallA (callA gs [.arg 0, .arg 1]) (fCons (fName 0) (fCons (fName 1) fNil))) fNil))))
  (fRet (fC (.bl false)))
  fSkip)
def lawFS (body : FS) (lo hi : Int) : FS :=
  (fSeq (fFor (fWkRng (fCons (fCallB (g2 gMax) (fCons (fC (.int lo)) (fCons (fCallB (g2 gMin) (fCons (fCallB (g1 gLen) (fCons (fName 0) fNil)) (fCons (fC (.int hi)) fNil))) fNil))) fNil)) (setSl 1) body)
  (fRet (fC (.bl true))))
theorem putBk_own0 {m : MO} {as st : Sls} : putBk [.own m] as st = st := by
  cases as <;> rfl
theorem law_ev {asg : List Nat} {gr gs : FG} {lo hi : Nat} (hlo : lo < 100) (hhi : hi < 100) (h0 : asg.contains 0 = false) (hs : ∀ (ns : List Int) (k : Nat), ∃ S : Sm, S.ok 0 ∧ gs [.d (.scr ns), .d (.int k)] = .ok (.own (.lst S.ds)) [.d (.scr ns), .d (.int k)])
    (hr : ∀ S : Sm, S.ok 0 → ∃ as', gr [.own (.lst S.ds)] = .ok (.d (.bl true)) as') (ns : List Int) : ∃ as', gOf asg 2 (lawFS (lawBd gr gs) lo hi) [.d (.scr ns)] = .ok (.d (.bl true)) as' := by
  have h0' : 0 ∉ asg := by simpa using h0
  obtain ⟨m, hm, hm2⟩ : ∃ m : Nat, (if (lo : Int) < (if (hi : Int) < (ns.length : Int) then (hi : Int) else (ns.length : Int)) then (if (hi : Int) < (ns.length : Int) then (hi : Int) else (ns.length : Int)) else (lo : Int)) = (m : Int) ∧ m < 1000000 := by
    by_cases c1 : (hi : Int) < (ns.length : Int)
    · by_cases c2 : (lo : Int) < hi
      · exact ⟨hi, by rw [if_pos c1, if_pos c2], by omega⟩
      · exact ⟨lo, by rw [if_pos c1, if_neg c2], by omega⟩
    · by_cases c2 : (lo : Int) < ns.length
      · exact ⟨ns.length, by rw [if_neg c1, if_pos c2], by omega⟩
      · exact ⟨lo, by rw [if_neg c1, if_neg c2], by omega⟩
  obtain ⟨st', e, z, h⟩ := for_do (w := rngW 0 m) (h := setSl 1) (body := lawBd gr gs) (rngW_is0 m)
    (fun k st => ∃ z, st = [.d (.scr ns), z]) (P := fun _ => True) (fun _ _ _ => trivial)
    (st := [.d (.scr ns), .un]) ⟨_, rfl⟩ (fun k x st hk ⟨z, h⟩ => by
      subst h
      obtain ⟨S, h1, h2⟩ := hs ns x
      obtain ⟨as', h3⟩ := hr S h1
      simp [lawBd, h2, h3, putBk_own0])
  subst h
  refine ⟨_, g_rt_d (x := .bl true) (st := [.d (.scr ns), z]) ?_ ?_⟩
  · show lawFS (lawBd gr gs) lo hi [.d (.scr ns), .un] = _
    simp [lawFS]
    rw [pfor]
    case e2 => exact e
    case e =>
      refine rng1 (it := .d (.int m)) (s1 := [.d (.scr ns), .un]) ?_ rfl hm2
      simp at hm ⊢
      exact hm
    simp
  · simp [fitAll, isOwn]
end DL
set_option maxRecDepth 100000
set_option maxHeartbeats 4000000
namespace DL
open PySem PySem.Spec PyProof.Rows L2
set_option maxHeartbeats 1000000 in
theorem meets_enum1 {v : Value} {o : Obj} {H : Heap → Prop} (B : Begins v o H) :
    Meets (Builtin.«enumerate.__new__» ⟨[.type "enumerate", v], []⟩) (fun _ R s => H s.heap ∧
      R (.ok (.ret (.ref (s.heap.push o).objs.size))) { s with heap := (s.heap.push o).push { cls := .type "enumerate", data := .fields #[.none, .bool false, .ref s.heap.objs.size, rawInt 0, .none, .none] } }) :=
  .of_wp fun prog w A R s h => by
    obtain ⟨hp, g, d, tk, os⟩ := s; obtain ⟨h1, h⟩ := h
    have hsub := sub_enumerate
    have q1 : ∀ {A' : Around} {E : Value → Shared → Prop} {Q : Value → Shared → Prop}, Q (.ref hp.objs.size) ⟨hp.push o, g, d, tk, os⟩ → wpAny (model prog w) A' (pyIter v) Q E ⟨hp, g, d, tk, os⟩ :=
      fun q => B.iter prog w _ _ ⟨hp, g, d, tk, os⟩ _ h1 q
    wp_walk using q1
    refine wpAny_stack_any fun st => wpAny_pure ?_
    split
    · rename_i c _ _ _ _ _
      cases (c == Value.type "enumerate")
      · wp_walk using q1
        exact ⟨_, rfl, h⟩
      · wp_walk using q1
        exact ⟨_, rfl, h⟩
    · wp_walk using q1
      exact ⟨_, rfl, h⟩
theorem call_enum1 {prog : Program} {w : World} {A : Around} {E : Value → Shared → Prop} {s : Shared} {v : Value} {o : Obj} {H : Heap → Prop} {Q : Value → Shared → Prop} (B : Begins v o H) (h1 : H s.heap)
    (h : ∀ h', IsEnum h' (s.heap.objs.size + 1) s.heap.objs.size 0 .none → h'.get? s.heap.objs.size = some o → h'.objs.size = s.heap.objs.size + 2 →
      (∀ b o, s.heap.get? b = some o → h'.get? b = some o) → Q (.ref (s.heap.objs.size + 1)) { s with heap := h' }) :
    wpAny (model prog w) A (call (.type "enumerate") [v]) Q E s := by
  refine callType_new F.called_enumerate (by decide) (F.typeCall_enumerate_1 _) (F.newCall_enumerate_1 _) (fun obj => F.args_object_init_2 obj _) F.entry_enumerate_new
    (meets_enum1 B) ⟨h1, ?_⟩
  have hz : (s.heap.push o).objs.size = s.heap.objs.size + 1 := Heap.size_push ..
  show _ ∧ _
  rw [hz]
  have he : IsEnum ((s.heap.push o).push { cls := .type "enumerate", data := .fields #[.none, .bool false, .ref s.heap.objs.size, rawInt 0, .none, .none] }) (s.heap.objs.size + 1) s.heap.objs.size 0 .none := by
    have := Heap.get?_push_size (s.heap.push o) (o := { cls := .type "enumerate", data := .fields #[.none, .bool false, .ref s.heap.objs.size, rawInt 0, .none, .none] }) rfl
    rw [hz] at this; exact this
  refine ⟨⟨_, he, rfl⟩, h _ he (Heap.get?_push_of_some _ (Heap.get?_push_size _ B.free)) (by rw [Heap.size_push, hz]) fun b o x => Heap.get?_push_of_some _ (Heap.get?_push_of_some _ x)⟩
theorem enum_endT {prog : Program} {w : World} {A : Around} {E : Value → Shared → Prop} {s : Shared} {e it t : Addr} {n : Nat} {items : Array Value} {i : Int} {old : Value} {Q : Option Value → Shared → Prop}
    (hh : A.in1.handled = none) (he : IsEnum s.heap e it i old) (hit : s.heap.IsTupleIter it t n) (ht : s.heap.IsTuple t items) (hx : items[n]? = none)
    (hQ : ∀ h', Heap.ExtBut it s.heap h' → Q none { s with heap := h' }) : wpAny (model prog w) A (pyNext (.ref e)) Q E s := by
  have hT : s.TypeIs (.ref e) "enumerate" := ⟨_, he, rfl⟩
  unfold pyNext
  refine wpAny_bind (wpAny_attempt (wpAny_callSpecial?_slot (name := Str.ofString "__next__") hT F.slot_enumerate_next
    (wpAny_call_entry F.slot_enumerate_next hT F.entry_enumerate_next ?_ (F.args_enumerate_next_1 _))))
  show wpAny _ _ (field (.ref e) 2 >>= _) _ _ _
  refine wpAny_bind (wpAny_field he rfl (x := .ref it) rfl ?_)
  refine wpAny_bind (wpAny_nextOf_tuple_end hh hit ht hx fun h' x he' hx' => ?_)
  obtain ⟨o, ho, hc⟩ := hx'
  refine wpAny_bind (wpAny_isInstance (T := "StopIteration") (b := true) ⟨o, ho, hc⟩ isSubtype_stop ?_)
  exact wpAny_pure (hQ _ he')
def IteT (K : PySem.W.Frag) (a : Addr) : It :=
  ⟨fun i H => ∃ (xs : List V) (x : V), SqT K H a xs ∧ xs[i]? = some x, fun i H v H' => ∃ T x, v = .ref T ∧ H T = none ∧ H' = upd H T (.tup [.int (i : Nat), x]) ∧ ∀ xs, SqT K H a xs → xs[i]? = some x, fun i H => ∃ xs : List V, SqT K H a xs ∧ xs.length ≤ i⟩
theorem turn_enumT {P : Program} {w : World} {K : PySem.W.Frag} {elts : List Expr} {kk : Nat} {tpos : Pos} (a e it : Addr) (hat : a ≠ it) (hae : a ≠ e) :
    Turn P w K (.Tuple elts kk tpos) (IteT K a) [e, it] e (fun i h => (∃ old, IsEnum h e it ((i : Nat) : Int) old) ∧ h.IsTupleIter it a i ∧ e ≠ it) where
  mem := by simp
  obj := fun i h st b hb => by
    obtain ⟨⟨old, he⟩, ⟨o, ho, hc, hd⟩, _⟩ := st
    have e' : b = e ∨ b = it := by simpa using hb
    rcases e' with z | z
    · rw [z]; exact ⟨_, he, fun v q => nomatch q⟩
    · rw [z]; exact ⟨o, ho, fun v q => by rw [hd] at q; cases q⟩
  keep := fun i h h' st k => let ⟨⟨old, he⟩, hi, hne⟩ := st; ⟨⟨old, k e (by simp) _ he⟩, hi.at fun o q => k it (by simp) o q, hne⟩
  item := by
    intro X hP hw hK hc i pins s σ H E I hf st hg
    subst hP hw hK
    obtain ⟨⟨old, he⟩, hit, hne⟩ := st
    obtain ⟨xs, x, hq, hx⟩ := hg
    obtain ⟨its, rv, p, hz⟩ := I.tuple hq
    obtain ⟨u, hu, ru⟩ := rv.get hx
    have hel : e < s.heap.objs.size := Heap.lt_size he
    have hil : it < s.heap.objs.size := by obtain ⟨_, q, _⟩ := hit; exact Heap.lt_size q
    have hlt : i < its.toArray.size := by simpa using (List.getElem?_eq_some_iff.mp hu).1
    refine wpAny_pyNext_enum_itemD (Draws.tuple (by first | exact I.ok.hd hc | exact hc) it a hat its.toArray) he ⟨hit, p⟩ hlt hne (by simp [hne, Ne.symm hae]) fun x' h' tk hPx ho hit' hT hsz hk => ?_
    obtain rfl : x' = u := by
      have : its[i]? = some x' := by simpa using hPx
      rw [hu] at this
      exact (Option.some.inj this).symm
    refine ⟨_, rfl, wpAny_letOwnedTupleGo_enum (s := { s with heap := h', toks := tk + 1 }) ho fun h'' he' sb => ?_⟩
    have hT2 : h''.get? s.heap.objs.size = some { cls := .type "tuple", data := .seq #[.int i tk, x'] } := (sb.2 _ (Nat.ne_of_gt hel)).trans hT
    have new : ObjOk X.prog X.w (upd H s.heap.objs.size (.tup [.int (i : Nat), x])) h'' s.heap.objs.size (.tup [.int (i : Nat), x]) :=
      ⟨by show 2 ≤ sizeLine; decide, [.int i tk, x'], .cons ⟨_, rfl⟩ (.cons ru .nil), ⟨_, hT2, rfl, _, rfl⟩⟩
    have I1 : Inv X pins σ (upd H s.heap.objs.size (.tup [.int (i : Nat), x])) { s with heap := h'', toks := tk + 1 } :=
      I.turnedNew (ch := [e, it]) (fun b ob hb q => (sb.2 b (fun z => hb (by simp [z]))).trans (hk b ob (fun z => hb (by simp [z])) (fun z => hb (by simp [z])) q)) hf (Nat.le_refl _) new
    refine ⟨.ref s.heap.objs.size, _, I1, rfl, ⟨_, x, rfl, I.hok.fresh (Nat.le_refl _), rfl, fun ys hy => by rw [I.tuple_inj hy hq]; exact hx⟩, ⟨⟨x', ?_⟩, hit'.1.at fun o q => (sb.2 it (Ne.symm hne)).trans q, hne⟩, fun b hb => ?_⟩
    · have e1 : ((i + 1 : Nat) : Int) = (i : Int) + 1 := by omega
      rw [e1]; exact he'
    · have hb' : b < s.heap.objs.size := by
        have e' : b = e ∨ b = it := by simpa using hb
        rcases e' with z | z
        · rw [z]; exact hel
        · rw [z]; exact hil
      rw [upd_ne (Nat.ne_of_lt hb')]
      exact (hf b hb).1
  done := by
    intro X hP hw hK hc i pins s σ H E I hf st hg
    subst hP hw hK
    obtain ⟨⟨old, he⟩, hit, hne⟩ := st
    obtain ⟨xs, hq, hx⟩ := hg
    obtain ⟨its, rv, p, hz⟩ := I.tuple hq
    obtain ⟨f0, f1, f2, f3, f4, f5⟩ := hf it (by simp)
    have hl := rv.length
    exact enum_endT (by first | exact I.ok.hd hc | exact hc) he hit p (by simp; omega) fun h' eb => ⟨rfl, I.turned (t' := s.toks) (fun b o hb q => eb b o hb q) f0 f1 f3 f4 f5⟩
  self := fun A i s Q E st h => let ⟨⟨_, he⟩, _⟩ := st; wpAny_pyIter_enum he h
def iEnumT (K : PySem.W.Frag) (ta : TA) : TI := fun σ H R => ta σ H fun vs H1 => ∃ a, vs = [.ref a] ∧ ((∃ xs, SqL K H1 a xs ∧ R (Ite K a) H1) ∨ ∃ xs, SqT K H1 a xs ∧ R (IteT K a) H1)
theorem pi_enumT {X : Cx} {e : Expr} {ta : TA} {p pos tpos : Pos} {elts : List Expr} {kk : Nat} (hg : Gl X "enumerate") (hm : X.mg "enumerate" = none) (ha : PA X [e] ta) (hs : starEach [e] X.env = [(false, eval e X.env)] := by rfl) :
    PI X (.Tuple elts kk tpos) (.Call (.Name "enumerate" p) [e] [] pos) (iEnumT X.K ta) := by
  refine ⟨fun pins s σ H R I h => ?_⟩
  refine Call_ (ld_blt I hg hm boot_enumerate (PyProof.Rows.callWith_type1 (thn (ha.run pos pins s σ H _ I h) fun us s1 ⟨vs, H1, I1, r1, q1⟩ => ?_) hs rfl))
  obtain ⟨a, ex, q⟩ := q1
  subst ex
  cases r1 with
  | cons r rr =>
    cases rr
    cases r
    have below : ∀ b ∈ [s1.heap.objs.size + 1, s1.heap.objs.size], s1.heap.objs.size ≤ b := fun b hb => by
      have e' : b = s1.heap.objs.size + 1 ∨ b = s1.heap.objs.size := by simpa using hb
      rcases e' with z | z
      · rw [z]; exact Nat.le_add_right _ _
      · rw [z]; exact Nat.le_refl _
    rcases q with ⟨xs, hq, q⟩ | ⟨xs, hq, q⟩
    · obtain ⟨its, rv, p', hz⟩ := I1.list hq
      refine call_enumerate_list p'.isList fun h' he hit hsz hk => wpAny_pyIter_enum he ?_
      have I2 : Inv X pins σ H1 { s1 with heap := h' } := I1.kept (t' := s1.toks) hk
      refine ⟨s1.heap.objs.size + 1, [s1.heap.objs.size + 1, s1.heap.objs.size], _, _, H1, rfl, I2, turn_enum a (s1.heap.objs.size + 1) s1.heap.objs.size, ⟨⟨.none, he⟩, hit, Nat.succ_ne_self _⟩, fun b hb => ?_, q⟩
      exact I1.fpOk (below b hb) (I1.hok.fresh (below b hb))
    · obtain ⟨its, rv, p', hz⟩ := I1.tuple hq
      have hal : a < s1.heap.objs.size := by obtain ⟨_, q, _⟩ := p'; exact Heap.lt_size q
      refine call_enum1 (begins_tuple a its.toArray) p' fun h' he hit hsz hk => wpAny_pyIter_enum he ?_
      have I2 : Inv X pins σ H1 { s1 with heap := h' } := I1.kept (t' := s1.toks) hk
      refine ⟨s1.heap.objs.size + 1, [s1.heap.objs.size + 1, s1.heap.objs.size], _, _, H1, rfl, I2, turn_enumT a (s1.heap.objs.size + 1) s1.heap.objs.size (Nat.ne_of_lt hal) (Nat.ne_of_lt (Nat.lt_succ_of_lt hal)), ⟨⟨.none, he⟩, ⟨_, hit, rfl, rfl⟩, Nat.succ_ne_self _⟩, fun b hb => ?_, q⟩
      exact I1.fpOk (below b hb) (I1.hok.fresh (below b hb))
section
variable {K : PySem.W.Frag} {σ : L2.St} {F H : Hp} {st : Sls} {asg : List Nat} {a : Addr} {xs : List V} {ds : List D}
theorem wk_enumL (h : F a = some (.lst xs)) (r : RDs K F xs ds) : WkOk K (Ite K a) (enumW ds) true σ F H st asg := fun σ' F' H' st' s k => by
  have hq : SqL K H' a xs := SqL.of (s.rel.sub _ _ (s.fr _ _ h))
  refine ⟨fun _ => ⟨xs, hq, by rw [r.length]; exact Nat.le_refl _⟩, fun j d hj e => ?_⟩
  have e : ds[j]?.map (fun d => D.tup [.int (j : Nat), d]) = some d := e
  cases q : ds[j]? with
  | none => rw [q] at e; cases e
  | some d0 =>
    rw [q] at e
    cases e
    obtain ⟨x, hx, rd⟩ := r.get q
    refine ⟨⟨xs, x, hq, hx⟩, fun v H'' y => ?_⟩
    obtain ⟨T, x', e1, e2, e3, e4⟩ := y
    have := e4 xs hq
    rw [hx] at this
    cases this
    exact ⟨T, _, _, e1, rfl, e2, e3, rfl, RD.mono s.fr _ _ rd, trivial⟩
theorem wk_enumT (h : SqX K F a xs) (r : RDs K F xs ds) : WkOk K (IteT K a) (enumW ds) true σ F H st asg := fun σ' F' H' st' s k => by
  have hq : SqT K H' a xs := ((h.mono s.fr).mono s.rel.sub).sq
  refine ⟨fun _ => ⟨xs, hq, by rw [r.length]; exact Nat.le_refl _⟩, fun j d hj e => ?_⟩
  have e : ds[j]?.map (fun d => D.tup [.int (j : Nat), d]) = some d := e
  cases q : ds[j]? with
  | none => rw [q] at e; cases e
  | some d0 =>
    rw [q] at e
    cases e
    obtain ⟨x, hx, rd⟩ := r.get q
    refine ⟨⟨xs, x, hq, hx⟩, fun v H'' y => ?_⟩
    obtain ⟨T, x', e1, e2, e3, e4⟩ := y
    have := e4 xs hq
    rw [hx] at this
    cases this
    exact ⟨T, _, _, e1, rfl, e2, e3, rfl, RD.mono s.fr _ _ rd, trivial⟩
end
def fWkEnum (fa : FA) : Sls → Ot Wk := fun st => (fa st).bind fun its s1 => match its with
  | [it] => (match frz it s1 with
    | some (.lst ds, s2) => .ok (enumW ds) s2
    | some (.tup ds, s2) => .ok (enumW ds) s2
    | _ => .bad)
  | _ => .bad
theorem di_enum {X : Cx} {W : WX} {e : Expr} {fa : FA} {p pos tpos : Pos} {elts : List Expr} {kk : Nat} {asg : List Nat} (hg : Gl X "enumerate") (hm : X.mg "enumerate" = none) (ha : DA X W [e] fa) (hs : starEach [e] X.env = [(false, eval e X.env)] := by rfl) :
    DI X W true (.Tuple elts kk tpos) (.Call (.Name "enumerate" p) [e] [] pos) asg (fWkEnum fa) := PI.conseq (pi_enumT hg hm ha.pa hs) fun σ H R h => by
  obtain ⟨F, st, R0, g0⟩ := h
  refine ⟨F, st, R0, (Go.bind g0).imp fun its F1 H1 s1 p1 g1 vs r => ?_⟩
  match its, vs, r, g1 with
  | [it], [v], r, g1 =>
    have g1 : Go X.K W σ F H st (match frz it s1 with
      | some (.lst ds, s2) => .ok (enumW ds) s2
      | some (.tup ds, s2) => .ok (enumW ds) s2
      | _ => .bad) (fun w F1 H1 s1 => ∀ J, WkOk X.K J w true σ F1 H1 s1 asg → R J H1) := g1
    split at g1
    · rename_i ds s2 q
      obtain ⟨F2, p2, rd, _⟩ := frz_ok p1 r.1 q
      obtain ⟨a, xs, e1, h, rs⟩ := rd
      exact ⟨a, by rw [e1], .inl ⟨xs, SqL.of (p2.rel.sub _ _ h), g1 F2 H1 p2 _ (wk_enumL h rs)⟩⟩
    · rename_i ds s2 q
      obtain ⟨F2, p2, rd, _⟩ := frz_ok p1 r.1 q
      obtain ⟨a, xs, e1, h, rs⟩ := rd
      exact ⟨a, by rw [e1], .inr ⟨xs, (h.mono p2.rel.sub).sq, g1 F2 H1 p2 _ (wk_enumT h rs)⟩⟩
    · exact g1.elim
  | [], _, _, g1 => exact g1.elim
  | _ :: _ :: _, _, _, g1 => exact g1.elim
  | [it], [], r, _ => exact r.elim
  | [it], _ :: _ :: _, r, _ => exact r.2.2.elim
@[simp] theorem fWkEnum_ap {fa : FA} {st s1 : Sls} {it : Itm} (e : fa st = .ok [it] s1) : fWkEnum fa st = (match frz it s1 with
    | some (.lst ds, s2) => .ok (enumW ds) s2
    | some (.tup ds, s2) => .ok (enumW ds) s2
    | _ => .bad) := by
  unfold fWkEnum
  rw [e]
  rfl
end DL
set_option maxRecDepth 100000
set_option maxHeartbeats 4000000
namespace DL
open PySem PySem.Spec PyProof.Rows L2
section
variable {α : Type} {le : α → α → Bool}
def insS (le : α → α → Bool) (x : α) : List α → List α
  | [] => [x]
  | y :: ys => if le x y = true then x :: y :: ys else y :: insS le x ys
def srt (le : α → α → Bool) : List α → List α
  | [] => []
  | x :: xs => insS le x (srt le xs)
theorem insS_perm {x : α} : ∀ {ys : List α}, (insS le x ys).Perm (x :: ys)
  | [] => List.Perm.refl _
  | y :: ys => by
    unfold insS
    split
    · exact List.Perm.refl _
    · exact (List.Perm.cons y insS_perm).trans (List.Perm.swap x y ys)
theorem srt_perm : ∀ {xs : List α}, (srt le xs).Perm xs
  | [] => List.Perm.refl _
  | x :: xs => insS_perm.trans (List.Perm.cons x srt_perm)
theorem insS_pair (tr : ∀ a b c, le a b = true → le b c = true → le a c = true) (to : ∀ a b, le a b = true ∨ le b a = true) {x : α} : ∀ {ys : List α}, ys.Pairwise (fun a b => le a b = true) → (insS le x ys).Pairwise fun a b => le a b = true
  | [], _ => List.pairwise_singleton _ _
  | y :: ys, h => by
    unfold insS
    have h' := List.pairwise_cons.mp h
    split
    · rename_i c
      refine List.pairwise_cons.mpr ⟨fun z hz => ?_, h⟩
      rcases List.mem_cons.mp hz with q | q
      · rw [q]; exact c
      · exact tr _ _ _ c (h'.1 z q)
    · rename_i c
      have c' : le y x = true := (to x y).resolve_left c
      refine List.pairwise_cons.mpr ⟨fun z hz => ?_, insS_pair tr to h'.2⟩
      rcases List.mem_cons.mp (insS_perm.mem_iff.mp hz) with q | q
      · rw [q]; exact c'
      · exact h'.1 z q
theorem srt_pair (tr : ∀ a b c, le a b = true → le b c = true → le a c = true) (to : ∀ a b, le a b = true ∨ le b a = true) : ∀ {xs : List α}, (srt le xs).Pairwise fun a b => le a b = true
  | [] => List.Pairwise.nil
  | x :: xs => insS_pair tr to (srt_pair tr to)
theorem pair_uniq : ∀ {xs ys : List α}, (∀ a ∈ xs, ∀ b ∈ xs, le a b = true → le b a = true → a = b) → xs.Perm ys → xs.Pairwise (fun a b => le a b = true) → ys.Pairwise (fun a b => le a b = true) → xs = ys
  | [], ys, _, p, _, _ => (List.Perm.nil_eq p)
  | x :: xs, [], _, p, _, _ => absurd p.length_eq (by simp)
  | x :: xs, y :: ys, an, p, hx, hy => by
    have hx' := List.pairwise_cons.mp hx
    have hy' := List.pairwise_cons.mp hy
    have my : y ∈ x :: xs := p.mem_iff.mpr List.mem_cons_self
    have mx : x ∈ y :: ys := p.mem_iff.mp List.mem_cons_self
    have e : x = y := by
      rcases List.mem_cons.mp my with q | q
      · exact q.symm
      · rcases List.mem_cons.mp mx with q2 | q2
        · exact q2
        · exact an x List.mem_cons_self y my (hx'.1 y q) (hy'.1 x q2)
    subst e
    rw [pair_uniq (fun a ha b hb => an a (List.mem_cons_of_mem _ ha) b (List.mem_cons_of_mem _ hb)) (List.Perm.cons_inv p) hx'.2 hy'.2]
theorem srt_uniq (tr : ∀ a b c, le a b = true → le b c = true → le a c = true) (to : ∀ a b, le a b = true ∨ le b a = true) {xs ys : List α} (an : ∀ a ∈ xs, ∀ b ∈ xs, le a b = true → le b a = true → a = b) (p : ys.Perm xs) (h : ys.Pairwise fun a b => le a b = true) : ys = srt le xs :=
  pair_uniq (fun a ha b hb => an a (p.mem_iff.mp ha) b (p.mem_iff.mp hb)) (p.trans srt_perm.symm) h (srt_pair tr to)
theorem srt_eq (tr : ∀ a b c, le a b = true → le b c = true → le a c = true) (to : ∀ a b, le a b = true ∨ le b a = true) {xs ys : List α} (an : ∀ a ∈ xs, ∀ b ∈ xs, le a b = true → le b a = true → a = b) (p : xs.Perm ys) : srt le xs = srt le ys :=
  srt_uniq tr to (fun a ha b hb => an a (p.mem_iff.mpr ha) b (p.mem_iff.mpr hb)) (srt_perm.trans p) (srt_pair tr to)
end
def leS (x y : Str) : Bool := !decide (y.cps.toList < x.cps.toList)
theorem leS_iff {x y : Str} : leS x y = true ↔ x.cps.toList ≤ y.cps.toList := by
  unfold leS
  rw [Bool.not_eq_true', decide_eq_false_iff_not]
  exact Iff.rfl
theorem leS_trans (a b c : Str) (h : leS a b = true) (g : leS b c = true) : leS a c = true := leS_iff.mpr (List.le_trans (leS_iff.mp h) (leS_iff.mp g))
theorem leS_total (a b : Str) : leS a b = true ∨ leS b a = true := (List.le_total a.cps.toList b.cps.toList).imp leS_iff.mpr leS_iff.mpr
theorem leS_anti (a b : Str) (h : leS a b = true) (g : leS b a = true) : a = b := by
  have e := List.le_antisymm (leS_iff.mp h) (leS_iff.mp g)
  obtain ⟨⟨a⟩⟩ := a
  obtain ⟨⟨b⟩⟩ := b
  have e : a = b := e
  rw [e]
def sortS (xs : List Str) : List Str := srt leS xs
theorem sortS_uniq {xs ys : List Str} (p : ys.Perm xs) (h : sortedS ys = true) : ys = sortS xs := by
  refine srt_uniq leS_trans leS_total (fun a _ b _ => leS_anti a b) p ?_
  have key : ∀ (l : List Str) (x : Str), risingS x l = true → (x :: l).Pairwise fun a b => leS a b = true := by
    intro l
    induction l with
    | nil => intro x _; exact List.pairwise_singleton _ _
    | cons y l ih =>
      intro x h
      have h : (!ltCps y.cps.toList x.cps.toList && risingS y l) = true := h
      rw [Bool.and_eq_true, ltCps_eq] at h
      have r := ih y h.2
      refine List.pairwise_cons.mpr ⟨fun z hz => ?_, r⟩
      rcases List.mem_cons.mp hz with q | q
      · rw [q]; exact h.1
      · exact leS_trans _ _ _ h.1 ((List.pairwise_cons.mp r).1 z q)
  cases ys with
  | nil => exact List.Pairwise.nil
  | cons x l => exact key l x h
def leI (x y : Int) : Bool := decide (x ≤ y)
def sortI (xs : List Int) : List Int := srt leI xs
theorem leI_trans (a b c : Int) (h : leI a b = true) (g : leI b c = true) : leI a c = true := by
  unfold leI at *
  rw [decide_eq_true_eq] at *
  omega
theorem leI_total (a b : Int) : leI a b = true ∨ leI b a = true := by
  unfold leI
  rw [decide_eq_true_eq, decide_eq_true_eq]
  omega
theorem leI_anti (a b : Int) (h : leI a b = true) (g : leI b a = true) : a = b := by
  unfold leI at *
  rw [decide_eq_true_eq] at *
  omega
theorem sortI_uniq {xs ys : List Int} (p : ys.Perm xs) (h : ys.Pairwise (· ≤ ·)) : ys = sortI xs :=
  srt_uniq leI_trans leI_total (fun a _ b _ => leI_anti a b) p (h.imp fun q => decide_eq_true q)
def leT : List Int → List Int → Bool
  | [], _ => true
  | _ :: _, [] => false
  | x :: xs, y :: ys => decide (x < y) || (decide (x = y) && leT xs ys)
theorem leT_trans : ∀ a b c : List Int, leT a b = true → leT b c = true → leT a c = true
  | [], _, _, _, _ => rfl
  | _ :: _, [], _, h, _ => by simp [leT] at h
  | _ :: _, _ :: _, [], _, h => by simp [leT] at h
  | x :: a, y :: b, z :: c, h, g => by
    simp only [leT, Bool.or_eq_true, Bool.and_eq_true, decide_eq_true_eq] at *
    rcases h with h | ⟨h, h2⟩
    · rcases g with g | ⟨g, g2⟩
      · exact .inl (by omega)
      · exact .inl (by omega)
    · rcases g with g | ⟨g, g2⟩
      · exact .inl (by omega)
      · exact .inr ⟨by omega, leT_trans a b c h2 g2⟩
theorem leT_total : ∀ a b : List Int, leT a b = true ∨ leT b a = true
  | [], _ => .inl rfl
  | _ :: _, [] => .inr rfl
  | x :: a, y :: b => by
    simp only [leT, Bool.or_eq_true, Bool.and_eq_true, decide_eq_true_eq]
    have ih := leT_total a b
    rcases Int.lt_trichotomy x y with h | h | h
    · exact .inl (.inl h)
    · rcases ih with q | q
      · exact .inl (.inr ⟨h, q⟩)
      · exact .inr (.inr ⟨h.symm, q⟩)
    · exact .inr (.inl h)
theorem leT_anti : ∀ a b : List Int, leT a b = true → leT b a = true → a = b
  | [], [], _, _ => rfl
  | [], _ :: _, _, h => by simp [leT] at h
  | _ :: _, [], h, _ => by simp [leT] at h
  | x :: a, y :: b, h, g => by
    simp only [leT, Bool.or_eq_true, Bool.and_eq_true, decide_eq_true_eq] at *
    rcases h with h | ⟨h, h2⟩
    · rcases g with g | ⟨g, _⟩ <;> omega
    · rcases g with g | ⟨_, g2⟩
      · omega
      · rw [h, leT_anti a b h2 g2]
def sortT (xs : List (List Int)) : List (List Int) := srt leT xs
theorem code_leT {B : Int} : ∀ {a b : List Int}, a.length = b.length → TS.Bd B a → TS.Bd B b → TS.code B a ≤ TS.code B b → leT a b = true
  | [], _, _, _, _, _ => rfl
  | x :: a, [], h, _, _, _ => by simp at h
  | x :: a, y :: b, h, ha, hb, hc => by
    have h' : a.length = b.length := by simpa using h
    simp only [leT, Bool.or_eq_true, Bool.and_eq_true, decide_eq_true_eq]
    rcases Int.lt_trichotomy x y with q | q | q
    · exact .inl q
    · refine .inr ⟨q, code_leT h' ha.tail hb.tail ?_⟩
      subst q
      unfold TS.code at hc
      rw [h'] at hc
      omega
    · have z := TS.code_lt h'.symm hb.tail ha.tail q
      omega
end DL
set_option maxRecDepth 100000
set_option maxHeartbeats 4000000
namespace DL
open PySem PySem.Spec PyProof.Rows L2
def tups? : List D → Option (List (List Int))
  | [] => some []
  | .tup xs :: ds => con2 (ints? xs) (tups? ds)
  | _ :: _ => none
def okT : List (List Int) → Bool
  | [] => true
  | n :: L => decide (1 ≤ n.length) && (n :: L).all fun m => decide (m.length = n.length) && m.all fun i => decide (0 ≤ i) && decide (i < 1000)
def tupI (ns : List Int) : D := .tup (ns.map D.int)
def gSorted : D → Rs
  | .lst ds => if ds.length < 64 then (match strs? ds with
    | some ws => .new (.lst ((sortS ws).map D.str))
    | none => match ints? ds with
      | some ns => .new (.lst ((sortI ns).map D.int))
      | none => match tups? ds with
        | some L => if okT L = true then .new (.lst ((sortT L).map tupI)) else .bad
        | none => .bad) else .bad
  | _ => .bad
section
variable {K : PySem.W.Frag} {F H : Hp}
theorem rds_strs : ∀ {ws : List Str}, RDs K F (ws.map V.str) (ws.map D.str)
  | [] => trivial
  | _ :: ws => ⟨rfl, rds_strs (ws := ws)⟩
theorem rds_ints : ∀ {ws : List Int}, RDs K F (ws.map V.int) (ws.map D.int)
  | [] => trivial
  | _ :: ws => ⟨rfl, rds_ints (ws := ws)⟩
theorem ints_eq : ∀ {ds : List D} {ns : List Int}, ints? ds = some ns → ds = ns.map D.int
  | [], ns, h => by cases h; rfl
  | d :: ds, ns, h => by
    cases d with
    | int i =>
      have h : (ints? ds).map (i :: ·) = some ns := h
      cases q : ints? ds with
      | none => rw [q] at h; cases h
      | some ms =>
        rw [q] at h
        cases h
        rw [ints_eq q]
        rfl
    | _ => cases h
theorem tups_eq : ∀ {ds : List D} {L : List (List Int)}, tups? ds = some L → ds = L.map tupI
  | [], L, h => by cases h; rfl
  | d :: ds, L, h => by
    cases d with
    | tup xs =>
      have h : con2 (ints? xs) (tups? ds) = some L := h
      obtain ⟨y, ys, e1, e2, e3⟩ := con2_some h
      subst e3
      rw [tups_eq e2, ints_eq e1]
      rfl
    | _ => cases h
theorem RDs.perm {xs ys : List V} (p : ys.Perm xs) : ∀ {L : List (List Int)}, RDs K F xs (L.map tupI) → ∃ L' : List (List Int), L'.Perm L ∧ RDs K F ys (L'.map tupI) := by
  have key : ∀ {xs ys : List V}, xs.Perm ys → ∀ {L : List (List Int)}, RDs K F xs (L.map tupI) → ∃ L' : List (List Int), L'.Perm L ∧ RDs K F ys (L'.map tupI) := by
    intro xs ys p
    induction p with
    | nil => exact fun {L} r => ⟨L, List.Perm.refl _, r⟩
    | cons x _ ih =>
      intro L r
      cases L with
      | nil => exact r.elim
      | cons n L =>
        obtain ⟨L', p', r'⟩ := ih r.2
        exact ⟨n :: L', List.Perm.cons n p', r.1, r'⟩
    | swap x y l =>
      intro L r
      match L, r with
      | n :: m :: L, r => exact ⟨m :: n :: L, List.Perm.swap n m L, r.2.1, r.1, r.2.2⟩
      | [], r => exact r.elim
      | [_], r => exact r.2.elim
    | trans _ _ ih1 ih2 =>
      intro L r
      obtain ⟨L1, p1, r1⟩ := ih1 r
      obtain ⟨L2, p2, r2⟩ := ih2 r1
      exact ⟨L2, p2.trans p1, r2⟩
  exact fun {L} r => key p.symm r
theorem RDs.pairL {R : List Int → List Int → Prop} : ∀ {ys : List V} {L : List (List Int)}, RDs K F ys (L.map tupI) → ys.Pairwise (fun x y => ∀ n m, RD K F x (tupI n) → RD K F y (tupI m) → R n m) → L.Pairwise R
  | [], [], _, _ => List.Pairwise.nil
  | [], _ :: _, r, _ => r.elim
  | _ :: _, [], r, _ => r.elim
  | y :: ys, n :: L, r, h => by
    have h' := List.pairwise_cons.mp h
    refine List.pairwise_cons.mpr ⟨fun m hm => ?_, RDs.pairL r.2 h'.2⟩
    obtain ⟨i, hi⟩ := List.getElem?_of_mem hm
    obtain ⟨z, hz, rz⟩ := RDs.get (i := i) (d := tupI m) r.2 (by rw [List.getElem?_map, hi]; rfl)
    exact h'.1 z (List.mem_of_getElem? hz) n m r.1 rz
theorem rd_tupI {x : V} {n : List Int} (s : Same F H) (h : RD K F x (tupI n)) : TupI K H x n := by
  obtain ⟨a, xs, e, q, r⟩ := h
  have : xs = n.map V.int := by
    clear e q
    induction n generalizing xs with
    | nil => cases xs with
      | nil => rfl
      | cons _ _ => exact r.elim
    | cons i n ih => cases xs with
      | nil => exact r.elim
      | cons x xs =>
        have e : x = .int i := r.1
        rw [e, ih xs r.2]
        rfl
  subst this
  exact ⟨a, e, (q.mono s).sq⟩
end
theorem cs_sorted {X : Cx} : CallS X (.builtin "sorted") (g1 gSorted) := by
  refine CallS.one (r := fun vs H Q => rSortedS X.K vs H Q ∨ rSortedI X.K vs H Q ∨ ∃ d, 1 ≤ d ∧ rSortU X.K d 1000 vs H Q) ?_ g1_bad fun F H v d Q s rv q => ?_
  · rintro pins s σ H vs us Q I r (h | h | ⟨d, hd, h⟩)
    · exact cr_sortedS pins s σ H vs us Q I r h
    · exact cr_sortedI pins s σ H vs us Q I r h
    · exact cr_sortT hd pins s σ H vs us Q I r h
  · cases d with
    | lst ds =>
      replace q : ResOk X.K F H (if ds.length < 64 then (match strs? ds with
        | some ws => .new (.lst ((sortS ws).map D.str))
        | none => match ints? ds with
          | some ns => .new (.lst ((sortI ns).map D.int))
          | none => match tups? ds with
            | some L => if okT L = true then .new (.lst ((sortT L).map tupI)) else .bad
            | none => .bad) else .bad) Q := q
      obtain ⟨a, xs, e, h, r⟩ := rw_lst s rv
      subst e
      split at q
      · rename_i hl
        split at q
        · rename_i ws e1
          have ex := strs_ok r e1
          subst ex
          have hl' : ws.length < 64 := by
            have := r.length
            rw [List.length_map] at this
            omega
          refine .inl ⟨a, ws, rfl, SqL.of h, hl', fun ys p pm so hp => ?_⟩
          have e2 := sortS_uniq pm so
          subst e2
          exact q p _ hp (fun a ha => upd_ne ha) ⟨_, upd_same, rds_strs⟩
        · split at q
          · rename_i ns e1
            have ex := rd_ints r e1
            subst ex
            refine .inr (.inl ⟨a, ns, rfl, SqL.of h, fun ys p pm so hp => ?_⟩)
            have e2 := sortI_uniq pm so
            subst e2
            exact q p _ hp (fun a ha => upd_ne ha) ⟨_, upd_same, rds_ints⟩
          · split at q
            · rename_i L e1
              split at q
              · rename_i ok
                have ed := tups_eq e1
                subst ed
                have lx : xs.length < 64 := by rw [r.length]; exact hl
                have mem : ∀ x ∈ xs, ∃ n ∈ L, RD X.K F x (tupI n) := fun x hx => by
                  obtain ⟨i, hi⟩ := List.getElem?_of_mem hx
                  obtain ⟨dd, h1, h2⟩ := r.getV hi
                  rw [List.getElem?_map] at h1
                  cases z : L[i]? with
                  | none => rw [z] at h1; cases h1
                  | some n =>
                    rw [z] at h1
                    cases h1
                    exact ⟨n, List.mem_of_getElem? z, h2⟩
                obtain ⟨d, hd, hL⟩ : ∃ d, 1 ≤ d ∧ ∀ n ∈ L, n.length = d ∧ TS.Bd 1000 n := by
                  cases L with
                  | nil => exact ⟨1, Nat.le_refl 1, fun n hn => nomatch hn⟩
                  | cons n0 L =>
                    unfold okT at ok
                    rw [Bool.and_eq_true, List.all_eq_true] at ok
                    refine ⟨n0.length, of_decide_eq_true ok.1, fun n hn => ?_⟩
                    have z := ok.2 n hn
                    rw [Bool.and_eq_true, List.all_eq_true] at z
                    refine ⟨of_decide_eq_true z.1, fun i hi => ?_⟩
                    have z2 := z.2 i hi
                    rw [Bool.and_eq_true] at z2
                    exact ⟨of_decide_eq_true z2.1, of_decide_eq_true z2.2⟩
                refine .inr (.inr ⟨d, hd, a, xs, rfl, SqL.of h, lx, fun x hx => ?_, fun ys p pm so hp => ?_⟩)
                · obtain ⟨n, hn, rd⟩ := mem x hx
                  exact ⟨n, rd_tupI s rd, hL n hn⟩
                · obtain ⟨L', pL, rL⟩ := RDs.perm pm r
                  have pw : L'.Pairwise fun n m => TS.code 1000 n ≤ TS.code 1000 m := RDs.pairL rL (so.imp fun {x y} h n m r1 r2 => h n m (rd_tupI s r1) (rd_tupI s r2))
                  have pw2 : L'.Pairwise fun n m => leT n m = true := List.Pairwise.imp_of_mem (fun {n m} hn hm h => by
                    have h1 := hL n (pL.mem_iff.mp hn)
                    have h2 := hL m (pL.mem_iff.mp hm)
                    exact code_leT (h1.1.trans h2.1.symm) h1.2 h2.2 h) pw
                  have e2 : L' = sortT L := srt_uniq leT_trans leT_total (fun a _ b _ => leT_anti a b) pL pw2
                  rw [e2] at rL
                  exact q p _ hp (fun a ha => upd_ne ha) ⟨_, upd_same, rL⟩
              · exact q.elim
            · exact q.elim
      · exact q.elim
    | _ => exact q.elim
end DL
set_option maxRecDepth 100000
set_option maxHeartbeats 4000000
namespace DL
open PySem PySem.Spec PyProof.Rows L2
def kD : L2.Key → D
  | .inl i => .int i
  | .inr x => .str x
def keyI : Itm → Option L2.Key
  | .d (.int i) => some (.inl i)
  | .d (.str x) => some (.inr x)
  | _ => none
def putP {β : Type} (k : L2.Key) (v : β) : List (L2.Key × β) → List (L2.Key × β)
  | [] => [(k, v)]
  | q :: r => if q.1 = k then (k, v) :: r else q :: putP k v r
def mkDic (acc : List (L2.Key × D)) : MO := .dic (acc.map fun q => kD q.1) (acc.map fun q => q.2)
section
variable {K : PySem.W.Frag} {F : Hp}
theorem putK_any {kvs : List (L2.Key × V)} {k : L2.Key} {v : V} (hn : (kvs.map fun q => q.1).Nodup) : putK kvs k v = putP k v kvs := by
  have key : ∀ kvs : List (L2.Key × V), (kvs.map fun q => q.1).Nodup → ((kvs.any fun kv => decide (kv.1 = k)) = true → kvs.map (fun kv => if kv.1 = k then (kv.1, v) else kv) = putP k v kvs) ∧ ((kvs.any fun kv => decide (kv.1 = k)) = false → kvs ++ [(k, v)] = putP k v kvs) := by
    intro kvs
    induction kvs with
    | nil => exact fun _ => ⟨fun h => by simp at h, fun _ => rfl⟩
    | cons q r ih =>
      intro hn
      have hn' := List.nodup_cons.mp hn
      have ih := ih hn'.2
      by_cases c : q.1 = k
      · refine ⟨fun _ => ?_, fun h => by simp [c] at h⟩
        have e : r.map (fun kv => if kv.1 = k then (kv.1, v) else kv) = r := by
          have : ∀ p ∈ r, (if p.1 = k then (p.1, v) else p) = p := fun p hp => by
            rw [if_neg]
            intro z
            exact hn'.1 (List.mem_map.mpr ⟨p, hp, by show p.1 = q.1; rw [z, c]⟩)
          rw [List.map_congr_left this, List.map_id']
        rw [List.map_cons, e, if_pos c]
        unfold putP
        rw [if_pos c, c]
      · refine ⟨fun h => ?_, fun h => ?_⟩
        · have h' : (r.any fun kv => decide (kv.1 = k)) = true := by simpa [c] using h
          rw [List.map_cons, if_neg c, ih.1 h']
          conv => rhs; unfold putP
          rw [if_neg c]
        · have h' : (r.any fun kv => decide (kv.1 = k)) = false := by simpa [c] using h
          rw [List.cons_append, ih.2 h']
          conv => rhs; unfold putP
          rw [if_neg c]
  unfold putK
  split
  · rename_i h
    exact (key kvs hn).1 h
  · rename_i h
    exact (key kvs hn).2 (Bool.eq_false_iff.mpr h)
theorem putP_keys {β γ : Type} {k : L2.Key} {v : β} {w : γ} : ∀ {a : List (L2.Key × β)} {b : List (L2.Key × γ)}, (a.map fun q => q.1) = (b.map fun q => q.1) → ((putP k v a).map fun q => q.1) = ((putP k w b).map fun q => q.1)
  | [], [], _ => rfl
  | [], _ :: _, h => by simp at h
  | _ :: _, [], h => by simp at h
  | p :: a, q :: b, h => by
    have h1 : p.1 = q.1 ∧ (a.map fun q => q.1) = (b.map fun q => q.1) := by simpa using h
    unfold putP
    by_cases c : p.1 = k
    · have c2 : q.1 = k := by rw [← h1.1]; exact c
      rw [if_pos c, if_pos c2]
      simp [h1.2]
    · have c2 : ¬ q.1 = k := by rw [← h1.1]; exact c
      rw [if_neg c, if_neg c2]
      simp [h1.1, putP_keys (v := v) (w := w) h1.2]
theorem putP_mem {β : Type} {k : L2.Key} {v : β} : ∀ {a : List (L2.Key × β)} {x : L2.Key}, x ∈ ((putP k v a).map fun q => q.1) → x = k ∨ x ∈ (a.map fun q => q.1)
  | [], x, h => by
    left
    simpa [putP] using h
  | p :: a, x, h => by
    unfold putP at h
    by_cases c : p.1 = k
    · rw [if_pos c] at h
      rcases List.mem_cons.mp h with q | q
      · exact .inl q
      · exact .inr (List.mem_cons_of_mem _ q)
    · rw [if_neg c] at h
      rcases List.mem_cons.mp h with q | q
      · exact .inr (by rw [q]; exact List.mem_cons_self)
      · rcases putP_mem q with z | z
        · exact .inl z
        · exact .inr (List.mem_cons_of_mem _ z)
theorem putP_nodup {β : Type} {k : L2.Key} {v : β} : ∀ {a : List (L2.Key × β)}, (a.map fun q => q.1).Nodup → ((putP k v a).map fun q => q.1).Nodup
  | [], _ => by simp [putP]
  | p :: a, h => by
    have h' := List.nodup_cons.mp h
    unfold putP
    by_cases c : p.1 = k
    · rw [if_pos c]
      exact List.nodup_cons.mpr ⟨by rw [← c]; exact h'.1, h'.2⟩
    · rw [if_neg c]
      refine List.nodup_cons.mpr ⟨fun z => ?_, putP_nodup h'.2⟩
      rcases putP_mem z with q | q
      · exact c q
      · exact h'.1 q
theorem putP_rds {k : L2.Key} {v : V} {x : D} (r : RD K F v x) : ∀ {a : List (L2.Key × V)} {b : List (L2.Key × D)}, (a.map fun q => q.1) = (b.map fun q => q.1) → RDs K F (a.map fun q => q.2) (b.map fun q => q.2) → RDs K F ((putP k v a).map fun q => q.2) ((putP k x b).map fun q => q.2)
  | [], [], _, _ => ⟨r, trivial⟩
  | [], _ :: _, h, _ => by simp at h
  | _ :: _, [], h, _ => by simp at h
  | p :: a, q :: b, h, rs => by
    have h1 : p.1 = q.1 ∧ (a.map fun q => q.1) = (b.map fun q => q.1) := by simpa using h
    unfold putP
    by_cases c : p.1 = k
    · have c2 : q.1 = k := by rw [← h1.1]; exact c
      rw [if_pos c, if_pos c2]
      exact ⟨r, rs.2⟩
    · have c2 : ¬ q.1 = k := by rw [← h1.1]; exact c
      rw [if_neg c, if_neg c2]
      exact ⟨rs.1, putP_rds r h1.2 rs.2⟩
theorem rds_keys : ∀ {kvs : List (L2.Key × V)} {acc : List (L2.Key × D)}, (kvs.map fun q => q.1) = (acc.map fun q => q.1) → RDs K F (kvs.map fun q => kV q.1) (acc.map fun q => kD q.1)
  | [], [], _ => trivial
  | [], _ :: _, h => by simp at h
  | _ :: _, [], h => by simp at h
  | p :: a, q :: b, h => by
    have h1 : p.1 = q.1 ∧ (a.map fun q => q.1) = (b.map fun q => q.1) := by simpa using h
    refine ⟨?_, rds_keys h1.2⟩
    show RD K F (kV p.1) (kD q.1)
    rw [h1.1]
    cases q.1 <;> rfl
end
def dcF (w : Wk) (h : FTg) (ft : FT) (fk fv : FE) (vs : List Nat) : Nat → Nat → List (L2.Key × D) → Sls → Ot Itm
  | 0, _, acc, st => if w.fin st then .ok (.own (mkDic acc)) st else .bad
  | m + 1, k, acc, st => match w.at_ k st with
    | some d => (h (.d d) (unS st vs)).bindN fun s2 => (ft s2).bindN fun b s3 => if b = true then (fk s3).bindN fun ik s4 => (fv s4).bindN fun iv s5 => (match keyI ik, frz iv s5 with
        | some kk, some (x, s6) => if acc.length < sizeLine then dcF w h ft fk fv vs m (k + 1) (putP kk x acc) (unS s6 vs) else .bad
        | _, _ => .bad) else dcF w h ft fk fv vs m (k + 1) acc (unS s3 vs)
    | none => .bad
def fDc (fw : Sls → Ot Wk) (h : FTg) (ft : FT) (fk fv : FE) (vs : List Nat) : FE := fun st => (fw st).bind fun w s1 => dcF w h ft fk fv vs w.n 0 [] (unS s1 vs)
theorem keyI_ok {K : PySem.W.Frag} {H0 F H : Hp} {σ : L2.St} {st : Sls} {v : V} {ik : Itm} {k : L2.Key} (r : RI K H0 F H σ st v ik) (e : keyI ik = some k) : v = kV k := by
  cases ik with
  | d x =>
    cases x with
    | int i => cases e; exact r
    | str i => cases e; exact r
    | _ => cases e
  | own m => cases e
  | ref i => cases e
section
variable {X : Cx} {W : WX} {weak : Bool} {tg iter kx vx : Expr} {ifs : List Expr} {scope : Scope} {own : List (Str × Nat)} {a1 : List Nat} {h : FTg} {ft : FT} {fk fv : FE} {fw : Sls → Ot Wk} {pos : Pos}
theorem dc_go {K : PySem.W.Frag} {vs : List Nat} {σ : L2.St} {H : Hp} {Q : VK} (hvs : ∀ i ∈ a1, i ∈ vs) (hnx : TgNx h) (hlen : TgLen h) (q : tE K W (fDc fw h ft fk fv vs) σ H Q) : tDc (tWk K W weak [] fw) (tTgk K noW a1 h weak) (tTs K noW ft) (tE K noW fk) (tE K noW fv) vs σ H Q := by
  obtain ⟨F, st, R, g0⟩ := q
  refine ⟨F, st, R, (Go.bind g0).imp fun w F1 H1 s1 p1 g1 J hw => fun D hD => ?_⟩
  have fD1 : F1 D = none := by
    cases z : F1 D with
    | none => rfl
    | some u => rw [p1.rel.sub D u z] at hD; cases hD
  have g1 := g1.shift p1 (Q' := fun it F' H' st' => ∀ v, RI K H F' H' σ st' v it → Q v H') fun a F2 H2 st2 _ _ z => z
  have start : Stp K σ F1 H1 s1 σ F1 (upd H1 D (.dK [])) (unS s1 vs) := (Stp.alloc p1.rel hD fun a ha => upd_ne ha).unset vs
  refine ⟨fun i m H' => m = w.n - i ∧ i ≤ w.n ∧ ∃ (F' : Hp) (st' : Sls) (acc : List (L2.Key × DL.D)) (kvs : List (L2.Key × V)), Stp K σ F1 H1 s1 σ F' H' st' ∧ H' D = some (.dK kvs) ∧ F' D = none ∧ ¬ Own σ st' D ∧ (kvs.map fun q => q.1).Nodup ∧ (kvs.map fun q => q.1) = (acc.map fun q => q.1) ∧ RDs K F' (kvs.map fun q => q.2) (acc.map fun q => q.2) ∧ Go K W σ F1 H1 s1 (dcF w h ft fk fv vs (w.n - i) i acc st') (fun it F' H' st' => ∀ v, RI K H F' H' σ st' v it → Q v H'),
    ⟨w.n, rfl, Nat.zero_le _, F1, unS s1 vs, [], [], start, upd_same, fD1, fun z => ?_, List.nodup_nil, rfl, trivial, g1⟩, ?_⟩
  · obtain ⟨i, z⟩ := z
    exact absurd hD (p1.rel.own_free ⟨i, (ownAt_unS z).2⟩).2
  rintro i m H' ⟨rfl, hle, F', st', acc, kvs, s', hDl, fD, nD, hnd, hks, rds, g⟩
  obtain ⟨ws, wg⟩ := hw σ F' H' st' ⟨s'.fr, s'.rel⟩ (Keeps.refl _ _)
  by_cases hlt : i < w.n
  · have e1 : w.n - i = (w.n - (i + 1)) + 1 := by omega
    rw [e1] at g
    have g : Go K W σ F1 H1 s1 (match w.at_ i st' with
      | some d => (h (.d d) (unS st' vs)).bindN fun s2 => (ft s2).bindN fun b s3 => if b = true then (fk s3).bindN fun ik s4 => (fv s4).bindN fun iv s5 => (match keyI ik, frz iv s5 with
        | some kk, some (x, s6) => if acc.length < sizeLine then dcF w h ft fk fv vs (w.n - (i + 1)) (i + 1) (putP kk x acc) (unS s6 vs) else .bad
        | _, _ => .bad) else dcF w h ft fk fv vs (w.n - (i + 1)) (i + 1) acc (unS s3 vs)
      | none => .bad) (fun it F' H' st' => ∀ v, RI K H F' H' σ st' v it → Q v H') := g
    split at g
    · rename_i d ed
      obtain ⟨hgo, hy⟩ := wg i d hlt ed
      refine .inr ⟨hgo, fun H2 => w.n - (i + 1) = w.n - (i + 1) ∧ i + 1 ≤ w.n ∧ ∃ (F' : Hp) (st' : Sls) (acc : List (L2.Key × DL.D)) (kvs : List (L2.Key × V)), Stp K σ F1 H1 s1 σ F' H2 st' ∧ H2 D = some (.dK kvs) ∧ F' D = none ∧ ¬ Own σ st' D ∧ (kvs.map fun q => q.1).Nodup ∧ (kvs.map fun q => q.1) = (acc.map fun q => q.1) ∧ RDs K F' (kvs.map fun q => q.2) (acc.map fun q => q.2) ∧ Go K W σ F1 H1 s1 (dcF w h ft fk fv vs (w.n - (i + 1)) (i + 1) acc st') (fun it F' H' st' => ∀ v, RI K H F' H' σ st' v it → Q v H'),
        fun H2 z => ⟨w.n - (i + 1), by omega, z⟩, fun x H'' y => ?_⟩
      have Rw := s'.rel.wiped vs
      refine tgk_ok (σ' := wipe σ vs) Rw (hy x H'' y) ?_
      rcases hnx (.d d) (unS st' vs) with ⟨s2, eh⟩ | ⟨ex, s2, eh⟩ | eh
      · rw [eh] at g ⊢
        intro σ2 F2 H2 st2 k2
        have hl : σ2.length = σ.length := by
          rw [st2.rel.len, hlen _ _ _ eh, unS_len, ← s'.rel.len]
        have hw2 := keeps_wipe k2 hvs hl
        refine ⟨hw2, F2, s2, st2.rel, ?_⟩
        have g : Go K W σ F1 H1 s1 ((ft s2).bindN fun b s3 => if b = true then (fk s3).bindN fun ik s4 => (fv s4).bindN fun iv s5 => (match keyI ik, frz iv s5 with
          | some kk, some (x, s6) => if acc.length < sizeLine then dcF w h ft fk fv vs (w.n - (i + 1)) (i + 1) (putP kk x acc) (unS s6 vs) else .bad
          | _, _ => .bad) else dcF w h ft fk fv vs (w.n - (i + 1)) (i + 1) acc (unS s3 vs)) (fun it F' H' st' => ∀ v, RI K H F' H' σ st' v it → Q v H') := g
        refine (Go.bindN g (W' := noW) (σ' := σ2) (F' := F2) (H' := H2) (st' := s2)).imp fun b F3 H3 s3 p3 g3 => ?_
        have st3 := st2.trans p3
        have keepD : ∀ {F4 H4 : Hp} {s4 : Sls}, Stp K (wipe σ vs) F' H' (unS st' vs) σ2 F4 H4 s4 → H4 D = some (.dK kvs) ∧ F4 D = none ∧ ¬ Own σ2 s4 D := fun {F4 H4 s4} st4 => by
          have nO : ¬ Own (wipe σ vs) (unS st' vs) D := fun z => nD (own_wiped z)
          refine ⟨st4.keep D _ hDl fD nO, ?_, fun z => ?_⟩
          · cases q : F4 D with
            | none => rfl
            | some u =>
              rcases st4.new D fD (by rw [q]; simp) with z | z
              · rw [hDl] at z; cases z
              · exact absurd z nO
          · rcases st4.own D z with z | z
            · exact nO z
            · rw [hDl] at z; cases z
        cases b with
        | false =>
          refine Eq.mpr (if_neg Bool.false_ne_true) ?_
          rw [if_neg Bool.false_ne_true] at g3
          obtain ⟨k1, k2', k3⟩ := keepD st3
          have sO := Stp.unwipe s'.rel st3 hw2
          have nO3 : ¬ Own σ (unS s3 vs) D := fun z => by
            rcases sO.own D z with z | z
            · exact nD z
            · rw [hDl] at z; cases z
          exact ⟨rfl, hlt, F3, unS s3 vs, acc, kvs, s'.trans sO, k1, k2', nO3, hnd, hks, RDs.mono st3.fr _ _ rds, g3⟩
        | true =>
          refine Eq.mpr (if_pos rfl) ?_
          rw [if_pos rfl] at g3
          refine ⟨F3, s3, p3.rel, (Go.bindN g3 (W' := noW) (σ' := σ2) (F' := F3) (H' := H3) (st' := s3)).imp fun ik F4 H4 s4 p4 g4 yv ri => ?_⟩
          refine ⟨F4, s4, p4.rel, (Go.bindN g4 (W' := noW) (σ' := σ2) (F' := F4) (H' := H4) (st' := s4)).imp fun iv F5 H5 s5 p5 g5 zv rj => ?_⟩
          have st4 := st3.trans p4
          have st5 := st4.trans p5
          obtain ⟨k1, k2', k3⟩ := keepD st5
          split at g5
          · rename_i kk xx s6 ek ef
            split at g5
            · rename_i hz
              have ri2 : RI K H' F5 H5 σ2 s5 zv iv := rj.back st4.there
              obtain ⟨F6, st6, rd, sm, nw, ow⟩ := frz_ok st5 ri2 ef
              have f6 : F6 D = none := by
                cases q : F6 D with
                | none => rfl
                | some u =>
                  obtain ⟨z1, z2⟩ := nw D k2' (by rw [q]; simp)
                  rcases z2 with z2 | ⟨m, z2⟩
                  · exact absurd z2 k3
                  · subst z2
                    obtain ⟨pp, e5, h5, _⟩ := ri2
                    rw [z1] at e5
                    cases e5
                    rw [hDl] at h5
                    cases h5
              have sO := Stp.unwipe s'.rel st6 hw2
              have nO6 : ¬ Own σ (unS s6 vs) D := fun z => by
                rcases sO.own D z with z | z
                · exact nD z
                · rw [hDl] at z; cases z
              have ln : kvs.length = acc.length := by
                have := congrArg List.length hks
                simpa using this
              refine ⟨kvs, kk, keyI_ok ri ek, k1, by rw [ln]; exact hz, rfl, hlt, F6, unS s6 vs, putP kk xx acc, putP kk zv kvs, ?_, ?_, f6, nO6, putP_nodup hnd, putP_keys hks, putP_rds rd hks (RDs.mono st6.fr _ _ rds), g5⟩
              · rw [putK_any hnd]
                exact (s'.trans sO).poke hD f6 nO6
              · rw [putK_any hnd]
                exact upd_same
            · exact g5.elim
          · exact g5.elim
      · rw [eh] at g
        exact g.elim
      · rw [eh] at g
        exact g.elim
    · exact g.elim
  · have e1 : i = w.n := by omega
    subst e1
    rw [Nat.sub_self] at g
    have g : Go K W σ F1 H1 s1 (if w.fin st' then .ok (.own (mkDic acc)) st' else .bad) (fun it F' H' st' => ∀ v, RI K H F' H' σ st' v it → Q v H') := g
    split at g
    · rename_i hf
      refine .inl ⟨ws hf, g F' H' s' (.ref D) ⟨D, rfl, ?_, fD, nD, kvs, hDl, rds_keys hks, rds⟩⟩
      exact Classical.byContradiction fun z => p1.there D z hD
    · exact g.elim
theorem de_dc (hc : X.calm = true) (hN : X.N.Nodup) (hi : DI X W weak tg iter [] fw) (ok : BlkOk X.N X.env.scope scope own) (hvs : ∀ i ∈ a1, i ∈ own.map (·.2)) (hnx : TgNx h) (hlen : TgLen h)
    (hg : ∀ (s : Shared) (H : Hp) (C : Addr) (cl : List (Str × Addr)) (fp : List Addr), DGk (X.blk s H scope (compEnvC scope cl C X.env) fp) noW weak tg a1 h) (ht : ∀ (s : Shared) (H : Hp) (C : Addr) (cl : List (Str × Addr)) (fp : List Addr), DTs (X.blk s H scope (compEnvC scope cl C X.env) fp) noW ifs ft)
    (hk : ∀ (s : Shared) (H : Hp) (C : Addr) (cl : List (Str × Addr)) (fp : List Addr), DE (X.blk s H scope (compEnvC scope cl C X.env) fp) noW kx fk)
    (he : ∀ (s : Shared) (H : Hp) (C : Addr) (cl : List (Str × Addr)) (fp : List Addr), DE (X.blk s H scope (compEnvC scope cl C X.env) fp) noW vx fv) (hs : ∀ x, foldedSetIterable iter X.env x = pure x := by intro _; rfl) :
    DE X W (.DictComp kx vx [⟨tg, iter, ifs, 0⟩] scope pos) (fDc fw h ft fk fv (own.map (·.2))) := PE.conseq (pe_dc hc hN hi ok hg ht hk he hs) fun σ H Q q => dc_go hvs hnx hlen q
end
end DL
set_option maxRecDepth 100000
set_option maxHeartbeats 4000000
namespace DL
open PySem PySem.Spec PyProof.Rows L2
def lcIn (w1 : Wk) (h1 : FTg) (ft1 : FT) (fe : FE) (vs1 : List Nat) : Nat → Nat → List D → Sls → Ot (List D)
  | 0, _, acc, st => if w1.fin st then .ok acc st else .bad
  | m + 1, k, acc, st => match w1.at_ k st with
    | some d => (h1 (.d d) (unS st vs1)).bindN fun s2 => (ft1 s2).bindN fun b s3 => if b = true then (fe s3).bindN fun it s4 => (match frz it s4 with
        | some (x, s5) => if acc.length < sizeLine then lcIn w1 h1 ft1 fe vs1 m (k + 1) (acc ++ [x]) (unS s5 vs1) else .bad
        | none => .bad) else lcIn w1 h1 ft1 fe vs1 m (k + 1) acc (unS s3 vs1)
    | none => .bad
def lc2F (w : Wk) (h : FTg) (ft : FT) (fw1 : Sls → Ot Wk) (h1 : FTg) (ft1 : FT) (fe : FE) (vs vs1 : List Nat) : Nat → Nat → List D → Sls → Ot Itm
  | 0, _, acc, st => if w.fin st then .ok (.own (.lst acc)) st else .bad
  | m + 1, k, acc, st => match w.at_ k st with
    | some d => (h (.d d) (unS st vs)).bindN fun s2 => (ft s2).bindN fun b s3 => if b = true then (fw1 s3).bindN fun w1 s4 => (lcIn w1 h1 ft1 fe vs1 w1.n 0 acc (unS s4 vs1)).bindN fun acc' s5 => lc2F w h ft fw1 h1 ft1 fe vs vs1 m (k + 1) acc' (unS s5 vs)
        else lc2F w h ft fw1 h1 ft1 fe vs vs1 m (k + 1) acc (unS s3 vs)
    | none => .bad
def fLc2 (fw : Sls → Ot Wk) (h : FTg) (ft : FT) (fw1 : Sls → Ot Wk) (h1 : FTg) (ft1 : FT) (fe : FE) (vs vs1 : List Nat) : FE := fun st => (fw st).bind fun w s1 => lc2F w h ft fw1 h1 ft1 fe vs vs1 w.n 0 [] (unS s1 vs)
section
variable {K : PySem.W.Frag} {σa σb σ σ2 : L2.St} {Fa Ha Fb Hb F H F2 H2 : Hp} {sa sb st s2 : Sls} {p : Addr} {u : HO} {vs : List Nat}
theorem stp_keep (s : Stp K σa Fa Ha sa σb Fb Hb sb) (h : Ha p = some u) (f : Fa p = none) (n : ¬ Own σa sa p) : Hb p = some u ∧ Fb p = none ∧ ¬ Own σb sb p := by
  refine ⟨s.keep p _ h f n, ?_, fun z => ?_⟩
  · cases q : Fb p with
    | none => rfl
    | some v =>
      rcases s.new p f (by rw [q]; simp) with z | z
      · rw [h] at z; cases z
      · exact absurd z n
  · rcases s.own p z with z | z
    · exact n z
    · rw [h] at z; cases z
theorem Stp.wiped {σ0 : L2.St} {F0 H0 : Hp} {st0 : Sls} (s : Stp K σ0 F0 H0 st0 σ F H st) (vs : List Nat) : Stp K σ0 F0 H0 st0 (wipe σ vs) F H (unS st vs) :=
  ⟨s.fr, s.rel.wiped vs, s.new, s.keep, s.there, fun a h => s.own a (own_wiped h)⟩
theorem Stp.unwipe2 {σ0 : L2.St} {F0 H0 : Hp} {st0 : Sls} (s : Stp K σ0 F0 H0 st0 σ2 F H s2) (hw : wipe σ2 vs = wipe σ vs) : Stp K σ0 F0 H0 st0 σ F H (unS s2 vs) := by
  have same : ∀ {i : Nat}, i ∉ vs → σ2[i]? = σ[i]? := fun {i} hi => by
    rw [← wipe_out (σ := σ2) hi, ← wipe_out (σ := σ) hi, hw]
  have len : σ2.length = σ.length := by rw [← wipe_length σ2 vs, hw, wipe_length]
  have lo : ∀ {a : Addr} {i : Nat}, OwnAt σ (unS s2 vs) a i → OwnAt σ2 s2 a i := fun {a i} h => by
    obtain ⟨hi, h1, h2⟩ := ownAt_unS h
    exact ⟨h1, by rw [same hi]; exact h2⟩
  refine ⟨s.fr, ⟨s.rel.sub, by rw [unS_len, ← s.rel.len, len], fun i sl e => ?_, fun a i j h1 h2 => s.rel.apart a i j (lo h1) (lo h2)⟩, s.new, s.keep, s.there, fun a ⟨i, h⟩ => s.own a ⟨i, lo h⟩⟩
  by_cases hi : i ∈ vs
  · have z := unS_in hi e
    subst z
    have hl : i < σ.length := by rw [← len, s.rel.len, ← unS_len (vs := vs)]; exact (List.getElem?_eq_some_iff.mp e).1
    exact ⟨_, List.getElem?_eq_getElem hl, trivial⟩
  · rw [unS_out hi] at e
    rw [← same hi]
    exact s.rel.at_ i sl e
theorem not_own_after (s : Stp K σa Fa Ha sa σb Fb Hb sb) (h : Ha p = some u) (n : ¬ Own σa sa p) : ¬ Own σb sb p := fun z => by
  rcases s.own p z with z | z
  · exact n z
  · rw [h] at z; cases z
end
section
variable {X : Cx} {W : WX} {weak weak1 : Bool} {tg iter tg1 iter1 elt : Expr} {ifs ifs1 : List Expr} {scope : Scope} {own : List (Str × Nat)} {a1 a2 vs1 : List Nat} {h h1 : FTg} {ft ft1 : FT} {fe : FE} {fw fw1 : Sls → Ot Wk} {pos : Pos}
theorem lc2_go {K : PySem.W.Frag} {vs : List Nat} {σ : L2.St} {H : Hp} {Q : VK} (hvs : ∀ i ∈ a1, i ∈ vs) (hnx : TgNx h) (hlen : TgLen h) (hvs1 : ∀ i ∈ a2, i ∈ vs1) (hnx1 : TgNx h1) (hlen1 : TgLen h1)
    (q : tE K W (fLc2 fw h ft fw1 h1 ft1 fe vs vs1) σ H Q) : tLc2 (tWk K W weak [] fw) (tTgk K noW a1 h weak) (tTs K noW ft) (tWk K noW weak1 [] fw1) (tTgk K noW a2 h1 weak1) (tTs K noW ft1) (tE K noW fe) vs vs1 σ H Q := by
  obtain ⟨F, st, R, g0⟩ := q
  refine ⟨F, st, R, (Go.bind g0).imp fun w F1 H1 s1 p1 g1 J hw => fun D hD => ?_⟩
  have fD1 : F1 D = none := by
    cases z : F1 D with
    | none => rfl
    | some u => rw [p1.rel.sub D u z] at hD; cases hD
  have g1 := g1.shift p1 (Q' := fun it F' H' st' => ∀ v, RI K H F' H' σ st' v it → Q v H') fun a F2 H2 st2 _ _ z => z
  have start : Stp K σ F1 H1 s1 σ F1 (upd H1 D (.lst [])) (unS s1 vs) := (Stp.alloc p1.rel hD fun a ha => upd_ne ha).unset vs
  refine ⟨fun i m H' => m = w.n - i ∧ i ≤ w.n ∧ ∃ (F' : Hp) (st' : Sls) (acc : List DL.D) (accV : List V), Stp K σ F1 H1 s1 σ F' H' st' ∧ H' D = some (.lst accV) ∧ F' D = none ∧ ¬ Own σ st' D ∧ RDs K F' accV acc ∧ Go K W σ F1 H1 s1 (lc2F w h ft fw1 h1 ft1 fe vs vs1 (w.n - i) i acc st') (fun it F' H' st' => ∀ v, RI K H F' H' σ st' v it → Q v H'),
    ⟨w.n, rfl, Nat.zero_le _, F1, unS s1 vs, [], [], start, upd_same, fD1, fun z => ?_, trivial, g1⟩, ?_⟩
  · obtain ⟨i, z⟩ := z
    exact absurd hD (p1.rel.own_free ⟨i, (ownAt_unS z).2⟩).2
  rintro i m H' ⟨rfl, hle, F', st', acc, accV, s', hDl, fD, nD, rds, g⟩
  obtain ⟨ws, wg⟩ := hw σ F' H' st' ⟨s'.fr, s'.rel⟩ (Keeps.refl _ _)
  by_cases hlt : i < w.n
  · have e1 : w.n - i = (w.n - (i + 1)) + 1 := by omega
    rw [e1] at g
    have g : Go K W σ F1 H1 s1 (match w.at_ i st' with
      | some d => (h (.d d) (unS st' vs)).bindN fun s2 => (ft s2).bindN fun b s3 => if b = true then (fw1 s3).bindN fun w1 s4 => (lcIn w1 h1 ft1 fe vs1 w1.n 0 acc (unS s4 vs1)).bindN fun acc' s5 => lc2F w h ft fw1 h1 ft1 fe vs vs1 (w.n - (i + 1)) (i + 1) acc' (unS s5 vs)
        else lc2F w h ft fw1 h1 ft1 fe vs vs1 (w.n - (i + 1)) (i + 1) acc (unS s3 vs)
      | none => .bad) (fun it F' H' st' => ∀ v, RI K H F' H' σ st' v it → Q v H') := g
    split at g
    · rename_i d ed
      obtain ⟨hgo, hy⟩ := wg i d hlt ed
      refine .inr ⟨hgo, fun H2 => w.n - (i + 1) = w.n - (i + 1) ∧ i + 1 ≤ w.n ∧ ∃ (F' : Hp) (st' : Sls) (acc : List DL.D) (accV : List V), Stp K σ F1 H1 s1 σ F' H2 st' ∧ H2 D = some (.lst accV) ∧ F' D = none ∧ ¬ Own σ st' D ∧ RDs K F' accV acc ∧ Go K W σ F1 H1 s1 (lc2F w h ft fw1 h1 ft1 fe vs vs1 (w.n - (i + 1)) (i + 1) acc st') (fun it F' H' st' => ∀ v, RI K H F' H' σ st' v it → Q v H'),
        fun H2 z => ⟨w.n - (i + 1), by omega, z⟩, fun x H'' y => ?_⟩
      have Rw := s'.rel.wiped vs
      refine tgk_ok (σ' := wipe σ vs) Rw (hy x H'' y) ?_
      have nO : ¬ Own (wipe σ vs) (unS st' vs) D := fun z => nD (own_wiped z)
      rcases hnx (.d d) (unS st' vs) with ⟨s2, eh⟩ | ⟨ex, s2, eh⟩ | eh
      · rw [eh] at g ⊢
        intro σ2 F2 H2 st2 k2
        have hl : σ2.length = σ.length := by
          rw [st2.rel.len, hlen _ _ _ eh, unS_len, ← s'.rel.len]
        have hw2 := keeps_wipe k2 hvs hl
        refine ⟨hw2, F2, s2, st2.rel, ?_⟩
        have g : Go K W σ F1 H1 s1 ((ft s2).bindN fun b s3 => if b = true then (fw1 s3).bindN fun w1 s4 => (lcIn w1 h1 ft1 fe vs1 w1.n 0 acc (unS s4 vs1)).bindN fun acc' s5 => lc2F w h ft fw1 h1 ft1 fe vs vs1 (w.n - (i + 1)) (i + 1) acc' (unS s5 vs)
          else lc2F w h ft fw1 h1 ft1 fe vs vs1 (w.n - (i + 1)) (i + 1) acc (unS s3 vs)) (fun it F' H' st' => ∀ v, RI K H F' H' σ st' v it → Q v H') := g
        refine (Go.bindN g (W' := noW) (σ' := σ2) (F' := F2) (H' := H2) (st' := s2)).imp fun b F3 H3 s3 p3 g3 => ?_
        have st3 := st2.trans p3
        cases b with
        | false =>
          refine Eq.mpr (if_neg Bool.false_ne_true) ?_
          rw [if_neg Bool.false_ne_true] at g3
          obtain ⟨k1, k2', k3⟩ := stp_keep st3 hDl fD nO
          have sO := Stp.unwipe s'.rel st3 hw2
          exact ⟨rfl, hlt, F3, unS s3 vs, acc, accV, s'.trans sO, k1, k2', not_own_after sO hDl nD, RDs.mono st3.fr _ _ rds, g3⟩
        | true =>
          refine Eq.mpr (if_pos rfl) ?_
          rw [if_pos rfl] at g3
          refine ⟨F3, s3, p3.rel, (Go.bindN g3 (W' := noW) (σ' := σ2) (F' := F3) (H' := H3) (st' := s3)).imp fun w1 F4 H4 s4 p4 g4 J1 hw1 => ?_⟩
          have st4 := st3.trans p4
          obtain ⟨k1, k2', k3⟩ := stp_keep st4 hDl fD nO
          have all4 : Stp K σ F1 H1 s1 σ2 F4 H4 s4 := (s'.wiped vs).trans st4
          have start1 : Stp K σ F1 H1 s1 σ2 F4 H4 (unS s4 vs1) := all4.unset vs1
          have k3' : ¬ Own σ2 (unS s4 vs1) D := fun ⟨i, z⟩ => k3 ⟨i, (ownAt_unS z).2⟩
          refine ⟨fun j k Hj => k = w1.n - j ∧ j ≤ w1.n ∧ ∃ (Fj : Hp) (sj : Sls) (acc : List DL.D) (accV : List V), Same F4 Fj ∧ Stp K σ F1 H1 s1 σ2 Fj Hj sj ∧ Hj D = some (.lst accV) ∧ Fj D = none ∧ ¬ Own σ2 sj D ∧ RDs K Fj accV acc ∧ Go K W σ F1 H1 s1 ((lcIn w1 h1 ft1 fe vs1 (w1.n - j) j acc sj).bindN fun acc' s5 => lc2F w h ft fw1 h1 ft1 fe vs vs1 (w.n - (i + 1)) (i + 1) acc' (unS s5 vs)) (fun it F' H' st' => ∀ v, RI K H F' H' σ st' v it → Q v H'),
            ⟨w1.n, rfl, Nat.zero_le _, F4, unS s4 vs1, acc, accV, Same.refl F4, start1, k1, k2', k3', RDs.mono st4.fr _ _ rds, g4⟩, ?_⟩
          rintro j k Hj ⟨rfl, hlej, Fj, sj, accj, accVj, tf, tj, hDj, fDj, nDj, rdsj, gj⟩
          obtain ⟨ws1, wg1⟩ := hw1 σ2 Fj Hj sj ⟨tf, tj.rel⟩ (Keeps.refl _ _)
          by_cases hltj : j < w1.n
          · have e1 : w1.n - j = (w1.n - (j + 1)) + 1 := by omega
            rw [e1] at gj
            have gj : Go K W σ F1 H1 s1 ((match w1.at_ j sj with
              | some d => (h1 (.d d) (unS sj vs1)).bindN fun s2 => (ft1 s2).bindN fun b s3 => if b = true then (fe s3).bindN fun it s4 => (match frz it s4 with
                  | some (x, s5) => if accj.length < sizeLine then lcIn w1 h1 ft1 fe vs1 (w1.n - (j + 1)) (j + 1) (accj ++ [x]) (unS s5 vs1) else .bad
                  | none => .bad) else lcIn w1 h1 ft1 fe vs1 (w1.n - (j + 1)) (j + 1) accj (unS s3 vs1)
              | none => .bad).bindN fun acc' s5 => lc2F w h ft fw1 h1 ft1 fe vs vs1 (w.n - (i + 1)) (i + 1) acc' (unS s5 vs)) (fun it F' H' st' => ∀ v, RI K H F' H' σ st' v it → Q v H') := gj
            cases edj : w1.at_ j sj with
            | none => rw [edj] at gj; exact gj.elim
            | some dj =>
              rw [edj] at gj
              obtain ⟨hgoj, hyj⟩ := wg1 j dj hltj edj
              refine .inr ⟨hgoj, fun H2 => w1.n - (j + 1) = w1.n - (j + 1) ∧ j + 1 ≤ w1.n ∧ ∃ (Fj : Hp) (sj : Sls) (acc : List DL.D) (accV : List V), Same F4 Fj ∧ Stp K σ F1 H1 s1 σ2 Fj H2 sj ∧ H2 D = some (.lst accV) ∧ Fj D = none ∧ ¬ Own σ2 sj D ∧ RDs K Fj accV acc ∧ Go K W σ F1 H1 s1 ((lcIn w1 h1 ft1 fe vs1 (w1.n - (j + 1)) (j + 1) acc sj).bindN fun acc' s5 => lc2F w h ft fw1 h1 ft1 fe vs vs1 (w.n - (i + 1)) (i + 1) acc' (unS s5 vs)) (fun it F' H' st' => ∀ v, RI K H F' H' σ st' v it → Q v H'),
                fun H2 z => ⟨w1.n - (j + 1), by omega, z⟩, fun x H'' y => ?_⟩
              have Rwj := tj.rel.wiped vs1
              refine tgk_ok (σ' := wipe σ2 vs1) Rwj (hyj x H'' y) ?_
              have nOj : ¬ Own (wipe σ2 vs1) (unS sj vs1) D := fun z => nDj (own_wiped z)
              rcases hnx1 (.d dj) (unS sj vs1) with ⟨u2, eu⟩ | ⟨ex, u2, eu⟩ | eu
              · rw [eu] at ⊢
                have gj : Go K W σ F1 H1 s1 (((h1 (.d dj) (unS sj vs1)).bindN fun s2 => (ft1 s2).bindN fun b s3 => if b = true then (fe s3).bindN fun it s4 => (match frz it s4 with
                  | some (x, s5) => if accj.length < sizeLine then lcIn w1 h1 ft1 fe vs1 (w1.n - (j + 1)) (j + 1) (accj ++ [x]) (unS s5 vs1) else .bad
                  | none => .bad) else lcIn w1 h1 ft1 fe vs1 (w1.n - (j + 1)) (j + 1) accj (unS s3 vs1)).bindN fun acc' s5 => lc2F w h ft fw1 h1 ft1 fe vs vs1 (w.n - (i + 1)) (i + 1) acc' (unS s5 vs)) (fun it F' H' st' => ∀ v, RI K H F' H' σ st' v it → Q v H') := gj
                rw [eu] at gj
                intro σ3 G2 L2' t2 kj2
                have hlj : σ3.length = σ2.length := by
                  rw [t2.rel.len, hlen1 _ _ _ eu, unS_len, ← tj.rel.len]
                have hwj := keeps_wipe kj2 hvs1 hlj
                refine ⟨hwj, G2, u2, t2.rel, ?_⟩
                cases eft : ft1 u2 with
                | exc e s => 
                  have gj : Go K W σ F1 H1 s1 (((ft1 u2).bindN fun b s3 => if b = true then (fe s3).bindN fun it s4 => (match frz it s4 with
                    | some (x, s5) => if accj.length < sizeLine then lcIn w1 h1 ft1 fe vs1 (w1.n - (j + 1)) (j + 1) (accj ++ [x]) (unS s5 vs1) else .bad
                    | none => .bad) else lcIn w1 h1 ft1 fe vs1 (w1.n - (j + 1)) (j + 1) accj (unS s3 vs1)).bindN fun acc' s5 => lc2F w h ft fw1 h1 ft1 fe vs vs1 (w.n - (i + 1)) (i + 1) acc' (unS s5 vs)) (fun it F' H' st' => ∀ v, RI K H F' H' σ st' v it → Q v H') := gj
                  rw [eft] at gj
                  exact gj.elim
                | bad =>
                  have gj : Go K W σ F1 H1 s1 (((ft1 u2).bindN fun b s3 => if b = true then (fe s3).bindN fun it s4 => (match frz it s4 with
                    | some (x, s5) => if accj.length < sizeLine then lcIn w1 h1 ft1 fe vs1 (w1.n - (j + 1)) (j + 1) (accj ++ [x]) (unS s5 vs1) else .bad
                    | none => .bad) else lcIn w1 h1 ft1 fe vs1 (w1.n - (j + 1)) (j + 1) accj (unS s3 vs1)).bindN fun acc' s5 => lc2F w h ft fw1 h1 ft1 fe vs vs1 (w.n - (i + 1)) (i + 1) acc' (unS s5 vs)) (fun it F' H' st' => ∀ v, RI K H F' H' σ st' v it → Q v H') := gj
                  rw [eft] at gj
                  exact gj.elim
                | ok b u3 =>
                  have gj : Go K W σ F1 H1 s1 (((ft1 u2).bindN fun b s3 => if b = true then (fe s3).bindN fun it s4 => (match frz it s4 with
                    | some (x, s5) => if accj.length < sizeLine then lcIn w1 h1 ft1 fe vs1 (w1.n - (j + 1)) (j + 1) (accj ++ [x]) (unS s5 vs1) else .bad
                    | none => .bad) else lcIn w1 h1 ft1 fe vs1 (w1.n - (j + 1)) (j + 1) accj (unS s3 vs1)).bindN fun acc' s5 => lc2F w h ft fw1 h1 ft1 fe vs vs1 (w.n - (i + 1)) (i + 1) acc' (unS s5 vs)) (fun it F' H' st' => ∀ v, RI K H F' H' σ st' v it → Q v H') := gj
                  rw [eft] at gj
                  intro G3 M3 pj3
                  have t3 := t2.trans pj3
                  cases b with
                  | false =>
                    refine Eq.mpr (if_neg Bool.false_ne_true) ?_
                    obtain ⟨l1, l2, l3⟩ := stp_keep t3 hDj fDj nOj
                    have tO := Stp.unwipe2 ((tj.wiped vs1).trans t3) hwj
                    exact ⟨rfl, hltj, G3, unS u3 vs1, accj, accVj, tf.trans t3.fr, tO, l1, l2, not_own_after (Stp.unwipe tj.rel t3 hwj) hDj nDj, RDs.mono t3.fr _ _ rdsj, gj⟩
                  | true =>
                    refine Eq.mpr (if_pos rfl) ?_
                    refine ⟨G3, u3, pj3.rel, ?_⟩
                    have gj : Go K W σ F1 H1 s1 (((fe u3).bindN fun it s4 => (match frz it s4 with
                      | some (x, s5) => if accj.length < sizeLine then lcIn w1 h1 ft1 fe vs1 (w1.n - (j + 1)) (j + 1) (accj ++ [x]) (unS s5 vs1) else .bad
                      | none => .bad)).bindN fun acc' s5 => lc2F w h ft fw1 h1 ft1 fe vs vs1 (w.n - (i + 1)) (i + 1) acc' (unS s5 vs)) (fun it F' H' st' => ∀ v, RI K H F' H' σ st' v it → Q v H') := gj
                    cases efe : fe u3 with
                    | exc e s => rw [efe] at gj; exact gj.elim
                    | bad => rw [efe] at gj; exact gj.elim
                    | ok it u4 =>
                      rw [efe] at gj
                      intro G4 M4 pj4 yv ri
                      have t4 := t3.trans pj4
                      obtain ⟨l1, l2, l3⟩ := stp_keep t4 hDj fDj nOj
                      have gj : Go K W σ F1 H1 s1 ((match frz it u4 with
                        | some (x, s5) => if accj.length < sizeLine then lcIn w1 h1 ft1 fe vs1 (w1.n - (j + 1)) (j + 1) (accj ++ [x]) (unS s5 vs1) else .bad
                        | none => .bad).bindN fun acc' s5 => lc2F w h ft fw1 h1 ft1 fe vs vs1 (w.n - (i + 1)) (i + 1) acc' (unS s5 vs)) (fun it F' H' st' => ∀ v, RI K H F' H' σ st' v it → Q v H') := gj
                      cases ef : frz it u4 with
                      | none => rw [ef] at gj; exact gj.elim
                      | some y5 =>
                        obtain ⟨xx, u5⟩ := y5
                        rw [ef] at gj
                        have gj : Go K W σ F1 H1 s1 ((if accj.length < sizeLine then lcIn w1 h1 ft1 fe vs1 (w1.n - (j + 1)) (j + 1) (accj ++ [xx]) (unS u5 vs1) else .bad).bindN fun acc' s5 => lc2F w h ft fw1 h1 ft1 fe vs vs1 (w.n - (i + 1)) (i + 1) acc' (unS s5 vs)) (fun it F' H' st' => ∀ v, RI K H F' H' σ st' v it → Q v H') := gj
                        by_cases hz : accj.length < sizeLine
                        · rw [if_pos hz] at gj
                          have ri2 : RI K Hj G4 M4 σ3 u4 yv it := ri.back t3.there
                          obtain ⟨G5, t5, rd, sm, nw, ow⟩ := frz_ok t4 ri2 ef
                          have f5 : G5 D = none := by
                            cases q : G5 D with
                            | none => rfl
                            | some u =>
                              obtain ⟨z1, z2⟩ := nw D l2 (by rw [q]; simp)
                              rcases z2 with z2 | ⟨m, z2⟩
                              · exact absurd z2 l3
                              · subst z2
                                obtain ⟨pp, e5, h5, _⟩ := ri2
                                rw [z1] at e5
                                cases e5
                                rw [hDj] at h5
                                cases h5
                          have tO := Stp.unwipe2 ((tj.wiped vs1).trans t5) hwj
                          have nO5 := not_own_after (Stp.unwipe tj.rel t5 hwj) hDj nDj
                          exact ⟨accVj, l1, by rw [rdsj.length]; exact hz, rfl, hltj, G5, unS u5 vs1, accj ++ [xx], accVj ++ [yv], tf.trans t5.fr, tO.poke hD f5 nO5, upd_same, f5, nO5, (RDs.mono t5.fr _ _ rdsj).append (RDs.one rd), gj⟩
                        · rw [if_neg hz] at gj
                          exact gj.elim
              · have gj : Go K W σ F1 H1 s1 (((h1 (.d dj) (unS sj vs1)).bindN _).bindN _) _ := gj
                rw [eu] at gj
                exact gj.elim
              · have gj : Go K W σ F1 H1 s1 (((h1 (.d dj) (unS sj vs1)).bindN _).bindN _) _ := gj
                rw [eu] at gj
                exact gj.elim
          · have e1 : j = w1.n := by omega
            subst e1
            rw [Nat.sub_self] at gj
            have gj : Go K W σ F1 H1 s1 ((if w1.fin sj then .ok accj sj else .bad : Ot (List DL.D)).bindN fun acc' s5 => lc2F w h ft fw1 h1 ft1 fe vs vs1 (w.n - (i + 1)) (i + 1) acc' (unS s5 vs)) (fun it F' H' st' => ∀ v, RI K H F' H' σ st' v it → Q v H') := gj
            by_cases hf : w1.fin sj = true
            · rw [if_pos hf] at gj
              have sO := Stp.unwipe2 tj hw2
              refine .inl ⟨ws1 hf, rfl, hlt, Fj, unS sj vs, accj, accVj, sO, hDj, fDj, fun ⟨i, z⟩ => ?_, rdsj, gj⟩
              obtain ⟨hi, z1, z2⟩ := ownAt_unS z
              refine nDj ⟨i, z1, ?_⟩
              rw [← z2, ← wipe_out (σ := σ2) hi, hw2, wipe_out hi]
            · rw [if_neg hf] at gj
              exact gj.elim
      · rw [eh] at g
        exact g.elim
      · rw [eh] at g
        exact g.elim
    · exact g.elim
  · have e1 : i = w.n := by omega
    subst e1
    rw [Nat.sub_self] at g
    have g : Go K W σ F1 H1 s1 (if w.fin st' then .ok (.own (.lst acc)) st' else .bad) (fun it F' H' st' => ∀ v, RI K H F' H' σ st' v it → Q v H') := g
    split at g
    · rename_i hf
      refine .inl ⟨ws hf, g F' H' s' (.ref D) ⟨D, rfl, ?_, fD, nD, accV, hDl, rds⟩⟩
      exact Classical.byContradiction fun z => p1.there D z hD
    · exact g.elim
theorem de_lc2 (hc : X.calm = true) (hN : X.N.Nodup) (hi : DI X W weak tg iter [] fw) (ok : BlkOk X.N X.env.scope scope own) (hv : ∀ i ∈ vs1, i ∈ own.map (·.2)) (hvs : ∀ i ∈ a1, i ∈ own.map (·.2)) (hnx : TgNx h) (hlen : TgLen h) (hvs1 : ∀ i ∈ a2, i ∈ vs1) (hnx1 : TgNx h1) (hlen1 : TgLen h1)
    (hg : ∀ (s : Shared) (H : Hp) (C : Addr) (cl : List (Str × Addr)) (fp : List Addr), DGk (X.blk s H scope (compEnvC scope cl C X.env) fp) noW weak tg a1 h) (ht : ∀ (s : Shared) (H : Hp) (C : Addr) (cl : List (Str × Addr)) (fp : List Addr), DTs (X.blk s H scope (compEnvC scope cl C X.env) fp) noW ifs ft)
    (hi1 : ∀ (s : Shared) (H : Hp) (C : Addr) (cl : List (Str × Addr)) (fp : List Addr), DI (X.blk s H scope (compEnvC scope cl C X.env) fp) noW weak1 tg1 iter1 [] fw1)
    (hg1 : ∀ (s : Shared) (H : Hp) (C : Addr) (cl : List (Str × Addr)) (fp : List Addr), DGk (X.blk s H scope (compEnvC scope cl C X.env) fp) noW weak1 tg1 a2 h1) (ht1 : ∀ (s : Shared) (H : Hp) (C : Addr) (cl : List (Str × Addr)) (fp : List Addr), DTs (X.blk s H scope (compEnvC scope cl C X.env) fp) noW ifs1 ft1)
    (he : ∀ (s : Shared) (H : Hp) (C : Addr) (cl : List (Str × Addr)) (fp : List Addr), DE (X.blk s H scope (compEnvC scope cl C X.env) fp) noW elt fe) (hs : ∀ x, foldedSetIterable iter X.env x = pure x := by intro _; rfl) (hs1 : ∀ env x, foldedSetIterable iter1 env x = pure x := by intro _ _; rfl) :
    DE X W (.ListComp elt [⟨tg, iter, ifs, 0⟩, ⟨tg1, iter1, ifs1, 0⟩] scope pos) (fLc2 fw h ft fw1 h1 ft1 fe (own.map (·.2)) vs1) := PE.conseq (pe_lc2 hc hN hi ok hv hg ht hi1 hg1 ht1 he hs hs1) fun σ H Q q => lc2_go hvs hnx hlen hvs1 hnx1 hlen1 q
end
end DL
set_option maxRecDepth 100000
set_option maxHeartbeats 4000000
namespace DL
open PySem PySem.Spec PyProof.Rows L2
def gFmt : D → Rs
  | .str y => if y.length ≤ sizeLine then .val (.str y) else .bad
  | .int i => if i.natAbs.log2 < 1920 then .val (.str (toString i)) else .bad
  | _ => .bad
def fJs : List FE → Str → FE
  | [], acc => fun st => .ok (.d (.str acc)) st
  | f :: fs, acc => fun st => (f st).bind fun it s1 => match view s1 it with
    | some (.str y) => if (acc ++ y).length ≤ sizeLine then fJs fs (acc ++ y) s1 else .bad
    | _ => .bad
inductive DJ (X : Cx) (W : WX) : List Expr → List FE → Prop where
  | nil : DJ X W [] []
  | cons {e : Expr} {f : FE} {es : List Expr} {fs : List FE} (h : DE X W e f) (r : DJ X W es fs) : DJ X W (e :: es) (f :: fs)
section
variable {X : Cx} {W : WX} {e : Expr} {fe : FE} {es : List Expr} {fs : List FE} {pos : Pos}
theorem de_fmt (he : DE X W e fe) : DE X W (.FormattedValue e (-1) none pos) (fUn gFmt fe) := PE.conseq (pe_fmt he) fun σ H Q h => by
  obtain ⟨F, st, R, g0⟩ := h
  refine ⟨F, st, R, (Go.bind g0).imp fun it F1 H1 s1 p1 g1 v r => ?_⟩
  split at g1
  · rename_i x e1
    have rw1 := view_ok p1.rel r e1
    have g2 := res_ok p1 g1
    cases x with
    | str y =>
      unfold gFmt at g2
      dsimp only at g2
      split at g2
      · rename_i c
        exact .inl ⟨y, rw_str rw1, c, g2 _ rfl⟩
      · exact g2.elim
    | int i =>
      unfold gFmt at g2
      dsimp only at g2
      split at g2
      · rename_i c
        exact .inr ⟨i, rw_int rw1, c, g2 _ rfl⟩
      · exact g2.elim
    | _ => exact g2.elim
  · exact g1.elim
theorem DJ.pj (h : DJ X W es fs) : PJ X es (fs.map fun f => tE X.K W f) := by
  induction h with
  | nil => exact .nil
  | cons h _ ih => exact .cons h ih
theorem js_ok {K : PySem.W.Frag} : ∀ {fs : List FE} {acc : Str} {σ : L2.St} {H : Hp} {Q : VK}, tE K W (fJs fs acc) σ H Q → tJs (fs.map fun f => tE K W f) acc σ H fun out H1 => Q (.str out) H1
  | [], acc, σ, H, Q, h => by
    obtain ⟨F, st, R, g⟩ := h
    exact g F H (Stp.refl R) _ rfl
  | f :: fs, acc, σ, H, Q, h => by
    obtain ⟨F, st, R, g0⟩ := h
    refine ⟨F, st, R, (Go.bind g0).imp fun it F1 H1 s1 p1 g1 v r => ?_⟩
    split at g1
    · rename_i y e1
      split at g1
      · rename_i c
        exact ⟨y, rw_str (view_ok p1.rel r e1), c, js_ok ⟨F1, s1, p1.rel, g1.shift p1 fun a F2 H2 st2 _ _ z v r => z v (r.back p1.there)⟩⟩
      · exact g1.elim
    · exact g1.elim
theorem de_joined {v1 v2 : Expr} {rest : List Expr} (h : DJ X W (v1 :: v2 :: rest) fs) : DE X W (.JoinedStr (v1 :: v2 :: rest) pos) (fJs fs Str.empty) := PE.conseq (pe_joined h.pj) fun σ H Q h => js_ok h
end
@[simp] theorem fJs_nil {acc : Str} {st : Sls} : fJs [] acc st = .ok (.d (.str acc)) st := (by rfl)
theorem fJs_cons {f : FE} {fs : List FE} {acc y : Str} {st s1 : Sls} {it : Itm} (e : f st = .ok it s1) (v : view s1 it = some (.str y)) (h : (acc ++ y).length ≤ sizeLine) : fJs (f :: fs) acc st = fJs fs (acc ++ y) s1 := by
  show ((f st).bind fun it s1 => match view s1 it with
    | some (.str y) => if (acc ++ y).length ≤ sizeLine then fJs fs (acc ++ y) s1 else .bad
    | _ => .bad) = _
  rw [e]
  show (match view s1 it with
    | some (.str y) => if (acc ++ y).length ≤ sizeLine then fJs fs (acc ++ y) s1 else .bad
    | _ => .bad) = _
  rw [v]
  exact if_pos h
def gSplit : D → List D → Rs
  | .str a, [.str b] => if (b.length == 0) = false ∧ a.length + 2 ≤ sizeLine then .new (.lst ((Txt.split a b).map D.str)) else .bad
  | _, _ => .bad
def gUpper : D → List D → Rs
  | .str a, [] => if a.length ≤ 5592405 then .val (.str (Txt.upper a)) else .bad
  | _, _ => .bad
def gStartswith : D → List D → Rs
  | .str a, [.str b] => .val (.bl (Txt.startswith a b))
  | _, _ => .bad
theorem vs_split {X : Cx} : MtS X "str.split" gSplit := by
  refine ⟨_, mt_split, fun F H x d vs ds Q s rx rv q => ?_⟩
  cases d with
  | str a =>
    match vs, ds, rv with
    | [], [], _ => exact q.elim
    | v :: v2 :: vs, d :: d2 :: ds, _ => cases d <;> exact q.elim
    | [v], [d], rv =>
      cases d with
      | str b =>
        unfold gSplit at q
        dsimp only at q
        split at q
        · rename_i c
          refine ⟨a, b, rw_str rx, by rw [rw_str rv.1], c.1, c.2, fun p hp => q p _ hp (fun z hz => upd_ne hz) ⟨_, upd_same, rds_strs⟩⟩
        · exact q.elim
      | _ => exact q.elim
  | _ => exact q.elim
theorem vs_upper {X : Cx} : MtS X "str.upper" gUpper := by
  refine ⟨_, mt_upper, fun F H x d vs ds Q s rx rv q => ?_⟩
  cases d with
  | str a =>
    match vs, ds, rv with
    | [], [], _ =>
      unfold gUpper at q
      dsimp only at q
      split at q
      · rename_i c
        exact ⟨a, rw_str rx, rfl, c, q _ rfl⟩
      · exact q.elim
    | v :: vs, d :: ds, _ => exact q.elim
  | _ => exact q.elim
theorem vs_startswith {X : Cx} : MtS X "str.startswith" gStartswith := by
  refine ⟨_, mt_startswith, fun F H x d vs ds Q s rx rv q => ?_⟩
  cases d with
  | str a =>
    match vs, ds, rv with
    | [], [], _ => exact q.elim
    | v :: v2 :: vs, d :: d2 :: ds, _ => cases d <;> exact q.elim
    | [v], [d], rv =>
      cases d with
      | str b => exact ⟨a, b, rw_str rx, by rw [rw_str rv.1], q _ rfl⟩
      | _ => exact q.elim
  | _ => exact q.elim
def gNeg : D → Rs
  | .int i => .val (.int (-i))
  | _ => .bad
theorem de_neg {X : Cx} {W : WX} {a : Expr} {fa : FE} {pos : Pos} (ha : DE X W a fa) : DE X W (.UnaryOp .USub a pos) (fUn gNeg fa) := PE.conseq (pe_un un_neg ha) fun σ H Q h => by
  obtain ⟨F, st, R, g0⟩ := h
  refine ⟨F, st, R, (Go.bind g0).imp fun it F1 H1 s1 p1 g1 v r => ?_⟩
  split at g1
  · rename_i x e1
    have g2 := res_ok p1 g1
    cases x with
    | int i => exact ⟨i, rw_int (view_ok p1.rel r e1), g2 _ rfl⟩
    | _ => exact g2.elim
  · exact g1.elim
@[simp] theorem gNeg_int {i : Int} : gNeg (.int i) = .val (.int (-i)) := (by rfl)
def isK : L2.Key → D → Bool
  | .inl i, .int j => i == j
  | .inr x, .str y => x == y
  | _, _ => false
def lookD (k : L2.Key) : List D → List D → Option D
  | d :: ks, v :: vs => if isK k d = true then some v else lookD k ks vs
  | _, _ => none
theorem look_ok {K : PySem.W.Frag} {F : Hp} {k : L2.Key} : ∀ {kvs : List (L2.Key × V)} {ks vs : List D}, RDs K F (kvs.map fun q => kV q.1) ks → RDs K F (kvs.map fun q => q.2) vs → (∀ x, lookD k ks vs = some x → ∃ v, valV kvs k = some v ∧ RD K F v x) ∧ (lookD k ks vs = none → valV kvs k = none)
  | [], [], [], _, _ => ⟨(fun x h => nomatch h), fun _ => rfl⟩
  | [], _ :: _, _, h, _ => h.elim
  | [], [], _ :: _, _, h => h.elim
  | _ :: _, [], _, h, _ => h.elim
  | _ :: _, _ :: _, [], _, h => h.elim
  | p :: kvs, d :: ks, v :: vs, h, g => by
    have ih := look_ok (k := k) h.2 g.2
    have hk : isK k d = true ↔ p.1 = k := by
      have h1 : RD K F (kV p.1) d := h.1
      cases q : p.1 with
      | inl i =>
        rw [q] at h1
        cases d with
        | int j =>
          have h1 : V.int i = .int j := h1
          cases h1
          cases k with
          | inl k => simp [isK]; exact ⟨fun z => z.symm, fun z => z.symm⟩
          | inr k => simp [isK]
        | non => exact nomatch (show V.int i = .non from h1)
        | bl b => exact nomatch (show V.int i = .bl b from h1)
        | str b => exact nomatch (show V.int i = .str b from h1)
        | tup _ => obtain ⟨_, _, z, _⟩ := h1; cases z
        | lst _ => obtain ⟨_, _, z, _⟩ := h1; cases z
        | dic _ _ => obtain ⟨_, _, z, _⟩ := h1; cases z
        | ins _ _ _ => obtain ⟨_, _, _, z, _⟩ := h1; cases z
        | scr _ => obtain ⟨_, z, _⟩ := h1; cases z
      | inr i =>
        rw [q] at h1
        cases d with
        | str j =>
          have h1 : V.str i = .str j := h1
          cases h1
          cases k with
          | inr k => simp [isK]; exact ⟨fun z => z.symm, fun z => z.symm⟩
          | inl k => simp [isK]
        | non => exact nomatch (show V.str i = .non from h1)
        | bl b => exact nomatch (show V.str i = .bl b from h1)
        | int b => exact nomatch (show V.str i = .int b from h1)
        | tup _ => obtain ⟨_, _, z, _⟩ := h1; cases z
        | lst _ => obtain ⟨_, _, z, _⟩ := h1; cases z
        | dic _ _ => obtain ⟨_, _, z, _⟩ := h1; cases z
        | ins _ _ _ => obtain ⟨_, _, _, z, _⟩ := h1; cases z
        | scr _ => obtain ⟨_, z, _⟩ := h1; cases z
    by_cases c : p.1 = k
    · rw [valV_pos c]
      have e : lookD k (d :: ks) (v :: vs) = some v := by
        unfold lookD
        rw [if_pos (hk.mpr c)]
      rw [e]
      exact ⟨fun x z => (by cases z; exact ⟨p.2, rfl, g.1⟩), fun z => nomatch z⟩
    · rw [valV_neg c]
      have e : lookD k (d :: ks) (v :: vs) = lookD k ks vs := by
        conv => lhs; unfold lookD
        rw [if_neg fun z => c (hk.mp z)]
      rw [e]
      exact ih
def fDGet (fd fk : FE) : FE := fun st => (fd st).bind fun id s1 => (fk s1).bind fun ik s2 => match view s2 id, keyI ik with
  | some (.dic ks vs), some k => (match lookD k ks vs with
    | some x => .ok (.d x) s2
    | none => .bad)
  | _, _ => .bad
def fDIn (neg : Bool) (fk fd : FE) : FE := fun st => (fk st).bind fun ik s1 => (fd s1).bind fun id s2 => match view s2 id, keyI ik with
  | some (.dic ks vs), some k => .ok (.d (.bl (if neg then !(lookD k ks vs).isSome else (lookD k ks vs).isSome))) s2
  | _, _ => .bad
section
variable {X : Cx} {W : WX} {o i : Expr} {fd fk : FE} {pos : Pos}
theorem de_dget (hu : X.A.units + 1 < cLine) (ho : DE X W o fd) (hi : DE X W i fk) (hs : NoSl i) : DE X W (.Subscript o i pos) (fDGet fd fk) := PE.conseq (pe_dget hu ho hi hs) fun σ H Q h => by
  obtain ⟨F, st, R, g0⟩ := h
  refine ⟨F, st, R, (Go.bind g0).imp fun id F1 H1 s1 p1 g1 x rx => ?_⟩
  refine ⟨F1, s1, p1.rel, ((Go.bind g1).shift p1 fun ik F2 H2 s2 p2 p02 g2 => g2).imp fun ik F2 H2 s2 p2 g2 y ry => ?_⟩
  split at g2
  · rename_i ks vs k e1 e2
    obtain ⟨a, kvs, ex, h, r1, r2⟩ := rw_dic p2.rel.sub (view_ok p2.rel (rx.step p2) e1)
    have ey := keyI_ok ry e2
    obtain ⟨l1, _⟩ := look_ok (k := k) r1 r2
    split at g2
    · rename_i d el
      obtain ⟨v, ev, rv⟩ := l1 d el
      refine ⟨a, v, ex, ?_, g2 F2 H2 (p1.trans p2) v rv⟩
      rw [ey, ← ev]
      exact DGet.k h
    · exact g2.elim
  · exact g2.elim
theorem in_go {K : PySem.W.Frag} {neg : Bool} {σ : L2.St} {H : Hp} {Q : VK} (h : tE K W (fDIn neg fk fd) σ H Q) : tE K W fk σ H fun y H1 => tE K W fd σ H1 fun x H2 => ∃ a o, x = .ref a ∧ DGet H2 a y o ∧ Q (.bl (if neg then !o.isSome else o.isSome)) H2 := by
  obtain ⟨F, st, R, g0⟩ := h
  refine ⟨F, st, R, (Go.bind g0).imp fun ik F1 H1 s1 p1 g1 y ry => ?_⟩
  refine ⟨F1, s1, p1.rel, ((Go.bind g1).shift p1 fun ik F2 H2 s2 p2 p02 g2 => g2).imp fun id F2 H2 s2 p2 g2 x rx => ?_⟩
  split at g2
  · rename_i ks vs k e1 e2
    obtain ⟨a, kvs, ex, h, r1, r2⟩ := rw_dic p2.rel.sub (view_ok p2.rel rx e1)
    have ey := keyI_ok ry e2
    obtain ⟨l1, l2⟩ := look_ok (k := k) r1 r2
    refine ⟨a, valV kvs k, ex, by rw [ey]; exact DGet.k h, ?_⟩
    have e : (valV kvs k).isSome = (lookD k ks vs).isSome := by
      cases q : lookD k ks vs with
      | none => rw [l2 q]; rfl
      | some d =>
        obtain ⟨v, ev, _⟩ := l1 d q
        rw [ev]
        rfl
    rw [e]
    exact g2 F2 H2 (p1.trans p2) _ rfl
  · exact g2.elim
end
end DL
set_option maxRecDepth 100000
set_option maxHeartbeats 4000000
namespace DL
open PySem PySem.Spec PyProof.Rows L2
section
variable {K : PySem.W.Frag} {W : WX} {σ : L2.St} {F H F' H' H0 : Hp} {st st' : Sls} {C : Addr}
theorem ownAt_cls {p : Addr} {i : Nat} : OwnAt (some (.ref C) :: σ) (.cls C :: st) p i ↔ ∃ j, i = j + 1 ∧ OwnAt σ st p j := by
  cases i with
  | zero =>
    refine ⟨fun ⟨⟨m, h⟩, _⟩ => ?_, fun ⟨j, h, _⟩ => by simp at h⟩
    simp at h
  | succ i =>
    refine ⟨fun h => ⟨i, rfl, by simpa [OwnAt] using h⟩, fun ⟨j, h, g⟩ => ?_⟩
    have e : i = j := by omega
    subst e
    simpa [OwnAt] using g
theorem own_cls {p : Addr} : Own (some (.ref C) :: σ) (.cls C :: st) p ↔ Own σ st p :=
  ⟨fun ⟨i, h⟩ => let ⟨j, _, g⟩ := ownAt_cls.mp h; ⟨j, g⟩, fun ⟨j, g⟩ => ⟨j + 1, ownAt_cls.mpr ⟨j, rfl, g⟩⟩⟩
theorem Rl.consC (R : Rl K F H σ st) : Rl K F H (some (.ref C) :: σ) (.cls C :: st) := by
  refine ⟨R.sub, by simp [R.len], fun i s e => ?_, fun p i j h1 h2 => ?_⟩
  · cases i with
    | zero =>
      simp at e
      subst e
      exact ⟨_, rfl, rfl⟩
    | succ i =>
      obtain ⟨ov, h1, h2⟩ := R.at_ i s (by simpa using e)
      exact ⟨ov, by simpa using h1, h2⟩
  · obtain ⟨a, rfl, ha⟩ := ownAt_cls.mp h1
    obtain ⟨b, rfl, hb⟩ := ownAt_cls.mp h2
    rw [R.apart p a b ha hb]
theorem Rl.unconsC (R : Rl K F H (some (.ref C) :: σ) (.cls C :: st)) : Rl K F H σ st := by
  refine ⟨R.sub, by have := R.len; simpa using this, fun i s e => ?_, fun p i j h1 h2 => ?_⟩
  · obtain ⟨ov, h1, h2⟩ := R.at_ (i + 1) s (by simpa using e)
    exact ⟨ov, by simpa using h1, h2⟩
  · have := R.apart p (i + 1) (j + 1) (ownAt_cls.mpr ⟨i, rfl, h1⟩) (ownAt_cls.mpr ⟨j, rfl, h2⟩)
    omega
theorem Stp.unconsC (s : Stp K (some (.ref C) :: σ) F H (.cls C :: st) (some (.ref C) :: σ) F' H' (.cls C :: st')) : Stp K σ F H st σ F' H' st' :=
  ⟨s.fr, s.rel.unconsC, fun a h1 h2 => (s.new a h1 h2).imp (fun z => z) own_cls.mp, fun a o h1 h2 h3 => s.keep a o h1 h2 fun z => h3 (own_cls.mp z), s.there, fun a h => (s.own a (own_cls.mpr h)).imp own_cls.mp fun z => z⟩
end
def gCls (C : Addr) (g : FG) : FG := fun as => match g (.cls C :: as) with
  | .ok it (.cls C' :: as') => if C' = C then (match it with
    | .d x => .ok (.d x) as'
    | .own m => .ok (.own m) as'
    | .ref (i + 1) => .ok (.ref i) as'
    | .ref 0 => .bad) else .bad
  | .exc e (.cls C' :: as') => if C' = C then .exc e as' else .bad
  | _ => .bad
theorem spG_cls {K : PySem.W.Frag} {C : Addr} {n : Nat} {g : Pn → FG} {p : Pn} {vs : List V} {H : Hp} {Q : VK} {E : XK} (h : spG K n (fun p => gCls C (g p)) p vs H Q E) : spG K (n + 1) g p (.ref C :: vs) H Q E := by
  obtain ⟨hl, F, as, R, go⟩ := h
  refine ⟨by simp [hl], F, .cls C :: as, R.consC, ?_⟩
  replace go : Go K (fun c d _ H' => E c d H') (vs.map some) F H as (match g p (.cls C :: as) with
    | .ok it (.cls C' :: as') => if C' = C then (match it with
      | .d x => .ok (.d x) as'
      | .own m => .ok (.own m) as'
      | .ref (i + 1) => .ok (.ref i) as'
      | .ref 0 => .bad) else .bad
    | .exc e (.cls C' :: as') => if C' = C then .exc e as' else .bad
    | _ => .bad) (fun it F' H' as' => ∀ v, RI K H F' H' (vs.map some) as' v it → Q v H') := go
  split at go
  · rename_i it C' as' e
    rw [e]
    split at go
    · rename_i ec
      subst ec
      intro F' H' s v r
      have s' : Stp K (vs.map some) F H as (vs.map some) F' H' as' := Stp.unconsC s
      cases it with
      | d x => exact go F' H' s' v r
      | own m =>
        obtain ⟨a, e1, h0, f, n, rm⟩ := r
        exact go F' H' s' v ⟨a, e1, h0, f, fun z => n (own_cls.mpr z), rm⟩
      | ref i =>
        cases i with
        | zero => exact go.elim
        | succ i => exact go F' H' s' v (show (vs.map some)[i]? = some (some v) from r)
    · exact go.elim
  · rename_i x C' as' e
    rw [e]
    split at go
    · rename_i ec
      subst ec
      intro d F' H' s xr
      exact go d F' H' (Stp.unconsC s) xr
    · exact go.elim
  · exact go.elim
section
variable {X : Cx} {W : WX} {hot : Bool} {p : Pn} {k n : Nat} {f C q : Addr} {mc : Value} {fd : FuncData} {ps : List Str} {src : List Src} {g : Pn → FG} {x m : Str} {np pos apos : Pos} {e o : Expr} {es : List Expr} {fa : FA}
theorem run_cmM {pins : List (Addr × Obj)} {σ : L2.St} {H1 : Hp} {s : Shared} {Q : VK} {qa : Addr} {sp : SpM} {us us' : List Value} {kw : List (Str × Value)} {vs : List V} (F : FnM hot X.prog X.w X.K X.mg X.base k f fd ps sp) (hr : Rm hot k X.A) (hh : HotX hot X p) (tk : L2N.Takes X W)
    (I : Inv X ((qa, PySem.W.methodObj (.ref f) (.ref C)) :: pins) σ H1 s) (hb : BindsTo s fd ⟨.ref C :: us, kw⟩ (ps.zip us')) (r : Vals vs us')
    (h : sp p vs H1 Q (fun c d H' => W c d σ H')) : wpAny (model X.prog X.w) X.A (call (.ref qa) us kw) (EP X pins σ Q) X.xe s := by
  have z : wpAny (model X.prog X.w) X.A (call (.ref qa) us kw) (EP X ((qa, PySem.W.methodObj (.ref f) (.ref C)) :: pins) σ Q) X.xe s := by
    refine wpAny_call (PySem.W.method_call (ClX.pin_at I) (codeAny_mono (F.run X.A X.stack s H1 ⟨.ref C :: us, kw⟩ us' vs Q _ p hr (pin_ok hh I) I.env0 hb r h) fun r s' hq => ?_))
    cases r with
    | error e => exact tk e s' (L2N.XE.of_call I (fun _ _ _ z => z) hq)
    | ok fl =>
      cases fl with
      | ret u => exact I.after hq
      | next => exact False.elim hq
      | brk => exact False.elim hq
      | cont => exact False.elim hq
  exact thn z fun _ _ y => ClX.unpinE y
theorem de_cmeth {pl : Sem Bool} (hg : Gl X x) (hm : X.mg x = some (.ref C)) (r : ClX.CRead X.K C mc) (c : ClX.CMet X.K C mc m q f) (F : FnM hot X.prog X.w X.K X.mg X.base k f fd ps (spG X.K ps.length g)) (hr : Rm hot k X.A) (hh : HotX hot X p) (tk : L2N.Takes X W)
    (hn : ps.length = (e :: es).length + 1) (hb : ∀ (s : Shared) (us : List Value), us.length = ps.length → BindsTo s fd ⟨us, []⟩ (ps.zip us)) (ha : DA X W (e :: es) fa) (hd : (x == ("__debug__" : Str)) = false := by decide)
    (hst : starEach (e :: es) X.env = (false, eval e X.env) :: starEach es X.env := by rfl) (hpl : (backTo pos (starEach es X.env)).any (·.1) = false := by rfl)
    (ht : eval (.Call (.Attribute (.Name x np) m apos) (e :: es) [] pos) X.env = (do
      let ov ← eval (.Name x np) X.env
      standAt apos.atName
      let (f, first) ← holding [ov] (getMethod ov m pl)
      callWith pos f first (backTo pos (starEach (e :: es) X.env)) (backToKw pos (keywordEach [] X.env))) := by rfl) :
    DE X W (.Call (.Attribute (.Name x np) m apos) (e :: es) [] pos) (fCallA (callG (gCls C (g p))) fa) := by
  refine ⟨fun pins s σ H Q I h => ?_⟩
  obtain ⟨F0, st0, R, h⟩ := args_ok ha h
  refine PySem.W.methodCall_KW (pl := pl) (ld_glob I hg hm ?_ hd) ht
  refine ClX.getmethcm_ok I r c fun s2 I2 => ?_
  refine ClX.callwith_cm I2 (ClX.base_none I (Nat.le_refl _)) c.fi (thn (ha.pa.run pos _ s2 σ H _ I2 h) fun us s3 hx => ?_) hst hpl
  obtain ⟨vs, H1, I3, rv, F1, t1, its, lv, p1, ri, q2⟩ := hx
  refine ⟨⟨ClX.pin_at I3, I3.kIn⟩, ?_⟩
  have lu : us.length = (e :: es).length := by rw [← rv.length]; exact lv
  refine run_cmM (us := us) (us' := .ref C :: us) (vs := .ref C :: vs) (kw := []) F hr hh tk I3 (hb s3 (.ref C :: us) (by rw [List.length_cons, lu, hn])) (.cons rfl rv) ?_
  have e1 : ps.length = (e :: es).length + 1 := hn
  rw [e1]
  refine spG_cls (C := C) ⟨lv, ?_⟩
  exact call_go p1 ri.ix q2
def fMkL (i : Nat) (C : Addr) (k : List Itm → Sls → Ot Itm) (fa : FA) : FE := fun st => match st[i]? with
  | some (.cls C') => if C' = C then (fa st).bind k else .bad
  | _ => .bad
theorem de_makeL (i : Nat) (hv : PE X (.Name x np) (tVar i)) (M : Mk X.K C f) (F : FnM hot X.prog X.w X.K X.mg X.base k f fd ps (spG X.K ps.length g)) (hr : Rm hot (k + 1) X.A) (hh : HotX hot X p) (tk : L2N.Takes X W) (B : BnD X.K fd ps ((e :: es).length + 1) [] src) (ha : DA X W (e :: es) fa)
    (he : starEach (e :: es) X.env = (false, eval e X.env) :: starEach es X.env := by rfl) (hpl : (backTo pos (starEach es X.env)).any (·.1) = false := by rfl) :
    DE X W (.Call (.Name x np) (e :: es) [] pos) (fMkL i C (makeA C (g p) src) fa) := by
  refine ⟨fun pins s σ H Q I h => ?_⟩
  obtain ⟨F0, st0, R, g0⟩ := h
  unfold fMkL at g0
  split at g0
  · rename_i C' e0
    split at g0
    · rename_i ec
      subst ec
      obtain ⟨ov, h1, h2⟩ := R.at_ i _ e0
      have h2 : ov = some (.ref C') := h2
      subst h2
      have h : tE X.K W (fCallA (makeA C' (g p) src) fa) σ H Q := ⟨F0, st0, R, g0⟩
      obtain ⟨F0, st0, R, h⟩ := args_ok ha h
      refine wpAny_Call_Name_kw (thn (hv.run pins s σ H (fun v H1 => v = .ref C' ∧ H1 = H) I ⟨_, h1, rfl, rfl⟩) fun u s0 ⟨v, H1, I0, rv, e1, e2⟩ => ?_)
      subst e1 e2
      obtain rfl : u = Value.ref C' := rv
      refine PySem.W.callWith_K (h₀ := X.base) I0.ok.mod.kin M.kp (thn (ha.pa.run pos pins s0 σ _ _ I0 h) fun us s1 hx => ?_) he hpl
      obtain ⟨vs, H1, I1, r, F1, t1, its, lv, p1, ri, q⟩ := hx
      refine ⟨I1.kIn, ?_⟩
      exact fireNew (us := us) (ws := []) (zs := []) M F hr hh tk B I1 r .nil (by rw [← r.length]; exact lv) rfl p1 (by rw [List.append_nil]; exact ri) q
    · exact g0.elim
  · exact g0.elim
end
theorem cmetB_ok {K : PySem.W.Frag} {C : Addr} {m : Str} (h : cmetB K C m = true) : ClX.CRead K C (.type "type") ∧ ClX.CMet K C (.type "type") m (He.ma K C m) (He5.wf K C "classmethod" m) := by
  obtain ⟨h1, h⟩ := He.ba h
  obtain ⟨h2, h3⟩ := He.ba h
  refine ⟨⟨h1, ?_⟩, He5.cmet_of h2 h3⟩
  have h := h1
  unfold PySem.W.readsIn at h
  obtain ⟨h, _⟩ := He.ba h
  obtain ⟨h, _⟩ := He.ba h
  obtain ⟨h, h3⟩ := He.ba h
  obtain ⟨_, h2⟩ := He.ba h
  unfold PySem.W.specialIn
  rw [beq_iff_eq.mp h2, Option.bind_some]
  exact beq_iff_eq.mp h3
end DL
set_option maxRecDepth 100000
set_option maxHeartbeats 4000000
namespace DL
open PySem PySem.Spec PyProof.Rows L2
structure OwnM (X : Cx) (hot : Bool) (C f : Addr) (nm : Str) (n k : Nat) (fd : FuncData) (ps : List Str) (g : Pn → FG) : Prop where
  at_ : PySem.W.findIn X.K (.ref C) nm = some (some (.ref f))
  fn : PySem.W.isFn X.K (.ref f) = true
  F : FnM hot X.prog X.w X.K X.mg X.base k f fd ps (spG X.K ps.length g)
  B : BnD X.K fd ps n [] ((List.range n).map Src.arg)
theorem ownB_ok {X : Cx} {hot : Bool} {C : Addr} {nm : Str} {n k : Nat} {fd : FuncData} {ps : List Str} {g : Pn → FG} (h : ownB X.K C nm = true) (F : FnM hot X.prog X.w X.K X.mg X.base k (He.ma X.K C nm) fd ps (spG X.K ps.length g))
    (B : BnD X.K fd ps n [] ((List.range n).map Src.arg)) : OwnM X hot C (He.ma X.K C nm) nm n k fd ps g := by
  obtain ⟨h1, h2⟩ := He.ba h
  exact ⟨He.eqO_ok h1, h2, F, B⟩
section
variable {X : Cx} {W : WX} {hot : Bool} {p : Pn} {C f : Addr} {nm : Str} {n k : Nat} {fd : FuncData} {ps : List Str} {g : Pn → FG} {pins : List (Addr × Obj)} {σ : L2.St} {H : Hp} {s : Shared} {fo fa fb : FE} {e a b : Expr} {pos np : Pos}
theorem own1_run {u : Nat} {a : Value} {x : V} {Q : VK} (Z : OwnM X hot C f nm 1 k fd ps g) (hr : Rm hot (k + 1) X.A) (hh : HotX hot X p) (hu : u ≤ 16) (I : Inv X pins σ H s) (rx : RelV x a) (h : spG X.K ps.length g p [x] H Q (fun _ _ _ => False)) :
    wpAny (model X.prog X.w) (upU u X.A) (call (.ref f) [a]) (EP X pins σ Q) X.xe s := by
  obtain ⟨us', hb, hv⟩ := Z.B.to s [a] [] I.kIn rfl rfl
  obtain ⟨vs', a1, a2⟩ := hv [x] [] (.cons rx .nil) .nil
  have ev : [x] = vs' := by
    have a1 : some [x] = some vs' := a1
    cases a1
    rfl
  subst ev
  exact run_fnU (W := noW) Z.F hr hu hh takes_no I hb a2 h
theorem own2_run {u : Nat} {a b : Value} {x y : V} {Q : VK} (Z : OwnM X hot C f nm 2 k fd ps g) (hr : Rm hot (k + 1) X.A) (hh : HotX hot X p) (hu : u ≤ 16) (I : Inv X pins σ H s) (rx : RelV x a) (ry : RelV y b) (h : spG X.K ps.length g p [x, y] H Q (fun _ _ _ => False)) :
    wpAny (model X.prog X.w) (upU u X.A) (call (.ref f) [a, b]) (EP X pins σ Q) X.xe s := by
  obtain ⟨us', hb, hv⟩ := Z.B.to s [a, b] [] I.kIn rfl rfl
  obtain ⟨vs', a1, a2⟩ := hv [x, y] [] (.cons rx (.cons ry .nil)) .nil
  have ev : [x, y] = vs' := by
    have a1 : some [x, y] = some vs' := a1
    cases a1
    rfl
  subst ev
  exact run_fnU (W := noW) Z.F hr hu hh takes_no I hb a2 h
def fOwn1 (C : Addr) (g : FG) (post : D → Bool) (fo : FE) : FE := fun st => (fo st).bind fun ir s1 => match view s1 ir with
  | some (.ins C' _ _) => if C' = C then (match noExc (callG g [ir] s1) with
    | .ok (.d x) s2 => if post x = true then .ok (.d x) s2 else .bad
    | _ => .bad) else .bad
  | _ => .bad
def okLen : D → Bool
  | .int i => decide (0 ≤ i) && decide (i < 2 ^ 63)
  | _ => false
def okStr : D → Bool
  | .str _ => true
  | _ => false
def rOwn1 (X : Cx) (C : Addr) (ps : List Str) (g : Pn → FG) (p : Pn) (post : V → Prop) : List V → Hp → VK → Prop := fun vs H Q => ∃ a dx fs, vs = [.ref a] ∧ H a = some (.ins C dx fs) ∧
  spG X.K ps.length g p vs H (fun v H' => post v ∧ Q v H') (fun _ _ _ => False)
theorem own1_go {post : D → Bool} {pv : V → Prop} {Q : VK} (hpv : ∀ (F : Hp) (v : V) (d : D), RD X.K F v d → post d = true → pv v) (hl : ps.length = 1) (h : tE X.K W (fOwn1 C (g p) post fo) σ H Q) : tE X.K W fo σ H fun x H1 => rOwn1 X C ps g p pv [x] H1 Q := by
  obtain ⟨F, st, R, g0⟩ := h
  refine ⟨F, st, R, (Go.bind g0).imp fun ir F1 H1 s1 p1 g1 x r => ?_⟩
  split at g1
  · rename_i C' fs ds e
    split at g1
    · rename_i ec
      subst ec
      obtain ⟨a, dx, xs, ex, h1, _, _⟩ := rw_ins p1.rel.sub (view_ok p1.rel r e)
      refine ⟨a, dx, xs, by rw [ex], h1, hl.symm, ?_⟩
      have ri : RIs X.K H F1 H1 σ s1 [x] [ir] := ⟨r, fun m hm w m' hw => by simp at hw, trivial⟩
      refine call_go (W := noW) (Q := fun v H' => pv v ∧ Q v H') p1 ri.ix ?_
      split at g1
      · rename_i y s2 e2
        split at g1
        · rename_i hp
          cases q : callG (g p) [ir] s1 with
          | ok it s3 =>
            rw [q] at e2
            cases e2
            intro F' H' s' v rv
            exact ⟨hpv _ _ _ rv hp, g1 F' H' s' v rv⟩
          | exc e s3 => rw [q] at e2; cases e2
          | bad => rw [q] at e2; cases e2
        · exact g1.elim
      · exact g1.elim
    · exact g1.elim
  · exact g1.elim
theorem call_lenC (Z : OwnM X hot C f "__len__" 1 k fd ps g) (hr : Rm hot (k + 1) X.A) (hh : HotX hot X p) : CallR X (.builtin "len") (rOwn1 X C ps g p fun v => ∃ i : Int, v = .int i ∧ 0 ≤ i ∧ i < 2 ^ 63) := by
  rintro pins s σ H vs us Q I r ⟨a, dx, fs, rfl, ha, sp⟩
  obtain ⟨u, rfl, rx⟩ := vals1 r
  cases (show u = Value.ref a from rx)
  obtain ⟨mA, O, _⟩ := ins_get I.hok ha
  obtain ⟨od, J, _⟩ := O.look
  obtain ⟨m, hF⟩ := I.fr
  refine PySem.W.len_K hF I.ok.mod.kin J Z.at_ Z.fn (thn (own1_run (u := 1) Z hr hh (by omega) I (show RelV (.ref a) (.ref a) from rfl) sp) fun w s' hw => ?_)
  obtain ⟨v, H', I', rv, ⟨i, ev, h0, h1⟩, q⟩ := hw
  subst ev
  obtain ⟨t, rfl⟩ := rv
  exact ⟨⟨h0, h1⟩, .int i, H', I'.tok _, ⟨_, rfl⟩, q⟩
theorem call_reprC (Z : OwnM X hot C f "__repr__" 1 k fd ps g) (hr : Rm hot (k + 1) X.A) (hh : HotX hot X p) : CallR X (.builtin "repr") (rOwn1 X C ps g p fun v => ∃ z : Str, v = .str z) := by
  rintro pins s σ H vs us Q I r ⟨a, dx, fs, rfl, ha, sp⟩
  obtain ⟨u, rfl, rx⟩ := vals1 r
  cases (show u = Value.ref a from rx)
  obtain ⟨mA, O, _⟩ := ins_get I.hok ha
  obtain ⟨od, J, _⟩ := O.look
  obtain ⟨m, hF⟩ := I.fr
  refine PySem.W.repr_K (by have := hr.un; show X.A.units + 1 < _; omega) hF I.ok.mod.kin J Z.at_ Z.fn (thn (own1_run (u := 1) Z hr hh (by omega) I (show RelV (.ref a) (.ref a) from rfl) sp) fun w s' hw => ?_)
  obtain ⟨v, H', I', rv, ⟨z, ev⟩, q⟩ := hw
  subst ev
  obtain ⟨t, rfl⟩ := rv
  exact ⟨.str z, H', I', ⟨_, rfl⟩, q⟩
theorem de_lenC {x : Str} (Z : OwnM X hot C f "__len__" 1 k fd ps g) (hr : Rm hot (k + 1) X.A) (hh : HotX hot X p) (hg : Gl X "len") (hm : X.mg "len" = none) (he : DE X W e fo)
    (hs : starEach [e] X.env = [(false, eval e X.env)] := by rfl) : DE X W (.Call (.Name "len" np) [e] [] pos) (fOwn1 C (g p) okLen fo) :=
  PE.conseq (pe_callB (call_lenC Z hr hh) hg hm PySem.boot_len (pa_cons he pa_nil hs) (by decide) (by decide) hs) fun σ H Q h => own1_go (fun F v d r hp => by
    cases d with
    | int i =>
      unfold okLen at hp
      rw [Bool.and_eq_true] at hp
      exact ⟨i, r, of_decide_eq_true hp.1, of_decide_eq_true hp.2⟩
    | _ => cases hp) Z.B.len.symm h
theorem de_reprC {x : Str} (Z : OwnM X hot C f "__repr__" 1 k fd ps g) (hr : Rm hot (k + 1) X.A) (hh : HotX hot X p) (hg : Gl X "repr") (hm : X.mg "repr" = none) (he : DE X W e fo)
    (hs : starEach [e] X.env = [(false, eval e X.env)] := by rfl) : DE X W (.Call (.Name "repr" np) [e] [] pos) (fOwn1 C (g p) okStr fo) :=
  PE.conseq (pe_callB (call_reprC Z hr hh) hg hm rfl (pa_cons he pa_nil hs) (by decide) (by decide) hs) fun σ H Q h => own1_go (fun F v d r hp => by
    cases d with
    | str i => exact ⟨i, r⟩
    | _ => cases hp) Z.B.len.symm h
def fInC (C : Addr) (g : FG) (neg : Bool) (fa fb : FE) : FE := fun st => (fa st).bind fun ia s1 => (fb s1).bind fun ib s2 => match view s2 ib with
  | some (.ins C' _ _) => if C' = C then (match noExc (callG g [ib, ia] s2) with
    | .ok (.d (.bl r)) s3 => .ok (.d (.bl (if neg then !r else r))) s3
    | _ => .bad) else .bad
  | _ => .bad
def rInC (X : Cx) (C : Addr) (ps : List Str) (g : Pn → FG) (p : Pn) (neg : Bool) : R2 := fun x y H Q => ∃ a dx fs, y = .ref a ∧ H a = some (.ins C dx fs) ∧
  spG X.K ps.length g p [y, x] H (fun v H' => ∃ r, v = .bl r ∧ Q (.bl (if neg then !r else r)) H') (fun _ _ _ => False)
theorem inC_go {neg : Bool} {Q : VK} (hl : ps.length = 2) (h : tE X.K W (fInC C (g p) neg fa fb) σ H Q) : tOp (rInC X C ps g p neg) (tE X.K W fa) (tE X.K W fb) σ H Q := by
  obtain ⟨F, st, R, g0⟩ := h
  refine ⟨F, st, R, (Go.bind g0).imp fun ia F1 H1 s1 p1 g1 v1 r1 => ?_⟩
  refine ⟨F1, s1, p1.rel, ((Go.bind g1).shift p1 fun ib F2 H2 s2 p2 p02 g2 => g2).imp fun ib F2 H2 s2 p2 g2 v2 r2 => ?_⟩
  have p02 := p1.trans p2
  obtain ⟨x1, x2⟩ := two_ix r1 p2 p1.there r2
  split at g2
  · rename_i C' fs ds e
    split at g2
    · rename_i ec
      subst ec
      obtain ⟨a, dx, xs, ex, h1, _, _⟩ := rw_ins p2.rel.sub (view_ok p2.rel r2 e)
      refine ⟨a, dx, xs, ex, h1, hl.symm, ?_⟩
      refine call_go (W := noW) (Q := fun v H' => ∃ r, v = .bl r ∧ Q (.bl (if neg then !r else r)) H') p02 x2 ?_
      split at g2
      · rename_i r s3 e2
        cases q : callG (g p) [ib, ia] s2 with
        | ok it s4 =>
          rw [q] at e2
          cases e2
          intro F' H' s' v rv
          exact ⟨r, rv, g2 F' H' s' _ rfl⟩
        | exc e s3 => rw [q] at e2; cases e2
        | bad => rw [q] at e2; cases e2
      · exact g2.elim
    · exact g2.elim
  · exact g2.elim
theorem op_inC (Z : OwnM X hot C f "__contains__" 2 k fd ps g) (hr : Rm hot (k + 1) X.A) (hh : HotX hot X p) : OpR X (compareOp .In) (rInC X C ps g p false) := by
  rintro pins s σ H x y v u Q I rx ry ⟨a, dx, fs, rfl, ha, sp⟩
  cases (show u = Value.ref a from ry)
  obtain ⟨mA, O, _⟩ := ins_get I.hok ha
  obtain ⟨od, J, _⟩ := O.look
  obtain ⟨m, hF⟩ := I.fr
  refine PySem.W.in_K hF I.ok.mod.kin J Z.at_ Z.fn (thn (own2_run (u := 0) Z hr hh (by omega) I (show RelV (.ref a) (.ref a) from rfl) rx sp) fun w s' hw => ?_)
  obtain ⟨v, H', I', rv, r, ev, q⟩ := hw
  subst ev
  cases (show w = Value.bool r from rv)
  exact wpAny_truthy_bool ⟨.bl r, H', I', rfl, q⟩
theorem op_notInC (Z : OwnM X hot C f "__contains__" 2 k fd ps g) (hr : Rm hot (k + 1) X.A) (hh : HotX hot X p) : OpR X (compareOp .NotIn) (rInC X C ps g p true) := by
  rintro pins s σ H x y v u Q I rx ry ⟨a, dx, fs, rfl, ha, sp⟩
  cases (show u = Value.ref a from ry)
  obtain ⟨mA, O, _⟩ := ins_get I.hok ha
  obtain ⟨od, J, _⟩ := O.look
  obtain ⟨m, hF⟩ := I.fr
  refine PySem.W.notIn_K hF I.ok.mod.kin J Z.at_ Z.fn (thn (own2_run (u := 0) Z hr hh (by omega) I (show RelV (.ref a) (.ref a) from rfl) rx sp) fun w s' hw => ?_)
  obtain ⟨v, H', I', rv, r, ev, q⟩ := hw
  subst ev
  cases (show w = Value.bool r from rv)
  exact wpAny_truthy_bool ⟨.bl (!r), H', I', rfl, q⟩
theorem de_inC (Z : OwnM X hot C f "__contains__" 2 k fd ps g) (hr : Rm hot (k + 1) X.A) (hh : HotX hot X p) (ha : DE X W a fa) (hb : DE X W b fb) (hm : behindInMarks .In b = false) : DE X W (.Compare a [.In] [b] pos) (fInC C (g p) false fa fb) :=
  PE.conseq (pe_cmpR (op_inC Z hr hh) ha hb hm) fun σ H Q h => inC_go Z.B.len.symm h
theorem de_notInC (Z : OwnM X hot C f "__contains__" 2 k fd ps g) (hr : Rm hot (k + 1) X.A) (hh : HotX hot X p) (ha : DE X W a fa) (hb : DE X W b fb) (hm : behindInMarks .NotIn b = false) : DE X W (.Compare a [.NotIn] [b] pos) (fInC C (g p) true fa fb) :=
  PE.conseq (pe_cmpR (op_notInC Z hr hh) ha hb hm) fun σ H Q h => inC_go Z.B.len.symm h
theorem dt_inC (Z : OwnM X hot C f "__contains__" 2 k fd ps g) (hr : Rm hot (k + 1) X.A) (hh : HotX hot X p) (ha : DE X W a fa) (hb : DE X W b fb) (hm : behindInMarks .In b = false) : DT X W (.Compare a [.In] [b] pos) (fTest (fInC C (g p) false fa fb)) :=
  PT.conseq (pt_cmpR (op_inC Z hr hh) ha hb hm) fun σ H Q h => inC_go Z.B.len.symm (test_E h)
theorem dt_notInC (Z : OwnM X hot C f "__contains__" 2 k fd ps g) (hr : Rm hot (k + 1) X.A) (hh : HotX hot X p) (ha : DE X W a fa) (hb : DE X W b fb) (hm : behindInMarks .NotIn b = false) : DT X W (.Compare a [.NotIn] [b] pos) (fTest (fInC C (g p) true fa fb)) :=
  PT.conseq (pt_cmpR (op_notInC Z hr hh) ha hb hm) fun σ H Q h => inC_go Z.B.len.symm (test_E h)
end
end DL
set_option maxRecDepth 100000
set_option maxHeartbeats 4000000
namespace DL
open PySem PySem.Spec PyProof.Rows L2 PySem.SeqAt
open AutoSeq1 (wpAny_loadPart')
open MeetsSeq MeetsSeq2 MeetsSeq3 SeqRoads2
section
variable {prog : Program} {w : World} {A : Around} {R : Result → Shared → Prop}
def InI (prog : Program) (w : World) (A : Around) (R : Result → Shared → Prop) (l : Addr) (T : String) (x : Value) (N : Nat) (I : Nat → Shared → Prop) : Prop :=
  ∀ i s, I i s → ∃ (items : Array Value) (n : Nat) (dd : Option Addr) (sl : Array (Option Value)), s.heap.get? l = some { cls := .type T, dict := dd, data := .seq items n, slots := sl } ∧ items.size = N ∧
    ∀ (h1 : i < items.size), wpAny (model prog w) A.in1 (eqBool items[i] x) (fun r s' => if r = true then R (.ok (.ret (.bool true))) s' else I (i + 1) s') (fun e s' => R (.error e) s') s
theorem contains_loopG (l : Addr) (x : Value) (N : Nat) (I : Nat → Shared → Prop) (hl : InI prog w A R l "list" x N I)
    (fin : ∀ s, I N s → R (.ok (.ret (.bool false))) s) (k : Nat) :
    ∀ i : Nat, N - i = k → i ≤ N → ∀ s, I i s →
      wpAny (model prog w) A.in1 (Builtin.«list.__contains__.loop» ⟨[.ref l, x, rawInt i], []⟩) (GQ.FinOf prog w A R) (fun e s' => R (.error e) s') s := by
  induction k with
  | zero =>
    intro i hk hi s h
    obtain ⟨items, n, dd, sl, hl1, hs1, _⟩ := hl _ _ h
    have hi' : i = N := by omega
    have hR : R (.ok (.ret (.bool false))) s := fin s (hi' ▸ h)
    obtain ⟨hp, g, d, tk, os⟩ := s
    wp_walk using wpAny_loadPart' hl1
    have hi1 : items[((i : Nat) : Int).toNat]? = none := by simp; omega
    rw [hi1]
    wp_walk
    exact hR
  | succ k ih =>
    intro i hk hi s h
    obtain ⟨items, n, dd, sl, hl1, hs1, turn⟩ := hl _ _ h
    have hlt : i < items.size := by omega
    have ht := turn hlt
    obtain ⟨hp, g, d, tk, os⟩ := s
    wp_walk using wpAny_loadPart' hl1
    have hi1 : items[((i : Nat) : Int).toNat]? = some items[i] := by simp [hlt]
    have hc : ((i : Int) + 1) = ((i + 1 : Nat) : Int) := by omega
    rw [hi1]
    refine wpAny_bind (wpAny_mono ht (fun r s2 h2 => ?_) fun _ _ x => x)
    cases r with
    | true =>
      rw [if_pos rfl] at h2
      obtain ⟨hp2, g2, d2, tk2, os2⟩ := s2
      wp_walk
      exact h2
    | false =>
      rw [if_neg Bool.false_ne_true] at h2
      have hrec := ih (i + 1) (by omega) (by omega) s2 h2
      obtain ⟨hp2, g2, d2, tk2, os2⟩ := s2
      wp_walk
      rw [hc]
      exact ⟨plainId_quiet plain_contains_loop _, codeAny_builtin entry_contains_loop (by
        rw [Around.under_plainId plain_contains_loop _]
        exact hrec)⟩
theorem list_containsG (l : Addr) (x : Value) (N : Nat) (I : Nat → Shared → Prop) (hl : InI prog w A R l "list" x N I) (fin : ∀ s, I N s → R (.ok (.ret (.bool false))) s) {s : Shared} (h : I 0 s) :
    wpAny (model prog w) A.in1 (Builtin.«list.__contains__» ⟨[.ref l, x], []⟩) (GQ.FinOf prog w A R) (fun e s' => R (.error e) s') s := by
  obtain ⟨items, n, dd, sl, hl1, hs1, _⟩ := hl _ _ h
  have hrec := contains_loopG (R := R) l x N I hl fin N 0 (by omega) (by omega) s h
  obtain ⟨hp, g, d, tk, os⟩ := s
  wp_walk using wpAny_loadPart' hl1
  exact ⟨plainId_quiet plain_contains_loop _, codeAny_builtin entry_contains_loop (by
    rw [Around.under_plainId plain_contains_loop _]
    exact hrec)⟩
end
end DL
set_option maxRecDepth 100000
set_option maxHeartbeats 4000000
namespace DL
open PySem PySem.Spec PyProof.Rows L2
section
variable {prog : Program} {w : World} {A : Around} {E : Value → Shared → Prop} {s : Shared}
theorem in_listG {l : Addr} {x : Value} {N : Nat} {I : Nat → Shared → Prop} {Q : Value → Shared → Prop} (hT : s.TypeIs (.ref l) "list")
    (hl : InI prog w A (wants (fun v s' => ∃ b, v = .bool b ∧ Q (.bool b) s') E) l "list" x N I) (fin : ∀ s, I N s → Q (.bool false) s) (h : I 0 s) : wpAny (model prog w) A (compareOp .In x (.ref l)) Q E s := by
  show wpAny _ A (do return .bool (← contains (.ref l) x)) Q E s
  refine wpAny_bind (wpAny_contains_slot hT F.slot_list_contains (wpAny_mono (GQ.call_here F.slot_list_contains hT F.entry_list_contains (F.args_list_contains_2 _ _) (list_containsG (R := wants (fun v s' => ∃ b, v = .bool b ∧ Q (.bool b) s') E) l x N I hl (fun s q => ⟨false, rfl, fin s q⟩) h)) (fun v s' hv => ?_) fun _ _ e => e))
  obtain ⟨b, rfl, hq⟩ := hv
  exact wpAny_truthy_bool (wpAny_pure hq)
end
def noneIn (C : Addr) (g : FG) : List D → Sls → Ot Itm
  | [], st => .ok (.d (.bl false)) st
  | .non :: _, st => .ok (.d (.bl true)) st
  | .ins C' fs ds :: r, st => if C' = C then (match noExc (callG g [.d (.ins C' fs ds), .d .non] st) with
    | .ok (.d (.bl true)) s1 => .ok (.d (.bl true)) s1
    | .ok (.d (.bl false)) s1 => noneIn C g r s1
    | _ => .bad) else .bad
  | _ :: _, _ => .bad
def fNoneIn (C : Addr) (g : FG) (fb : FE) : FE := fun st => (fb st).bind fun ib s1 => match view s1 ib with
  | some (.lst ds) => noneIn C g ds s1
  | _ => .bad
theorem callG_same {g : FG} {x y : D} {st s1 : Sls} {it : Itm} (h : callG g [.d x, .d y] st = .ok it s1) : s1 = st := by
  have e : ∀ as' : Sls, putBk [.d x, .d y] as' st = st := fun as' => by
    rcases as' with _ | ⟨a, _ | ⟨b, _ | c⟩⟩ <;> rfl
  have h : (match g [.d x, .d y] with
    | .ok it as' => (match resIt [.d x, .d y] as' it with
      | some r => Ot.ok r (putBk [.d x, .d y] as' st)
      | none => .bad)
    | .exc e as' => .exc e (putBk [.d x, .d y] as' st)
    | .bad => .bad) = .ok it s1 := h
  cases q : g [.d x, .d y] with
  | ok it2 as' =>
    rw [q] at h
    have h : (match resIt [.d x, .d y] as' it2 with
      | some r => Ot.ok r (putBk [.d x, .d y] as' st)
      | none => .bad) = .ok it s1 := h
    cases q2 : resIt [.d x, .d y] as' it2 with
    | none => rw [q2] at h; cases h
    | some r =>
      rw [q2] at h
      have h : Ot.ok r (putBk [.d x, .d y] as' st) = .ok it s1 := h
      rw [e] at h
      cases h
      rfl
  | exc e as' => rw [q] at h; cases h
  | bad => rw [q] at h; cases h
section
variable {X : Cx} {W : WX} {hot : Bool} {p : Pn} {C f : Addr} {oth : List Addr} {k : Nat} {fd : FuncData} {ps : List Str} {g : Pn → FG} {pins : List (Addr × Obj)} {σ : L2.St} {H : Hp} {s : Shared} {b : Expr} {fb : FE} {pos np : Pos}
theorem eqNone_run {a dx : Addr} {fs : List (Str × V)} {Qb : Bool → Hp → Prop} (Z : EqC X hot C f oth k fd ps g) (hr : Rm hot (k + 1) X.A) (hh : HotX hot X p) (I : Inv X pins σ H s) (ha : H a = some (.ins C dx fs))
    (sp : spG X.K ps.length g p [.ref a, .non] H (fun v H' => ∃ r, v = .bl r ∧ Qb r H') (fun _ _ _ => False)) : wpAny (model X.prog X.w) X.A.in1 (eqBool (.ref a) .none) (fun r s' => ∃ H', Inv X pins σ H' s' ∧ Qb r H') X.xe s := by
  unfold eqBool
  refine wpAny_holding ?_
  refine wpAny_ite_split (fun hab => absurd (eq_of_beq hab) (by intro z; cases z)) (fun _ => ?_)
  obtain ⟨mA, O, _⟩ := ins_get I.hok ha
  obtain ⟨od, J, _⟩ := O.look
  obtain ⟨m, hF⟩ := I.fr
  have ty : TyX X.K H .non (.type "NoneType") := tyX_of (F := H) (d := .non) (Same.refl H) (.inl rfl) rfl (fun C hC => by cases hC)
  refine wpAny_bind (wpAny_mono (PySem.W.cmp_K (op := .Eq) (tb := .type "NoneType") (A := X.A.in1) (by have := hr.un; show X.A.units + 1 < _; omega) hF I.ok.mod.kin J (own_looks I (show RelV .non .none from rfl) ty) (Z.nf _ (by decide)) Z.eq Z.fn
    (cmpBack (own_run (u := 1) Z hr hh (by omega) I (show RelV (.ref a) (.ref a) from rfl) (show RelV .non .none from rfl) sp))) (fun v s' hv => ?_) fun _ _ x => x)
  obtain ⟨v', H', I', rv, r, ev, q⟩ := hv
  subst ev
  cases (show v = Value.bool r from rv)
  exact wpAny_truthy_bool ⟨H', I', q⟩
def rNoneInO (X : Cx) (W : WX) (C : Addr) (g : FG) : R2 := fun x y H Q => x = .non ∧ ∃ (σ : L2.St) (F0 H0 F : Hp) (st0 st : Sls) (ib : Itm) (ds : List D), Stp X.K σ F0 H0 st0 σ F H st ∧ RI X.K H0 F H σ st y ib ∧ view st ib = some (.lst ds) ∧
  Go X.K W σ F0 H0 st0 (noneIn C g ds st) (fun it F' H' st' => ∀ v, RI X.K H0 F' H' σ st' v it → Q v H')
theorem op_noneInO (Z : EqC X hot C f oth k fd ps g) (hr : Rm hot (k + 1) X.A) (hh : HotX hot X p) : OpR X (compareOp .In) (rNoneInO X W C (g p)) := by
  rintro pins s σ H x y v u Q I rx ry ⟨rfl, σ', F0, H0, F, st0, st, ib, ds, p1, ri, ev, go⟩
  cases (show v = Value.none from rx)
  obtain ⟨l, xs, rfl, hl, rds⟩ := rw_lst p1.rel.sub (view_ok p1.rel ri ev)
  cases (show u = Value.ref l from ry)
  obtain ⟨its, rv, pl, hz⟩ := I.list (SqL.of hl)
  have hlen : ps.length = 2 := Z.B.len.symm
  refine in_listG (N := ds.length) (I := fun i s' => ∃ F' H', Inv X pins σ H' s' ∧ Stp X.K σ' F0 H0 st0 σ' F' H' st ∧ RI X.K H0 F' H' σ' st (.ref l) ib ∧ Go X.K W σ' F0 H0 st0 (noneIn C (g p) (ds.drop i) st) (fun it F' H' st' => ∀ v, RI X.K H0 F' H' σ' st' v it → Q v H')) pl.isList.typeIs ?_ ?_ ⟨F, H, I, p1, ri, go⟩
  · rintro i s' ⟨F', H', I', s1, ri', go'⟩
    obtain ⟨l', xs', e, hl', rds'⟩ := rw_lst s1.rel.sub (view_ok s1.rel ri' ev)
    cases e
    obtain ⟨its', rv', pl', hz'⟩ := I'.list (SqL.of hl')
    obtain ⟨⟨cls, dd, data, sl⟩, ho, hc, n, hd⟩ := pl'.isList
    simp only at hc hd
    subst hc hd
    have hsz : its'.toArray.size = ds.length := by
      have := rv'.length
      have := rds'.length
      simp
      omega
    refine ⟨its'.toArray, n, dd, sl, ho, hsz, fun h1 => ?_⟩
    have hi : i < ds.length := by omega
    have hu : its'[i]? = some its'.toArray[i] := by simp
    have hd' : ds[i]? = some ds[i] := List.getElem?_eq_getElem hi
    have edr : ds.drop i = ds[i] :: ds.drop (i + 1) := List.drop_eq_getElem_cons hi
    obtain ⟨w, hw, rdw⟩ := rds'.get hd'
    obtain ⟨u', hu', ru⟩ := rv'.get hw
    rw [hu] at hu'
    cases hu'
    rw [edr] at go'
    generalize its'.toArray[i] = ui at ru
    cases hdi : ds[i] with
    | non =>
      rw [hdi] at go' rdw
      cases (show w = V.non from rdw)
      cases (show ui = Value.none from ru)
      refine SeqAt.EqAt.same _ X.prog X.w _ _ ?_
      rw [if_pos rfl]
      exact ⟨true, rfl, .bl true, H', I', rfl, go' F' H' s1 _ rfl⟩
    | ins C' fs dd' =>
      rw [hdi] at go' rdw
      have go' : Go X.K W σ' F0 H0 st0 (if C' = C then (match noExc (callG (g p) [.d (.ins C' fs dd'), .d .non] st) with
        | .ok (.d (.bl true)) s1 => .ok (.d (.bl true)) s1
        | .ok (.d (.bl false)) s1 => noneIn C (g p) (ds.drop (i + 1)) s1
        | _ => .bad) else .bad) (fun it F' H' st' => ∀ v, RI X.K H0 F' H' σ' st' v it → Q v H') := go'
      by_cases hC : C' = C
      · rw [if_pos hC] at go'
        subst hC
        obtain ⟨a, dx, fx, e1, h1', n1, r1'⟩ := rdw
        subst e1
        cases (show ui = Value.ref a from ru)
        have hH' : H' a = some (.ins C' dx fx) := s1.rel.sub _ _ h1'
        refine wpAny_mono (eqNone_run (Qb := fun r H'' => if r = true then Q (.bl true) H'' else ∃ F'', Stp X.K σ' F0 H0 st0 σ' F'' H'' st ∧ RI X.K H0 F'' H'' σ' st (.ref l) ib ∧ Go X.K W σ' F0 H0 st0 (noneIn C' (g p) (ds.drop (i + 1)) st) (fun it F' H' st' => ∀ v, RI X.K H0 F' H' σ' st' v it → Q v H')) Z hr hh I' hH' ⟨hlen.symm, ?_⟩) (fun r s2 h2 => ?_) fun _ _ z => z
        · have rix : RIx X.K H' F' H' σ' st [V.ref a, V.non] [.d (.ins C' fs dd'), .d .non] := RIs.ix (show RIs X.K H' F' H' σ' st [V.ref a, V.non] [.d (.ins C' fs dd'), .d .non] from
            ⟨⟨a, dx, fx, rfl, h1', n1, r1'⟩, (fun m hm => by cases hm), rfl, (fun m hm => by cases hm), trivial⟩)
          refine call_go (W := noW) (Q := fun v H'' => ∃ r, v = .bl r ∧ _) (Stp.refl s1.rel) rix ?_
          cases q : callG (g p) [.d (.ins C' fs dd'), .d .non] st with
          | ok it s2 =>
            have es := callG_same q
            subst es
            rw [q] at go'
            cases it with
            | d x =>
              cases x with
              | bl r =>
                intro F'' H'' s'' v rv''
                cases (show v = V.bl r from rv'')
                refine ⟨r, rfl, ?_⟩
                cases r with
                | true =>
                  rw [if_pos rfl]
                  exact go' F'' H'' (s1.trans s'') _ rfl
                | false =>
                  rw [if_neg Bool.false_ne_true]
                  exact ⟨F'', s1.trans s'', ri'.step s'', go'⟩
              | _ => exact go'.elim
            | own m => exact go'.elim
            | ref j => exact go'.elim
          | exc e s2 => rw [q] at go'; exact go'.elim
          | bad => rw [q] at go'; exact go'.elim
        · obtain ⟨H'', I'', q⟩ := h2
          cases r with
          | true =>
            rw [if_pos rfl] at q ⊢
            exact ⟨true, rfl, .bl true, H'', I'', rfl, q⟩
          | false =>
            rw [if_neg Bool.false_ne_true] at q ⊢
            obtain ⟨F'', s'', r'', g''⟩ := q
            exact ⟨F'', H'', I'', s'', r'', g''⟩
      · rw [if_neg hC] at go'
        exact go'.elim
    | _ => rw [hdi] at go'; exact go'.elim
  · rintro s' ⟨F', H', I', s1, ri', go'⟩
    rw [List.drop_length] at go'
    exact ⟨.bl false, H', I', rfl, go' F' H' s1 _ rfl⟩
theorem de_noneIn {j : Nat} {cp : Pos} (Z : EqC X hot C f oth k fd ps g) (hr : Rm hot (k + 1) X.A) (hh : HotX hot X p) (hb : DE X W b fb) (hm : behindInMarks .In b = false) : DE X W (.Compare (.Constant .none j cp) [.In] [b] pos) (fNoneIn C (g p) fb) :=
  PE.conseq (pe_cmpR (op_noneInO (W := W) Z hr hh) (de_non (W := W) (j := j) (pos := cp)) hb hm) fun σ H Q h => by
    obtain ⟨F, st, R, g0⟩ := h
    refine ⟨F, st, R, fun F1 H1 p0 v0 r0 => ?_⟩
    cases (show v0 = V.non from r0)
    refine ⟨F1, st, p0.rel, ((Go.bind g0).shift p0 fun ib F2 H2 s2 p2 p02 g2 => g2).imp fun ib F2 H2 s2 p2 g2 v2 r2 => ?_⟩
    split at g2
    · rename_i ds e
      exact ⟨rfl, σ, F, H, F2, st, s2, ib, ds, p0.trans p2, r2.back p0.there, e, g2⟩
    · exact g2.elim
end
end DL
set_option maxRecDepth 100000
set_option maxHeartbeats 4000000
namespace DL
open PySem PySem.Spec PyProof.Rows L2
theorem kit_ne {K : PySem.W.Frag} {u : Value} {ts : List String} {A B : Addr} {r : List (Addr × Bool)} (h : kitBK K u ts ((A, true) :: (B, false) :: r) = true) : B ≠ A := fun e => by
  subst e
  have h2 := (He.ba h).2
  have h3 := List.all_eq_true.mp h2
  have a := of_decide_eq_true (He.ba (h3 (B, true) List.mem_cons_self)).1
  have b := of_decide_eq_true (He.ba (h3 (B, false) (List.mem_cons_of_mem _ List.mem_cons_self))).1
  rw [a] at b
  cases b
theorem unit1 {u : Nat} (h : u + 64 < cLine) : u + 1 < cLine := by omega
section
variable {X : Cx} {W : WX} {hot : Bool} {p : Pn} {C f : Addr} {oth : List Addr} {k : Nat} {fd : FuncData} {ps : List Str} {g : Pn → FG} {fb : FE} {b : Expr} {pos : Pos}
theorem dt_noneIn {j : Nat} {cp : Pos} (Z : EqC X hot C f oth k fd ps g) (hr : Rm hot (k + 1) X.A) (hh : HotX hot X p) (hb : DE X W b fb) (hm : behindInMarks .In b = false) : DT X W (.Compare (.Constant .none j cp) [.In] [b] pos) (fTest (fNoneIn C (g p) fb)) :=
  PT.conseq (pt_cmpR (op_noneInO (W := W) Z hr hh) (de_non (W := W) (j := j) (pos := cp)) hb hm) fun σ H Q h => by
    obtain ⟨F, st, R, g0⟩ := test_E h
    refine ⟨F, st, R, fun F1 H1 p0 v0 r0 => ?_⟩
    cases (show v0 = V.non from r0)
    refine ⟨F1, st, p0.rel, ((Go.bind g0).shift p0 fun ib F2 H2 s2 p2 p02 g2 => g2).imp fun ib F2 H2 s2 p2 g2 v2 r2 => ?_⟩
    split at g2
    · rename_i ds e
      exact ⟨rfl, σ, F, H, F2, st, s2, ib, ds, p0.trans p2, r2.back p0.there, e, g2⟩
    · exact g2.elim
end
end DL
set_option maxRecDepth 100000
set_option maxHeartbeats 4000000
namespace DL
open PySem PySem.Spec PyProof.Rows L2
def leP (p q : Str × Str) : Bool := if p.1 = q.1 then leS p.2 q.2 else leS p.1 q.1
theorem leP_trans (a b c : Str × Str) (h : leP a b = true) (g : leP b c = true) : leP a c = true := by
  unfold leP at *
  by_cases h1 : a.1 = b.1
  · rw [if_pos h1] at h
    by_cases h2 : b.1 = c.1
    · rw [if_pos h2] at g
      rw [if_pos (h1.trans h2)]
      exact leS_trans _ _ _ h g
    · rw [if_neg h2] at g
      rw [if_neg (by rw [h1]; exact h2), h1]
      exact g
  · rw [if_neg h1] at h
    by_cases h2 : b.1 = c.1
    · rw [if_neg (by rw [← h2]; exact h1), ← h2]
      exact h
    · rw [if_neg h2] at g
      by_cases h3 : a.1 = c.1
      · rw [h3] at h
        exact absurd (leS_anti _ _ h g) (fun z => h2 z.symm)
      · rw [if_neg h3]
        exact leS_trans _ _ _ h g
theorem leP_total (a b : Str × Str) : leP a b = true ∨ leP b a = true := by
  unfold leP
  by_cases h : a.1 = b.1
  · rw [if_pos h, if_pos h.symm]
    exact leS_total _ _
  · rw [if_neg h, if_neg (fun z => h z.symm)]
    exact leS_total _ _
theorem leP_anti (a b : Str × Str) (h : leP a b = true) (g : leP b a = true) : a = b := by
  unfold leP at *
  obtain ⟨a1, a2⟩ := a
  obtain ⟨b1, b2⟩ := b
  dsimp only at *
  by_cases e : a1 = b1
  · rw [if_pos e] at h
    rw [if_pos e.symm] at g
    rw [e, leS_anti _ _ h g]
  · rw [if_neg e] at h
    rw [if_neg (fun z => e z.symm)] at g
    exact absurd (leS_anti _ _ h g) e
def sortP (L : List (Str × Str)) : List (Str × Str) := srt leP L
theorem sortP_uniq {xs ys : List (Str × Str)} (p : ys.Perm xs) (h : ys.Pairwise fun a b => leP a b = true) : ys = sortP xs :=
  srt_uniq leP_trans leP_total (fun a _ b _ => leP_anti a b) p h
def prD (p : Str × Str) : D := .tup [.str p.1, .str p.2]
def pr? : D → Option (Str × Str)
  | .tup [.str a, .str b] => some (a, b)
  | _ => none
def prs? : List D → Option (List (Str × Str))
  | [] => some []
  | d :: ds => con2 (pr? d) (prs? ds)
theorem pr_eq {d : D} {p : Str × Str} (h : pr? d = some p) : d = prD p := by
  unfold pr? at h
  split at h
  · cases h
    rfl
  · cases h
theorem prs_eq : ∀ {ds : List D} {L : List (Str × Str)}, prs? ds = some L → ds = L.map prD
  | [], L, h => by cases h; rfl
  | d :: ds, L, h => by
    obtain ⟨y, ys, e1, e2, e3⟩ := con2_some (show con2 (pr? d) (prs? ds) = some L from h)
    subst e3
    rw [pr_eq e1, prs_eq e2]
    rfl
theorem prs_map : ∀ {L : List (Str × Str)}, prs? (L.map prD) = some L
  | [] => rfl
  | p :: L => by
    show con2 (some p) (prs? (L.map prD)) = _
    rw [prs_map]
    rfl
def gSortedP : D → Rs
  | .lst ds => match prs? ds with
    | some L => if L.length ≤ 1000 then .new (.lst ((sortP L).map prD)) else .bad
    | none => .bad
  | _ => .bad
theorem gSortedP_of {L : List (Str × Str)} (h : L.length ≤ 1000) : gSortedP (.lst (L.map prD)) = .new (.lst ((sortP L).map prD)) := by
  show (match prs? (L.map prD) with
    | some L => if L.length ≤ 1000 then Rs.new (.lst ((sortP L).map prD)) else .bad
    | none => .bad) = _
  rw [prs_map]
  exact if_pos h
def encP (p : Str × Str) : PyData := .tuple [.str p.1, .str p.2]
theorem str_eqv {x y : Str} : PyData.eqv (.str x) (.str y) = (x == y) := by simp [PyData.eqv]
theorem le_encP : W.dataLe false encP = leP := by
  funext p q
  show (!W.dataLt (.tuple [.str q.1, .str q.2]) (.tuple [.str p.1, .str p.2])) = _
  rw [W.dataLt_pair (by simp [W.alike]) (by simp [W.alike]), W.dataLt_str, W.dataLt_str, str_eqv, str_eqv]
  unfold leP leS
  by_cases h : p.1 = q.1
  · rw [if_pos h, h]
    by_cases h2 : p.2 = q.2
    · rw [h2]
      simp
    · have h3 : (q.2 == p.2) = false := beq_eq_false_iff_ne.mpr fun z => h2 z.symm
      simp [h3]
  · have h3 : (q.1 == p.1) = false := beq_eq_false_iff_ne.mpr fun z => h z.symm
    rw [if_neg h]
    simp [h3]
theorem merge_encP {L : List (Str × Str)} : L.mergeSort (W.dataLe false encP) = sortP L := by
  rw [le_encP]
  exact sortP_uniq (List.mergeSort_perm _ _) (List.pairwise_mergeSort leP_trans (fun a b => by
    rcases leP_total a b with h | h <;> simp [h]) L)
def rSortP (K : PySem.W.Frag) : List V → Hp → VK → Prop := fun vs H Q => ∃ (F : Hp) (a : Addr) (xs : List V) (L : List (Str × Str)), vs = [.ref a] ∧ SqL K H a xs ∧ Same F H ∧ RDs K F xs (L.map prD) ∧ L.length ≤ 1000 ∧
  ∀ (ys : List V) (p : Addr), RDs K F ys ((sortP L).map prD) → H p = none → Q (.ref p) (upd H p (.lst ys))
theorem each_pr {X : Cx} {pins : List (Addr × Obj)} {σ : L2.St} {F H : Hp} {s : Shared} (I : Inv X pins σ H s) (sm : Same F H) : ∀ {us : List Value} {xs : List V} {L : List (Str × Str)}, Vals xs us → RDs X.K F xs (L.map prD) →
    W.EachIs (fun u p => (∃ v, RelV v u ∧ RD X.K F v (prD p)) ∧ ∃ as, Reads s.heap u (encP p) as) us L
  | [], [], [], _, _ => .nil
  | [], [], _ :: _, _, r => r.elim
  | [], _ :: _, _, v, _ => nomatch v
  | _ :: _, [], _, v, _ => nomatch v
  | u :: us, x :: xs, [], _, r => r.elim
  | u :: us, x :: xs, p :: L, v, r => by
    cases v with
    | cons h1 h2 => exact .cons ⟨⟨x, h1, r.1⟩, reads_of I sm _ _ _ _ r.1 (show pyD (prD p) = some (encP p) by simp [prD, encP, pyD, pyDs, con2]) h1⟩ (each_pr I sm h2 r.2)
theorem each_back {K : PySem.W.Frag} {F : Hp} : ∀ {us : List Value} {L : List (Str × Str)}, W.EachIs (fun u p => ∃ v, RelV v u ∧ RD K F v (prD p)) us L → ∃ xs, Vals xs us ∧ RDs K F xs (L.map prD)
  | _, _, .nil => ⟨[], .nil, trivial⟩
  | _, _, .cons ⟨v, h1, h2⟩ t => by
    obtain ⟨xs, a, b⟩ := each_back t
    exact ⟨v :: xs, .cons h1 a, h2, b⟩
theorem cr_sortP {X : Cx} (hu : X.A.units + 64 < cLine) : CallR X (.builtin "sorted") (rSortP X.K) := by
  intro pins s σ H vs us Q I r h
  obtain ⟨F, a, xs, L, rfl, hs, sm, rd, hL, q⟩ := h
  obtain ⟨its, rv, hl, hz⟩ := I.list hs
  rw [Vals.ref1 r]
  have e := each_pr I sm rv rd
  refine W.sorted_data (R := fun u p => ∃ v, RelV v u ∧ RD X.K F v (prD p)) (enc := encP) hl.isList (e.mono fun _ _ z => z.1) (e.mono fun _ _ z => z.2) (W.AllAlike.of fun _ _ => by simp [W.alike, W.alikeAll, encP]) (W.Sortable.tuples fun _ => ⟨_, _, rfl⟩) (by rw [sizeLine_eq]; omega) (fun b _ => ?_) fun out ho eo => ?_
  · have hd : (encP b).depth = 1 := by simp [encP, PyData.depth, PyData.depthAll]
    omega
  · rw [merge_encP] at eo
    obtain ⟨ys, r1, r2⟩ := each_back eo
    obtain ⟨ep, he'⟩ := PyProof.Rows.sortedAll_at s.heap its out.toArray
    have hy : ys.length ≤ sizeLine := by
      rw [r1.length, ho, sizeLine_eq]
      omega
    exact ⟨.ref _, upd H (s.heap.objs.size + 1) (.lst ys), I.laid (t' := s.toks) (fun _ _ => PyProof.Rows.sortedAll_old) (Nat.le_succ _) ⟨hy, out, ep, r1, by simpa using he'⟩, rfl, q ys _ r2 (I.hok.fresh (Nat.le_succ _))⟩
theorem cs_sortedP {X : Cx} (hu : X.A.units + 64 < cLine) : CallS X (.builtin "sorted") (g1 gSortedP) := by
  refine CallS.one (r := rSortP X.K) (cr_sortP hu) g1_bad fun F H v d Q s rv q => ?_
  cases d with
  | lst ds =>
    replace q : ResOk X.K F H (match prs? ds with
      | some L => if L.length ≤ 1000 then .new (.lst ((sortP L).map prD)) else .bad
      | none => .bad) Q := q
    obtain ⟨a, xs, e, h, r⟩ := rw_lst s rv
    subst e
    split at q
    · rename_i L e1
      split at q
      · rename_i hl
        have ed := prs_eq e1
        subst ed
        exact ⟨F, a, xs, L, rfl, SqL.of h, s, r, hl, fun ys p r2 hp => q p _ hp (fun a ha => upd_ne ha) ⟨_, upd_same, r2⟩⟩
      · exact q.elim
    · exact q.elim
  | _ => exact q.elim
end DL
set_option maxRecDepth 100000
set_option maxHeartbeats 4000000
namespace DL
open PySem PySem.Spec PyProof.Rows L2
structure ExK (K : PySem.W.Frag) (C fI : Addr) (f : Str) : Prop where
  oex : OexC K C
  no : PySem.W.findIn K (.ref C) f = some none
  ini : PySem.W.findIn K (.ref C) "__init__" = some (some (.ref fI))
  ty : PySem.W.typeIn K (.ref fI) = some (.type "function")
def spX (K : PySem.W.Frag) (C : Addr) (f : Str) : SpM := fun _ vs H Q _ => ∃ a y, vs = [.ref a, y] ∧ H a = some (exo a C none) ∧ ∀ dx, H dx = none → dx ≠ a → Q .non (upd (upd H dx (exd dx [(f, y)])) a (exo a C (some dx)))
theorem FnM.ex {P : Program} {w : World} {K : PySem.W.Frag} {mg : Str → Option Value} {base : Heap} {qual : Str} {scope : Scope} {fI C : Addr} {x sf gv f : Str} {params : Arguments} {fd : FuncData} {k : Nat} {p1 p2 p3 pos : Pos}
    (F : FunD K x qual params [.Assign [.Attribute (.Name sf p1) f p2] (.Name gv p3) pos] scope [] [] fI fd) (S : FnScope [sf, gv] [sf, gv] scope) (E0 : ExK K C fI f)
    (hs : ∀ env : Env, swapsWith (.Name gv p3) (some (.Attribute (.Name sf p1) f p2)) pos.line env = pure false := by intro env; rfl)
    (hv0 : ∀ X : Cx, X.N = [sf, gv] → X.env.scope = scope → PE X (.Name sf p1) (tVar 0)) (hv1 : ∀ X : Cx, X.N = [sf, gv] → X.env.scope = scope → PE X (.Name gv p3) (tVar 1)) :
    FnM false P w K mg base (k + 1) fI fd [sf, gv] (spX K C f) := by
  refine FnM.of F S (fun p vs H Q E h => by obtain ⟨a, y, e, _⟩ := h; rw [e]; rfl) fun cdv A outer s H vs Q E p hr hot1 h => ?_
  obtain ⟨a, y, rfl, ha, q⟩ := h
  refine ⟨_, pss_one (ps_ost (hv0 _ rfl rfl) (hv1 _ rfl rfl) (hs _)), ?_⟩
  refine ⟨y, rfl, .ref a, rfl, a, C, rfl, E0.oex, E0.no, .inl ⟨ha, fun dx h1 h2 => ?_⟩⟩
  exact q dx h1 h2

theorem xd_eq {H : Hp} {a d C : Addr} {f : Str} {y : V} (ha : H a = none) (hd : H d = none) (ne : d ≠ a) :
    upd (del (upd (upd (upd H a (exo a C none)) d (exd d [(f, y)])) a (exo a C (some d))) a) d (.xd [(f, y)]) = upd H d (.xd [(f, y)]) := by
  funext b
  by_cases e1 : b = d
  · subst e1
    rw [upd_same, upd_same]
  · rw [upd_ne e1, upd_ne e1]
    by_cases e2 : b = a
    · subst e2
      rw [del_same, ha]
    · rw [del_ne e2, upd_ne e2, upd_ne e1, upd_ne e2]
def oneQ (f : Str) (C : Addr) (Q : XK) : List V → Hp → Prop
  | [y], H1 => ∀ d, H1 d = none → Q (.ref C) (some d) (upd H1 d (.xd [(f, y)]))
  | _, _ => False
theorem oneQ_ok {f : Str} {C : Addr} {Q : XK} {vs : List V} {H1 : Hp} (h : oneQ f C Q vs H1) : ∃ y, vs = [y] ∧ ∀ d, H1 d = none → Q (.ref C) (some d) (upd H1 d (.xd [(f, y)])) := by
  match vs, h with
  | [y], h => exact ⟨y, rfl, h⟩
theorem pmk_ex {X : Cx} {x sf gv f : Str} {C fI : Addr} {k : Nat} {fd : FuncData} {e : Expr} {te : TE} {p pos : Pos} (E0 : ExK X.K C fI f) (F1 : FnM false X.prog X.w X.K X.mg X.base k fI fd [sf, gv] (spX X.K C f)) (hr : Rm false (k + 1) X.A)
    (hb : Binds X.K fd [sf, gv] []) (hg : Gl X x) (hm : X.mg x = some (.ref C)) (he : PE X e te)
    (hdb : (x == ("__debug__" : Str)) = false := by decide) (hst : starEach [e] X.env = (false, eval e X.env) :: starEach [] X.env := by rfl) (hpl : (backTo pos (starEach [] X.env)).any (·.1) = false := by rfl) :
    L2N.PMk X (.Call (.Name x p) [e] [] pos) (fun σ H Q => te σ H fun y H1 => ∀ d, H1 d = none → Q (.ref C) (some d) (upd H1 d (.xd [(f, y)]))) := by
  intro pins s σ H Q I h
  obtain ⟨nm, q, N, bs, bm, sn, sub, ab, col, dd, k0, k1, k2, k3, k5, hC, hbm⟩ := E0.oex.cls
  have ha := pa_cons he pa_nil hst
  refine wpAny_Call_Name_kw (ld_glob I hg hm ?_ hdb)
  refine PySem.W.callWith_K (h₀ := X.base) I.ok.mod.kin E0.oex.kC (thn (ha.run pos pins s σ H (oneQ f C Q) I h) fun us s1 ⟨vs, H1, I1, r1, q1⟩ => ⟨I1.kIn, ?_⟩) hst hpl
  obtain ⟨y, rfl, q1⟩ := oneQ_ok q1
  show wpAny _ _ (call (.ref C) us) _ _ _
  obtain ⟨hp, g, dr, tk, os⟩ := s1
  have hsz : hp.objs.size ≤ hp.objs.size + 1 := Nat.le_succ _
  have hn : H1 (hp.objs.size + 1) = none := I1.hok.fresh hsz
  have kk : ∀ b o, hp.get? b = some o → ((hp.push (PySem.W.kdv_tup us)).push (PySem.HandSPX.excO C hp.objs.size)).get? b = some o := fun b o e => Heap.get?_push_of_some _ (Heap.get?_push_of_some _ e)
  have hget : ((hp.push (PySem.W.kdv_tup us)).push (PySem.HandSPX.excO C hp.objs.size)).get? (hp.objs.size + 1) = some (PySem.HandSPX.excO C hp.objs.size) := by heap_get
  have I2 : Inv X pins σ (upd H1 (hp.objs.size + 1) (exo (hp.objs.size + 1) C none)) ⟨(hp.push (PySem.W.kdv_tup us)).push (PySem.HandSPX.excO C hp.objs.size), g, dr, tk, os⟩ :=
    I1.laid (t' := tk) (a := hp.objs.size + 1) (o := exo (hp.objs.size + 1) C none) (h' := (hp.push (PySem.W.kdv_tup us)).push (PySem.HandSPX.excO C hp.objs.size)) kk hsz (exo_ok hget)
  have r2 : Vals [V.ref (hp.objs.size + 1), y] (Value.ref (hp.objs.size + 1) :: us) := .cons rfl r1
  have lu : us.length = 1 := by have := r1.length; simpa using this.symm
  have hus : us.length ≤ sizeLine := by rw [lu, sizeLine_eq]; omega
  have b2 := hb _ (Value.ref (hp.objs.size + 1) :: us) I2.kIn (by simp [lu])
  rw [List.append_nil] at b2
  refine wpAny_call (PySem.HandSPX.call_own F.excBase_ValueError (fun Y => PySem.HandSPX.refsVE_contains Y bm hbm) (I1.kIn _ _ hC) (PySem.W.looks_findIn I1.kIn E0.ini) (fun self => PySem.W.bind_fn I1.kIn self E0.ty) hus
    (codeAny_mono (F1.run _ X.stack _ _ ⟨Value.ref (hp.objs.size + 1) :: us, []⟩ (Value.ref (hp.objs.size + 1) :: us) _ (fun v H2 => v = .non ∧ ∃ d, H1 d = none ∧ d ≠ hp.objs.size + 1 ∧ H2 = upd (upd (upd H1 (hp.objs.size + 1) (exo (hp.objs.size + 1) C none)) d (exd d [(f, y)])) (hp.objs.size + 1) (exo (hp.objs.size + 1) C (some d))) (fun _ _ _ => False) (0, { cls := .none, data := .plain }) (hr.making C us []) (fun z => nomatch z) (I2.env0.make C us []) b2 r2
      ⟨_, _, rfl, upd_same, fun dx h1 h2 => ⟨rfl, dx, by rw [upd_ne h2] at h1; exact h1, h2, rfl⟩⟩) fun r s' hq' => ?_))
  cases r with
  | error er =>
    obtain ⟨_, _, _, _, _, _, _, _, _, _, _, _, _, _, _, _, w⟩ := L2N.XE.of_call (W := fun _ _ _ _ => False) I2 (fun _ _ _ z => z) hq'
    exact w.elim
  | ok fl =>
    cases fl with
    | ret u =>
      obtain ⟨v, H2, os2, bare2, un2, hok2, rv, ev, d, hd1, hd2, eH⟩ := hq'
      subst ev
      subst eH
      obtain ⟨h2, g2, d2, t2, os'⟩ := s'
      obtain ⟨t0, G, J, kG, ge, hoe, na⟩ := mk_end0 (d2 := d2) (t2 := t2) I1 hsz kk un2 hok2 os2 bare2 upd_same (by rw [upd_ne hd2, upd_same]) hd1
      rw [xd_eq hn hd1 hd2] at J na
      exact ⟨rv, ⟨hp.objs.size + 1, _, _, ⟨G, g2, d2, t2, os'⟩, _, .ref C, some d, rfl, J, kG, ge, hoe, ⟨rfl, rfl, fun vs hv => by cases hv; rfl⟩, rfl, rfl, na, rfl, bare2, raises_own E0.oex.exC E0.oex.tyC, q1 d hd1⟩⟩
    | next => exact False.elim hq'
    | brk => exact False.elim hq'
    | cont => exact False.elim hq'
end DL
set_option maxRecDepth 100000
set_option maxHeartbeats 4000000
namespace DL
open PySem PySem.Spec PyProof.Rows L2
def fRaise (C : Addr) (f : Str) (fe : FE) : FS := fun st => (fe st).bindS fun it s1 => match frz it s1 with
  | some (x, s2) => .exc ⟨.ref C, [f], [x]⟩ s2
  | none => .bad
theorem ds_raise {X : Cx} {W : WX} {x sf gv f : Str} {C fI : Addr} {k : Nat} {fd : FuncData} {e : Expr} {fe : FE} {p pos pos2 : Pos} (hc : X.calm = true) (tk : L2N.Takes X W) (E0 : ExK X.K C fI f) (F1 : FnM false X.prog X.w X.K X.mg X.base k fI fd [sf, gv] (spX X.K C f)) (hr : Rm false (k + 1) X.A)
    (hb : Binds X.K fd [sf, gv] []) (hg : Gl X x) (hm : X.mg x = some (.ref C)) (he : DE X W e fe)
    (hdb : (x == ("__debug__" : Str)) = false := by decide) (hst : starEach [e] X.env = (false, eval e X.env) :: starEach [] X.env := by rfl) (hpl : (backTo pos (starEach [] X.env)).any (·.1) = false := by rfl) :
    DS X W (.Raise (some (.Call (.Name x p) [e] [] pos)) none pos2) [] (fRaise C f fe) :=
  PS.conseq (L2N.ps_raise hc tk (pmk_ex E0 F1 hr hb hg hm he hdb hst hpl)) fun E σ H q => by
  obtain ⟨F, st, R, g⟩ := q
  refine ⟨F, st, R, (GoS.ofBind g).imp fun it F1 H1 s1 p1 g1 v r d hd => ?_⟩
  split at g1
  · rename_i y s2 e2
    obtain ⟨F2, st2, rd, sm, _, _⟩ := frz_ok p1 r e2
    have st3 := Stp.still (o := .xd [(f, v)]) st2.rel hd
    exact g1 (some d) σ _ _ (st2.trans st3) (Keeps.refl _ _) (.inr ⟨d, [(f, v)], rfl, upd_same, rfl, RD.mono st3.fr _ _ rd, trivial⟩)
  · exact g1.elim
theorem exP_inst {X : Cx} {pins : List (Addr × Obj)} {σ : L2.St} {F H : Hp} {s : Shared} {p : Pn} {e : Exn} {D : Addr} (I : Inv X pins σ H s) (hp : p ∈ X.pn) (sm : Same F H) (x : ExP X.K F p e) (ec : e.cls = .ref D) :
    ∃ od, PySem.W.InstAt s.heap p.1 p.2 D od := by
  obtain ⟨h1, ⟨vs, h2⟩, h3⟩ := x
  obtain ⟨hget, _⟩ := I.pin p (List.mem_append_left _ hp)
  rw [ec] at h1
  rcases h3 with ⟨_, hd⟩ | ⟨dd, xs, hd, hx, _, _⟩
  · exact ⟨none, hget, h1, by unfold PySem.W.notCls; rw [h2] <;> rfl, by rw [hd]; trivial⟩
  · have hx2 : ObjOk X.prog X.w H s.heap dd (.xd xs) := I.hok dd _ (sm _ _ hx)
    obtain ⟨mA, hns, hr⟩ := hx2
    obtain ⟨od, ho, hl⟩ := lookIn_ns hns
    exact ⟨some od, hget, h1, by unfold PySem.W.notCls; rw [h2] <;> rfl, by rw [hd]; exact ho⟩
theorem slot_exc {K : PySem.W.Frag} {F H : Hp} {σ : L2.St} {st : Sls} {i : Nat} {q : Pn} {e : Exn} (R : Rl K F H σ st) (h : st[i]? = some (.exc q e)) : σ[i]? = some (some (.ref q.1)) ∧ ExP K F q e := by
  obtain ⟨ov, h1, h2, h3⟩ := R.at_ i _ h
  exact ⟨by rw [h1, h2], h3⟩
structure ExI (K : PySem.W.Frag) (D : Addr) : Prop where
  hc : (PySem.W.clsIn K D).isSome = true
  hg : PySem.W.findIn K (.ref D) "__getattribute__" = some (some (.builtin "BaseException.__getattribute__"))
  hk : PySem.W.findIn K (.ref D) "__getattr__" = some none
  hs : PySem.W.subIn K (.ref D) (.type "BaseException") = some true
  ha : PySem.W.findIn K (.ref D) "__class__" = some (some (.builtin "object.__class__"))
  hn : PySem.W.specialIn K (.builtin "object.__class__") "__get__" = some (some (.builtin "getset_descriptor.__get__"))
  ht : PySem.W.takesIn K (.builtin "object.__class__") = some true
  hm : PySem.W.mroIn K D (.type "object") = some true
theorem call_isX {X : Cx} {p : Pn} (hp : p ∈ X.pn) : CallR X (.builtin "isinstance") (fun xs H Q => ∃ (c : V) (cv : Value) (b : Bool) (D : Addr) (e : Exn) (F : Hp), xs = [.ref p.1, c] ∧ ClsV c cv ∧ Same F H ∧ ExP X.K F p e ∧ e.cls = .ref D ∧ ExI X.K D ∧ PySem.W.kitOne X.K (.ref D) cv = some b ∧ Q (.bl b) H) := by
  intro pins s σ H xs us Q I r h
  obtain ⟨c, cv, b, D, e, F, rfl, hcv, sm, ex, ec, C, ek, q⟩ := h
  cases r with
  | cons rx rr =>
    cases rr with
    | cons rt rr =>
      cases rr
      cases rx
      obtain ⟨od, J⟩ := exP_inst I hp sm ex ec
      have et := hcv.eq rt
      subst et
      exact PySem.W.kia_one (PySem.W.kitx_exc C.hc C.hg C.hk C.hs C.ha C.hn C.ht C.hm) I.kIn J ek (fun z => nomatch z) fun tk => ⟨.bl b, H, I.kept (t' := tk) fun _ _ z => z, rfl, q⟩
open Classical in
noncomputable def fIsX (p : Pn) (tab : Value → Option Bool) (i : Nat) : FE := fun st => match st[i]? with
  | some (.exc q e) => if q = p then (match tab e.cls with
    | some b => .ok (.d (.bl b)) st
    | none => .bad) else .bad
  | _ => .bad
def TabOk (K : PySem.W.Frag) (u : Value) (tab : Value → Option Bool) : Prop := ∀ cls b, tab cls = some b → ∃ D, cls = .ref D ∧ ExI K D ∧ PySem.W.kitOne K (.ref D) u = some b
theorem de_isx {X : Cx} {W : WX} {p : Pn} {np xp pos : Pos} {x : Str} {c : Expr} {cv : V} {u : Value} {tab : Value → Option Bool} (i : Nat) (hp : p ∈ X.pn) (tb : TabOk X.K u tab) (hcv : ClsV cv u) (he : PE X (.Name x xp) (tVar i)) (hc : PE X c (tC cv)) (hg : Gl X "isinstance") (hm : X.mg "isinstance" = none)
    (h1 : starEach [.Name x xp, c] X.env = (false, eval (.Name x xp) X.env) :: starEach [c] X.env := by rfl) (h2 : starEach [c] X.env = (false, eval c X.env) :: starEach [] X.env := by rfl) (hpl : (backTo pos (starEach [c] X.env)).any (·.1) = false := by rfl) :
    DE X W (.Call (.Name "isinstance" np) [.Name x xp, c] [] pos) (fIsX p tab i) := by
  refine PE.conseq (pe_callB (call_isX (X := X) hp) hg hm (by rfl) (pa_cons he (pa_cons hc pa_nil h2) h1) (by decide) (by decide) h1 hpl) fun σ H Q h => ?_
  obtain ⟨F, st, R, g⟩ := h
  unfold fIsX at g
  split at g
  · rename_i q e hq
    split at g
    · rename_i eq
      subst eq
      split at g
      · rename_i b hb
        obtain ⟨a1, a2⟩ := slot_exc R hq
        obtain ⟨D, d1, d2, d3⟩ := tb _ _ hb
        exact ⟨_, a1, cv, u, b, D, e, F, rfl, hcv, R.sub, a2, d1, d2, d3, g F H (Stp.refl R) (.bl b) rfl⟩
      · exact g.elim
    · exact g.elim
  · exact g.elim
theorem pe_xfP {X : Cx} {p : Pn} {e : Expr} {te : TE} {pos : Pos} {n : Str} (hp : p ∈ X.pn) (he : PE X e te) (hb : attributeBase e n X.env (eval e X.env) = eval e X.env := by rfl) :
    PE X (.Attribute e n pos) (fun σ H Q => te σ H fun x H1 => ∃ C, x = .ref p.1 ∧ p.2.cls = .ref C ∧ XfC X.K C ∧ PySem.W.findIn X.K (.ref C) n = some none ∧ (∃ vs, p.2.data = .fields vs) ∧ ∃ (dd : Addr) (fs : List (Str × V)) (v : V), p.2.dict = some dd ∧ H1 dd = some (.xd fs) ∧ fs.lookup n = some v ∧ Q v H1) := by
  refine ⟨fun pins s σ H Q I h => ?_⟩
  refine attr_of hb (thn (he.run pins s σ H _ I h) fun u s1 hh => ?_)
  obtain ⟨x, H1, I1, rx, C, ex, ec, T, hno, ⟨vs, hd⟩, dd, fs, v, ed, ea, l, q⟩ := hh
  subst ex
  obtain rfl : u = Value.ref p.1 := rx
  obtain ⟨ha, _⟩ := I1.pin p (List.mem_append_left _ hp)
  have hx : ObjOk X.prog X.w H1 s1.heap dd (.xd fs) := I1.hok dd _ ea
  obtain ⟨mA, hns, hr⟩ := hx
  obtain ⟨od, ho, hl⟩ := lookIn_ns hns
  obtain ⟨u, hu, ru⟩ := RelO.some_of (v := v) (o := mA n) (by rw [← l]; exact hr n)
  have J : PySem.W.InstAt s1.heap p.1 p.2 C (some od) := ⟨ha, ec, by unfold PySem.W.notCls; rw [hd] <;> rfl, by rw [ed]; exact ho⟩
  exact PySem.HandSPX.exc_get I1.kIn J T.ga T.gg T.exC (PySem.W.findObj_own T.hdC hno rfl (by rw [hl, hu])) (handed_of ru) ⟨v, H1, I1.tok _, ru, q⟩
open Classical in
noncomputable def fXf (p : Pn) (ok : Value → Bool) (n : Str) (i : Nat) : FE := fun st => match st[i]? with
  | some (.exc q e) => if q = p then (if ok e.cls = true then (match fldD n e.fs e.ds with
    | some d => .ok (.d d) st
    | none => .bad) else .bad) else .bad
  | _ => .bad
def OkX (K : PySem.W.Frag) (n : Str) (ok : Value → Bool) : Prop := ∀ cls, ok cls = true → ∃ C, cls = .ref C ∧ XfC K C ∧ PySem.W.findIn K (.ref C) n = some none
theorem de_xf {X : Cx} {W : WX} {p : Pn} {xp pos : Pos} {x n : Str} {ok : Value → Bool} (i : Nat) (hp : p ∈ X.pn) (hk : OkX X.K n ok) (he : PE X (.Name x xp) (tVar i)) (hb : attributeBase (.Name x xp) n X.env (eval (.Name x xp) X.env) = eval (.Name x xp) X.env := by rfl) :
    DE X W (.Attribute (.Name x xp) n pos) (fXf p ok n i) := by
  refine PE.conseq (pe_xfP hp he hb) fun σ H Q h => ?_
  obtain ⟨F, st, R, g⟩ := h
  unfold fXf at g
  split at g
  · rename_i q e hq
    split at g
    · rename_i eq
      subst eq
      split at g
      · rename_i hok
        split at g
        · rename_i d hd
          obtain ⟨a1, a2, a3, a4⟩ := slot_exc R hq
          obtain ⟨C, c1, c2, c3⟩ := hk _ hok
          rcases a4 with ⟨ef, _⟩ | ⟨dd, xs, h1, h2, h3, h4⟩
          · rw [ef] at hd
            cases e.ds <;> cases hd
          · obtain ⟨v, l, rd⟩ := fldD_ok h3 h4 hd
            exact ⟨_, a1, C, rfl, a2.trans c1, c2, c3, a3, dd, xs, v, h1, R.sub _ _ h2, l, g F H (Stp.refl R) v rd⟩
        · exact g.elim
      · exact g.elim
    · exact g.elim
  · exact g.elim
theorem Stp.over {K : PySem.W.Frag} {σ : L2.St} {τ : L2.St} {F H F' H' : Hp} {st as as' : Sls} (R : Rl K F H σ st) (s : Stp K τ F H as τ F' H' as') (no : ∀ a, ¬ Own τ as a) : Stp K σ F H st σ F' H' st := by
  have kp : ∀ a, F a = none → H a ≠ none → H' a = H a ∧ F' a = none := fun a hf hh => by
    cases q : H a with
    | none => exact absurd q hh
    | some o =>
      refine ⟨s.keep a o q hf (no a), ?_⟩
      cases z : F' a with
      | none => rfl
      | some u =>
        rcases s.new a hf (by rw [z]; simp) with y | y
        · rw [q] at y; cases y
        · exact absurd y (no a)
  refine ⟨s.fr, ⟨s.rel.sub, R.len, fun i sl e => ?_, R.apart⟩, fun a h1 h2 => (s.new a h1 h2).imp id fun z => absurd z (no a), fun a o h1 h2 _ => s.keep a o h1 h2 (no a), s.there, fun a h => .inl h⟩
  obtain ⟨ov, h1, h2⟩ := R.at_ i sl e
  refine ⟨ov, h1, ?_⟩
  cases sl with
  | un => trivial
  | cls c => exact h2
  | exc q u => exact ⟨h2.1, h2.2.mono s.fr⟩
  | d x =>
    obtain ⟨v, e1, r⟩ := h2
    exact ⟨v, e1, RD.mono s.fr x v r⟩
  | own m =>
    obtain ⟨a, e1, f, r⟩ := h2
    obtain ⟨k1, k2⟩ := kp a f r.there
    exact ⟨a, e1, k2, r.mono s.fr k1⟩
open Classical in
noncomputable def fCallX (p : Pn) (g : Pn → FG) (i : Nat) : FE := fun st => match st[i]? with
  | some (.exc q e) => if q = p then (match g p [.exc p e] with
    | .ok (.d x) _ => .ok (.d x) st
    | .ok (.own m) _ => .ok (.own m) st
    | _ => .bad) else .bad
  | _ => .bad
theorem de_callX {X : Cx} {W : WX} {p : Pn} {k : Nat} {f : Addr} {fd : FuncData} {ps : List Str} {g : Pn → FG} {fn x : Str} {np xp pos : Pos} (i : Nat) (F1 : FnM true X.prog X.w X.K X.mg X.base k f fd ps (spG X.K ps.length g)) (hr : Rm true k X.A) (hh : HotX true X p)
    (hg : Gl X fn) (hm : X.mg fn = some (.ref f)) (hk : PySem.W.keepIn X.K (.ref f) = true) (B : BnD X.K fd ps 1 [] [.arg 0]) (hv : PE X (.Name x xp) (tVar i)) (tk : L2N.Takes X W)
    (hdb : (fn == ("__debug__" : Str)) = false := by decide) (he : starEach [.Name x xp] X.env = (false, eval (.Name x xp) X.env) :: starEach [] X.env := by rfl) (hpl : (backTo pos (starEach [] X.env)).any (·.1) = false := by rfl) :
    DE X W (.Call (.Name fn np) [.Name x xp] [] pos) (fCallX p g i) := by
  refine ⟨fun pins s σ H Q I h => ?_⟩
  obtain ⟨F0, st, R, h⟩ := h
  have hlen : ps.length = 1 := B.len.symm
  unfold fCallX at h
  split at h
  · rename_i q e hq
    split at h
    · rename_i eq
      subst eq
      obtain ⟨a1, a2⟩ := slot_exc R hq
      have ha := pa_cons hv pa_nil he
      refine wpAny_Call_Name_kw (ld_glob I hg hm ?_ hdb)
      refine PySem.W.callWith_K (h₀ := X.base) I.ok.mod.kin hk (thn (ha.run pos pins s σ H (fun vs H1 => vs = [.ref q.1] ∧ H1 = H) I ⟨_, a1, rfl, rfl⟩) fun us s1 hx => ?_) he hpl
      obtain ⟨vs, H1, I1, r, rfl, rfl⟩ := hx
      refine ⟨I1.kIn, ?_⟩
      obtain ⟨us', hb, hv2⟩ := B.to s1 us [] I1.kIn (by have := r.length; simpa using this.symm) rfl
      obtain ⟨vs', b1, b2⟩ := hv2 _ [] r .nil
      cases b1
      have no : ∀ a, ¬ Own ([V.ref q.1].map some) [.exc q e] a := fun a ⟨j, ⟨m, z⟩, _⟩ => by
        cases j with
        | zero => cases z
        | succ j => simp at z
      have Ra : Rl X.K F0 H1 ([V.ref q.1].map some) [.exc q e] := ⟨R.sub, rfl, fun j sl z => by
        cases j with
        | zero =>
          have z : some (Sl.exc q e) = some sl := z
          cases z
          exact ⟨_, rfl, rfl, a2⟩
        | succ j => simp at z, fun a j j' h1 _ => absurd ⟨j, h1⟩ (no a)⟩
      refine run_fnM (us := us) (kw := []) (p := q) (W := W) F1 hr hh tk I1 hb b2 ⟨hlen.symm ▸ rfl, F0, [.exc q e], Ra, ?_⟩
      cases eg : g q [.exc q e] with
      | ok it as' =>
        rw [eg] at h
        intro F' H' c v rv
        have so := Stp.over R c no
        cases it with
        | d y => exact h F' H' so v rv
        | own m =>
          obtain ⟨a, e1, h0, f0, n, rm⟩ := rv
          exact h F' H' so v ⟨a, e1, h0, f0, fun z => (R.own_free z).2 h0, rm⟩
        | ref j => exact h.elim
      | exc e2 as' =>
        rw [eg] at h
        exact h.elim
      | bad =>
        rw [eg] at h
        exact h.elim
    · exact h.elim
  · exact h.elim
end DL
set_option maxRecDepth 100000
set_option maxHeartbeats 4000000
namespace DL
open PySem PySem.Spec PyProof.Rows L2
theorem flyZ_keeps {B h h' : Heap} {l : List Env} {a : Addr} {Z : Obj → Prop} (f : HandSPX.FlyingZ B l a Z h) (k : ∀ b o, h.get? b = some o → h'.get? b = some o) : HandSPX.FlyingZ B l a Z h' := by
  obtain ⟨f1, f2, f3, oe, vs, T, oT, ts, he, hz, hd, h1, hn, hne, hT, hdT, h3⟩ := f
  exact ⟨fun b o q => k b o (f1 b o q), f2, f3.of_keeps fun b o q _ => ⟨o, k b o q, rfl⟩, oe, vs, T, oT, ts, k _ _ he, hz, hd, h1, hn, hne, k _ _ hT, hdT, h3⟩
def TstOk (X : Cx) (t : Expr) (hit : Value → Bool) : Prop := ∀ (a : Addr) (oe : Obj) (pn pins : List (Addr × Obj)) (σ : L2.St) (H : Hp) (s : Shared) (Q : Bool → Shared → Prop) (E : Value → Shared → Prop),
  Inv (X.suite a ((a, oe) :: pn)) pins σ H s → s.heap.get? a = some oe → hit oe.cls = true → (∀ h', (∀ q o, s.heap.get? q = some o → h'.get? q = some o) → Q true { s with heap := h' }) →
  wpAny (model X.prog X.w) (X.A.mark (some (.ref a))) (eval t X.env) (fun c s1 => wpAny (model X.prog X.w) (X.A.mark (some (.ref a))) (excMatches (.ref a) c) Q E s1) E s
section
variable {X : Cx} {hit : Value → Bool}
theorem tst3 {x1 x2 x3 : Str} {c1 c2 c3 : Addr} {p1 p2 p3 tpos : Pos} {kk : Nat} (g1 : Gl X x1) (m1 : X.mg x1 = some (.ref c1)) (g2 : Gl X x2) (m2 : X.mg x2 = some (.ref c2)) (g3 : Gl X x3) (m3 : X.mg x3 = some (.ref c3))
    (hh : ∀ cls, hit cls = true → PySem.W.exmAny X.K cls [.ref c1, .ref c2, .ref c3] = some true)
    (d1 : (x1 == ("__debug__" : Str)) = false := by decide) (d2 : (x2 == ("__debug__" : Str)) = false := by decide) (d3 : (x3 == ("__debug__" : Str)) = false := by decide) :
    TstOk X (.Tuple [.Name x1 p1, .Name x2 p2, .Name x3 p3] kk tpos) hit := by
  intro a oe pn pins σ H s Q E I ha hc q
  have nm : ∀ {x : Str} {c : Addr} {p : Pos} {Q : Value → Shared → Prop} {E : Value → Shared → Prop}, Gl X x → X.mg x = some (.ref c) → (x == ("__debug__" : Str)) = false → Q (.ref c) s → wpAny (model X.prog X.w) (X.A.mark (some (.ref a))) (eval (.Name x p) X.env) Q E s := fun {x c p Q E} hg hm hd q =>
    ld_glob (X := X.suite a ((a, oe) :: pn)) I hg hm q hd
  refine wpAny_Tuple ?_
  refine PySem.wpAny_items_cons (nm g1 m1 d1 ?_)
  refine PySem.wpAny_items_cons (nm g2 m2 d2 ?_)
  refine PySem.wpAny_items_cons (nm g3 m3 d3 ?_)
  refine PySem.wpAny_items_nil ⟨by size_fits, ?_⟩
  have kp : ∀ q o, s.heap.get? q = some o → (s.heap.push { cls := .type "tuple", data := .seq [Value.ref c1, .ref c2, .ref c3].toArray }).get? q = some o := fun _ _ z => Heap.get?_push_of_some _ z
  have LT : PySem.W.Looks (model X.prog X.w) s.heap (typeOf (.ref a)) oe.cls := fun A Q E s k q => wpAny_typeOf_ref (k _ _ ha) q
  exact (PySem.W.exm_tup3 (I.kIn.keeps kp) (LT.keeps kp) (Heap.get?_push_size s.heap rfl) (hh _ hc)).here (q _ kp)
end
def wT (hit : Value → Bool) (i : Nat) (ts : Pn → TS) (D : Ends) : WX := fun cls d σ H =>
  hit cls = true ∧ ∀ a oe, H a = none → L2N.Zn cls d oe → (∃ vs, oe.data = .fields vs) →
    ts (a, oe) { nx := fun σ' H' => D.nx (σ'.set i none) H', rt := D.rt, bk := fun σ' H' => D.bk (σ'.set i none) H', ct := fun σ' H' => D.ct (σ'.set i none) H' } (σ.set i (some (.ref a))) H
section
variable {X : Cx} {n : Str} {hit : Value → Bool} {t : Expr} {i : Nat} {body suite : List Stmt} {b₀ : Stmt} {pos pos' : Pos} {tb : WX → TS} {ts : Pn → TS}
theorem ps_try_T (hs : X.stack = X.env :: X.outer) (hf : X.env.frame = some X.env.locals) (hN : X.N.Nodup) (hi : X.N[i]? = some n) (hln : X.env.kindOf n = some .local) (ht : TstOk X t hit)
    (hb : ∀ (W : WX) (pn : List (Addr × Obj)) (xe : Value → Shared → Prop), L2N.Takes (X.tr pn xe) W → PassesOwn (model X.prog X.w) X.A X.env xe → PSs (X.tr pn xe) body (tb W))
    (hsu : ∀ (p : Pn) (pn : List (Addr × Obj)) (cls : Value) (d : Option Addr), L2N.Zn cls d p.2 → (∃ vs, p.2.data = .fields vs) → PSs (X.suite p.1 (p :: pn)) (b₀ :: suite) (ts p)) :
    PS X (.Try body [.ExceptHandler (some t) (some n) (b₀ :: suite) pos'] [] [] pos) (fun D σ H => tb (wT hit i ts D) D σ H) := by
  refine ⟨fun pins s σ H D I h => ?_⟩
  have ok := I.ok
  have hfr : X.A.frames = some (X.env :: X.outer) := by rw [ok.frames, hs]
  have hloc : Loc X.env.scope n := .inl hln
  refine wpAny_Try_except ?_
  have run := (hb (wT hit i ts D) (X.pn ++ pins) (fun e s1 => wpAny (model X.prog X.w) X.A (noteFrame e X.env) (fun _ s2 => wpAny (model X.prog X.w) X.A (setFlight e none) (fun _ s3 =>
    wpAny (model X.prog X.w) X.A (handleBy e X.env [.ExceptHandler (some t) (some n) (b₀ :: suite) pos']) (SP X pins D) X.xe s3) X.xe s2) X.xe s1) ?_ PassesOwn.looking).run [] s σ H D (I.toTry _) h
  · refine wpAny_mono run (fun f s1 hsp => ?_) (fun e s1 he => he)
    cases f with
    | next => obtain ⟨σ', H', J', q⟩ := hsp; exact wpAny_execs_nil ⟨σ', H', J'.ofTry ok, q⟩
    | brk => obtain ⟨σ', H', J', q⟩ := hsp; exact ⟨σ', H', J'.ofTry ok, q⟩
    | cont => obtain ⟨σ', H', J', q⟩ := hsp; exact ⟨σ', H', J'.ofTry ok, q⟩
    | ret u => obtain ⟨v, σ', H', J', r, q⟩ := hsp; exact ⟨v, σ', H', J'.ofTry ok, r, q⟩
  · intro u s' xx
    obtain ⟨a, B, sI, pins', σ', H', cls, d, rfl, J', nb, up, sky, na, os, ag, hc, hyes⟩ := xx
    have J : Inv X pins σ' H' sI := J'.ofTry ok
    have sky' : L2.Sky B (X.env :: X.outer) a (L2N.Zn cls d) X.env.locals s'.heap := by rw [← hs]; exact sky
    refine L2N.Sky.land L2N.Zn.steady hfr hf sky' fun h3 fl3 up3 => ?_
    have J3 : Inv X pins σ' H' { s' with heap := h3 } := J.landed nb fl3.1 (up.trans up3) os ag
    obtain ⟨oe3, vs3, he3, hz3, hd3⟩ := fl3.there
    have nfr : a ∉ frs (X.env :: X.outer) := fun hm => by
      obtain ⟨_, o', e', hnf⟩ := fl3.2.2.1.mem hm
      rw [he3] at e'
      cases e'
      exact hnf _ hd3
    have nL : a ≠ X.env.locals := fun z => nfr (List.mem_filterMap.mpr ⟨X.env, List.mem_cons_self, by rw [hf, z]⟩)
    have nF : a ∉ X.fs := fun hm => by
      obtain ⟨e, he, q⟩ := List.mem_filterMap.mp hm
      exact nfr (List.mem_filterMap.mpr ⟨e, List.mem_cons_of_mem _ he, q⟩)
    refine wpAny_handleBy_cons (codeAny_handlers_test ?_) (by intro q; cases q)
    refine ht a oe3 (X.pn ++ pins) [] σ' H' { s' with heap := h3 } _ _ (J3.suite he3 hd3 na nL nF) he3 (by rw [hz3.1]; exact hc) fun h5 k5 => ?_
    have fl5 := flyZ_keeps fl3 k5
    refine codeAny_handlers_suite_as ?_
    refine HandSPX.lands_againZ (s := { s' with heap := h5 }) fl5 fun h4 fl4 up4 => ?_
    have J4 : Inv X pins σ' H' { s' with heap := h4 } := J.landed nb fl4.1 (((up.trans up3).trans (Heap.UpToSlots.of_keeps k5)).trans up4) os ag
    obtain ⟨oe4, vs4, he4, hz4, hd4⟩ := fl4.there
    have S4 := J4.suite he4 hd4 na nL nF
    refine store_ok (X := X.suite a ((a, oe4) :: (X.pn ++ pins))) (v := .ref a) S4 hN hi hloc rfl (fun s5 S5 => ?_) (.inr hln)
    refine wpAny_mono ((hsu (a, oe4) (X.pn ++ pins) cls d hz4 ⟨_, hd4⟩).run [] s5 _ H' _ S5 (hyes a oe4 na hz4 ⟨_, hd4⟩)) (fun f s6 hsp => ?_) (fun _ _ z => False.elim z)
    have gone : ∀ {σ6 : L2.St} {H6 : Hp} {Q : Shared → Prop}, Inv (X.suite a ((a, oe4) :: (X.pn ++ pins))) [] σ6 H6 s6 → (∀ s7, Inv X pins (σ6.set i none) H6 s7 → Q s7) →
        wpAny (model X.prog X.w) X.A (do bindName X.env n .none; unbindBehindTheSuite X.env n pos') (fun _ s7 => Q s7) X.xe s6 := fun {σ6 H6 Q} S6 hq => gone_ok (S6.unsuite ok) hN hi hln hq
    cases f with
    | next => obtain ⟨σ6, H6, S6, q6⟩ := hsp; exact gone S6 fun s7 J7 => ⟨_, _, J7, q6⟩
    | brk => obtain ⟨σ6, H6, S6, q6⟩ := hsp; exact gone S6 fun s7 J7 => ⟨_, _, J7, q6⟩
    | cont => obtain ⟨σ6, H6, S6, q6⟩ := hsp; exact gone S6 fun s7 J7 => ⟨_, _, J7, q6⟩
    | ret u => obtain ⟨v6, σ6, H6, S6, r6, q6⟩ := hsp; exact gone S6 fun s7 J7 => ⟨_, _, _, J7, r6, q6⟩
end
end DL
set_option maxRecDepth 100000
set_option maxHeartbeats 4000000
namespace DL
open PySem PySem.Spec PyProof.Rows L2
section
variable {K : PySem.W.Frag} {σ0 σ : L2.St} {F0 H0 F H : Hp} {st0 s1 : Sls} {i : Nat}
theorem own_setX {σ : L2.St} {s1 : Sls} {i : Nat} {ov : Option V} {sl : Sl} (hsl : ∀ m, sl ≠ .own m) {a : Addr} {j : Nat} (h : OwnAt (σ.set i ov) (s1.set i sl) a j) : OwnAt σ s1 a j := by
  obtain ⟨⟨m, e1⟩, e2⟩ := h
  have z : i ≠ j := fun q => by
    rw [q, List.getElem?_set] at e1
    split at e1
    · split at e1
      · exact hsl m (Option.some.inj e1)
      · cases e1
    · rename_i z; exact absurd rfl z
  rw [List.getElem?_set_ne z] at e1 e2
  exact ⟨⟨m, e1⟩, e2⟩
theorem Stp.exc {q : Pn} {e : Exn} (s : Stp K σ0 F0 H0 st0 σ F H s1) (x : ExP K F q e) : Stp K σ0 F0 H0 st0 (σ.set i (some (.ref q.1))) F H (s1.set i (.exc q e)) := by
  have no : ∀ m, Sl.exc q e ≠ .own m := fun m z => nomatch z
  refine ⟨s.fr, ⟨s.rel.sub, by rw [List.length_set, List.length_set]; exact s.rel.len, fun j sl h => ?_, fun a j k h1 h2 => s.rel.apart a j k (own_setX no h1) (own_setX no h2)⟩, s.new, s.keep, s.there, fun a ⟨j, h⟩ => s.own a ⟨j, own_setX no h⟩⟩
  by_cases z : i = j
  · subst z
    rw [List.getElem?_set] at h
    split at h
    · split at h
      · rename_i hl
        cases h
        exact ⟨some (.ref q.1), by rw [List.getElem?_set_self (by rw [s.rel.len]; exact hl)], rfl, x⟩
      · cases h
    · rename_i z; exact absurd rfl z
  · rw [List.getElem?_set_ne z] at h
    rw [List.getElem?_set_ne z]
    exact s.rel.at_ j sl h
theorem own_unset {σ : L2.St} {s1 : Sls} {i : Nat} {a : Addr} {j : Nat} (h : OwnAt σ (s1.set i .un) a j) : OwnAt σ s1 a j := by
  obtain ⟨⟨m, e1⟩, e2⟩ := h
  have z : i ≠ j := fun q => by
    rw [q, List.getElem?_set] at e1
    split at e1
    · split at e1 <;> cases e1
    · rename_i z; exact absurd rfl z
  rw [List.getElem?_set_ne z] at e1
  exact ⟨⟨m, e1⟩, e2⟩
theorem Stp.unslot (s : Stp K σ0 F0 H0 st0 σ F H s1) : Stp K σ0 F0 H0 st0 σ F H (s1.set i .un) := by
  refine ⟨s.fr, ⟨s.rel.sub, by rw [List.length_set]; exact s.rel.len, fun j sl h => ?_, fun a j k h1 h2 => s.rel.apart a j k (own_unset h1) (own_unset h2)⟩, s.new, s.keep, s.there, fun a ⟨j, h⟩ => s.own a ⟨j, own_unset h⟩⟩
  by_cases z : i = j
  · subst z
    rw [List.getElem?_set] at h
    split at h
    · split at h
      · rename_i hl
        cases h
        exact ⟨_, List.getElem?_eq_getElem (by rw [s.rel.len]; exact hl), trivial⟩
      · cases h
    · rename_i z; exact absurd rfl z
  · rw [List.getElem?_set_ne z] at h
    exact s.rel.at_ j sl h
end
noncomputable def fTry (hit : Value → Bool) (i : Nat) (fb : FS) (R : Exn → Rs) : FS := fun st => match fb st with
  | .exc e s1 => if hit e.cls = true ∧ i < s1.length then ((R e).out (s1.set i .un)).bindS fun it s2 => .rt it s2 else .bad
  | o => o
theorem ds_try {X : Cx} {W : WX} {n : Str} {hit : Value → Bool} {t e : Expr} {i : Nat} {body : List Stmt} {rp pos pos' : Pos} {asgb : List Nat} {fb : FS} {fe : Pn → FE} {R : Exn → Rs}
    (hs : X.stack = X.env :: X.outer) (hf : X.env.frame = some X.env.locals) (hN : X.N.Nodup) (hi : X.N[i]? = some n) (hln : X.env.kindOf n = some .local) (ht : TstOk X t hit)
    (hb : ∀ (W : WX) (pn : List (Addr × Obj)) (xe : Value → Shared → Prop), L2N.Takes (X.tr pn xe) W → PassesOwn (model X.prog X.w) X.A X.env xe → DSs (X.tr pn xe) W body asgb fb)
    (hsu : ∀ (p : Pn) (pn : List (Addr × Obj)), HotX true (X.suite p.1 (p :: pn)) p → DE (X.suite p.1 (p :: pn)) noW e (fe p))
    (hR : ∀ p u st, st[i]? = some (.exc p u) → hit u.cls = true → R u ≠ .bad → fe p st = (R u).out st) :
    DS X W (.Try body [.ExceptHandler (some t) (some n) [.Return (some e) rp] pos'] [] [] pos) (asgb ++ [i]) (fTry hit i fb R) := by
  refine PS.conseq (ps_try_T (tb := fun W => tSt X.K W asgb fb) (ts := fun p => tSt X.K noW [] (fRet (fe p))) hs hf hN hi hln ht hb fun p pn cls d hz hfl => ?_) fun E σ H q => ?_
  · obtain ⟨vs, hv⟩ := hfl
    exact ds_one (ds_ret (hsu p pn fun _ => ⟨⟨rfl, vs, hv, hz.2.2 vs hv⟩, List.mem_cons_self⟩))
  · obtain ⟨F, st, R0, g⟩ := q
    refine ⟨F, st, R0, ?_⟩
    unfold fTry at g
    have km : ∀ {σ' : L2.St}, Keeps asgb σ σ' → Keeps (asgb ++ [i]) σ σ' := fun k => k.mono fun _ => List.mem_append_left _
    cases hfb : fb st with
    | nx st' => rw [hfb] at g; exact fun σ' F' H' s k => g σ' F' H' s (km k)
    | rt it st' => rw [hfb] at g; exact fun σ' F' H' v s k r => g σ' F' H' v s (km k) r
    | bk st' => rw [hfb] at g; exact fun σ' F' H' s k => g σ' F' H' s (km k)
    | ct st' => rw [hfb] at g; exact fun σ' F' H' s k => g σ' F' H' s (km k)
    | bad => rw [hfb] at g; exact g
    | exc u s1 =>
      rw [hfb] at g
      dsimp only at g
      split at g
      · rename_i hc
        obtain ⟨hc, hl⟩ := hc
        intro d σ' F' H' s k xr
        refine ⟨hc, fun a oe na hz hfl => ?_⟩
        have xp : ExP X.K F' (a, oe) u := ⟨hz.1, hfl, by rw [show ((a, oe) : Pn).2.dict = d from hz.2.1]; exact xr.mono (Same.refl F')⟩
        have s2 := Stp.exc (i := i) s xp
        have at_ : (s1.set i (.exc (a, oe) u))[i]? = some (.exc (a, oe) u) := List.getElem?_set_self hl
        refine ⟨F', _, s2.rel, ?_⟩
        have nb : R u ≠ .bad := fun z => by
          rw [z] at g
          exact g.elim
        have ef := hR (a, oe) u _ at_ hc nb
        have kk : ∀ {σ'' : L2.St}, Keeps [] (σ'.set i (some (.ref a))) σ'' → Keeps (asgb ++ [i]) σ σ'' := fun {σ''} k3 j hj => by
          have h1 : j ∉ asgb := fun z => hj (List.mem_append_left _ z)
          have h2 : i ≠ j := fun z => hj (List.mem_append_right _ (by rw [z]; exact List.mem_singleton.mpr rfl))
          rw [k3 j (by simp), List.getElem?_set_ne h2, k j h1]
        have un : ∀ {σ'' : L2.St} {F'' H'' : Hp}, Stp X.K (σ'.set i (some (.ref a))) F' H' (s1.set i (.exc (a, oe) u)) σ'' F'' H'' (s1.set i (.exc (a, oe) u)) → Stp X.K σ F H st σ'' F'' H'' (s1.set i .un) := fun s3 => by
          have := Stp.unslot (i := i) (s2.trans s3)
          rw [List.set_set] at this
          exact this
        unfold fRet
        rw [ef]
        cases hr : R u with
        | bad => exact absurd hr nb
        | val x =>
          rw [hr] at g
          intro σ'' F'' H'' v s3 k3 rv
          exact g σ'' F'' H'' v (un s3) (kk k3) rv
        | tupn ds =>
          rw [hr] at g
          intro σ'' F'' H'' v s3 k3 rv
          exact g σ'' F'' H'' v (un s3) (kk k3) rv
        | new m =>
          rw [hr] at g
          intro σ'' F'' H'' v s3 k3 rv
          obtain ⟨p, e1, h0, f, n1, rm⟩ := rv
          refine g σ'' F'' H'' v (un s3) (kk k3) ⟨p, e1, Classical.byContradiction fun z => s.there p z h0, f, fun ⟨j, z⟩ => n1 ⟨j, ?_⟩, rm⟩
          have z2 := own_unset (i := i) (s1 := s1.set i (.exc (a, oe) u)) (σ := σ'') (a := p) (j := j) (by rw [List.set_set]; exact z)
          exact z2
      · exact g.elim
end DL
set_option maxRecDepth 100000
set_option maxHeartbeats 4000000
namespace DL
open PySem PySem.Spec PyProof.Rows L2
open Classical in
noncomputable def pickR (i : Nat) (fe : Pn → FE) (u : Exn) : Rs := if h : ∃ r : Rs, r ≠ .bad ∧ ∀ p st, st[i]? = some (.exc p u) → fe p st = r.out st then choose h else .bad
theorem pickR_ok {i : Nat} {fe : Pn → FE} {hit : Value → Bool} (p : Pn) (u : Exn) (st : Sls) (h : st[i]? = some (.exc p u)) (_ : hit u.cls = true) (nb : pickR i fe u ≠ .bad) : fe p st = (pickR i fe u).out st := by
  unfold pickR at *
  split at nb
  · rename_i hx
    rw [dif_pos hx]
    exact (Classical.choose_spec hx).2 p st h
  · exact absurd rfl nb
theorem out_same {r r' : Rs} {s : Sls} (h : r.out s = r'.out s) (t : Sls) : r.out t = r'.out t := by
  cases r <;> cases r' <;> first
    | rfl
    | (simp only [Rs.out] at h; cases h; done)
    | (simp only [Rs.out] at h ⊢
       injection h with h1 h2
       injection h1 with h3
       rw [h3])
theorem pickR_eq {i : Nat} {fe : Pn → FE} {u : Exn} {r : Rs} (nb : r ≠ .bad) (h : ∀ p st, st[i]? = some (.exc p u) → fe p st = r.out st) (t : Sls) : (pickR i fe u).out t = r.out t := by
  have hx : ∃ r : Rs, r ≠ .bad ∧ ∀ p st, st[i]? = some (.exc p u) → fe p st = r.out st := ⟨r, nb, h⟩
  have e : pickR i fe u = Classical.choose hx := by
    unfold pickR
    rw [dif_pos hx]
  have sp := (Classical.choose_spec hx).2
  rw [← e] at sp
  let p0 : Pn := (0, { cls := .none, data := .plain })
  have a : (List.replicate i Sl.un ++ [.exc p0 u])[i]? = some (.exc p0 u) := by simp
  have e1 := sp p0 _ a
  have e2 := h p0 _ a
  exact out_same (e1.symm.trans e2) t
noncomputable abbrev fTryX (hit : Value → Bool) (i : Nat) (fb : FS) (fe : Pn → FE) : FS := fTry hit i fb (pickR i fe)
theorem ds_tryX {X : Cx} {W : WX} {n : Str} {hit : Value → Bool} {t e : Expr} {i : Nat} {body : List Stmt} {rp pos pos' : Pos} {asgb : List Nat} {fb : FS} {fe : Pn → FE}
    (hs : X.stack = X.env :: X.outer) (hf : X.env.frame = some X.env.locals) (hN : X.N.Nodup) (hi : X.N[i]? = some n) (hln : X.env.kindOf n = some .local) (ht : TstOk X t hit)
    (hb : ∀ (W : WX) (pn : List (Addr × Obj)) (xe : Value → Shared → Prop), L2N.Takes (X.tr pn xe) W → PassesOwn (model X.prog X.w) X.A X.env xe → DSs (X.tr pn xe) W body asgb fb)
    (hsu : ∀ (p : Pn) (pn : List (Addr × Obj)), HotX true (X.suite p.1 (p :: pn)) p → DE (X.suite p.1 (p :: pn)) noW e (fe p)) :
    DS X W (.Try body [.ExceptHandler (some t) (some n) [.Return (some e) rp] pos'] [] [] pos) (asgb ++ [i]) (fTryX hit i fb fe) :=
  ds_try hs hf hN hi hln ht hb hsu fun p u st h hc nb => pickR_ok (hit := hit) p u st h hc nb
theorem Rm.mark {k : Nat} {A : Around} {h : Option Value} (r : Rm false k A) : Rm true k (A.mark h) := ⟨fun z => (nomatch z), r.deep, r.unit, r.open_⟩
theorem oexB_ok {K : PySem.W.Frag} {C : Addr} (h : oexB K C = true) : OexC K C := by
  obtain ⟨q, h⟩ := He.ba h
  obtain ⟨h1, h⟩ := He.ba h
  obtain ⟨h2, h⟩ := He.ba h
  obtain ⟨h3, h4⟩ := He.ba h
  refine ⟨?_, He.eqO_ok h1, of_decide_eq_true h2, of_decide_eq_true h3, h4⟩
  split at q
  · rename_i dd cd sl ho
    split at q
    · rename_i C' bm k0 k1 k2 k3 nn k5 hm hs
      simp only [Bool.and_eq_true, beq_iff_eq, Bool.not_eq_true'] at q
      obtain ⟨rfl, rfl, hdel, hdct, hbm⟩ := q
      obtain ⟨nm, bs, mro, ns, qn, hd, sn, sub, ab, col, del⟩ := cd
      dsimp only at hm hdel hdct
      subst hm hdel hdct
      obtain ⟨l⟩ := sl
      dsimp only at hs
      subst hs
      exact ⟨nm, qn, ns, bs, bm, sn, sub, ab, col, dd, k0, k1, k2, k3, k5, ho, hbm⟩
    · cases q
  · cases q
theorem exkB_ok {K : PySem.W.Frag} {C : Addr} {f : Str} (h : exkB K C f = true) : ExK K C (He.ma K C "__init__") f := by
  obtain ⟨h1, h⟩ := He.ba h
  obtain ⟨h2, h⟩ := He.ba h
  obtain ⟨h3, h4⟩ := He.ba h
  exact ⟨oexB_ok h1, He.eqO_ok h2, He.eqO_ok h3, of_decide_eq_true h4⟩
theorem exiB_ok {K : PySem.W.Frag} {D : Addr} (h : exiB K D = true) : ExI K D := by
  obtain ⟨h1, h⟩ := He.ba h
  obtain ⟨h2, h⟩ := He.ba h
  obtain ⟨h3, h⟩ := He.ba h
  obtain ⟨h4, h⟩ := He.ba h
  obtain ⟨h5, h⟩ := He.ba h
  obtain ⟨h6, h⟩ := He.ba h
  obtain ⟨h7, h8⟩ := He.ba h
  exact ⟨h1, He.eqO_ok h2, He.eqO_ok h3, of_decide_eq_true h4, He.eqO_ok h5, of_decide_eq_true h6, of_decide_eq_true h7, of_decide_eq_true h8⟩
def tabX (cs : List (Addr × Bool)) : Value → Option Bool
  | .ref D => cs.lookup D
  | _ => none
def okX (cs : List Addr) : Value → Bool
  | .ref D => cs.contains D
  | _ => false
theorem lookup_in {cs : List (Addr × Bool)} {D : Addr} {b : Bool} (h : cs.lookup D = some b) : (D, b) ∈ cs := by
  induction cs with
  | nil => cases h
  | cons q cs ih =>
    obtain ⟨x, y⟩ := q
    simp only [List.lookup] at h
    split at h
    · rename_i e
      cases h
      rw [beq_iff_eq.mp e]
      exact List.mem_cons_self
    · exact List.mem_cons_of_mem _ (ih h)
theorem tabB_ok {K : PySem.W.Frag} {u : Value} {cs : List (Addr × Bool)} (h : tabB K u cs = true) : TabOk K u (tabX cs) := by
  intro cls b e
  unfold tabX at e
  split at e
  · rename_i D
    have m := lookup_in e
    obtain ⟨h1, h2⟩ := He.ba (List.all_eq_true.mp h _ m)
    exact ⟨D, rfl, exiB_ok h1, of_decide_eq_true h2⟩
  · cases e
theorem okB_ok {K : PySem.W.Frag} {n : Str} {cs : List Addr} (h : okB K n cs = true) : OkX K n (okX cs) := by
  intro cls e
  unfold okX at e
  split at e
  · rename_i D
    obtain ⟨h1, h2⟩ := He.ba (List.all_eq_true.mp h _ (List.contains_iff_mem.mp e))
    exact ⟨D, rfl, xfB_ok h1, He.eqO_ok h2⟩
  · cases e
theorem hitB_ok {K : PySem.W.Frag} {ts : List Value} {cs : List Addr} (h : hitB K ts cs = true) : ∀ cls, okX cs cls = true → PySem.W.exmAny K cls ts = some true := by
  intro cls e
  unfold okX at e
  split at e
  · rename_i D
    exact of_decide_eq_true (List.all_eq_true.mp h _ (List.contains_iff_mem.mp e))
  · cases e
theorem ndB_ok {cs : List Addr} (h : ndB cs = true) : cs.Nodup := of_decide_eq_true h
end DL
set_option maxRecDepth 100000
set_option maxHeartbeats 4000000
namespace DL
open PySem PySem.Spec PyProof.Rows L2
def gTIndex : D → List D → Rs
  | .tup ds, [.str z] => match strs? ds with
    | some ys => match ys.findIdx? (· == z) with
      | some j => .val (.int (j : Nat))
      | none => .bad
    | none => .bad
  | _, _ => .bad
theorem vs_tindex {X : Cx} : MtS X "tuple.index" gTIndex := by
  refine ⟨_, mt_tup_index, fun F H x d vs ds Q s rx rv q => ?_⟩
  cases d with
  | tup es =>
    match vs, ds, rv with
    | [], [], _ => exact q.elim
    | v :: v2 :: vs, d :: d2 :: ds, _ => cases d <;> exact q.elim
    | [v], [d], rv =>
      cases d with
      | str z =>
        replace q : ResOk X.K F H (match strs? es with
          | some ys => match ys.findIdx? (· == z) with
            | some j => .val (.int (j : Nat))
            | none => .bad
          | none => .bad) Q := q
        split at q
        · rename_i ys e1
          split at q
          · rename_i j e2
            obtain ⟨a, xs, ea, h, r⟩ := rw_tup rx
            have ex := strs_ok r e1
            subst ex ea
            obtain ⟨hj, h1, h2⟩ := List.findIdx?_eq_some_iff_getElem.mp e2
            refine ⟨a, ys, z, j, rfl, by rw [rw_str rv.1], (h.mono s).sq, by rw [List.getElem?_eq_getElem hj, beq_iff_eq.mp h1], fun m hm hz => ?_, q _ rfl⟩
            have hml : m < ys.length := by omega
            rw [List.getElem?_eq_getElem hml] at hz
            have := h2 m hm
            rw [Option.some.inj hz] at this
            simp at this
          · exact q.elim
        · exact q.elim
      | _ => exact q.elim
  | _ => exact q.elim
def blsX? : List D → Option (List Bool)
  | [] => some []
  | .bl x :: ds => con2 (some x) (blsX? ds)
  | _ :: _ => none
theorem blsX_map {ys : List Bool} : blsX? (ys.map D.bl) = some ys := by
  induction ys with
  | nil => rfl
  | cons y ys ih =>
    show con2 (some y) (blsX? (ys.map D.bl)) = _
    rw [ih]
    rfl
theorem blsX_ok {K : PySem.W.Frag} {F : Hp} : ∀ {vs : List V} {ds : List D} {ys : List Bool}, RDs K F vs ds → blsX? ds = some ys → vs = ys.map V.bl
  | [], [], ys, _, h => by cases h; rfl
  | [], _ :: _, _, r, _ => r.elim
  | _ :: _, [], _, r, _ => r.elim
  | v :: vs, d :: ds, ys, r, h => by
    cases d with
    | bl b =>
      obtain ⟨y, zs, e1, e2, e3⟩ := con2_some (show con2 (some b) (blsX? ds) = some ys from h)
      cases e1
      subst e3
      rw [blsX_ok r.2 e2, show v = .bl b from r.1]
      rfl
    | _ => cases h
def gLIndex : D → List D → Rs
  | .lst ds, [.bl z] => match blsX? ds with
    | some ys => match ys.findIdx? (· == z) with
      | some j => .val (.int (j : Nat))
      | none => .bad
    | none => .bad
  | _, _ => .bad
def gLCount : D → List D → Rs
  | .lst ds, [.bl z] => match blsX? ds with
    | some ys => .val (.int (ys.countP (· == z) : Nat))
    | none => .bad
  | _, _ => .bad
theorem flat_blsX {ys : List Bool} : (ys.map V.bl).all flatV = true := by
  rw [List.all_eq_true]
  intro v hv
  obtain ⟨b, _, rfl⟩ := List.mem_map.mp hv
  rfl
theorem eqV_bl {a b : Bool} : eqV (.bl a) (.bl b) = (a == b) := by cases a <;> cases b <;> rfl
theorem mt_countF {X : Cx} : MtR X "list.count" (fun x xs H Q => ∃ (a : Addr) (ys : List Bool) (z : Bool), x = .ref a ∧ xs = [.bl z] ∧ SqL X.K H a (ys.map V.bl) ∧ Q (.int (ys.countP (· == z) : Nat)) H) := by
  intro pins s σ H x xs v us Q I rx rxs h
  obtain ⟨a, ys, z, rfl, rfl, hs, q⟩ := h
  cases rx
  cases rxs with
  | cons ry rt =>
    rename_i uy ut
    cases rt
    obtain ⟨its, rv, ⟨⟨cls, dd, data, sl⟩, n, ho, hc, hdn, hd⟩, hlen⟩ := I.list hs
    simp only at hc hd
    subst hc hd
    refine call_meets PySem.F.slot_list_count ⟨_, ho, rfl⟩ PySem.F.entry_list_count (PySem.F.args_list_count_2 _ _)
      (SeqAt.list_countAt a its.toArray n dd sl uy (eqU (.bl z))) ⟨ho, fun u' hu' => mem_eqAt ry rfl rv flat_blsX u' (by simpa using hu'), ?_⟩
    have key : ∀ {xs : List Bool} {us : List Value}, Vals (xs.map V.bl) us → us.countP (eqU (.bl z)) = xs.countP (· == z) := by
      intro xs
      induction xs with
      | nil => intro us r; cases r; rfl
      | cons x xs ih =>
        intro us r
        cases r with
        | cons r1 r2 =>
          rw [List.countP_cons, List.countP_cons, ih r2, eqU_of r1 rfl, eqV_bl]
    have ec : its.toArray.toList.countP (eqU (.bl z)) = ys.countP (· == z) := key rv
    refine ⟨.int (ys.countP (· == z) : Nat), H, I.tok _, ⟨s.toks, ?_⟩, q⟩
    show Value.int ((its.toArray.toList.countP (eqU (.bl z)) : Nat) : Int) s.toks = Value.int ((ys.countP (· == z) : Nat) : Int) s.toks
    rw [ec]
theorem vs_lcount {X : Cx} : MtS X "list.count" gLCount := by
  refine ⟨_, mt_countF, fun F H x d vs ds Q s rx rv q => ?_⟩
  cases d with
  | lst es =>
    match vs, ds, rv with
    | [], [], _ => exact q.elim
    | v :: v2 :: vs, d :: d2 :: ds, _ => cases d <;> exact q.elim
    | [v], [d], rv =>
      cases d with
      | bl z =>
        replace q : ResOk X.K F H (match blsX? es with
          | some ys => .val (.int (ys.countP (· == z) : Nat))
          | none => .bad) Q := q
        split at q
        · rename_i ys e1
          obtain ⟨a, xs, ea, h, r⟩ := rw_lst s rx
          have ex := blsX_ok r e1
          subst ex ea
          exact ⟨a, ys, z, rfl, by rw [rw_bl rv.1], SqL.of h, q _ rfl⟩
        · exact q.elim
      | _ => exact q.elim
  | _ => exact q.elim
theorem vs_lindex {X : Cx} : MtS X "list.index" gLIndex := by
  refine ⟨_, mt_index, fun F H x d vs ds Q s rx rv q => ?_⟩
  cases d with
  | lst es =>
    match vs, ds, rv with
    | [], [], _ => exact q.elim
    | v :: v2 :: vs, d :: d2 :: ds, _ => cases d <;> exact q.elim
    | [v], [d], rv =>
      cases d with
      | bl z =>
        replace q : ResOk X.K F H (match blsX? es with
          | some ys => match ys.findIdx? (· == z) with
            | some j => .val (.int (j : Nat))
            | none => .bad
          | none => .bad) Q := q
        split at q
        · rename_i ys e1
          split at q
          · rename_i j e2
            obtain ⟨a, xs, ea, h, r⟩ := rw_lst s rx
            have ex := blsX_ok r e1
            subst ex ea
            obtain ⟨hj, h1, h2⟩ := List.findIdx?_eq_some_iff_getElem.mp e2
            refine ⟨a, ys.map V.bl, .bl z, j, .bl ys[j], rfl, by rw [rw_bl rv.1], SqL.of h, rfl, flat_blsX, by rw [List.getElem?_map, List.getElem?_eq_getElem hj]; rfl, by rw [eqV_bl]; exact h1, fun m z' hm hz => ?_, q _ rfl⟩
            have hml : m < ys.length := by omega
            rw [List.getElem?_map, List.getElem?_eq_getElem hml] at hz
            cases hz
            rw [eqV_bl]
            have := h2 m hm
            simpa using this
          · exact q.elim
        · exact q.elim
      | _ => exact q.elim
  | _ => exact q.elim
end DL
set_option maxRecDepth 100000
set_option maxHeartbeats 4000000
namespace DL
open PySem PySem.Spec PyProof.Rows L2
theorem SqX.is {X : Cx} {pins : List (Addr × Obj)} {σ : L2.St} {H : Hp} {s : Shared} {a : Addr} {xs : List V} (I : Inv X pins σ H s) (h : SqX X.K H a xs) : s.TypeIs (.ref a) "tuple" ∧ ∀ b, Value.ref a = .ref b → ∃ ob, s.heap.get? b = some ob ∧ ob.dict = none := by
  obtain ⟨its, _, ⟨ob, ho, hc, _⟩, _⟩ := I.tuple h.sq
  refine ⟨⟨ob, ho, hc⟩, fun b e => ?_⟩
  cases e
  rcases h with ⟨o, h, hd⟩ | ⟨o, _, _, hk, _, hd, _⟩
  · obtain ⟨e, _⟩ := I.hok a _ h
    exact ⟨o, e, hd⟩
  · exact ⟨o, I.kIn a o hk, hd⟩
def fMtT (g : D → List D → Rs) (fo : FE) (fa : FA) : FE := fun st => (fo st).bind fun ir s1 => match view s1 ir with
  | some (.tup _) => (fa s1).bind fun its s2 => (match view s2 ir, views s2 its with
    | some d, some ds => (g d ds).out s2
    | _, _ => .bad)
  | _ => .bad
section
variable {X : Cx} {W : WX} {o e : Expr} {es : List Expr} {fo : FE} {fa : FA} {name : Str} {apos cpos : Pos} {id : String} {g : D → List D → Rs}
theorem pe_bmT {to : TE} {t : TA} {r : V → List V → Hp → VK → Prop} (slot : Slot "tuple" name id) (hty : typeOf (.builtin id) = pure (.type "method_descriptor")) (hm : MtR X id r) (ho : PE X o to) (ha : PA X (e :: es) t)
    (hbase : attributeBase o name X.env (eval o X.env) = eval o X.env := by rfl)
    (hfew : ((backTo cpos (starEach (e :: es) X.env)).all (fun x => !x.1) && (backToKw cpos (keywordEach [] X.env)).all (fun x => x.1.isSome)
      && decide ((e :: es).length + ([] : List Keyword).length + (if ([] : List Keyword).isEmpty then 0 else 1) < 30)) = true := by rfl)
    (hline : (apos.endLine == cpos.line) = true := by rfl) (hs : starEach (e :: es) X.env = (false, eval e X.env) :: starEach es X.env := by rfl) (hplain : (backTo cpos (starEach es X.env)).any (·.1) = false := by rfl) :
    PE X (.Call (.Attribute o name apos) (e :: es) [] cpos) (fun σ H Q => to σ H fun x H1 => (∃ a xs, x = .ref a ∧ SqX X.K H1 a xs) ∧ t σ H1 fun vs H2 => r x vs H2 Q) := by
  refine ⟨fun pins s σ H Q I h => ?_⟩
  refine wpAny_Call_method_late hbase hfew hline rfl (thn (ho.run pins s σ H _ I h) fun v s1 ⟨x, H1, I1, r1, ⟨a, xs, ex, hq⟩, q1⟩ => ?_)
  subst ex
  obtain rfl : v = Value.ref a := r1
  obtain ⟨h1, h2⟩ := SqX.is I1 hq
  refine ⟨"tuple", id, PySem.F.plainAttrs_tuple, slot, hty, h1, h2, ?_⟩
  have hA := ha.run cpos pins s1 σ H1 _ I1 q1
  rw [hs] at hA ⊢
  refine Calls.callWith_builtin (by show (false || (backTo cpos (starEach es X.env)).any (·.1)) = false; rw [hplain] <;> rfl) (Calls.evalArgs_plain ?_)
  exact thn hA fun us s2 ⟨vs, H2, I2, r2, q2⟩ => hm pins s2 σ H2 (.ref a) vs (.ref a) us Q I2 rfl r2 q2
theorem de_mtt (slot : Slot "tuple" name id) (hty : typeOf (.builtin id) = pure (.type "method_descriptor")) (hm : MtS X id g) (ho : DE X W o fo) (ha : DA X W (e :: es) fa)
    (hbase : attributeBase o name X.env (eval o X.env) = eval o X.env := by rfl)
    (hfew : ((backTo cpos (starEach (e :: es) X.env)).all (fun x => !x.1) && (backToKw cpos (keywordEach [] X.env)).all (fun x => x.1.isSome)
      && decide ((e :: es).length + ([] : List Keyword).length + (if ([] : List Keyword).isEmpty then 0 else 1) < 30)) = true := by rfl)
    (hline : (apos.endLine == cpos.line) = true := by rfl) (hs : starEach (e :: es) X.env = (false, eval e X.env) :: starEach es X.env := by rfl) (hplain : (backTo cpos (starEach es X.env)).any (·.1) = false := by rfl) :
    DE X W (.Call (.Attribute o name apos) (e :: es) [] cpos) (fMtT g fo fa) := by
  obtain ⟨r, h1, h2⟩ := hm
  refine PE.conseq (pe_bmT slot hty h1 ho ha.pa hbase hfew hline hs hplain) fun σ H Q h => ?_
  obtain ⟨F, st, R, g0⟩ := h
  refine ⟨F, st, R, (Go.bind g0).imp fun ir F1 H1 s1 p1 g1 x rx => ?_⟩
  split at g1
  · rename_i ds0 ev
    obtain ⟨a, xs, ex, hq, _⟩ := rw_tup (view_ok p1.rel rx ev)
    refine ⟨⟨a, xs, ex, hq.mono p1.rel.sub⟩, F1, s1, p1.rel, ((Go.bind g1).shift p1 fun its F2 H2 s2 p2 p02 g2 => g2).imp fun its F2 H2 s2 p2 g2 vs r2 => ?_⟩
    split at g2
    · rename_i d ds e1 e2
      exact h2 F2 H2 x d vs ds Q p2.rel.sub (view_ok p2.rel (rx.step p2) e1) (views_ok p2.rel r2 e2) (res_ok (p1.trans p2) g2)
    · exact g2.elim
  · exact g1.elim
end
theorem mtt_go {g : D → List D → Rs} {fo : FE} {fa : FA} {st s1 s2 : Sls} {ir : Itm} {its : List Itm} {xs : List D} {ds : List D} (e1 : fo st = .ok ir s1) (v : view s1 ir = some (.tup xs)) (e2 : fa s1 = .ok its s2) (v1 : view s2 ir = some (.tup xs)) (v2 : views s2 its = some ds) :
    fMtT g fo fa st = (g (.tup xs) ds).out s2 := by
  unfold fMtT
  rw [e1]
  simp only [Ot.bind, v, e2, v1, v2]
end DL
set_option maxRecDepth 100000
set_option maxHeartbeats 4000000
namespace DL
open PySem PySem.Spec PyProof.Rows L2 PySem.SeqAt
theorem tuple_eq_declines_dict (l b : Addr) (items : Array Value) (n : Nat) (dd : Option Addr) (sl : Array (Option Value)) (o : Obj) (ho : o.cls = .type "dict") :
    Meets (Builtin.«tuple.__eq__» ⟨[.ref l, .ref b], []⟩) (fun _ R s => s.heap.get? l = some { cls := .type "tuple", dict := dd, data := .seq items n, slots := sl } ∧ s.heap.get? b = some o ∧ R (.ok (.ret .notImplemented)) s) :=
  .of_wp fun prog w A R s h => by obtain ⟨hp, g, d, tk, os⟩ := s; obtain ⟨c, d2, dt, sl2⟩ := o; simp only at ho; subst ho; obtain ⟨hl, hb, h⟩ := h; have f1 := PySem.F.sub_dict_tuple; wp_walk using wpAny_loadPart' hl, wpAny_loadPart' hb; exact ⟨_, rfl, h⟩
section
variable {A : Around} {s : Shared}
theorem RcAt.tuple_dict {l b : Addr} {items : Array Value} {o : Obj} (hl : s.heap.IsTuple l items) (hb : s.heap.get? b = some o) (ho : o.cls = .type "dict") (hu : A.units < cLine) : RcAt A s (.ref l) (.ref b) false := fun prog w E Q h => by
  obtain ⟨⟨cls, dd, data, sl⟩, hl', hc, n, hd⟩ := id hl
  simp only at hc hd
  subst hc hd
  have hne : l ≠ b := fun e => by
    subst e
    rw [hl'] at hb
    cases hb
    exact absurd ho (by simp)
  have tb : s.TypeIs (.ref b) "dict" := ⟨_, hb, ho⟩
  refine rc_eq_decline_or (k := false) ⟨_, hl', rfl⟩ tb (by decide) PySem.F.sub_dict_tuple PySem.F.slot_tuple_eq PySem.F.slot_dict_eq_refl
    (fun _ hq => call_meets PySem.F.slot_tuple_eq ⟨_, hl', rfl⟩ PySem.F.entry_tuple_eq (PySem.F.args_tuple_eq_2 _ _) (tuple_eq_declines_dict l b items n dd sl o ho) ⟨hl', hb, hq⟩)
    (fun Q' hq => wpAny_call_entry PySem.F.slot_dict_eq_refl tb PySem.F.entry_dict_eq ?_ (PySem.F.args_dict_eq_2 _ _))
    (fun _ hq => wpAny_isSame_ref_other' hne hl' hb (by rw [ho]; simp) hq) (.inr hu) h
  show wpAny _ _ (Builtin.Dict.dictSlotArgs "__eq__" ⟨[.ref b, .ref l], []⟩ >>= _) _ _ s
  refine wpAny_bind ?_
  unfold Builtin.Dict.dictSlotArgs
  refine wpAny_bind (wpAny_notOrdered_dict tb ?_)
  show wpAny _ _ (pure (Value.ref b, Value.ref l)) _ _ s
  refine wpAny_pure ?_
  refine wpAny_bind (wpAny_isInstance (T := "tuple") ⟨_, hl', rfl⟩ PySem.F.sub_tuple_dict ?_)
  simp only [Bool.not_false, if_true]
  refine wpAny_bind (wpAny_rule ?_)
  refine wpAny_bind (wpAny_pure ?_)
  refine wpAny_pure ?_
  exact ⟨_, rfl, hq⟩
theorem EqAt.tuple_dict {l b : Addr} {items : Array Value} {o : Obj} (hl : s.heap.IsTuple l items) (hb : s.heap.get? b = some o) (ho : o.cls = .type "dict") (hu : A.units < cLine) : EqAt A s (.ref l) (.ref b) false := by
  refine .of_refs (fun e => ?_) (RcAt.tuple_dict hl hb ho hu)
  subst e
  obtain ⟨o2, ho2, hc2, _⟩ := hl
  rw [hb] at ho2
  cases ho2
  rw [ho] at hc2
  exact absurd hc2 (by simp)
end
def isDic : D → Bool
  | .dic _ _ => true
  | _ => false
def isTup : D → Bool
  | .tup _ => true
  | _ => false
def gNotInD (x y : D) : Rs := if isDic x then (match y with
    | .tup ds => if ds.all isTup then .val (.bl true) else .bad
    | _ => .bad) else gNotIn x y
section
variable {X : Cx}
theorem ne_all {pins : List (Addr × Obj)} {σ : L2.St} {H : Hp} {s : Shared} {A : Around} {b : Addr} {o : Obj} (I : Inv X pins σ H s) (hb : s.heap.get? b = some o) (ho : o.cls = .type "dict") (hA : A.units < cLine) : ∀ (ds : List D) (vs : List V) (us : List Value), RDs X.K H vs ds → Vals vs us → ds.all isTup = true → ∀ u ∈ us, SeqAt.EqAt A s u (.ref b) false
  | [], vs, us, h, r, o => by
    cases vs with
    | nil =>
      cases r
      exact fun u z => by cases z
    | cons _ _ => exact h.elim
  | z :: ds, vs, us, h, r, o => by
    cases vs with
    | nil => exact h.elim
    | cons v vs =>
      cases r with
      | cons r1 r2 =>
        rename_i u us
        have o : isTup z = true ∧ ds.all isTup = true := by simpa using o
        intro u' hu'
        rcases List.mem_cons.mp hu' with e | hu'
        · subst e
          cases z with
          | tup es =>
            obtain ⟨a, xs, rfl, h1, _⟩ := h.1
            cases r1
            obtain ⟨its, rv, pl, _⟩ := I.tuple h1.sq
            exact EqAt.tuple_dict pl hb ho hA
          | _ => simp [isTup] at o
        · exact ne_all I hb ho hA ds vs us h.2 r2 o.2 u' hu'
theorem os_notInD (hu : X.A.units + 64 < cLine) : OpS X (compareOp .NotIn) gNotInD := by
  obtain ⟨R, h1, h2⟩ := os_notIn hu
  refine ⟨fun x y H Q => (∃ p kvs q xs ds, x = .ref p ∧ H p = some (.dK kvs) ∧ y = .ref q ∧ SqT X.K H q xs ∧ RDs X.K H xs ds ∧ ds.all isTup = true ∧ Q (.bl true) H) ∨ R x y H Q, ?_, ?_⟩
  · rintro pins s σ H x y v u Q I rx ry (⟨p, kvs, q, xs, ds, rfl, hp, rfl, hq, r, a, z⟩ | q)
    · cases rx
      cases ry
      obtain ⟨its, rv, pl, hz⟩ := I.tuple hq
      obtain ⟨_, _, vs, kv, o, es, ep, ho, hx, hdat, hk, _⟩ := (show ObjOk X.prog X.w H s.heap p (.dK kvs) from I.hok p _ hp)
      refine SeqAt.notIn_tupleAt (fun _ => false) pl (fun w hw => ne_all I ho hx.1 (by show X.A.units + 1 < cLine; omega) ds xs its r rv a w (by simpa using hw)) ⟨.bl _, H, I, rfl, ?_⟩
      rw [show its.toArray.any (fun _ => false) = false by simp]
      exact z
    · exact h1 pins s σ H x y v u Q I rx ry q
  · intro F H x y dx dy Q s rx ry q
    simp only [gNotInD] at q
    split at q
    · rename_i c
      cases dx with
      | dic ks vs =>
        obtain ⟨p, kvs, e, h, _⟩ := rx.rd s
        cases dy with
        | tup ds =>
          simp only at q
          split at q
          · rename_i c2
            obtain ⟨a, xs, e2, h2, r⟩ := rw_tup ry
            exact .inl ⟨p, kvs, a, xs, ds, e, h, e2, (h2.mono s).sq, RDs.mono s _ _ r, c2, q _ rfl⟩
          · exact q.elim
        | _ => exact q.elim
      | _ => simp [isDic] at c
    · exact .inr (h2 F H x y dx dy Q s rx ry q)
end
end DL
set_option maxRecDepth 100000
set_option maxHeartbeats 0
namespace Yd
open PySem PySem.Spec PyProof.Rows L2 DL
/-! ### the functions on data -/
noncomputable section
def f_l_draw (K : PySem.W.Frag) : FS :=
  (fSeq (fIfS (fTest (fBin gGt (fBin gIx (fName 0) (fC (.int 1))) (fC (.int 0))))
  (fSeq (fAsgT (fCallB (g2 gDivmod) (fCons (fBin gIx (fName 0) (fC (.int 1))) (fCons (fName 1) fNil))) (hTup 2 (hCons (hSub (fName 0) (fC (.int 1))) (hCons (setSl 2) hNil))))
  (fRet (fName 2)))
  fSkip)
  (fSeq (fAsgT (fBin gAdd (fBin gIx (fName 0) (fC (.int 2))) (fC (.int 1))) (hSub (fName 0) (fC (.int 2))))
  (fSeq (fAsgT (fBin gMod (fCallB (g1 gInt) (fCons (fBin gAdd (fBin gAdd (fBin gMul (fBin gIx (fName 0) (fC (.int 0))) (fC (.int 48271))) (fBin gMul (fC (.int 11)) (fBin gPow (fBin gIx (fName 0) (fC (.int 2))) (fC (.int 2))))) (fC (.int 17))) fNil)) (fC (.int 2147483563))) (hSub (fName 0) (fC (.int 0))))
  (fRet (fBin gMod (fCallB (g1 gInt) (fCons (fBin gDiv (fBin gIx (fName 0) (fC (.int 0))) (fC (.int 256))) fNil)) (fName 1))))))
def g_l_draw (K : PySem.W.Frag) : FG := gOf (((([] ++ ([2] ++ [])) ++ []) ++ []) ++ ([] ++ ([] ++ []))) 3 (f_l_draw K)
def e1_l_word (K : PySem.W.Frag) : FE :=
  (fBin gIx (fName 1) (fCallA (callA (g_l_draw K) [.arg 0, .arg 1]) (fCons (fName 0) (fCons (fC (.int 36)) fNil))))
def f_l_word (K : PySem.W.Frag) : FS :=
  (fSeq (fIfS (fTest (fBin gEq (fCallA (callA (g_l_draw K) [.arg 0, .arg 1]) (fCons (fName 0) (fCons (fC (.int 6)) fNil))) (fC (.int 0))))
  (fRet (fBin gIx (fLst (fCons (fC (.str "tie")) (fCons (fC (.str "oneway")) (fCons (fC (.str "a")) (fCons (fC (.str "z9")) (fCons (fC (.str "none")) (fCons (fC (.str "yard")) (fCons (fC (.str "ab")) (fCons (fC (.str "x0000000")) fNil))))))))) (fCallA (callA (g_l_draw K) [.arg 0, .arg 1]) (fCons (fName 0) (fCons (fC (.int 8)) fNil)))))
  fSkip)
  (fSeq (fAsgT (fTup (fCons (fC (.str "abcdefghijklmnopqrstuvwxyz0123456789")) (fCons (fBin gIx (fLst (fCons (fC (.int 1)) (fCons (fC (.int 2)) (fCons (fC (.int 8)) fNil)))) (fCallA (callA (g_l_draw K) [.arg 0, .arg 1]) (fCons (fName 0) (fCons (fC (.int 3)) fNil)))) fNil))) (hTup 2 (hCons (setSl 1) (hCons (setSl 2) hNil))))
  (fSeq (fAsg 3 (fCallA (callA (g_l_draw K) [.arg 0, .arg 1]) (fCons (fName 0) (fCons (fName 2) fNil))))
  (fRet (fBin gAdd (fBin gIx (fName 1) (fCallA (callA (g_l_draw K) [.arg 0, .arg 1]) (fCons (fName 0) (fCons (fC (.int 26)) fNil)))) (fMtV "str" gJoin (fC (.str "")) (fCons (fLc (fWkRng (fCons (fName 3) fNil)) (setSl 4) fYes (e1_l_word K) [4]) fNil)))))))
def g_l_word (K : PySem.W.Frag) : FG := gOf (([] ++ []) ++ (([1] ++ ([2] ++ [])) ++ ([3] ++ []))) 5 (f_l_word K)
def s1_l_thing (K : PySem.W.Frag) : FS :=
  (fAsg 2 (fLst (fCons (fC (.str "")) (fCons (fC (.str "A")) (fCons (fC (.str "aB")) (fCons (fC (.str "9a")) (fCons (fC (.str "a b")) (fCons (fC (.str "a-b")) (fCons (fC (.str "abcdefghi")) (fCons (fC (.str " a")) (fCons (fC (.str "a ")) (fCons (fC (.str "a\n")) (fCons (fC .non) (fCons (fC (.bl true)) (fCons (fC (.int 0)) (fCons (fC (.int 7)) (fCons (fTup (fCons (fName 1) fNil)) (fCons (fLst (fCons (fName 1) fNil)) (fCons fDict0 fNil)))))))))))))))))))
def s2_l_thing (K : PySem.W.Frag) : FS :=
  (fAsg 2 (fBin gAdd (fName 2) (fLst (fCons (fC (.str "_")) (fCons (fC (.str "a_b")) (fCons (fTup fNil) (fCons (fMtV "str" gUpper (fName 1) fNil) (fCons (fBin gAdd (fName 1) (fC (.str "!"))) (fCons (fBin gAdd (fC (.str "1")) (fName 1)) (fCons (fBin gAdd (fName 1) (fC (.str "\n"))) fNil))))))))))
def s3_l_thing (K : PySem.W.Frag) : FS :=
  (fPar [3, 4] (fCons (fCallA (callA (g_l_draw K) [.arg 0, .arg 1]) (fCons (fName 0) (fCons (fC (.int 2)) fNil))) (fCons (fCallA (callA (g_l_draw K) [.arg 0, .arg 1]) (fCons (fName 0) (fCons (fC (.int 24)) fNil))) fNil)))
def s4_l_thing (K : PySem.W.Frag) : FS :=
  (fRet (fIf (fTest (fBin gEq (fName 3) (fC (.int 0)))) (fName 1) (fBin gIx (fName 2) (fName 4))))
def f_l_thing (K : PySem.W.Frag) : FS :=
  (fSeq (s1_l_thing K)
  (fSeq (s2_l_thing K)
  (fSeq (s3_l_thing K)
  (s4_l_thing K))))
def g_l_thing (K : PySem.W.Frag) : FG := gOf ([2] ++ ([2] ++ ([3, 4] ++ []))) 5 (f_l_thing K)
def e1_is_name (K : PySem.W.Frag) : FE :=
  (fOrV (fBin gIn (fName 1) (fC (.str "abcdefghijklmnopqrstuvwxyz"))) (fBin gIn (fName 1) (fC (.str "0123456789"))))
def f_is_name (K : PySem.W.Frag) : FS :=
  (fSeq (fIfS (fOrT (fNotT (fTest (fIsI (kitF ["str"] [((He.ga K "Tie"), false)]) (fName 0)))) (fNotT (fTest (fChain gLe gLe (fC (.int 1)) (fCallB (g1 gLen) (fCons (fName 0) fNil)) (fC (.int 8))))))
  (fRet (fC (.bl false)))
  fSkip)
  (fRet (fAndV (fBin gIn (fBin gIx (fName 0) (fC (.int 0))) (fC (.str "abcdefghijklmnopqrstuvwxyz"))) (fCallB (g1 gAll) (fCons (fLc (fWkSeq [] (fName 0)) (setSl 1) fYes (e1_is_name K) [1]) fNil)))))
def g_is_name (K : PySem.W.Frag) : FG := gOf (([] ++ []) ++ []) 2 (f_is_name K)
def f_check_name (K : PySem.W.Frag) : FS :=
  (fIfS (fNotT (fTest (fCallA (callA (g_is_name K) [.arg 0]) (fCons (fName 0) fNil))))
  (fRaise (He.ga K "InvalidName") "given" (fName 0))
  fSkip)
def g_check_name (K : PySem.W.Frag) : FG := gOf ([] ++ []) 1 (f_check_name K)
def f_Tie_init (K : PySem.W.Frag) : FS :=
  (fSeq (fExpr (fCallA (callA (g_check_name K) [.arg 0]) (fCons (fName 1) fNil)))
  (fSeq (fExpr (fCallA (callA (g_check_name K) [.arg 0]) (fCons (fName 2) fNil)))
  (fSeq (fIfS (fAndT (fTest (fBin gIsNot (fName 3) (fC (.bl true)))) (fTest (fBin gIsNot (fName 3) (fC (.bl false)))))
  (fRaise (He.ga K "InvalidFlag") "given" (fName 3))
  fSkip)
  (fSeq (fIfS (fTest (fBin gEq (fName 1) (fName 2)))
  (fRaise (He.ga K "InvalidEnd") "given" (fName 2))
  fSkip)
  (fSeq (fSetF (He.ga K "Tie") "ends" (fTup (fCons (fName 1) (fCons (fName 2) fNil))) (fName 0))
  (fSetF (He.ga K "Tie") "single" (fName 3) (fName 0)))))))
def g_Tie_init (K : PySem.W.Frag) : FG := gOf ([] ++ ([] ++ (([] ++ []) ++ (([] ++ []) ++ ([] ++ []))))) 4 (f_Tie_init K)
def s1_l_error (K : PySem.W.Frag) (p : Pn) : FS :=
  (fAsg 1 (fLst (fCons (fIsX p (tabX [((He.ga K "InvalidName"), true), ((He.ga K "InvalidFlag"), false), ((He.ga K "InvalidEnd"), false)]) 0) (fCons (fIsX p (tabX [((He.ga K "InvalidName"), false), ((He.ga K "InvalidFlag"), true), ((He.ga K "InvalidEnd"), false)]) 0) (fCons (fIsX p (tabX [((He.ga K "InvalidName"), false), ((He.ga K "InvalidFlag"), false), ((He.ga K "InvalidEnd"), true)]) 0) fNil)))))
def s2_l_error (K : PySem.W.Frag) (p : Pn) : FS :=
  (fAsg 2 (fLst (fCons (fIsX p (tabX [((He.ga K "InvalidName"), true), ((He.ga K "InvalidFlag"), true), ((He.ga K "InvalidEnd"), true)]) 0) (fCons (fIsX p (tabX [((He.ga K "InvalidName"), false), ((He.ga K "InvalidFlag"), false), ((He.ga K "InvalidEnd"), false)]) 0) (fCons (fIsX p (tabX [((He.ga K "InvalidName"), false), ((He.ga K "InvalidFlag"), false), ((He.ga K "InvalidEnd"), false)]) 0) fNil)))))
def s3_l_error (K : PySem.W.Frag) (p : Pn) : FS :=
  (fAsg 3 (fLst (fCons (fIsX p (tabX [((He.ga K "InvalidName"), true), ((He.ga K "InvalidFlag"), true), ((He.ga K "InvalidEnd"), true)]) 0) (fCons (fIsX p (tabX [((He.ga K "InvalidName"), false), ((He.ga K "InvalidFlag"), false), ((He.ga K "InvalidEnd"), false)]) 0) (fCons (fIsX p (tabX [((He.ga K "InvalidName"), false), ((He.ga K "InvalidFlag"), false), ((He.ga K "InvalidEnd"), false)]) 0) fNil)))))
def s4_l_error (K : PySem.W.Frag) (p : Pn) : FS :=
  (fRet (fTup (fCons (fC (.str "odd")) (fCons (fC (.str "")) fNil))))
def s5_l_error (K : PySem.W.Frag) (p : Pn) : FS :=
  (fIfS (fOrT (fTest (fBin gNe (fMtV "list" gLCount (fName 1) (fCons (fC (.bl true)) fNil)) (fC (.int 1)))) (fOrT (fTest (fBin gNe (fName 2) (fLst (fCons (fC (.bl true)) (fCons (fC (.bl false)) (fCons (fC (.bl false)) fNil)))))) (fTest (fBin gNe (fName 3) (fName 2)))))
  (s4_l_error K p)
  fSkip)
def s6_l_error (K : PySem.W.Frag) (p : Pn) : FS :=
  (fRet (fTup (fCons (fBin gIx (fLst (fCons (fC (.str "name")) (fCons (fC (.str "flag")) (fCons (fC (.str "end")) fNil)))) (fMtV "list" gLIndex (fName 1) (fCons (fC (.bl true)) fNil))) (fCons (fCallB (g1 gRepr) (fCons (fXf p (okX [(He.ga K "InvalidName"), (He.ga K "InvalidFlag"), (He.ga K "InvalidEnd")]) "given" 0) fNil)) fNil))))
def f_l_error (K : PySem.W.Frag) (p : Pn) : FS :=
  (fSeq (s1_l_error K p)
  (fSeq (s2_l_error K p)
  (fSeq (s3_l_error K p)
  (fSeq (s5_l_error K p)
  (s6_l_error K p)))))
def g_l_error (K : PySem.W.Frag) (p : Pn) : FG := gOf ([1] ++ ([2] ++ ([3] ++ (([] ++ []) ++ [])))) 4 (f_l_error K p)
def f_Tie_start (K : PySem.W.Frag) : FS :=
  (fRet (fBin gIx (fFld (He.ga K "Tie") "ends" (fName 0)) (fC (.int 0))))
def g_Tie_start (K : PySem.W.Frag) : FG := gOf [] 1 (f_Tie_start K)
def f_Tie_end (K : PySem.W.Frag) : FS :=
  (fRet (fBin gIx (fFld (He.ga K "Tie") "ends" (fName 0)) (fC (.int 1))))
def g_Tie_end (K : PySem.W.Frag) : FG := gOf [] 1 (f_Tie_end K)
def f_Tie_oneway (K : PySem.W.Frag) : FS :=
  (fRet (fFld (He.ga K "Tie") "single" (fName 0)))
def g_Tie_oneway (K : PySem.W.Frag) : FG := gOf [] 1 (f_Tie_oneway K)
def s1_l_heard (K : PySem.W.Frag) : FS :=
  (fAsg 3 (fCallA (makeA (He.ga K "Tie") (g_Tie_init K) [.arg 0, .arg 1, .arg 2, .arg 3]) (fApp (fCons (fName 0) (fCons (fName 1) fNil)) (fCons (fName 2) fNil))))
def b2_l_heard (K : PySem.W.Frag) : FS :=
  (s1_l_heard K)
def x3_l_heard (K : PySem.W.Frag) (p : Pn) : FE :=
  (fCallX p (fun p => g_l_error K p) 4)
def s4_l_heard (K : PySem.W.Frag) : FS :=
  (fTryX (okX [(He.ga K "InvalidName"), (He.ga K "InvalidFlag"), (He.ga K "InvalidEnd")]) 4 (b2_l_heard K) (fun p => (x3_l_heard K p)))
def s5_l_heard (K : PySem.W.Frag) : FS :=
  (fRet (fTup (fCons (fC (.str "tie")) (fCons (fCallB (g1 gRepr) (fCons (fTup (fCons (fProp (He.ga K "Tie") (g_Tie_start K) (fName 3)) (fCons (fProp (He.ga K "Tie") (g_Tie_end K) (fName 3)) (fCons (fProp (He.ga K "Tie") (g_Tie_oneway K) (fName 3)) fNil)))) fNil)) fNil))))
def f_l_heard (K : PySem.W.Frag) : FS :=
  (fSeq (s4_l_heard K)
  (s5_l_heard K))
def g_l_heard (K : PySem.W.Frag) : FG := gOf (([3] ++ [4]) ++ []) 5 (f_l_heard K)
def s1_l_name (K : PySem.W.Frag) : FS :=
  (fAsg 1 (fC (.str "abcdefghijklmnopqrstuvwxyz0123456789")))
def s2_l_name (K : PySem.W.Frag) : FS :=
  (fRet (fC (.bl false)))
def s3_l_name (K : PySem.W.Frag) : FS :=
  (fIfS (fOrT (fNotT (fTest (fIsI (kitF ["str"] [((He.ga K "Tie"), false)]) (fName 0)))) (fNotT (fTest (fChain gLe gLe (fC (.int 1)) (fCallB (g1 gLen) (fCons (fName 0) fNil)) (fC (.int 8))))))
  (s2_l_name K)
  fSkip)
def e4_l_name (K : PySem.W.Frag) : FE :=
  (fBin gIn (fName 2) (fName 1))
def s5_l_name (K : PySem.W.Frag) : FS :=
  (fRet (fAndV (fBin gIn (fBin gIx (fName 0) (fC (.int 0))) (fSl gSl (fName 1) fNoPart (fPart (fC (.int 26))))) (fCallB (g1 gAll) (fCons (fLc (fWkSeq [] (fName 0)) (setSl 2) fYes (e4_l_name K) [2]) fNil))))
def f_l_name (K : PySem.W.Frag) : FS :=
  (fSeq (s1_l_name K)
  (fSeq (s3_l_name K)
  (s5_l_name K)))
def g_l_name (K : PySem.W.Frag) : FG := gOf ([1] ++ (([] ++ []) ++ [])) 3 (f_l_name K)
def s1_l_due (K : PySem.W.Frag) : FS :=
  (fRet (fTup (fCons (fC (.str "name")) (fCons (fCallB (g1 gRepr) (fCons (fName 0) fNil)) fNil))))
def s2_l_due (K : PySem.W.Frag) : FS :=
  (fIfS (fNotT (fTest (fCallA (callA (g_l_name K) [.arg 0]) (fCons (fName 0) fNil))))
  (s1_l_due K)
  fSkip)
def s3_l_due (K : PySem.W.Frag) : FS :=
  (fRet (fTup (fCons (fC (.str "name")) (fCons (fCallB (g1 gRepr) (fCons (fName 1) fNil)) fNil))))
def s4_l_due (K : PySem.W.Frag) : FS :=
  (fIfS (fNotT (fTest (fCallA (callA (g_l_name K) [.arg 0]) (fCons (fName 1) fNil))))
  (s3_l_due K)
  fSkip)
def s5_l_due (K : PySem.W.Frag) : FS :=
  (fRet (fTup (fCons (fC (.str "flag")) (fCons (fCallB (g1 gRepr) (fCons (fName 2) fNil)) fNil))))
def s6_l_due (K : PySem.W.Frag) : FS :=
  (fIfS (fAndT (fTest (fBin gIsNot (fName 2) (fC (.bl true)))) (fTest (fBin gIsNot (fName 2) (fC (.bl false)))))
  (s5_l_due K)
  fSkip)
def s7_l_due (K : PySem.W.Frag) : FS :=
  (fRet (fIf (fTest (fBin gEq (fName 0) (fName 1))) (fTup (fCons (fC (.str "end")) (fCons (fCallB (g1 gRepr) (fCons (fName 1) fNil)) fNil))) (fTup (fCons (fC (.str "tie")) (fCons (fCallB (g1 gRepr) (fCons (fTup (fCons (fName 0) (fCons (fName 1) (fCons (fName 2) fNil)))) fNil)) fNil)))))
def f_l_due (K : PySem.W.Frag) : FS :=
  (fSeq (s2_l_due K)
  (fSeq (s4_l_due K)
  (fSeq (s6_l_due K)
  (s7_l_due K))))
def g_l_due (K : PySem.W.Frag) : FG := gOf (([] ++ []) ++ (([] ++ []) ++ (([] ++ []) ++ []))) 3 (f_l_due K)
def s1_l_right (K : PySem.W.Frag) : FS :=
  (fAsg 1 (fLst (fCons (fC (.bl false)) (fCons (fC (.bl true)) (fCons (fC (.bl false)) (fCons (fC (.bl true)) (fCons (fC (.int 1)) (fCons (fC (.int 0)) (fCons (fC .non) (fCons (fC (.str "True")) (fCons (fTup fNil) (fCons (fLst (fCons (fC (.bl true)) fNil)) (fCons (fUn gNeg (fC (.int 1))) (fCons fDict0 fNil))))))))))))))
def s2_l_right (K : PySem.W.Frag) : FS :=
  (fAsg 3 (fCallA (callA (g_l_word K) [.arg 0]) (fCons (fName 0) fNil)))
def s3_l_right (K : PySem.W.Frag) : FS :=
  (fAsg 4 (fIf (fTest (fBin gEq (fCallA (callA (g_l_draw K) [.arg 0, .arg 1]) (fCons (fName 0) (fCons (fC (.int 3)) fNil))) (fC (.int 0)))) (fName 3) (fCallA (callA (g_l_word K) [.arg 0]) (fCons (fName 0) fNil))))
def s4_l_right (K : PySem.W.Frag) : FS :=
  (fPar [5, 6, 7] (fCons (fCallA (callA (g_l_thing K) [.arg 0, .arg 1]) (fCons (fName 0) (fCons (fName 3) fNil))) (fCons (fCallA (callA (g_l_thing K) [.arg 0, .arg 1]) (fCons (fName 0) (fCons (fName 4) fNil))) (fCons (fBin gIx (fName 1) (fCallA (callA (g_l_draw K) [.arg 0, .arg 1]) (fCons (fName 0) (fCons (fC (.int 12)) fNil)))) fNil))))
def s5_l_right (K : PySem.W.Frag) : FS :=
  (fRet (fC (.bl false)))
def s6_l_right (K : PySem.W.Frag) : FS :=
  (fIfS (fTest (fBin gNe (fCallA (callA (g_l_heard K) [.arg 0, .arg 1, .arg 2]) (fCons (fName 5) (fCons (fName 6) (fCons (fName 7) fNil)))) (fCallA (callA (g_l_due K) [.arg 0, .arg 1, .arg 2]) (fCons (fName 5) (fCons (fName 6) (fCons (fName 7) fNil))))))
  (s5_l_right K)
  fSkip)
def b7_l_right (K : PySem.W.Frag) : FS :=
  (fSeq (s2_l_right K)
  (fSeq (s3_l_right K)
  (fSeq (s4_l_right K)
  (s6_l_right K))))
def s8_l_right (K : PySem.W.Frag) : FS :=
  (fFor (fWkRng (fCons (fC (.int 8)) fNil)) (setSl 2) (b7_l_right K))
def s9_l_right (K : PySem.W.Frag) : FS :=
  (fRet (fC (.bl true)))
def f_l_right (K : PySem.W.Frag) : FS :=
  (fSeq (s1_l_right K)
  (fSeq (s8_l_right K)
  (s9_l_right K)))
def g_l_right (K : PySem.W.Frag) : FG := gOf ([1] ++ (([2] ++ ([3] ++ ([4] ++ ([5, 6, 7] ++ ([] ++ []))))) ++ [])) 8 (f_l_right K)
def b1_l_stream (K : PySem.W.Frag) : FS :=
  (fAsg 3 (fBin gMod (fCallB (g1 gInt) (fCons (fBin gAdd (fBin gAdd (fBin gMul (fName 3) (fC (.int 48271))) (fBin gMod (fCallB (g1 gInt) (fCons (fName 4) fNil)) (fC (.int 2147483543)))) (fC (.int 29))) fNil)) (fC (.int 2147483587))))
def f_l_stream (K : PySem.W.Frag) : FS :=
  (fSeq (fAsg 2 (fIf (fTest (fBin gLt (fName 1) (fCallB (g1 gLen) (fCons (fName 0) fNil)))) (fBin gIx (fName 0) (fName 1)) (fC (.int 0))))
  (fSeq (fAsg 3 (fBin gAdd (fC (.int 6007)) (fBin gMul (fC (.int 9341)) (fName 1))))
  (fSeq (fFor (fWkSeq ([4] ++ [3]) (fSl gSl (fName 0) fNoPart (fPart (fC (.int 5))))) (setSl 4) (b1_l_stream K))
  (fSeq (fAsg 3 (fBin gMod (fCallB (g1 gInt) (fCons (fBin gAdd (fBin gAdd (fBin gMul (fName 3) (fC (.int 39373))) (fBin gMod (fCallB (g1 gInt) (fCons (fName 2) fNil)) (fC (.int 2147483549)))) (fC (.int 3))) fNil)) (fC (.int 2147483587))))
  (fRet (fLst (fCons (fName 3) (fCons (fIf (fTest (fBin gGe (fCallB (g1 gAbs) (fCons (fName 2) fNil)) (fBin gPow (fC (.int 10)) (fC (.int 18))))) (fCallB (g1 gAbs) (fCons (fName 2) fNil)) (fC (.int 0))) (fCons (fC (.int 0)) fNil)))))))))
def g_l_stream (K : PySem.W.Frag) : FG := gOf ([2] ++ ([3] ++ (([4] ++ [3]) ++ ([3] ++ [])))) 5 (f_l_stream K)
def b1_law (K : PySem.W.Frag) : FS :=
  (fIfS (fNotT (fTest (fCallA (callA (g_l_right K) [.arg 0]) (fCons (fCallA (callA (g_l_stream K) [.arg 0, .arg 1]) (fCons (fName 0) (fCons (fName 1) fNil))) fNil))))
  (fRet (fC (.bl false)))
  fSkip)
def f_law (K : PySem.W.Frag) : FS :=
  (fSeq (fFor (fWkRng (fCons (fCallB (g2 gMax) (fCons (fC (.int 2)) (fCons (fCallB (g2 gMin) (fCons (fCallB (g1 gLen) (fCons (fName 0) fNil)) (fCons (fC (.int 6)) fNil))) fNil))) fNil)) (setSl 1) (b1_law K))
  (fRet (fC (.bl true))))
def g_law (K : PySem.W.Frag) : FG := gOf (([1] ++ ([] ++ [])) ++ []) 2 (f_law K)
end
end Yd
set_option maxHeartbeats 0
namespace Yd
open PySem PySem.Spec PyProof.Rows L2 DL
structure Th (K : PySem.W.Frag) (mg : Str → Option Value) where
  {h : Heap}
  X : K.In h
  G : h.Ns mainGlobals mg
  c : SaysY ex fn K
theorem Th.fa {K : PySem.W.Frag} {mg : Str → Option Value} (T : Th K mg) (i : Nat) {f : He.Fa} (e : Yd.fa[i]? = some f := by rfl) : f.ok K = true := all_get (He.ba T.c.more).1 i e
theorem Th.ex {K : PySem.W.Frag} {mg : Str → Option Value} (T : Th K mg) (i : Nat) {b : Bool} (e : (exb K)[i]? = some b := by rfl) : b = true := bool_get (He.ba T.c.more).2 i e
/-! ### how the parameters are bound -/
theorem B0_l_draw {K : PySem.W.Frag} {f : Addr} {fd : FuncData} (D : FunD K "_law_draw" "_law_draw" (defArgs (top 17)) (defBody (top 17)) (defScope (top 17)) [] [] f fd) : BnD K fd ["_law_stream_here", "_law_many"] 2 [] [.arg 0, .arg 1] :=
  FunD.bnd D rfl rfl fun _ _ _ _ _ _ us ws h1 h2 => match us, ws, h1, h2 with
    | [a0, a1], [], _, _ => ⟨[a0, a1], rfl, rfl⟩
theorem B1_is_name {K : PySem.W.Frag} {f : Addr} {fd : FuncData} (D : FunD K "is_name" "is_name" (defArgs (top 11)) (defBody (top 11)) (defScope (top 11)) [] [] f fd) : BnD K fd ["value"] 1 [] [.arg 0] :=
  FunD.bnd D rfl rfl fun _ _ _ _ _ _ us ws h1 h2 => match us, ws, h1, h2 with
    | [a0], [], _, _ => ⟨[a0], rfl, rfl⟩
theorem B2_check_name {K : PySem.W.Frag} {f : Addr} {fd : FuncData} (D : FunD K "check_name" "check_name" (defArgs (top 12)) (defBody (top 12)) (defScope (top 12)) [] [] f fd) : BnD K fd ["value"] 1 [] [.arg 0] :=
  FunD.bnd D rfl rfl fun _ _ _ _ _ _ us ws h1 h2 => match us, ws, h1, h2 with
    | [a0], [], _, _ => ⟨[a0], rfl, rfl⟩
theorem B3_Tie_init {K : PySem.W.Frag} {f : Addr} {fd : FuncData} (D : FunD K "__init__" "Tie.__init__" (defArgs (inClass (top 14) 0)) (defBody (inClass (top 14) 0)) (defScope (inClass (top 14) 0)) [] [("oneway", .bl false)] f fd) : BnD K fd ["self", "start", "end", "oneway"] 3 ["oneway"] [.arg 0, .arg 1, .arg 2, .arg 3] :=
  FunD.bndA D rfl rfl fun _ _ _ _ _ _ us ws h1 h2 => match us, ws, h1, h2 with
    | [a0, a1, a2], [b0], _, _ => ⟨[a0, a1, a2, b0], rfl, rfl⟩
theorem B4_l_error {K : PySem.W.Frag} {f : Addr} {fd : FuncData} (D : FunD K "_law_error" "_law_error" (defArgs (top 20)) (defBody (top 20)) (defScope (top 20)) [] [] f fd) : BnD K fd ["_law_e"] 1 [] [.arg 0] :=
  FunD.bnd D rfl rfl fun _ _ _ _ _ _ us ws h1 h2 => match us, ws, h1, h2 with
    | [a0], [], _, _ => ⟨[a0], rfl, rfl⟩
theorem B5_Tie_start {K : PySem.W.Frag} {f : Addr} {fd : FuncData} (D : FunD K "start" "Tie.start" (defArgs (inClass (top 14) 1)) (defBody (inClass (top 14) 1)) (defScope (inClass (top 14) 1)) [] [] f fd) : BnD K fd ["self"] 1 [] [.arg 0] :=
  FunD.bnd D rfl rfl fun _ _ _ _ _ _ us ws h1 h2 => match us, ws, h1, h2 with
    | [a0], [], _, _ => ⟨[a0], rfl, rfl⟩
theorem B6_Tie_end {K : PySem.W.Frag} {f : Addr} {fd : FuncData} (D : FunD K "end" "Tie.end" (defArgs (inClass (top 14) 2)) (defBody (inClass (top 14) 2)) (defScope (inClass (top 14) 2)) [] [] f fd) : BnD K fd ["self"] 1 [] [.arg 0] :=
  FunD.bnd D rfl rfl fun _ _ _ _ _ _ us ws h1 h2 => match us, ws, h1, h2 with
    | [a0], [], _, _ => ⟨[a0], rfl, rfl⟩
theorem B7_Tie_oneway {K : PySem.W.Frag} {f : Addr} {fd : FuncData} (D : FunD K "oneway" "Tie.oneway" (defArgs (inClass (top 14) 3)) (defBody (inClass (top 14) 3)) (defScope (inClass (top 14) 3)) [] [] f fd) : BnD K fd ["self"] 1 [] [.arg 0] :=
  FunD.bnd D rfl rfl fun _ _ _ _ _ _ us ws h1 h2 => match us, ws, h1, h2 with
    | [a0], [], _, _ => ⟨[a0], rfl, rfl⟩
theorem B8_l_name {K : PySem.W.Frag} {f : Addr} {fd : FuncData} (D : FunD K "_law_name" "_law_name" (defArgs (top 19)) (defBody (top 19)) (defScope (top 19)) [] [] f fd) : BnD K fd ["_law_thing_here"] 1 [] [.arg 0] :=
  FunD.bnd D rfl rfl fun _ _ _ _ _ _ us ws h1 h2 => match us, ws, h1, h2 with
    | [a0], [], _, _ => ⟨[a0], rfl, rfl⟩
theorem B9_l_word {K : PySem.W.Frag} {f : Addr} {fd : FuncData} (D : FunD K "_law_word" "_law_word" (defArgs (top 18)) (defBody (top 18)) (defScope (top 18)) [] [] f fd) : BnD K fd ["_law_stream_here"] 1 [] [.arg 0] :=
  FunD.bnd D rfl rfl fun _ _ _ _ _ _ us ws h1 h2 => match us, ws, h1, h2 with
    | [a0], [], _, _ => ⟨[a0], rfl, rfl⟩
theorem B10_l_thing {K : PySem.W.Frag} {f : Addr} {fd : FuncData} (D : FunD K "_law_thing" "_law_thing" (defArgs (top 23)) (defBody (top 23)) (defScope (top 23)) [] [] f fd) : BnD K fd ["_law_stream_here", "_law_word_here"] 2 [] [.arg 0, .arg 1] :=
  FunD.bnd D rfl rfl fun _ _ _ _ _ _ us ws h1 h2 => match us, ws, h1, h2 with
    | [a0, a1], [], _, _ => ⟨[a0, a1], rfl, rfl⟩
theorem B11_l_heard {K : PySem.W.Frag} {f : Addr} {fd : FuncData} (D : FunD K "_law_heard" "_law_heard" (defArgs (top 21)) (defBody (top 21)) (defScope (top 21)) [] [] f fd) : BnD K fd ["_law_one", "_law_two", "_law_flag"] 3 [] [.arg 0, .arg 1, .arg 2] :=
  FunD.bnd D rfl rfl fun _ _ _ _ _ _ us ws h1 h2 => match us, ws, h1, h2 with
    | [a0, a1, a2], [], _, _ => ⟨[a0, a1, a2], rfl, rfl⟩
theorem B12_l_due {K : PySem.W.Frag} {f : Addr} {fd : FuncData} (D : FunD K "_law_due" "_law_due" (defArgs (top 22)) (defBody (top 22)) (defScope (top 22)) [] [] f fd) : BnD K fd ["_law_one", "_law_two", "_law_flag"] 3 [] [.arg 0, .arg 1, .arg 2] :=
  FunD.bnd D rfl rfl fun _ _ _ _ _ _ us ws h1 h2 => match us, ws, h1, h2 with
    | [a0, a1, a2], [], _, _ => ⟨[a0, a1, a2], rfl, rfl⟩
theorem B13_l_right {K : PySem.W.Frag} {f : Addr} {fd : FuncData} (D : FunD K "_law_right" "_law_right" (defArgs (top 24)) (defBody (top 24)) (defScope (top 24)) [] [] f fd) : BnD K fd ["_law_stream_here"] 1 [] [.arg 0] :=
  FunD.bnd D rfl rfl fun _ _ _ _ _ _ us ws h1 h2 => match us, ws, h1, h2 with
    | [a0], [], _, _ => ⟨[a0], rfl, rfl⟩
theorem B14_l_stream {K : PySem.W.Frag} {f : Addr} {fd : FuncData} (D : FunD K "_law_stream" "_law_stream" (defArgs (top 16)) (defBody (top 16)) (defScope (top 16)) [] [] f fd) : BnD K fd ["_law_script", "_law_k"] 2 [] [.arg 0, .arg 1] :=
  FunD.bnd D rfl rfl fun _ _ _ _ _ _ us ws h1 h2 => match us, ws, h1, h2 with
    | [a0, a1], [], _, _ => ⟨[a0, a1], rfl, rfl⟩
/-! ### each def keeps its promise -/
variable {P : Program} {w : World} {K : PySem.W.Frag} {mg : Str → Option Value} {base : Heap}
theorem sc_l_draw : FnScope ["_law_stream_here", "_law_many", "_law_digit"] ["_law_stream_here", "_law_many"] (defScope (top 17)) := ⟨rfl, rfl, rfl, by decide +kernel, rfl, by decide +kernel, by decide +kernel⟩
theorem ok_l_draw (T : Th K mg) : ∃ fd, FunD K "_law_draw" "_law_draw" (defArgs (top 17)) (defBody (top 17)) (defScope (top 17)) [] [] (He.ga K "_law_draw") fd ∧ FnM false P w K mg base 1 (He.ga K "_law_draw") fd ["_law_stream_here", "_law_many"] (spG K 2 fun p => g_l_draw K) := by
  obtain ⟨fd, D⟩ := T.c.def_ 0 (d := y_l_draw) rfl
  refine ⟨fd, D, FnM.data (hot := false) (k := 0) D sc_l_draw fun X W p hX hr tk h4 => ?_⟩
  obtain ⟨cdv, A, outer, s, H, E, rfl⟩ := hX
  have ND := sc_l_draw.nd
  refine ds_cons ?_ ?_
  · refine ds_if ?_ ?_ ?_
    · exact (dt_cmp os_gt (de_ix is_all (de_name 0 (pv 0)) de_int (fun _ _ => rfl)) de_int (nomark _))
    · refine ds_cons ?_ ?_
      · exact (ds_asg (de_callB cs_divmod rfl (He.free_ok T.X T.G (T.fa 0 (f := .free "divmod"))) rfl (da_cons (de_ix is_all (de_name 0 (pv 0)) de_int (fun _ _ => rfl)) (da_cons (de_name 1 (pv 1)) da_nil))) (dg_tup rfl (dgs_cons (dg_sub (de_name 0 (pv 0)) de_int) (dgs_cons (dg_name 2 ND rfl (Or.inl rfl)) dgs_nil))) (hx_tup (hx_cons (hx_sub _ _) (hx_cons (nx_name 2) hx_nil))))
      refine ds_one ?_
      exact (ds_ret (de_name 2 (pv 2)))
    exact ds_nil
  refine ds_cons ?_ ?_
  · exact (ds_asg (de_bin os_add (de_ix is_all (de_name 0 (pv 0)) de_int (fun _ _ => rfl)) de_int) (dg_sub (de_name 0 (pv 0)) de_int) (hx_sub _ _))
  refine ds_cons ?_ ?_
  · exact (ds_asg (de_bin os_mod (de_callTy cs_int rfl (He.free_ok T.X T.G (T.fa 1 (f := .free "int"))) rfl (da_cons (de_bin os_add (de_bin os_add (de_bin os_mul (de_ix is_all (de_name 0 (pv 0)) de_int (fun _ _ => rfl)) de_int) (de_bin os_mul de_int (de_bin os_pow (de_ix is_all (de_name 0 (pv 0)) de_int (fun _ _ => rfl)) de_int))) de_int) da_nil)) de_int) (dg_sub (de_name 0 (pv 0)) de_int) (hx_sub _ _))
  refine ds_one ?_
  exact (ds_ret (de_bin os_mod (de_callTy cs_int rfl (He.free_ok T.X T.G (T.fa 1 (f := .free "int"))) rfl (da_cons (de_bin os_div (de_ix is_all (de_name 0 (pv 0)) de_int (fun _ _ => rfl)) de_int) da_nil)) (de_name 1 (pv 1))))
theorem sc_l_word : FnScope ["_law_stream_here", "_law_signs", "_law_most", "_law_size", "_law_j"] ["_law_stream_here"] (defScope (top 18)) := ⟨rfl, rfl, rfl, by decide +kernel, rfl, by decide +kernel, by decide +kernel⟩
theorem ok_l_word (T : Th K mg) : ∃ fd, FunD K "_law_word" "_law_word" (defArgs (top 18)) (defBody (top 18)) (defScope (top 18)) [] [] (He.ga K "_law_word") fd ∧ FnM false P w K mg base 2 (He.ga K "_law_word") fd ["_law_stream_here"] (spG K 1 fun p => g_l_word K) := by
  obtain ⟨fd, D⟩ := T.c.def_ 1 (d := y_l_word) rfl
  obtain ⟨fd_l_draw, D_l_draw, F_l_draw⟩ := ok_l_draw (P := P) (w := w) (base := base) T
  refine ⟨fd, D, FnM.data (hot := false) (k := 1) D sc_l_word fun X W p hX hr tk h4 => ?_⟩
  obtain ⟨cdv, A, outer, s, H, E, rfl⟩ := hX
  have ND := sc_l_word.nd
  refine ds_cons ?_ ?_
  · refine ds_if ?_ ?_ ?_
    · exact (dt_cmp (os_eq hr.un) (de_call (p := p) (g := fun _ => g_l_draw K) F_l_draw (hr.mono (by decide)) hotx_no tk rfl (He.glo_ok T.X T.G (T.fa 2 (f := .glo "_law_draw"))) D_l_draw.kp (B0_l_draw D_l_draw) (da_cons (de_name 0 (pv 0)) (da_cons de_int da_nil))) de_int (nomark _))
    · refine ds_one ?_
      exact (ds_ret (de_ix is_all (de_lst (da_cons de_str (da_cons de_str (da_cons de_str (da_cons de_str (da_cons de_str (da_cons de_str (da_cons de_str (da_cons de_str da_nil))))))))) (de_call (p := p) (g := fun _ => g_l_draw K) F_l_draw (hr.mono (by decide)) hotx_no tk rfl (He.glo_ok T.X T.G (T.fa 2 (f := .glo "_law_draw"))) D_l_draw.kp (B0_l_draw D_l_draw) (da_cons (de_name 0 (pv 0)) (da_cons de_int da_nil))) (fun _ _ => rfl)))
    exact ds_nil
  refine ds_cons ?_ ?_
  · exact (ds_asg (de_tup (da_cons de_str (da_cons (de_ix is_all (de_lst (da_cons de_int (da_cons de_int (da_cons de_int da_nil)))) (de_call (p := p) (g := fun _ => g_l_draw K) F_l_draw (hr.mono (by decide)) hotx_no tk rfl (He.glo_ok T.X T.G (T.fa 2 (f := .glo "_law_draw"))) D_l_draw.kp (B0_l_draw D_l_draw) (da_cons (de_name 0 (pv 0)) (da_cons de_int da_nil))) (fun _ _ => rfl)) da_nil))) (dg_tup rfl (dgs_cons (dg_name 1 ND rfl (Or.inr rfl)) (dgs_cons (dg_name 2 ND rfl (Or.inl rfl)) dgs_nil))) (hx_tup (hx_cons (nx_name 1) (hx_cons (nx_name 2) hx_nil))))
  refine ds_cons ?_ ?_
  · exact (ds_set 3 ND rfl (Or.inl rfl) (de_call (p := p) (g := fun _ => g_l_draw K) F_l_draw (hr.mono (by decide)) hotx_no tk rfl (He.glo_ok T.X T.G (T.fa 2 (f := .glo "_law_draw"))) D_l_draw.kp (B0_l_draw D_l_draw) (da_cons (de_name 0 (pv 0)) (da_cons (de_name 2 (pv 2)) da_nil))))
  refine ds_one ?_
  exact (ds_ret (de_bin os_add (de_ix is_all (de_name 1 (pv 1)) (de_call (p := p) (g := fun _ => g_l_draw K) F_l_draw (hr.mono (by decide)) hotx_no tk rfl (He.glo_ok T.X T.G (T.fa 2 (f := .glo "_law_draw"))) D_l_draw.kp (B0_l_draw D_l_draw) (da_cons (de_name 0 (pv 0)) (da_cons de_int da_nil))) (fun _ _ => rfl)) (de_mtv PySem.F.plainAttrs_str PySem.F.slot_str_join PySem.F.type_str_join vs_join (by decide) de_str (da_cons (de_lc (own := [("_law_j", 4)]) (weak := false) rfl ND (di_rng1 rfl (He.free_ok T.X T.G (T.fa 3 (f := .free "range"))) (da_cons (de_name 3 (pv 3)) da_nil)) (blkOk_by (by rfl)) (by decide) (HNx.nx (hnx_name 4)) (HNx.len (hnx_name 4)) (fun _ _ _ _ _ => (dg_name 4 ND rfl (Or.inl rfl))) (fun _ _ _ _ _ => dts_nil) (fun _ _ _ _ _ => (de_ix is_all (de_name 1 (pv 1)) (de_call (p := p) (g := fun _ => g_l_draw K) F_l_draw (hr.mono (by decide)) hotx_no takes_no rfl (He.glo_ok T.X T.G (T.fa 2 (f := .glo "_law_draw"))) D_l_draw.kp (B0_l_draw D_l_draw) (da_cons (de_name 0 (pv 0)) (da_cons de_int da_nil))) (fun _ _ => rfl)))) da_nil))))
theorem sc_l_thing : FnScope ["_law_stream_here", "_law_word_here", "_law_odd", "_law_kind", "_law_at"] ["_law_stream_here", "_law_word_here"] (defScope (top 23)) := ⟨rfl, rfl, rfl, by decide +kernel, rfl, by decide +kernel, by decide +kernel⟩
theorem ok_l_thing (T : Th K mg) : ∃ fd, FunD K "_law_thing" "_law_thing" (defArgs (top 23)) (defBody (top 23)) (defScope (top 23)) [] [] (He.ga K "_law_thing") fd ∧ FnM false P w K mg base 2 (He.ga K "_law_thing") fd ["_law_stream_here", "_law_word_here"] (spG K 2 fun p => g_l_thing K) := by
  obtain ⟨fd, D⟩ := T.c.def_ 2 (d := y_l_thing) rfl
  obtain ⟨fd_l_draw, D_l_draw, F_l_draw⟩ := ok_l_draw (P := P) (w := w) (base := base) T
  refine ⟨fd, D, FnM.data (hot := false) (k := 1) D sc_l_thing fun X W p hX hr tk h4 => ?_⟩
  obtain ⟨cdv, A, outer, s, H, E, rfl⟩ := hX
  have ND := sc_l_thing.nd
  refine ds_cons ?_ ?_
  · exact (ds_set 2 ND rfl (Or.inl rfl) (de_lst (da_cons de_str (da_cons de_str (da_cons de_str (da_cons de_str (da_cons de_str (da_cons de_str (da_cons de_str (da_cons de_str (da_cons de_str (da_cons de_str (da_cons de_non (da_cons de_bl (da_cons de_int (da_cons de_int (da_cons (de_tup (da_cons (de_name 1 (pv 1)) da_nil)) (da_cons (de_lst (da_cons (de_name 1 (pv 1)) da_nil)) (da_cons de_dict0 da_nil)))))))))))))))))))
  refine ds_cons ?_ ?_
  · exact (ds_set 2 ND rfl (Or.inl rfl) (de_bin os_add (de_name 2 (pv 2)) (de_lst (da_cons de_str (da_cons de_str (da_cons (de_tup da_nil) (da_cons (de_mtv0 PySem.F.plainAttrs_str PySem.F.slot_str_upper PySem.F.type_str_upper vs_upper (by decide) (de_name 1 (pv 1))) (da_cons (de_bin os_add (de_name 1 (pv 1)) de_str) (da_cons (de_bin os_add de_str (de_name 1 (pv 1))) (da_cons (de_bin os_add (de_name 1 (pv 1)) de_str) da_nil))))))))))
  refine ds_cons ?_ ?_
  · exact (ds_par2 (i := 3) (j := 4) rfl ND rfl rfl (by decide) rfl rfl (da_cons (de_call (p := p) (g := fun _ => g_l_draw K) F_l_draw (hr.mono (by decide)) hotx_no tk rfl (He.glo_ok T.X T.G (T.fa 2 (f := .glo "_law_draw"))) D_l_draw.kp (B0_l_draw D_l_draw) (da_cons (de_name 0 (pv 0)) (da_cons de_int da_nil))) (da_cons (de_call (p := p) (g := fun _ => g_l_draw K) F_l_draw (hr.mono (by decide)) hotx_no tk rfl (He.glo_ok T.X T.G (T.fa 2 (f := .glo "_law_draw"))) D_l_draw.kp (B0_l_draw D_l_draw) (da_cons (de_name 0 (pv 0)) (da_cons de_int da_nil))) da_nil)) (by rfl))
  refine ds_one ?_
  exact (ds_ret (de_if (dt_cmp (os_eq hr.un) (de_name 3 (pv 3)) de_int (nomark _)) (de_name 1 (pv 1)) (de_ix is_all (de_name 2 (pv 2)) (de_name 4 (pv 4)) (fun _ _ => rfl))))
theorem sc_InvalidName_init : FnScope ["self", "given"] ["self", "given"] (defScope (inClass (top 2) 0)) := ⟨rfl, rfl, rfl, by decide +kernel, rfl, by decide +kernel, by decide +kernel⟩
theorem ok_InvalidName_init (T : Th K mg) : ∃ fd, FunD K "__init__" "InvalidName.__init__" (defArgs (inClass (top 2) 0)) (defBody (inClass (top 2) 0)) (defScope (inClass (top 2) 0)) [] [] (He.ma K (He.ga K "InvalidName") "__init__") fd ∧ FnM false P w K mg base 1 (He.ma K (He.ga K "InvalidName") "__init__") fd ["self", "given"] (spX K (He.ga K "InvalidName") "given") := by
  obtain ⟨fd, D⟩ := T.c.def_ 3 (d := y_InvalidName_init) rfl
  exact ⟨fd, D, FnM.ex (k := 0) D sc_InvalidName_init (exkB_ok (T.ex 1)) (fun _ => rfl) (fun X hN hS => pv 0 (by rw [hN]; rfl) (by rw [hS]; exact Or.inl rfl)) (fun X hN hS => pv 1 (by rw [hN]; rfl) (by rw [hS]; exact Or.inl rfl))⟩
theorem sc_is_name : FnScope ["value", "sign"] ["value"] (defScope (top 11)) := ⟨rfl, rfl, rfl, by decide +kernel, rfl, by decide +kernel, by decide +kernel⟩
theorem ok_is_name (T : Th K mg) : ∃ fd, FunD K "is_name" "is_name" (defArgs (top 11)) (defBody (top 11)) (defScope (top 11)) [] [] (He.ga K "is_name") fd ∧ FnM false P w K mg base 1 (He.ga K "is_name") fd ["value"] (spG K 1 fun p => g_is_name K) := by
  obtain ⟨fd, D⟩ := T.c.def_ 4 (d := y_is_name) rfl
  refine ⟨fd, D, FnM.data (hot := false) (k := 0) D sc_is_name fun X W p hX hr tk h4 => ?_⟩
  obtain ⟨cdv, A, outer, s, H, E, rfl⟩ := hX
  have ND := sc_is_name.nd
  refine ds_cons ?_ ?_
  · refine ds_if ?_ ?_ ?_
    · exact (dt_bool (dw_or (dt_not (dt_val (de_isi (kitBK_ok (T.ex 0)) (.ty _) (de_name 0 (pv 0)) (pe_bltn rfl (He.free_ok T.X T.G (T.fa 4 (f := .free "str"))) rfl rfl) rfl (He.free_ok T.X T.G (T.fa 5 (f := .free "isinstance")))))) (dw_or1 (dt_not (dt_chain os_le os_le de_int (de_callB cs_len rfl (He.free_ok T.X T.G (T.fa 6 (f := .free "len"))) rfl (da_cons (de_name 0 (pv 0)) da_nil)) (de_gint rfl (He.int_ok T.X T.G (T.fa 7 (f := .int "LONGEST_NAME" 8)))))))))
    · refine ds_one ?_
      exact (ds_ret de_bl)
    exact ds_nil
  refine ds_one ?_
  exact (ds_ret (de_and (de_cmp (os_in hr.un) (de_ix is_all (de_name 0 (pv 0)) de_int (fun _ _ => rfl)) (de_gstr rfl (He.str_ok T.X T.G (T.fa 9 (f := .str "LETTERS" "abcdefghijklmnopqrstuvwxyz")))) rfl) (de_one (de_callB (cs_all rfl) rfl (He.free_ok T.X T.G (T.fa 10 (f := .free "all"))) rfl (da_cons (de_lc (own := [("sign", 1)]) (weak := false) rfl ND (di_seq (de_name 0 (pv 0))) (blkOk_by (by rfl)) (by decide) (HNx.nx (hnx_name 1)) (HNx.len (hnx_name 1)) (fun _ _ _ _ _ => (dg_name 1 ND rfl (Or.inl rfl))) (fun _ _ _ _ _ => dts_nil) (fun _ _ _ _ _ => (de_or (de_cmp (os_in hr.un) (de_name 1 (pv 1)) (de_gstr rfl (He.str_ok T.X T.G (T.fa 9 (f := .str "LETTERS" "abcdefghijklmnopqrstuvwxyz")))) rfl) (de_one (de_cmp (os_in hr.un) (de_name 1 (pv 1)) (de_gstr rfl (He.str_ok T.X T.G (T.fa 8 (f := .str "DIGITS" "0123456789")))) rfl))))) da_nil)))))
theorem sc_check_name : FnScope ["value"] ["value"] (defScope (top 12)) := ⟨rfl, rfl, rfl, by decide +kernel, rfl, by decide +kernel, by decide +kernel⟩
theorem ok_check_name (T : Th K mg) : ∃ fd, FunD K "check_name" "check_name" (defArgs (top 12)) (defBody (top 12)) (defScope (top 12)) [] [] (He.ga K "check_name") fd ∧ FnM false P w K mg base 3 (He.ga K "check_name") fd ["value"] (spG K 1 fun p => g_check_name K) := by
  obtain ⟨fd, D⟩ := T.c.def_ 5 (d := y_check_name) rfl
  obtain ⟨fd_is_name, D_is_name, F_is_name⟩ := ok_is_name (P := P) (w := w) (base := base) T
  obtain ⟨fd_InvalidName_init, D_InvalidName_init, F_InvalidName_init⟩ := ok_InvalidName_init (P := P) (w := w) (base := base) T
  refine ⟨fd, D, FnM.data (hot := false) (k := 2) D sc_check_name fun X W p hX hr tk h4 => ?_⟩
  obtain ⟨cdv, A, outer, s, H, E, rfl⟩ := hX
  have ND := sc_check_name.nd
  refine ds_one ?_
  refine ds_if ?_ ?_ ?_
  · exact (dt_not (dt_val (de_call (p := p) (g := fun _ => g_is_name K) F_is_name (hr.mono (by decide)) hotx_no tk rfl (He.glo_ok T.X T.G (T.fa 11 (f := .glo "is_name"))) D_is_name.kp (B1_is_name D_is_name) (da_cons (de_name 0 (pv 0)) da_nil))))
  · refine ds_one ?_
    exact (ds_raise rfl tk (exkB_ok (T.ex 1)) F_InvalidName_init (hr.mono (by decide)) (L2.FunD.bindsN D_InvalidName_init fun _ _ _ _ _ _ us hl => match us, hl with | [_, _], _ => rfl) rfl (He.glo_ok T.X T.G (T.fa 12 (f := .glo "InvalidName"))) (de_name 0 (pv 0)))
  exact ds_nil
theorem sc_InvalidFlag_init : FnScope ["self", "given"] ["self", "given"] (defScope (inClass (top 4) 0)) := ⟨rfl, rfl, rfl, by decide +kernel, rfl, by decide +kernel, by decide +kernel⟩
theorem ok_InvalidFlag_init (T : Th K mg) : ∃ fd, FunD K "__init__" "InvalidFlag.__init__" (defArgs (inClass (top 4) 0)) (defBody (inClass (top 4) 0)) (defScope (inClass (top 4) 0)) [] [] (He.ma K (He.ga K "InvalidFlag") "__init__") fd ∧ FnM false P w K mg base 1 (He.ma K (He.ga K "InvalidFlag") "__init__") fd ["self", "given"] (spX K (He.ga K "InvalidFlag") "given") := by
  obtain ⟨fd, D⟩ := T.c.def_ 6 (d := y_InvalidFlag_init) rfl
  exact ⟨fd, D, FnM.ex (k := 0) D sc_InvalidFlag_init (exkB_ok (T.ex 2)) (fun _ => rfl) (fun X hN hS => pv 0 (by rw [hN]; rfl) (by rw [hS]; exact Or.inl rfl)) (fun X hN hS => pv 1 (by rw [hN]; rfl) (by rw [hS]; exact Or.inl rfl))⟩
theorem sc_InvalidEnd_init : FnScope ["self", "given"] ["self", "given"] (defScope (inClass (top 3) 0)) := ⟨rfl, rfl, rfl, by decide +kernel, rfl, by decide +kernel, by decide +kernel⟩
theorem ok_InvalidEnd_init (T : Th K mg) : ∃ fd, FunD K "__init__" "InvalidEnd.__init__" (defArgs (inClass (top 3) 0)) (defBody (inClass (top 3) 0)) (defScope (inClass (top 3) 0)) [] [] (He.ma K (He.ga K "InvalidEnd") "__init__") fd ∧ FnM false P w K mg base 1 (He.ma K (He.ga K "InvalidEnd") "__init__") fd ["self", "given"] (spX K (He.ga K "InvalidEnd") "given") := by
  obtain ⟨fd, D⟩ := T.c.def_ 7 (d := y_InvalidEnd_init) rfl
  exact ⟨fd, D, FnM.ex (k := 0) D sc_InvalidEnd_init (exkB_ok (T.ex 3)) (fun _ => rfl) (fun X hN hS => pv 0 (by rw [hN]; rfl) (by rw [hS]; exact Or.inl rfl)) (fun X hN hS => pv 1 (by rw [hN]; rfl) (by rw [hS]; exact Or.inl rfl))⟩
theorem sc_Tie_init : FnScope ["self", "start", "end", "oneway"] ["self", "start", "end", "oneway"] (defScope (inClass (top 14) 0)) := ⟨rfl, rfl, rfl, by decide +kernel, rfl, by decide +kernel, by decide +kernel⟩
theorem ok_Tie_init (T : Th K mg) : ∃ fd, FunD K "__init__" "Tie.__init__" (defArgs (inClass (top 14) 0)) (defBody (inClass (top 14) 0)) (defScope (inClass (top 14) 0)) [] [("oneway", .bl false)] (He.ma K (He.ga K "Tie") "__init__") fd ∧ FnM false P w K mg base 4 (He.ma K (He.ga K "Tie") "__init__") fd ["self", "start", "end", "oneway"] (spG K 4 fun p => g_Tie_init K) := by
  obtain ⟨fd, D⟩ := T.c.def_ 8 (d := y_Tie_init) rfl
  obtain ⟨fd_check_name, D_check_name, F_check_name⟩ := ok_check_name (P := P) (w := w) (base := base) T
  obtain ⟨fd_InvalidFlag_init, D_InvalidFlag_init, F_InvalidFlag_init⟩ := ok_InvalidFlag_init (P := P) (w := w) (base := base) T
  obtain ⟨fd_InvalidEnd_init, D_InvalidEnd_init, F_InvalidEnd_init⟩ := ok_InvalidEnd_init (P := P) (w := w) (base := base) T
  refine ⟨fd, D, FnM.data (hot := false) (k := 3) D sc_Tie_init fun X W p hX hr tk h4 => ?_⟩
  obtain ⟨cdv, A, outer, s, H, E, rfl⟩ := hX
  have ND := sc_Tie_init.nd
  refine ds_cons ?_ ?_
  · exact (ds_expr (de_call (p := p) (g := fun _ => g_check_name K) F_check_name (hr.mono (by decide)) hotx_no tk rfl (He.glo_ok T.X T.G (T.fa 13 (f := .glo "check_name"))) D_check_name.kp (B2_check_name D_check_name) (da_cons (de_name 1 (pv 1)) da_nil)))
  refine ds_cons ?_ ?_
  · exact (ds_expr (de_call (p := p) (g := fun _ => g_check_name K) F_check_name (hr.mono (by decide)) hotx_no tk rfl (He.glo_ok T.X T.G (T.fa 13 (f := .glo "check_name"))) D_check_name.kp (B2_check_name D_check_name) (da_cons (de_name 2 (pv 2)) da_nil)))
  refine ds_cons ?_ ?_
  · refine ds_if ?_ ?_ ?_
    · exact (dt_bool (dw_and (dt_cmp os_isNot (de_name 3 (pv 3)) de_bl (nomark _)) (dw_and1 (dt_cmp os_isNot (de_name 3 (pv 3)) de_bl (nomark _)))))
    · refine ds_one ?_
      exact (ds_raise rfl tk (exkB_ok (T.ex 2)) F_InvalidFlag_init (hr.mono (by decide)) (L2.FunD.bindsN D_InvalidFlag_init fun _ _ _ _ _ _ us hl => match us, hl with | [_, _], _ => rfl) rfl (He.glo_ok T.X T.G (T.fa 14 (f := .glo "InvalidFlag"))) (de_name 3 (pv 3)))
    exact ds_nil
  refine ds_cons ?_ ?_
  · refine ds_if ?_ ?_ ?_
    · exact (dt_cmp (os_eq hr.un) (de_name 1 (pv 1)) (de_name 2 (pv 2)) (nomark _))
    · refine ds_one ?_
      exact (ds_raise rfl tk (exkB_ok (T.ex 3)) F_InvalidEnd_init (hr.mono (by decide)) (L2.FunD.bindsN D_InvalidEnd_init fun _ _ _ _ _ _ us hl => match us, hl with | [_, _], _ => rfl) rfl (He.glo_ok T.X T.G (T.fa 15 (f := .glo "InvalidEnd"))) (de_name 2 (pv 2)))
    exact ds_nil
  refine ds_cons ?_ ?_
  · exact (ds_fldS (He.cls_ok (T.fa 16 (f := .cls "Tie"))) (He.noat_ok (T.fa 17 (f := .noat "Tie" "ends"))) (de_name 0 (pv 0)) (de_tup (da_cons (de_name 1 (pv 1)) (da_cons (de_name 2 (pv 2)) da_nil))))
  refine ds_one ?_
  exact (ds_fldS (He.cls_ok (T.fa 16 (f := .cls "Tie"))) (He.noat_ok (T.fa 18 (f := .noat "Tie" "single"))) (de_name 0 (pv 0)) (de_name 3 (pv 3)))
theorem sc_l_error : FnScope ["_law_e", "_law_marks", "_law_bases", "_law_own"] ["_law_e"] (defScope (top 20)) := ⟨rfl, rfl, rfl, by decide +kernel, rfl, by decide +kernel, by decide +kernel⟩
theorem ok_l_error (T : Th K mg) : ∃ fd, FunD K "_law_error" "_law_error" (defArgs (top 20)) (defBody (top 20)) (defScope (top 20)) [] [] (He.ga K "_law_error") fd ∧ FnM true P w K mg base 1 (He.ga K "_law_error") fd ["_law_e"] (spG K 1 fun p => g_l_error K p) := by
  obtain ⟨fd, D⟩ := T.c.def_ 9 (d := y_l_error) rfl
  refine ⟨fd, D, FnM.data (hot := true) (k := 0) D sc_l_error fun X W p hX hr tk h4 => ?_⟩
  obtain ⟨cdv, A, outer, s, H, E, rfl⟩ := hX
  have ND := sc_l_error.nd
  refine ds_cons ?_ ?_
  · exact (ds_set 1 ND rfl (Or.inl rfl) (de_lst (da_cons (de_isx 0 (show p ∈ [p] from List.mem_singleton.mpr rfl) (tabB_ok (T.ex 4)) (.own _) (pv 0) (pe_glob rfl (He.glo_ok T.X T.G (T.fa 12 (f := .glo "InvalidName"))) rfl) rfl (He.free_ok T.X T.G (T.fa 5 (f := .free "isinstance")))) (da_cons (de_isx 0 (show p ∈ [p] from List.mem_singleton.mpr rfl) (tabB_ok (T.ex 5)) (.own _) (pv 0) (pe_glob rfl (He.glo_ok T.X T.G (T.fa 14 (f := .glo "InvalidFlag"))) rfl) rfl (He.free_ok T.X T.G (T.fa 5 (f := .free "isinstance")))) (da_cons (de_isx 0 (show p ∈ [p] from List.mem_singleton.mpr rfl) (tabB_ok (T.ex 6)) (.own _) (pv 0) (pe_glob rfl (He.glo_ok T.X T.G (T.fa 15 (f := .glo "InvalidEnd"))) rfl) rfl (He.free_ok T.X T.G (T.fa 5 (f := .free "isinstance")))) da_nil)))))
  refine ds_cons ?_ ?_
  · exact (ds_set 2 ND rfl (Or.inl rfl) (de_lst (da_cons (de_isx 0 (show p ∈ [p] from List.mem_singleton.mpr rfl) (tabB_ok (T.ex 7)) (.own _) (pv 0) (pe_glob rfl (He.glo_ok T.X T.G (T.fa 19 (f := .glo "WrongValue"))) rfl) rfl (He.free_ok T.X T.G (T.fa 5 (f := .free "isinstance")))) (da_cons (de_isx 0 (show p ∈ [p] from List.mem_singleton.mpr rfl) (tabB_ok (T.ex 8)) (.own _) (pv 0) (pe_glob rfl (He.glo_ok T.X T.G (T.fa 20 (f := .glo "WrongName"))) rfl) rfl (He.free_ok T.X T.G (T.fa 5 (f := .free "isinstance")))) (da_cons (de_isx 0 (show p ∈ [p] from List.mem_singleton.mpr rfl) (tabB_ok (T.ex 9)) (.own _) (pv 0) (pe_glob rfl (He.glo_ok T.X T.G (T.fa 21 (f := .glo "NoAnswer"))) rfl) rfl (He.free_ok T.X T.G (T.fa 5 (f := .free "isinstance")))) da_nil)))))
  refine ds_cons ?_ ?_
  · exact (ds_set 3 ND rfl (Or.inl rfl) (de_lst (da_cons (de_isx 0 (show p ∈ [p] from List.mem_singleton.mpr rfl) (tabB_ok (T.ex 10)) (.ty _) (pv 0) (pe_bltn rfl (He.free_ok T.X T.G (T.fa 22 (f := .free "ValueError"))) rfl rfl) rfl (He.free_ok T.X T.G (T.fa 5 (f := .free "isinstance")))) (da_cons (de_isx 0 (show p ∈ [p] from List.mem_singleton.mpr rfl) (tabB_ok (T.ex 11)) (.ty _) (pv 0) (pe_bltn rfl (He.free_ok T.X T.G (T.fa 23 (f := .free "LookupError"))) rfl rfl) rfl (He.free_ok T.X T.G (T.fa 5 (f := .free "isinstance")))) (da_cons (de_isx 0 (show p ∈ [p] from List.mem_singleton.mpr rfl) (tabB_ok (T.ex 12)) (.ty _) (pv 0) (pe_bltn rfl (He.free_ok T.X T.G (T.fa 24 (f := .free "ArithmeticError"))) rfl rfl) rfl (He.free_ok T.X T.G (T.fa 5 (f := .free "isinstance")))) da_nil)))))
  refine ds_cons ?_ ?_
  · refine ds_if ?_ ?_ ?_
    · exact (dt_bool (dw_or (dt_cmp (os_ne hr.un) (de_mtv PySem.F.plainAttrs_list PySem.F.slot_list_count PySem.F.type_list_count vs_lcount (by decide) (de_name 1 (pv 1)) (da_cons de_bl da_nil)) de_int (nomark _)) (dw_or (dt_cmp (os_ne hr.un) (de_name 2 (pv 2)) (de_lst (da_cons de_bl (da_cons de_bl (da_cons de_bl da_nil)))) (nomark _)) (dw_or1 (dt_cmp (os_ne hr.un) (de_name 3 (pv 3)) (de_name 2 (pv 2)) (nomark _))))))
    · refine ds_one ?_
      exact (ds_ret (de_tup (da_cons de_str (da_cons de_str da_nil))))
    exact ds_nil
  refine ds_one ?_
  exact (ds_ret (de_tup (da_cons (de_ix is_all (de_lst (da_cons de_str (da_cons de_str (da_cons de_str da_nil)))) (de_mtv PySem.F.plainAttrs_list PySem.F.slot_list_index PySem.F.type_list_index vs_lindex (by decide) (de_name 1 (pv 1)) (da_cons de_bl da_nil)) (fun _ _ => rfl)) (da_cons (de_callB (cs_repr hr.open_ hr.un) rfl (He.free_ok T.X T.G (T.fa 25 (f := .free "repr"))) rfl (da_cons (de_xf 0 (show p ∈ [p] from List.mem_singleton.mpr rfl) (okB_ok (T.ex 13)) (pv 0)) da_nil)) da_nil))))
theorem sc_Tie_start : FnScope ["self"] ["self"] (defScope (inClass (top 14) 1)) := ⟨rfl, rfl, rfl, by decide +kernel, rfl, by decide +kernel, by decide +kernel⟩
theorem ok_Tie_start (T : Th K mg) : ∃ fd, FunD K "start" "Tie.start" (defArgs (inClass (top 14) 1)) (defBody (inClass (top 14) 1)) (defScope (inClass (top 14) 1)) [] [] (pgA K (He.ga K "Tie") "start") fd ∧ FnM false P w K mg base 1 (pgA K (He.ga K "Tie") "start") fd ["self"] (spG K 1 fun p => g_Tie_start K) := by
  obtain ⟨fd, D⟩ := T.c.def_ 10 (d := y_Tie_start) rfl
  refine ⟨fd, D, FnM.data (hot := false) (k := 0) D sc_Tie_start fun X W p hX hr tk h4 => ?_⟩
  obtain ⟨cdv, A, outer, s, H, E, rfl⟩ := hX
  have ND := sc_Tie_start.nd
  refine ds_one ?_
  exact (ds_ret (de_ix is_all (de_fld (He.cls_ok (T.fa 16 (f := .cls "Tie"))) (He.noat_ok (T.fa 17 (f := .noat "Tie" "ends"))) (de_name 0 (pv 0)) rfl) de_int (fun _ _ => rfl)))
theorem sc_Tie_end : FnScope ["self"] ["self"] (defScope (inClass (top 14) 2)) := ⟨rfl, rfl, rfl, by decide +kernel, rfl, by decide +kernel, by decide +kernel⟩
theorem ok_Tie_end (T : Th K mg) : ∃ fd, FunD K "end" "Tie.end" (defArgs (inClass (top 14) 2)) (defBody (inClass (top 14) 2)) (defScope (inClass (top 14) 2)) [] [] (pgA K (He.ga K "Tie") "end") fd ∧ FnM false P w K mg base 1 (pgA K (He.ga K "Tie") "end") fd ["self"] (spG K 1 fun p => g_Tie_end K) := by
  obtain ⟨fd, D⟩ := T.c.def_ 11 (d := y_Tie_end) rfl
  refine ⟨fd, D, FnM.data (hot := false) (k := 0) D sc_Tie_end fun X W p hX hr tk h4 => ?_⟩
  obtain ⟨cdv, A, outer, s, H, E, rfl⟩ := hX
  have ND := sc_Tie_end.nd
  refine ds_one ?_
  exact (ds_ret (de_ix is_all (de_fld (He.cls_ok (T.fa 16 (f := .cls "Tie"))) (He.noat_ok (T.fa 17 (f := .noat "Tie" "ends"))) (de_name 0 (pv 0)) rfl) de_int (fun _ _ => rfl)))
theorem sc_Tie_oneway : FnScope ["self"] ["self"] (defScope (inClass (top 14) 3)) := ⟨rfl, rfl, rfl, by decide +kernel, rfl, by decide +kernel, by decide +kernel⟩
theorem ok_Tie_oneway (T : Th K mg) : ∃ fd, FunD K "oneway" "Tie.oneway" (defArgs (inClass (top 14) 3)) (defBody (inClass (top 14) 3)) (defScope (inClass (top 14) 3)) [] [] (pgA K (He.ga K "Tie") "oneway") fd ∧ FnM false P w K mg base 1 (pgA K (He.ga K "Tie") "oneway") fd ["self"] (spG K 1 fun p => g_Tie_oneway K) := by
  obtain ⟨fd, D⟩ := T.c.def_ 12 (d := y_Tie_oneway) rfl
  refine ⟨fd, D, FnM.data (hot := false) (k := 0) D sc_Tie_oneway fun X W p hX hr tk h4 => ?_⟩
  obtain ⟨cdv, A, outer, s, H, E, rfl⟩ := hX
  have ND := sc_Tie_oneway.nd
  refine ds_one ?_
  exact (ds_ret (de_fld (He.cls_ok (T.fa 16 (f := .cls "Tie"))) (He.noat_ok (T.fa 18 (f := .noat "Tie" "single"))) (de_name 0 (pv 0)) rfl))
theorem sc_l_heard : FnScope ["_law_one", "_law_two", "_law_flag", "_law_made", "_law_e"] ["_law_one", "_law_two", "_law_flag"] (defScope (top 21)) := ⟨rfl, rfl, rfl, by decide +kernel, rfl, by decide +kernel, by decide +kernel⟩
theorem ok_l_heard (T : Th K mg) : ∃ fd, FunD K "_law_heard" "_law_heard" (defArgs (top 21)) (defBody (top 21)) (defScope (top 21)) [] [] (He.ga K "_law_heard") fd ∧ FnM false P w K mg base 6 (He.ga K "_law_heard") fd ["_law_one", "_law_two", "_law_flag"] (spG K 3 fun p => g_l_heard K) := by
  obtain ⟨fd, D⟩ := T.c.def_ 13 (d := y_l_heard) rfl
  obtain ⟨fd_Tie_init, D_Tie_init, F_Tie_init⟩ := ok_Tie_init (P := P) (w := w) (base := base) T
  obtain ⟨fd_l_error, D_l_error, F_l_error⟩ := ok_l_error (P := P) (w := w) (base := base) T
  obtain ⟨fd_Tie_start, D_Tie_start, F_Tie_start⟩ := ok_Tie_start (P := P) (w := w) (base := base) T
  obtain ⟨fd_Tie_end, D_Tie_end, F_Tie_end⟩ := ok_Tie_end (P := P) (w := w) (base := base) T
  obtain ⟨fd_Tie_oneway, D_Tie_oneway, F_Tie_oneway⟩ := ok_Tie_oneway (P := P) (w := w) (base := base) T
  refine ⟨fd, D, FnM.data (hot := false) (k := 5) D sc_l_heard fun X W p hX hr tk h4 => ?_⟩
  obtain ⟨cdv, A, outer, s, H, E, rfl⟩ := hX
  have ND := sc_l_heard.nd
  refine ds_cons ?_ ?_
  · refine ds_tryX rfl rfl ND rfl rfl (tst3 rfl (He.glo_ok T.X T.G (T.fa 19 (f := .glo "WrongValue"))) rfl (He.glo_ok T.X T.G (T.fa 20 (f := .glo "WrongName"))) rfl (He.glo_ok T.X T.G (T.fa 21 (f := .glo "NoAnswer"))) (hitB_ok (T.ex 14))) ?_ ?_
    · intro W pn xe tk _
      refine ds_one ?_
      exact (ds_set 3 ND rfl (Or.inl rfl) (de_makeK (p := p) (g := fun _ => g_Tie_init K) (He.mkr_ok (T.fa 26 (f := .mkr "Tie"))) F_Tie_init (hr.mono (by decide)) hotx_no tk rfl (He.glo_ok T.X T.G (T.fa 27 (f := .glo "Tie"))) (B3_Tie_init D_Tie_init) rfl (da_cons (de_name 0 (pv 0)) (da_cons (de_name 1 (pv 1)) da_nil)) (dk_cons (de_name 2 (pv 2)) dk_nil)))
    intro p pn hh
    exact (de_callX 4 F_l_error ((Rm.mark hr).mono (by decide)) hh rfl (He.glo_ok T.X T.G (T.fa 28 (f := .glo "_law_error"))) D_l_error.kp (B4_l_error D_l_error) (pv 4) takes_no)
  refine ds_one ?_
  exact (ds_ret (de_tup (da_cons de_str (da_cons (de_callB (cs_repr hr.open_ hr.un) rfl (He.free_ok T.X T.G (T.fa 25 (f := .free "repr"))) rfl (da_cons (de_tup (da_cons (de_prop (p := p) (g := fun _ => g_Tie_start K) (de_name 3 (pv 3)) (He.cls_ok (T.fa 16 (f := .cls "Tie"))) (propB_ok (T.ex 15)) F_Tie_start (hr.mono (by decide)) hotx_no (B5_Tie_start D_Tie_start) rfl) (da_cons (de_prop (p := p) (g := fun _ => g_Tie_end K) (de_name 3 (pv 3)) (He.cls_ok (T.fa 16 (f := .cls "Tie"))) (propB_ok (T.ex 16)) F_Tie_end (hr.mono (by decide)) hotx_no (B6_Tie_end D_Tie_end) rfl) (da_cons (de_prop (p := p) (g := fun _ => g_Tie_oneway K) (de_name 3 (pv 3)) (He.cls_ok (T.fa 16 (f := .cls "Tie"))) (propB_ok (T.ex 17)) F_Tie_oneway (hr.mono (by decide)) hotx_no (B7_Tie_oneway D_Tie_oneway) rfl) da_nil)))) da_nil)) da_nil))))
theorem sc_l_name : FnScope ["_law_thing_here", "_law_signs", "_law_sign"] ["_law_thing_here"] (defScope (top 19)) := ⟨rfl, rfl, rfl, by decide +kernel, rfl, by decide +kernel, by decide +kernel⟩
theorem ok_l_name (T : Th K mg) : ∃ fd, FunD K "_law_name" "_law_name" (defArgs (top 19)) (defBody (top 19)) (defScope (top 19)) [] [] (He.ga K "_law_name") fd ∧ FnM false P w K mg base 1 (He.ga K "_law_name") fd ["_law_thing_here"] (spG K 1 fun p => g_l_name K) := by
  obtain ⟨fd, D⟩ := T.c.def_ 14 (d := y_l_name) rfl
  refine ⟨fd, D, FnM.data (hot := false) (k := 0) D sc_l_name fun X W p hX hr tk h4 => ?_⟩
  obtain ⟨cdv, A, outer, s, H, E, rfl⟩ := hX
  have ND := sc_l_name.nd
  refine ds_cons ?_ ?_
  · exact (ds_set 1 ND rfl (Or.inr rfl) de_str)
  refine ds_cons ?_ ?_
  · refine ds_if ?_ ?_ ?_
    · exact (dt_bool (dw_or (dt_not (dt_val (de_isi (kitBK_ok (T.ex 0)) (.ty _) (de_name 0 (pv 0)) (pe_bltn rfl (He.free_ok T.X T.G (T.fa 4 (f := .free "str"))) rfl rfl) rfl (He.free_ok T.X T.G (T.fa 5 (f := .free "isinstance")))))) (dw_or1 (dt_not (dt_chain os_le os_le de_int (de_callB cs_len rfl (He.free_ok T.X T.G (T.fa 6 (f := .free "len"))) rfl (da_cons (de_name 0 (pv 0)) da_nil)) de_int)))))
    · refine ds_one ?_
      exact (ds_ret de_bl)
    exact ds_nil
  refine ds_one ?_
  exact (ds_ret (de_and (de_cmp (os_in hr.un) (de_ix is_all (de_name 0 (pv 0)) de_int (fun _ _ => rfl)) (de_slice ss_all (de_name 1 (pv 1)) do_none (do_some de_int)) rfl) (de_one (de_callB (cs_all rfl) rfl (He.free_ok T.X T.G (T.fa 10 (f := .free "all"))) rfl (da_cons (de_lc (own := [("_law_sign", 2)]) (weak := false) rfl ND (di_seq (de_name 0 (pv 0))) (blkOk_by (by rfl)) (by decide) (HNx.nx (hnx_name 2)) (HNx.len (hnx_name 2)) (fun _ _ _ _ _ => (dg_name 2 ND rfl (Or.inl rfl))) (fun _ _ _ _ _ => dts_nil) (fun _ _ _ _ _ => (de_cmp (os_in hr.un) (de_name 2 (pv 2)) (de_name 1 (pv 1)) rfl))) da_nil)))))
theorem sc_l_due : FnScope ["_law_one", "_law_two", "_law_flag"] ["_law_one", "_law_two", "_law_flag"] (defScope (top 22)) := ⟨rfl, rfl, rfl, by decide +kernel, rfl, by decide +kernel, by decide +kernel⟩
theorem ok_l_due (T : Th K mg) : ∃ fd, FunD K "_law_due" "_law_due" (defArgs (top 22)) (defBody (top 22)) (defScope (top 22)) [] [] (He.ga K "_law_due") fd ∧ FnM false P w K mg base 2 (He.ga K "_law_due") fd ["_law_one", "_law_two", "_law_flag"] (spG K 3 fun p => g_l_due K) := by
  obtain ⟨fd, D⟩ := T.c.def_ 15 (d := y_l_due) rfl
  obtain ⟨fd_l_name, D_l_name, F_l_name⟩ := ok_l_name (P := P) (w := w) (base := base) T
  refine ⟨fd, D, FnM.data (hot := false) (k := 1) D sc_l_due fun X W p hX hr tk h4 => ?_⟩
  obtain ⟨cdv, A, outer, s, H, E, rfl⟩ := hX
  have ND := sc_l_due.nd
  refine ds_cons ?_ ?_
  · refine ds_if ?_ ?_ ?_
    · exact (dt_not (dt_val (de_call (p := p) (g := fun _ => g_l_name K) F_l_name (hr.mono (by decide)) hotx_no tk rfl (He.glo_ok T.X T.G (T.fa 29 (f := .glo "_law_name"))) D_l_name.kp (B8_l_name D_l_name) (da_cons (de_name 0 (pv 0)) da_nil))))
    · refine ds_one ?_
      exact (ds_ret (de_tup (da_cons de_str (da_cons (de_callB (cs_repr hr.open_ hr.un) rfl (He.free_ok T.X T.G (T.fa 25 (f := .free "repr"))) rfl (da_cons (de_name 0 (pv 0)) da_nil)) da_nil))))
    exact ds_nil
  refine ds_cons ?_ ?_
  · refine ds_if ?_ ?_ ?_
    · exact (dt_not (dt_val (de_call (p := p) (g := fun _ => g_l_name K) F_l_name (hr.mono (by decide)) hotx_no tk rfl (He.glo_ok T.X T.G (T.fa 29 (f := .glo "_law_name"))) D_l_name.kp (B8_l_name D_l_name) (da_cons (de_name 1 (pv 1)) da_nil))))
    · refine ds_one ?_
      exact (ds_ret (de_tup (da_cons de_str (da_cons (de_callB (cs_repr hr.open_ hr.un) rfl (He.free_ok T.X T.G (T.fa 25 (f := .free "repr"))) rfl (da_cons (de_name 1 (pv 1)) da_nil)) da_nil))))
    exact ds_nil
  refine ds_cons ?_ ?_
  · refine ds_if ?_ ?_ ?_
    · exact (dt_bool (dw_and (dt_cmp os_isNot (de_name 2 (pv 2)) de_bl (nomark _)) (dw_and1 (dt_cmp os_isNot (de_name 2 (pv 2)) de_bl (nomark _)))))
    · refine ds_one ?_
      exact (ds_ret (de_tup (da_cons de_str (da_cons (de_callB (cs_repr hr.open_ hr.un) rfl (He.free_ok T.X T.G (T.fa 25 (f := .free "repr"))) rfl (da_cons (de_name 2 (pv 2)) da_nil)) da_nil))))
    exact ds_nil
  refine ds_one ?_
  exact (ds_ret (de_if (dt_cmp (os_eq hr.un) (de_name 0 (pv 0)) (de_name 1 (pv 1)) (nomark _)) (de_tup (da_cons de_str (da_cons (de_callB (cs_repr hr.open_ hr.un) rfl (He.free_ok T.X T.G (T.fa 25 (f := .free "repr"))) rfl (da_cons (de_name 1 (pv 1)) da_nil)) da_nil))) (de_tup (da_cons de_str (da_cons (de_callB (cs_repr hr.open_ hr.un) rfl (He.free_ok T.X T.G (T.fa 25 (f := .free "repr"))) rfl (da_cons (de_tup (da_cons (de_name 0 (pv 0)) (da_cons (de_name 1 (pv 1)) (da_cons (de_name 2 (pv 2)) da_nil)))) da_nil)) da_nil)))))
theorem sc_l_right : FnScope ["_law_stream_here", "_law_flags", "_law_turn", "_law_word_here", "_law_other", "_law_one", "_law_two", "_law_flag"] ["_law_stream_here"] (defScope (top 24)) := ⟨rfl, rfl, rfl, by decide +kernel, rfl, by decide +kernel, by decide +kernel⟩
theorem ok_l_right (T : Th K mg) : ∃ fd, FunD K "_law_right" "_law_right" (defArgs (top 24)) (defBody (top 24)) (defScope (top 24)) [] [] (He.ga K "_law_right") fd ∧ FnM false P w K mg base 7 (He.ga K "_law_right") fd ["_law_stream_here"] (spG K 1 fun p => g_l_right K) := by
  obtain ⟨fd, D⟩ := T.c.def_ 16 (d := y_l_right) rfl
  obtain ⟨fd_l_word, D_l_word, F_l_word⟩ := ok_l_word (P := P) (w := w) (base := base) T
  obtain ⟨fd_l_draw, D_l_draw, F_l_draw⟩ := ok_l_draw (P := P) (w := w) (base := base) T
  obtain ⟨fd_l_thing, D_l_thing, F_l_thing⟩ := ok_l_thing (P := P) (w := w) (base := base) T
  obtain ⟨fd_l_heard, D_l_heard, F_l_heard⟩ := ok_l_heard (P := P) (w := w) (base := base) T
  obtain ⟨fd_l_due, D_l_due, F_l_due⟩ := ok_l_due (P := P) (w := w) (base := base) T
  refine ⟨fd, D, FnM.data (hot := false) (k := 6) D sc_l_right fun X W p hX hr tk h4 => ?_⟩
  obtain ⟨cdv, A, outer, s, H, E, rfl⟩ := hX
  have ND := sc_l_right.nd
  refine ds_cons ?_ ?_
  · exact (ds_set 1 ND rfl (Or.inl rfl) (de_lst (da_cons de_bl (da_cons de_bl (da_cons de_bl (da_cons de_bl (da_cons de_int (da_cons de_int (da_cons de_non (da_cons de_str (da_cons (de_tup da_nil) (da_cons (de_lst (da_cons de_bl da_nil)) (da_cons (de_neg de_int) (da_cons de_dict0 da_nil))))))))))))))
  refine ds_cons ?_ ?_
  · refine ds_for (weak := false) (passes_of rfl) rfl ?_ (dg_name 2 ND rfl (Or.inl rfl)) (nx_name 2) ?_
    · exact (di_rng1 rfl (He.free_ok T.X T.G (T.fa 3 (f := .free "range"))) (da_cons de_int da_nil))
    refine ds_cons ?_ ?_
    · exact (ds_set 3 ND rfl (Or.inl rfl) (de_call (p := p) (g := fun _ => g_l_word K) F_l_word (hr.mono (by decide)) hotx_no tk rfl (He.glo_ok T.X T.G (T.fa 30 (f := .glo "_law_word"))) D_l_word.kp (B9_l_word D_l_word) (da_cons (de_name 0 (pv 0)) da_nil)))
    refine ds_cons ?_ ?_
    · exact (ds_set 4 ND rfl (Or.inl rfl) (de_if (dt_cmp (os_eq hr.un) (de_call (p := p) (g := fun _ => g_l_draw K) F_l_draw (hr.mono (by decide)) hotx_no tk rfl (He.glo_ok T.X T.G (T.fa 2 (f := .glo "_law_draw"))) D_l_draw.kp (B0_l_draw D_l_draw) (da_cons (de_name 0 (pv 0)) (da_cons de_int da_nil))) de_int (nomark _)) (de_name 3 (pv 3)) (de_call (p := p) (g := fun _ => g_l_word K) F_l_word (hr.mono (by decide)) hotx_no tk rfl (He.glo_ok T.X T.G (T.fa 30 (f := .glo "_law_word"))) D_l_word.kp (B9_l_word D_l_word) (da_cons (de_name 0 (pv 0)) da_nil))))
    refine ds_cons ?_ ?_
    · exact (ds_par3 (i := 5) (j := 6) (l := 7) rfl ND rfl rfl rfl (by decide) (by decide) (by decide) rfl rfl rfl (da_cons (de_call (p := p) (g := fun _ => g_l_thing K) F_l_thing (hr.mono (by decide)) hotx_no tk rfl (He.glo_ok T.X T.G (T.fa 31 (f := .glo "_law_thing"))) D_l_thing.kp (B10_l_thing D_l_thing) (da_cons (de_name 0 (pv 0)) (da_cons (de_name 3 (pv 3)) da_nil))) (da_cons (de_call (p := p) (g := fun _ => g_l_thing K) F_l_thing (hr.mono (by decide)) hotx_no tk rfl (He.glo_ok T.X T.G (T.fa 31 (f := .glo "_law_thing"))) D_l_thing.kp (B10_l_thing D_l_thing) (da_cons (de_name 0 (pv 0)) (da_cons (de_name 4 (pv 4)) da_nil))) (da_cons (de_ix is_all (de_name 1 (pv 1)) (de_call (p := p) (g := fun _ => g_l_draw K) F_l_draw (hr.mono (by decide)) hotx_no tk rfl (He.glo_ok T.X T.G (T.fa 2 (f := .glo "_law_draw"))) D_l_draw.kp (B0_l_draw D_l_draw) (da_cons (de_name 0 (pv 0)) (da_cons de_int da_nil))) (fun _ _ => rfl)) da_nil))) (by rfl))
    refine ds_one ?_
    refine ds_if ?_ ?_ ?_
    · exact (dt_cmp (os_ne hr.un) (de_call (p := p) (g := fun _ => g_l_heard K) F_l_heard (hr.mono (by decide)) hotx_no tk rfl (He.glo_ok T.X T.G (T.fa 32 (f := .glo "_law_heard"))) D_l_heard.kp (B11_l_heard D_l_heard) (da_cons (de_name 5 (pv 5)) (da_cons (de_name 6 (pv 6)) (da_cons (de_name 7 (pv 7)) da_nil)))) (de_call (p := p) (g := fun _ => g_l_due K) F_l_due (hr.mono (by decide)) hotx_no tk rfl (He.glo_ok T.X T.G (T.fa 33 (f := .glo "_law_due"))) D_l_due.kp (B12_l_due D_l_due) (da_cons (de_name 5 (pv 5)) (da_cons (de_name 6 (pv 6)) (da_cons (de_name 7 (pv 7)) da_nil)))) (nomark _))
    · refine ds_one ?_
      exact (ds_ret de_bl)
    exact ds_nil
  refine ds_one ?_
  exact (ds_ret de_bl)
theorem sc_l_stream : FnScope ["_law_script", "_law_k", "_law_cell", "_law_mixed", "_law_other"] ["_law_script", "_law_k"] (defScope (top 16)) := ⟨rfl, rfl, rfl, by decide +kernel, rfl, by decide +kernel, by decide +kernel⟩
theorem ok_l_stream (T : Th K mg) : ∃ fd, FunD K "_law_stream" "_law_stream" (defArgs (top 16)) (defBody (top 16)) (defScope (top 16)) [] [] (He.ga K "_law_stream") fd ∧ FnM false P w K mg base 1 (He.ga K "_law_stream") fd ["_law_script", "_law_k"] (spG K 2 fun p => g_l_stream K) := by
  obtain ⟨fd, D⟩ := T.c.def_ 17 (d := y_l_stream) rfl
  refine ⟨fd, D, FnM.data (hot := false) (k := 0) D sc_l_stream fun X W p hX hr tk h4 => ?_⟩
  obtain ⟨cdv, A, outer, s, H, E, rfl⟩ := hX
  have ND := sc_l_stream.nd
  refine ds_cons ?_ ?_
  · exact (ds_set 2 ND rfl (Or.inl rfl) (de_if (dt_cmp (os_lt hr.un) (de_name 1 (pv 1)) (de_callB cs_len rfl (He.free_ok T.X T.G (T.fa 6 (f := .free "len"))) rfl (da_cons (de_name 0 (pv 0)) da_nil)) (nomark _)) (de_ix is_all (de_name 0 (pv 0)) (de_name 1 (pv 1)) (fun _ _ => rfl)) de_int))
  refine ds_cons ?_ ?_
  · exact (ds_set 3 ND rfl (Or.inl rfl) (de_bin os_add de_int (de_bin os_mul de_int (de_name 1 (pv 1)))))
  refine ds_cons ?_ ?_
  · refine ds_for (weak := false) (passes_of rfl) rfl ?_ (dg_name 4 ND rfl (Or.inl rfl)) (nx_name 4) ?_
    · exact (di_seq (de_slice ss_all (de_name 0 (pv 0)) do_none (do_some de_int)))
    refine ds_one ?_
    exact (ds_set 3 ND rfl (Or.inl rfl) (de_bin os_mod (de_callTy cs_int rfl (He.free_ok T.X T.G (T.fa 1 (f := .free "int"))) rfl (da_cons (de_bin os_add (de_bin os_add (de_bin os_mul (de_name 3 (pv 3)) de_int) (de_bin os_mod (de_callTy cs_int rfl (He.free_ok T.X T.G (T.fa 1 (f := .free "int"))) rfl (da_cons (de_name 4 (pv 4)) da_nil)) de_int)) de_int) da_nil)) de_int))
  refine ds_cons ?_ ?_
  · exact (ds_set 3 ND rfl (Or.inl rfl) (de_bin os_mod (de_callTy cs_int rfl (He.free_ok T.X T.G (T.fa 1 (f := .free "int"))) rfl (da_cons (de_bin os_add (de_bin os_add (de_bin os_mul (de_name 3 (pv 3)) de_int) (de_bin os_mod (de_callTy cs_int rfl (He.free_ok T.X T.G (T.fa 1 (f := .free "int"))) rfl (da_cons (de_name 2 (pv 2)) da_nil)) de_int)) de_int) da_nil)) de_int))
  refine ds_one ?_
  exact (ds_ret (de_lst (da_cons (de_name 3 (pv 3)) (da_cons (de_if (dt_cmp os_ge (de_callB cs_abs rfl (He.free_ok T.X T.G (T.fa 34 (f := .free "abs"))) rfl (da_cons (de_name 2 (pv 2)) da_nil)) (de_bin os_pow de_int de_int) (nomark _)) (de_callB cs_abs rfl (He.free_ok T.X T.G (T.fa 34 (f := .free "abs"))) rfl (da_cons (de_name 2 (pv 2)) da_nil)) de_int) (da_cons de_int da_nil)))))
theorem sc_law : FnScope ["_law_script", "_law_k"] ["_law_script"] (defScope (top 25)) := ⟨rfl, rfl, rfl, by decide +kernel, rfl, by decide +kernel, by decide +kernel⟩
theorem ok_law (T : Th K mg) : ∃ fd, FunD K "law" "law" (defArgs (top 25)) (defBody (top 25)) (defScope (top 25)) [] [] (He.ga K "law") fd ∧ ∀ base : Heap, FnM false P w K mg base 8 (He.ga K "law") fd ["_law_script"] (spG K 1 fun p => g_law K) := by
  obtain ⟨fd, D⟩ := T.c.def_ 18 (d := y_law) rfl
  refine ⟨fd, D, fun base => ?_⟩
  obtain ⟨fd_l_right, D_l_right, F_l_right⟩ := ok_l_right (P := P) (w := w) (base := base) T
  obtain ⟨fd_l_stream, D_l_stream, F_l_stream⟩ := ok_l_stream (P := P) (w := w) (base := base) T
  refine FnM.data (hot := false) (k := 7) D sc_law fun X W p hX hr tk h4 => ?_
  obtain ⟨cdv, A, outer, s, H, E, rfl⟩ := hX
  have ND := sc_law.nd
  refine ds_cons ?_ ?_
  · refine ds_for (weak := false) (passes_of rfl) rfl ?_ (dg_name 1 ND rfl (Or.inl rfl)) (nx_name 1) ?_
    · exact (di_rng1 rfl (He.free_ok T.X T.G (T.fa 3 (f := .free "range"))) (da_cons (de_callB (cs_max rfl) rfl (He.free_ok T.X T.G (T.fa 38 (f := .free "max"))) rfl (da_cons de_int (da_cons (de_callB (cs_min rfl) rfl (He.free_ok T.X T.G (T.fa 37 (f := .free "min"))) rfl (da_cons (de_callB cs_len rfl (He.free_ok T.X T.G (T.fa 6 (f := .free "len"))) rfl (da_cons (de_name 0 (pv 0)) da_nil)) (da_cons de_int da_nil))) da_nil))) da_nil))
    refine ds_one ?_
    refine ds_if ?_ ?_ ?_
    · exact (dt_not (dt_val (de_call (p := p) (g := fun _ => g_l_right K) F_l_right (hr.mono (by decide)) hotx_no tk rfl (He.glo_ok T.X T.G (T.fa 35 (f := .glo "_law_right"))) D_l_right.kp (B13_l_right D_l_right) (da_cons (de_call (p := p) (g := fun _ => g_l_stream K) F_l_stream (hr.mono (by decide)) hotx_no tk rfl (He.glo_ok T.X T.G (T.fa 36 (f := .glo "_law_stream"))) D_l_stream.kp (B14_l_stream D_l_stream) (da_cons (de_name 0 (pv 0)) (da_cons (de_name 1 (pv 1)) da_nil))) da_nil))))
    · refine ds_one ?_
      exact (ds_ret de_bl)
    exact ds_nil
  refine ds_one ?_
  exact (ds_ret de_bl)
theorem rm_law : Rm false 8 callerA := ⟨fun _ => rfl, by decide, by decide, rfl⟩
end Yd
set_option maxRecDepth 100000
set_option maxHeartbeats 4000000
namespace Yd
open PySem PySem.Spec PyProof.Rows L2 DL
section
variable {K : PySem.W.Frag} {S : Sm} {n : Nat} {m : Int}
theorem pd (h : S.ok n) (hn : n < 1000000) (h0 : 0 < m) (hm : m < 1000000) : g_l_draw K [.own (.lst S.ds), .d (.int m)] = .ok (.d (.int (S.dr m))) [.own (.lst (S.nx m).ds), .d (.int m)] :=
  draw_ev (S := S) (n := n) (m := m) (by decide) (by decide) h (by omega) h0 (by omega)
def Ltr : Str := "abcdefghijklmnopqrstuvwxyz"
def Sgn : Str := "abcdefghijklmnopqrstuvwxyz0123456789"
theorem atI_in {α : Type} {xs : List α} {i : Int} (h0 : 0 ≤ i) (h1 : i < xs.length) : ∃ x, atI xs i = some x ∧ x ∈ xs := by
  have hi : i.toNat < xs.length := by omega
  refine ⟨xs[i.toNat], ?_, List.getElem_mem hi⟩
  simp [atI, ixN, h0, h1, hi]
def isSg (w : Str) : Prop := ∃ c ∈ Sgn.cps.toList, w = ⟨#[c]⟩
theorem ix_sgn {i : Int} (h0 : 0 ≤ i) (h1 : i < 36) : ∃ w, gIx (.str Sgn) (.int i) = .val (.str w) ∧ isSg w := by
  have l : Sgn.cps.toList.length = 36 := by decide +kernel
  obtain ⟨c, e, m⟩ := atI_in (xs := Sgn.cps.toList) h0 (by rw [l]; exact h1)
  refine ⟨⟨#[c]⟩, ?_, c, m, rfl⟩
  show (if Sgn.length ≤ sizeLine then (match atI Sgn.cps.toList i with
      | some c => Rs.val (.str ⟨#[c]⟩)
      | none => .bad) else .bad) = _
  rw [if_pos (by decide +kernel), e]
theorem sgs_ev (h : S.ok n) (hn : n < 500000) {most : Int} {z : Nat} (hz : z < 100) :
    ∃ (ws : List Str) (S' : Sm), S'.ok (n + z) ∧ ws.length = z ∧ (∀ w ∈ ws, isSg w) ∧ lcF (rngW 0 z) (setSl 4) fYes (e1_l_word K) [4] z 0 [] [.own (.lst S.ds), .d (.str Sgn), .d (.int most), .d (.int z), .un] = .ok (.own (.lst (ws.map D.str))) [.own (.lst (Sm.ds S')), .d (.str Sgn), .d (.int most), .d (.int z), .un] := by
  obtain ⟨acc, st', e, ws, S', h1, h2, h3, h4, h5⟩ := lc_ok (w := rngW 0 z) (h := setSl 4) (ft := fYes) (fe := e1_l_word K) (vs := [4]) (st := [.own (.lst S.ds), .d (.str Sgn), .d (.int most), .d (.int z), .un])
    (fun k acc st => ∃ (ws : List Str) (S' : Sm), Sm.ok S' (n + k) ∧ ws.length = k ∧ (∀ w ∈ ws, isSg w) ∧ acc = ws.map D.str ∧ st = [.own (.lst (Sm.ds S')), .d (.str Sgn), .d (.int most), .d (.int z), .un])
    ⟨[], S, h, rfl, fun w hw => (nomatch hw), rfl, rfl⟩
    (fun k acc st hk i => by
      obtain ⟨ws, S', h1, h2, h3, h4, h5⟩ := i
      subst h4 h5
      have hk : k < z := hk
      obtain ⟨w, e1, e2⟩ := ix_sgn (Sm.dr_lo S' (m := 36) (by omega)) (Sm.dr_hi S' (m := 36) (by omega))
      refine ⟨.int (0 + (k : Nat)), [.own (.lst S'.ds), .d (.str Sgn), .d (.int most), .d (.int z), .d (.int (0 + (k : Nat)))], true, _, rfl, rfl, rfl, fun _ => ⟨.d (.str w), [.own (.lst (S'.nx 36).ds), .d (.str Sgn), .d (.int most), .d (.int z), .d (.int (0 + (k : Nat)))], .str w, _, ?_, rfl, ?_, ws ++ [w], S'.nx 36, ?_, ?_, ?_, ?_, rfl⟩, fun z => nomatch z⟩
      · simp [e1_l_word, pd h1 (by omega), e1]
      · rw [List.length_map, h2]
        exact Nat.lt_of_lt_of_le hk (Nat.le_trans (Nat.le_of_lt hz) (by decide))
      · exact Sm.ok_nx h1 36
      · simp [h2]
      · intro x hx
        rcases List.mem_append.mp hx with q | q
        · exact h3 x q
        · rw [List.mem_singleton.mp q]; exact e2
      · simp)
    (fun _ _ _ => rfl)
  subst h4 h5
  exact ⟨ws, S', h1, h2, h3, e⟩
def isNm (w : Str) : Prop := ∃ c cs, w = ⟨(c :: cs).toArray⟩ ∧ c ∈ Ltr.cps.toList ∧ (∀ x ∈ cs, x ∈ Sgn.cps.toList) ∧ cs.length ≤ 7
theorem join_sg : ∀ {ws : List Str}, (∀ w ∈ ws, isSg w) → ∃ cs : List Nat, Str.join (Str.ofString "") ws = ⟨cs.toArray⟩ ∧ cs.length = ws.length ∧ ∀ x ∈ cs, x ∈ Sgn.cps.toList
  | [], _ => ⟨[], rfl, rfl, fun x h => nomatch h⟩
  | [w], h => by
    obtain ⟨c, m, e⟩ := h w List.mem_cons_self
    subst e
    exact ⟨[c], rfl, rfl, fun x hx => by rw [List.mem_singleton.mp hx]; exact m⟩
  | w :: w2 :: ws, h => by
    obtain ⟨c, m, e⟩ := h w List.mem_cons_self
    obtain ⟨cs, e1, e2, e3⟩ := join_sg (ws := w2 :: ws) fun x hx => h x (List.mem_cons_of_mem _ hx)
    refine ⟨c :: cs, ?_, by simp [e2], fun x hx => ?_⟩
    · show w ++ Str.ofString "" ++ Str.join (Str.ofString "") (w2 :: ws) = _
      rw [e1, e]
      show Str.append (Str.append ⟨#[c]⟩ (Str.ofString "")) ⟨cs.toArray⟩ = _
      have z : Str.ofString "" = ⟨#[]⟩ := by decide +kernel
      rw [z]
      simp [Str.append]
    · rcases List.mem_cons.mp hx with q | q
      · rw [q]; exact m
      · exact e3 x q
theorem strs_map : ∀ {ws : List Str}, strs? (ws.map D.str) = some ws
  | [] => rfl
  | w :: ws => by
    show con2 (some w) (strs? (ws.map D.str)) = _
    rw [strs_map]
    rfl
theorem join_ev {ws : List Str} (h : ∀ w ∈ ws, isSg w) (hl : ws.length ≤ 7) : ∃ cs : List Nat, gJoin (.str "") [.lst (ws.map D.str)] = .val (.str ⟨cs.toArray⟩) ∧ cs.length = ws.length ∧ ∀ x ∈ cs, x ∈ Sgn.cps.toList := by
  obtain ⟨cs, e1, e2, e3⟩ := join_sg h
  refine ⟨cs, ?_, e2, e3⟩
  show (match strs? (ws.map D.str) with
    | some (ys : List Str) => if (ys.map Str.length).sum + ys.length * (Str.ofString "").length ≤ 16777216 then Rs.val (.str (Txt.join (Str.ofString "") ys)) else .bad
    | none => .bad) = _
  rw [strs_map]
  have s1 : ∀ {ws : List Str}, (∀ w ∈ ws, isSg w) → (ws.map Str.length).sum = ws.length := by
    intro ws
    induction ws with
    | nil => intro _; rfl
    | cons w ws ih =>
      intro h
      obtain ⟨c, m, e⟩ := h w List.mem_cons_self
      subst e
      simp [ih fun x hx => h x (List.mem_cons_of_mem _ hx), Str.length]
      omega
  have z : (Str.ofString "").length = 0 := by decide +kernel
  show (if (ws.map Str.length).sum + ws.length * (Str.ofString "").length ≤ 16777216 then Rs.val (.str (Txt.join (Str.ofString "") ws)) else .bad) = _
  rw [s1 h, z, if_pos (by omega), TL.join_eq, e1]
theorem ltr_len : Ltr.cps.toList.length = 26 := by decide +kernel
theorem ix_ltr {i : Int} (h0 : 0 ≤ i) (h1 : i < 26) : ∃ c, gIx (.str Sgn) (.int i) = .val (.str ⟨#[c]⟩) ∧ c ∈ Ltr.cps.toList := by
  have l : Ltr.cps.toList.length = 26 := ltr_len
  obtain ⟨c, e, m⟩ := atI_in (xs := Ltr.cps.toList) h0 (by rw [l]; exact h1)
  refine ⟨c, ?_, m⟩
  have z : ∀ k : Fin 26, Sgn.cps.toList[k.val]? = Ltr.cps.toList[k.val]? := by decide +kernel
  have z' := z ⟨i.toNat, by omega⟩
  have a1 : i < 36 := by omega
  have e' : atI Sgn.cps.toList i = some c := by
    have l2 : Sgn.cps.toList.length = 36 := by decide +kernel
    unfold atI ixN at e ⊢
    rw [l] at e
    rw [l2]
    rw [if_pos h0, if_pos (show i < ((26 : Nat) : Int) from h1)] at e
    rw [if_pos h0, if_pos (show i < ((36 : Nat) : Int) from a1)]
    exact z'.trans e
  show (if Sgn.length ≤ sizeLine then (match atI Sgn.cps.toList i with
      | some c => Rs.val (.str ⟨#[c]⟩)
      | none => .bad) else .bad) = _
  rw [if_pos (by decide +kernel), e']
theorem nm_of {w : Str} {c : Nat} {cs : List Nat} (e : w = ⟨(c :: cs).toArray⟩) (h1 : c ∈ Ltr.cps.toList) (h2 : ∀ x ∈ cs, x ∈ Sgn.cps.toList) (h3 : cs.length ≤ 7) : isNm w := ⟨c, cs, e, h1, h2, h3⟩
theorem hSgn : Str.ofString "abcdefghijklmnopqrstuvwxyz0123456789" = Sgn := rfl
theorem word_ev (h : S.ok n) (hn : n < 400000) : ∃ (w : Str) (S' : Sm), S'.ok (n + 16) ∧ isNm w ∧ g_l_word K [.own (.lst S.ds)] = .ok (.d (.str w)) [.own (.lst S'.ds)] := by
  have h1 := Sm.ok_nx h 6
  by_cases c : S.dr 6 = 0
  · have h2 := Sm.ok_nx h1 8
    have r0 := Sm.dr_lo (S.nx 6) (m := 8) (by omega)
    have r1 := Sm.dr_hi (S.nx 6) (m := 8) (by omega)
    obtain ⟨w, e1, e2⟩ : ∃ w, atI [D.str "tie", .str "oneway", .str "a", .str "z9", .str "none", .str "yard", .str "ab", .str "x0000000"] ((S.nx 6).dr 8) = some (.str w) ∧ isNm w := by
      have q : (S.nx 6).dr 8 = 0 ∨ (S.nx 6).dr 8 = 1 ∨ (S.nx 6).dr 8 = 2 ∨ (S.nx 6).dr 8 = 3 ∨ (S.nx 6).dr 8 = 4 ∨ (S.nx 6).dr 8 = 5 ∨ (S.nx 6).dr 8 = 6 ∨ (S.nx 6).dr 8 = 7 := by omega
      rcases q with q | q | q | q | q | q | q | q
      · rw [q]; exact ⟨_, rfl, nm_of (c := 116) (cs := [105, 101]) (by decide +kernel) (by decide +kernel) (by decide +kernel) (by decide)⟩
      · rw [q]; exact ⟨_, rfl, nm_of (c := 111) (cs := [110, 101, 119, 97, 121]) (by decide +kernel) (by decide +kernel) (by decide +kernel) (by decide)⟩
      · rw [q]; exact ⟨_, rfl, nm_of (c := 97) (cs := []) (by decide +kernel) (by decide +kernel) (by decide +kernel) (by decide)⟩
      · rw [q]; exact ⟨_, rfl, nm_of (c := 122) (cs := [57]) (by decide +kernel) (by decide +kernel) (by decide +kernel) (by decide)⟩
      · rw [q]; exact ⟨_, rfl, nm_of (c := 110) (cs := [111, 110, 101]) (by decide +kernel) (by decide +kernel) (by decide +kernel) (by decide)⟩
      · rw [q]; exact ⟨_, rfl, nm_of (c := 121) (cs := [97, 114, 100]) (by decide +kernel) (by decide +kernel) (by decide +kernel) (by decide)⟩
      · rw [q]; exact ⟨_, rfl, nm_of (c := 97) (cs := [98]) (by decide +kernel) (by decide +kernel) (by decide +kernel) (by decide)⟩
      · rw [q]; exact ⟨_, rfl, nm_of (c := 120) (cs := [48, 48, 48, 48, 48, 48, 48]) (by decide +kernel) (by decide +kernel) (by decide +kernel) (by decide)⟩
    refine ⟨w, (S.nx 6).nx 8, h2.mono (by omega), e2, ?_⟩
    rw [g_l_word, g_rt_d (x := .str w) (st := [.own (.lst ((S.nx 6).nx 8).ds), .un, .un, .un, .un])]
    · rfl
    · simp [f_l_word, pd h (by omega), pd h1 (by omega), c, e1, gEq, okD, deq]
    · rfl
  · have h2 := Sm.ok_nx h1 3
    have r0 := Sm.dr_lo (S.nx 6) (m := 3) (by omega)
    have r1 := Sm.dr_hi (S.nx 6) (m := 3) (by omega)
    obtain ⟨most, e1, m0, m1⟩ : ∃ most : Int, atI [D.int 1, .int 2, .int 8] ((S.nx 6).dr 3) = some (.int most) ∧ 0 < most ∧ most ≤ 8 := by
      have q : (S.nx 6).dr 3 = 0 ∨ (S.nx 6).dr 3 = 1 ∨ (S.nx 6).dr 3 = 2 := by omega
      rcases q with q | q | q <;> (rw [q]; exact ⟨_, rfl, by decide, by decide⟩)
    generalize hS2 : (S.nx 6).nx 3 = S2 at h2
    have h3 := Sm.ok_nx h2 most
    have z0 := Sm.dr_lo S2 m0
    have z1 := Sm.dr_hi S2 m0
    obtain ⟨z, hz⟩ : ∃ z : Nat, S2.dr most = z := ⟨(S2.dr most).toNat, by omega⟩
    have h4 := Sm.ok_nx h3 26
    obtain ⟨c0, f1, f2⟩ := ix_ltr (Sm.dr_lo (S2.nx most) (m := 26) (by omega)) (Sm.dr_hi (S2.nx most) (m := 26) (by omega))
    obtain ⟨ws, S', g1, g2, g3, g4⟩ := sgs_ev (K := K) h4 (by omega) (most := most) (z := z) (by omega)
    obtain ⟨cs, j1, j2, j3⟩ := join_ev g3 (by omega)
    refine ⟨⟨(c0 :: cs).toArray⟩, S', g1.mono (by omega), ⟨c0, cs, rfl, f2, j3, by omega⟩, ?_⟩
    rw [g_l_word, g_rt_d (x := .str ⟨(c0 :: cs).toArray⟩) (st := [.own (.lst S'.ds), .d (.str Sgn), .d (.int most), .d (.int z), .un])]
    · rfl
    · have hz2 : (z : Int) < 4611686018427387904 := by omega
      have e5 : (fLc (fWkRng (fCons (fName 3) fNil)) (setSl 4) fYes (e1_l_word K) [4]) [.own (.lst ((S2.nx most).nx 26).ds), .d (.str Sgn), .d (.int most), .d (.int z), .un] = .ok (.own (.lst (ws.map D.str))) [.own (.lst S'.ds), .d (.str Sgn), .d (.int most), .d (.int z), .un] := by
        exact plc (rng1 (j := z) rfl rfl (by omega)) rfl g4
      have e6 : (fMtV "str" gJoin (fC (D.str (Str.ofString ""))) (fCons (fLc (fWkRng (fCons (fName 3) fNil)) (setSl 4) fYes (e1_l_word K) [4]) fNil)) [.own (.lst ((S2.nx most).nx 26).ds), .d (.str Sgn), .d (.int most), .d (.int z), .un] = .ok (.d (.str ⟨cs.toArray⟩)) [.own (.lst S'.ds), .d (.str Sgn), .d (.int most), .d (.int z), .un] := by
        have e7 : (fCons (fLc (fWkRng (fCons (fName 3) fNil)) (setSl 4) fYes (e1_l_word K) [4]) fNil) [.own (.lst ((S2.nx most).nx 26).ds), .d (.str Sgn), .d (.int most), .d (.int z), .un] = .ok [.own (.lst (ws.map D.str))] [.own (.lst S'.ds), .d (.str Sgn), .d (.int most), .d (.int z), .un] := by
          rw [ap27_fCons, e5]
          rfl
        rw [mtv_go (T := "str") (g := gJoin) (fo := fC (D.str (Str.ofString ""))) (ir := .d (.str (Str.ofString ""))) (d := .str (Str.ofString "")) (ds := [.lst (ws.map D.str)]) rfl rfl rfl e7 rfl rfl, j1]
        rfl
      have hj : (Str.length ⟨#[c0]⟩ + Str.length ⟨cs.toArray⟩ ≤ sizeLine) := by
        show 1 + cs.toArray.size ≤ sizeLine
        have : cs.toArray.size = cs.length := by simp
        rw [this]
        exact Nat.le_trans (show 1 + cs.length ≤ 8 by omega) (by decide)
      have hcat : (⟨#[c0]⟩ : Str) ++ (⟨cs.toArray⟩ : Str) = ⟨(c0 :: cs).toArray⟩ := by
        show Str.append _ _ = _
        simp [Str.append]
      have hS2' : (S.nx 6).nx 3 = S2 := hS2
      have hS2' : (S.nx 6).nx 3 = S2 := hS2
      show fSeq _ (fSeq _ (fSeq _ _)) [.own (.lst S.ds), .un, .un, .un, .un] = _
      refine sq (s1 := [.own (.lst (S.nx 6).ds), .un, .un, .un, .un]) ?_ ?_
      · simp [pd h (by omega), c, gEq, okD, deq]
      refine sq (s1 := [.own (.lst S2.ds), .d (.str Sgn), .d (.int most), .un, .un]) ?_ ?_
      · simp [pd h1 (by omega), e1, hS2']
        rfl
      refine sq (s1 := [.own (.lst (S2.nx most).ds), .d (.str Sgn), .d (.int most), .d (.int z), .un]) ?_ ?_
      · simp [pd h2 (by omega) m0 (by omega), hz]
      show fRet (fBin gAdd _ (fMtV "str" gJoin (fC (D.str (Str.ofString ""))) (fCons (fLc (fWkRng (fCons (fName 3) fNil)) (setSl 4) fYes (e1_l_word K) [4]) fNil))) _ = _
      generalize (fMtV "str" gJoin (fC (D.str (Str.ofString ""))) (fCons (fLc (fWkRng (fCons (fName 3) fNil)) (setSl 4) fYes (e1_l_word K) [4]) fNil)) = jj at e6 ⊢
      have hg : gAdd (.str ⟨#[c0]⟩) (.str ⟨cs.toArray⟩) = .val (.str ⟨(c0 :: cs).toArray⟩) := by rw [gAdd_str, if_pos hj, hcat]
      clear hj hcat
      simp [pd h3 (by omega), f1, e6, hg]
    · rfl
def dg (j : Nat) : Str := toString (j : Int)
def qN (j : Nat) : Str := "q" ++ dg j
theorem qN_nm : ∀ j < 9, isNm (qN j) := by
  intro j hj
  have q : j = 0 ∨ j = 1 ∨ j = 2 ∨ j = 3 ∨ j = 4 ∨ j = 5 ∨ j = 6 ∨ j = 7 ∨ j = 8 := by omega
  rcases q with q | q | q | q | q | q | q | q | q <;> subst q
  · exact nm_of (c := 113) (cs := [48]) (by decide +kernel) (by decide +kernel) (by decide +kernel) (by decide)
  · exact nm_of (c := 113) (cs := [49]) (by decide +kernel) (by decide +kernel) (by decide +kernel) (by decide)
  · exact nm_of (c := 113) (cs := [50]) (by decide +kernel) (by decide +kernel) (by decide +kernel) (by decide)
  · exact nm_of (c := 113) (cs := [51]) (by decide +kernel) (by decide +kernel) (by decide +kernel) (by decide)
  · exact nm_of (c := 113) (cs := [52]) (by decide +kernel) (by decide +kernel) (by decide +kernel) (by decide)
  · exact nm_of (c := 113) (cs := [53]) (by decide +kernel) (by decide +kernel) (by decide +kernel) (by decide)
  · exact nm_of (c := 113) (cs := [54]) (by decide +kernel) (by decide +kernel) (by decide +kernel) (by decide)
  · exact nm_of (c := 113) (cs := [55]) (by decide +kernel) (by decide +kernel) (by decide +kernel) (by decide)
  · exact nm_of (c := 113) (cs := [56]) (by decide +kernel) (by decide +kernel) (by decide +kernel) (by decide)
theorem qN_nodup : ∀ m ≤ 8, ((List.range m).map qN).Nodup := by
  have h : ((List.range 8).map qN).Nodup := by decide +kernel
  intro m hm
  refine List.Nodup.sublist (List.Sublist.map qN ?_) h
  have e : List.range 8 = List.range m ++ (List.range (8 - m)).map (m + ·) := by
    rw [← List.range_add]
    congr 1
    omega
  rw [e]
  exact List.sublist_append_left _ _
theorem qN_add (j : Nat) (hj : j < 9) : gStr (.int (j : Nat)) = .val (.str (dg j)) ∧ gAdd (.str "q") (.str (dg j)) = .val (.str (qN j)) := by
  have q : j = 0 ∨ j = 1 ∨ j = 2 ∨ j = 3 ∨ j = 4 ∨ j = 5 ∨ j = 6 ∨ j = 7 ∨ j = 8 := by omega
  have g : ∀ w : Str, Str.length w = 1 → gAdd (.str "q") (.str w) = .val (.str ("q" ++ w)) := fun w h => by
    have z : Str.length ("q" : Str) = 1 := by decide +kernel
    rw [gAdd_str, h, z]
    rfl
  rcases q with q | q | q | q | q | q | q | q | q <;> subst q <;> refine ⟨rfl, g _ (by decide +kernel)⟩
def pool0 (S : Sm) (m : Nat) (ws : List Str) (y : Sl × Sl × Sl) : Sls := [.own (.lst S.ds), .d (.int m), .own (.lst (ws.map D.str)), y.1, y.2.1, y.2.2, .un, .un]
end
end Yd
set_option maxRecDepth 100000
set_option maxHeartbeats 4000000
namespace Yd
open PySem PySem.Spec PyProof.Rows L2 DL
section
variable {K : PySem.W.Frag} {S : Sm} {n : Nat}
/-! ### names -/
def Dgt : Str := "0123456789"
def lB (c : Nat) : Bool := decide (c ∈ Ltr.cps.toList)
def sB (c : Nat) : Bool := decide (c ∈ Sgn.cps.toList)
def dB (c : Nat) : Bool := decide (c ∈ Dgt.cps.toList)
theorem sB_eq {c : Nat} : sB c = (lB c || dB c) := by
  have e : Sgn.cps.toList = Ltr.cps.toList ++ Dgt.cps.toList := by decide +kernel
  unfold sB lB dB
  rw [e, Bool.eq_iff_iff]
  simp only [decide_eq_true_eq, List.mem_append, Bool.or_eq_true]
def nmL : List Nat → Bool
  | [] => false
  | c :: cs => decide (cs.length ≤ 7) && (lB c && (c :: cs).all sB)
def nmB (w : Str) : Bool := nmL w.cps.toList
theorem nmB_iff {w : Str} : nmB w = true ↔ isNm w := by
  obtain ⟨⟨l⟩⟩ := w
  constructor
  · intro h
    have h : nmL l = true := h
    cases l with
    | nil => simp [nmL] at h
    | cons c cs =>
      simp only [nmL, Bool.and_eq_true, decide_eq_true_eq, List.all_eq_true, List.mem_cons] at h
      exact ⟨c, cs, rfl, of_decide_eq_true h.2.1, fun x hx => of_decide_eq_true (h.2.2 x (.inr hx)), h.1⟩
  · rintro ⟨c, cs, e, h1, h2, h3⟩
    cases e
    show nmL (c :: cs) = true
    simp only [nmL, Bool.and_eq_true, decide_eq_true_eq, List.all_eq_true, List.mem_cons]
    refine ⟨h3, decide_eq_true h1, fun x hx => ?_⟩
    rcases hx with q | q
    · rw [q, sB_eq]
      have : lB c = true := decide_eq_true h1
      rw [this]
      rfl
    · exact decide_eq_true (h2 x q)
theorem gIn_one {c : Nat} {y : Str} : gIn (.str ⟨#[c]⟩) (.str y) = .val (.bl (decide (c ∈ y.cps.toList))) := by
  have e : inStr ⟨#[c]⟩ y = decide (c ∈ y.cps.toList) := StrLaws.found_one y c
  show Rs.val (.bl (inStr ⟨#[c]⟩ y)) = _
  rw [e]
theorem gIn_L {c : Nat} : gIn (.str ⟨#[c]⟩) (.str (Str.ofString "abcdefghijklmnopqrstuvwxyz")) = .val (.bl (lB c)) := gIn_one
theorem gIn_D {c : Nat} : gIn (.str ⟨#[c]⟩) (.str (Str.ofString "0123456789")) = .val (.bl (dB c)) := gIn_one
theorem gIx_str {w : Str} {i : Int} (h : w.length ≤ sizeLine) : gIx (.str w) (.int i) = (match atI w.cps.toList i with
    | some c => Rs.val (.str ⟨#[c]⟩)
    | none => .bad) := by
  exact if_pos h
theorem kit_str {kit : List String} {own : List (Addr × Bool)} {w : Str} : gIsI (kitF kit own) (.str w) = .val (.bl (kit.contains "str")) := by
  simp [gIsI, tyD, kitF, dTys]
theorem bls_map {α : Type} {f : α → Bool} {xs : List α} : bls? (xs.map fun x => D.bl (f x)) = some (xs.map f) := by
  induction xs with
  | nil => rfl
  | cons x xs ih =>
    show con2 (some (f x)) (bls? (xs.map fun x => D.bl (f x))) = _
    rw [ih]
    rfl
theorem gAll_map {α : Type} {f : α → Bool} {xs : List α} : gAll (.lst (xs.map fun x => D.bl (f x))) = .val (.bl (xs.all f)) := by
  show (match bls? (xs.map fun x => D.bl (f x)) with
    | some bs => Rs.val (.bl (bs.all fun b => b))
    | none => .bad) = _
  rw [bls_map]
  simp [Function.comp_def]
theorem gAny_map {α : Type} {f : α → Bool} {xs : List α} : gAny (.lst (xs.map fun x => D.bl (f x))) = .val (.bl (xs.any f)) := by
  show (match bls? (xs.map fun x => D.bl (f x)) with
    | some bs => Rs.val (.bl (bs.any fun b => b))
    | none => .bad) = _
  rw [bls_map]
  simp [Function.comp_def]
theorem is_name_ev {w : Str} (hw : w.length ≤ sizeLine) : g_is_name K [.d (.str w)] = .ok (.d (.bl (nmB w))) [.d (.str w)] := by
  obtain ⟨⟨l⟩⟩ := w
  have hl : Str.length ⟨l.toArray⟩ = l.length := by simp [Str.length]
  have hg : gLen (.str ⟨l.toArray⟩) = .val (.int l.length) := by
    rw [gLen_str, if_pos hw, hl]
  by_cases h : 1 ≤ l.length ∧ l.length ≤ 8
  · obtain ⟨c, cs, e⟩ : ∃ c cs, l = c :: cs := by
      cases l with
      | nil => simp at h
      | cons c cs => exact ⟨c, cs, rfl⟩
    have h1 : (1 : Int) ≤ (l.length : Int) := by omega
    have h2 : (l.length : Int) ≤ 8 := by omega
    have e0 : gIx (.str ⟨l.toArray⟩) (.int 0) = .val (.str ⟨#[c]⟩) := by
      rw [gIx_str hw, e]
      simp
    rw [g_is_name, g_rt_d (x := .bl (nmB ⟨l.toArray⟩)) (st := [.d (.str ⟨l.toArray⟩), .un])]
    · rfl
    · show f_is_name K [.d (.str ⟨l.toArray⟩), .un] = _
      simp [f_is_name, kit_str, hg, h1, h2, e0, gIn_L]
      cases hc : lB c with
      | true =>
        simp
        rw [plc]
        case e => rfl
        case e1 => rfl
        case e2 => exact lc_each (xs := l) (emb := fun c => .str ⟨#[c]⟩) (seqW_is _) rfl (fun c => .bl (sB c)) (size_ge (by omega)) (fun x hx => by
          refine ⟨_, rfl, rfl, .d (.bl _), ?_, rfl⟩
          rw [sB_eq]
          simp [e1_is_name, gIn_L, gIn_D]
          cases lB x <;> simp)
        simp [gAll_map]
        show _ = nmL l
        rw [e]
        have h3 : cs.length ≤ 7 := by rw [e] at h; simpa using h.2
        simp only [nmL, h3, hc, decide_true, Bool.true_and]
      | false =>
        simp
        show nmL l = false
        rw [e]
        simp only [nmL, hc, Bool.false_and, Bool.and_false]
    · rfl
  · have hn : nmB ⟨l.toArray⟩ = false := by
      show nmL l = false
      cases l with
      | nil => rfl
      | cons c cs =>
        have : ¬ cs.length ≤ 7 := fun z => h ⟨by simp, by simp; omega⟩
        simp only [nmL, this, decide_false, Bool.false_and]
    rw [hn, g_is_name, g_rt_d (x := .bl false) (st := [.d (.str ⟨l.toArray⟩), .un])]
    · rfl
    · show f_is_name K [.d (.str ⟨l.toArray⟩), .un] = _
      by_cases h1 : (1 : Int) ≤ (l.length : Int)
      · have h2 : ¬ (l.length : Int) ≤ 8 := fun z => h ⟨by omega, by omega⟩
        simp [f_is_name, kit_str, hg, h1, h2]
      · simp [f_is_name, kit_str, hg, h1]
    · rfl
theorem nm_size {w : Str} (h : isNm w) : w.length ≤ sizeLine := by
  obtain ⟨c, cs, rfl, _, _, h⟩ := h
  refine size_ge ?_
  simp [Str.length]
  omega
theorem is_name_nm {w : Str} (h : isNm w) : g_is_name K [.d (.str w)] = .ok (.d (.bl true)) [.d (.str w)] := by
  rw [is_name_ev (nm_size h), nmB_iff.mpr h]
theorem check_name_nm {w : Str} (h : isNm w) : g_check_name K [.d (.str w)] = .ok (.d .non) [.d (.str w)] := by
  rw [g_check_name, g_nx (st := [.d (.str w)])]
  · rfl
  · show f_check_name K [.d (.str w)] = _
    simp [f_check_name, is_name_nm h]
  · rfl
end
end Yd
set_option maxRecDepth 100000
set_option maxHeartbeats 4000000
namespace Yd
open PySem PySem.Spec PyProof.Rows L2 DL
section
variable {K : PySem.W.Frag} {a b : Str} {o : Bool} {st : Sls}
/-! ### ties -/
def tieM (K : PySem.W.Frag) (a b : Str) (o : Bool) : MO := .ins (He.ga K "Tie") ["ends", "single"] [.tup [.str a, .str b], .bl o]
def tieD (K : PySem.W.Frag) (a b : Str) (o : Bool) : D := .ins (He.ga K "Tie") ["ends", "single"] [.tup [.str a, .str b], .bl o]
theorem tie_toD : (tieM K a b o).toD = tieD K a b o := rfl
@[simp] theorem setF_ref {C : Addr} {f : Str} {iv : Itm} {j : Nat} {st : Sls} : setF C f iv (.ref j) st = (match frz iv st with
    | some (x, s3) => (match s3[j]? with
      | some (.own (.ins C' fs ds)) => if C' = C ∧ fs.length < 900 then .nx (s3.set j (.own (.ins C (putN f fs) (putD f x fs ds)))) else .bad
      | _ => .bad)
    | none => .bad) := (by rfl)
theorem put_a1 : putN "ends" [] = ([("ends" : Str)] : List Str) := rfl
theorem put_a2 {x : D} : putD "ends" x [] [] = [x] := rfl
theorem put_b1 : putN "single" ([("ends" : Str)] : List Str) = ([("ends" : Str), ("single" : Str)] : List Str) := by
  show (if (Str.ofString "ends") = Str.ofString "single" then _ else _) = _
  rw [if_neg (by decide +kernel)]
  rfl
theorem put_b2 {x y : D} : putD "single" y ([("ends" : Str)] : List Str) [x] = [x, y] := by
  show (if (Str.ofString "ends") = Str.ofString "single" then _ else _) = _
  rw [if_neg (by decide +kernel)]
  rfl
theorem init_ev (ha : isNm a) (hb : isNm b) (hab : a ≠ b) : g_Tie_init K [.own (.ins (He.ga K "Tie") [] []), .d (.str a), .d (.str b), .d (.bl o)] = .ok (.d .non) [.own (tieM K a b o), .d (.str a), .d (.str b), .d (.bl o)] := by
  rw [g_Tie_init, g_nx (st := [.own (tieM K a b o), .d (.str a), .d (.str b), .d (.bl o)])]
  · rfl
  · show f_Tie_init K [.own (.ins (He.ga K "Tie") [] []), .d (.str a), .d (.str b), .d (.bl o)] = _
    cases o <;> simp [f_Tie_init, check_name_nm ha, check_name_nm hb, hab, put_a1, put_a2, put_b1, put_b2, tieM]
  · rfl
@[simp] theorem makeA_ap {C : Addr} {g : FG} {n : Nat} {ss : List Src} {its : List Itm} {st : Sls} : makeA C g (.arg 0 :: ss) its st = callA (gSelf g) (.arg 0 :: ss) (.own (.ins C [] []) :: its) st := (by rfl)
theorem gSelf_ok {g : FG} {as as' : Sls} (h : g as = .ok (.d .non) as') : gSelf g as = .ok (.ref 0) as' := by
  unfold gSelf
  rw [h]
@[simp] theorem resIt_ref1 {its : List Itm} {as : Sls} {i : Nat} : resIt its as (.ref i) = (match its[i]? with
    | some (.ref k) => some (.ref k)
    | some (.own _) => (match as[i]? with
      | some (.own m) => some (.own m)
      | some (.d x) => some (.d x)
      | _ => none)
    | some (.d _) => (match as[i]? with
      | some (.d x) => some (.d x)
      | _ => none)
    | _ => none) := (by rfl)
theorem make2 (ha : isNm a) (hb : isNm b) (hab : a ≠ b) : makeA (He.ga K "Tie") (g_Tie_init K) [.arg 0, .arg 1, .arg 2, .dfl (.bl false)] [.d (.str a), .d (.str b)] st = .ok (.own (tieM K a b false)) st := by
  simp [makeA, gSelf_ok (init_ev (K := K) (o := false) ha hb hab)]
theorem make3 (ha : isNm a) (hb : isNm b) (hab : a ≠ b) : makeA (He.ga K "Tie") (g_Tie_init K) [.arg 0, .arg 1, .arg 2, .arg 3] [.d (.str a), .d (.str b), .d (.bl o)] st = .ok (.own (tieM K a b o)) st := by
  simp [makeA, gSelf_ok (init_ev (K := K) (o := o) ha hb hab)]
theorem make3r (ha : isNm a) (hb : isNm b) (hab : a ≠ b) : makeA (He.ga K "Tie") (g_Tie_init K) [.arg 0, .arg 3, .arg 2, .arg 1] [.d (.bl o), .d (.str b), .d (.str a)] st = .ok (.own (tieM K a b o)) st := by
  simp [makeA, gSelf_ok (init_ev (K := K) (o := o) ha hb hab)]
theorem make2r (ha : isNm a) (hb : isNm b) (hab : a ≠ b) : makeA (He.ga K "Tie") (g_Tie_init K) [.arg 0, .arg 2, .arg 1, .dfl (.bl false)] [.d (.str b), .d (.str a)] st = .ok (.own (tieM K a b false)) st := by
  simp [makeA, gSelf_ok (init_ev (K := K) (o := false) ha hb hab)]
theorem fldD_1 {f : Str} {x : D} {fs : List Str} {xs : List D} : fldD f (f :: fs) (x :: xs) = some x := by
  unfold fldD
  rw [if_pos rfl]
theorem fldD_2 {f g : Str} {x : D} {fs : List Str} {xs : List D} (h : g ≠ f) : fldD f (g :: fs) (x :: xs) = fldD f fs xs := by
  conv => lhs; unfold fldD
  rw [if_neg h]
theorem fld_ends : fldD "ends" ["ends", "single"] [.tup [.str a, .str b], .bl o] = some (.tup [.str a, .str b]) := fldD_1
theorem fld_single : fldD "single" ["ends", "single"] [.tup [.str a, .str b], .bl o] = some (.bl o) := by
  rw [fldD_2 (by decide +kernel), fldD_1]
theorem tie_start : g_Tie_start K [.d (tieD K a b o)] = .ok (.d (.str a)) [.d (tieD K a b o)] := by
  rw [g_Tie_start, g_rt_d (x := .str a) (st := [.d (tieD K a b o)])]
  · rfl
  · show f_Tie_start K [.d (tieD K a b o)] = _
    simp [f_Tie_start, tieD, fld_ends]
  · rfl
theorem tie_end : g_Tie_end K [.d (tieD K a b o)] = .ok (.d (.str b)) [.d (tieD K a b o)] := by
  rw [g_Tie_end, g_rt_d (x := .str b) (st := [.d (tieD K a b o)])]
  · rfl
  · show f_Tie_end K [.d (tieD K a b o)] = _
    simp [f_Tie_end, tieD, fld_ends]
  · rfl
theorem tie_oneway : g_Tie_oneway K [.d (tieD K a b o)] = .ok (.d (.bl o)) [.d (tieD K a b o)] := by
  rw [g_Tie_oneway, g_rt_d (x := .bl o) (st := [.d (tieD K a b o)])]
  · rfl
  · show f_Tie_oneway K [.d (tieD K a b o)] = _
    simp [f_Tie_oneway, tieD, fld_single]
  · rfl
theorem kp_of {C : Addr} {g : FG} {fo : FE} {x r : D} {fs : List Str} {ds : List D} {s1 : Sls} (hx : x = .ins C fs ds) (h : g [.d x] = .ok (.d r) [.d x]) : k1_fProp C g fo (.d x) s1 = .ok (.d r) s1 := by
  rw [ap63_fProp]
  subst hx
  simp [h, noExc]
@[simp] theorem kp_start {fo : FE} {s1 : Sls} : k1_fProp (He.ga K "Tie") (g_Tie_start K) fo (.d (tieD K a b o)) s1 = .ok (.d (.str a)) s1 := kp_of rfl tie_start
@[simp] theorem kp_end {fo : FE} {s1 : Sls} : k1_fProp (He.ga K "Tie") (g_Tie_end K) fo (.d (tieD K a b o)) s1 = .ok (.d (.str b)) s1 := kp_of rfl tie_end
@[simp] theorem kp_oneway {fo : FE} {s1 : Sls} : k1_fProp (He.ga K "Tie") (g_Tie_oneway K) fo (.d (tieD K a b o)) s1 = .ok (.d (.bl o)) s1 := kp_of rfl tie_oneway
end
end Yd
set_option maxRecDepth 100000
set_option maxHeartbeats 4000000
namespace Yd
open PySem PySem.Spec PyProof.Rows L2 DL
@[simp] theorem Ot.bind_exc1 {α β : Type} {e : Exn} {s : Sls} {k : α → Sls → Ot β} : (Ot.exc e s : Ot α).bind k = .exc e s := (by rfl)
@[simp] theorem Ot.bindS_exc1 {α : Type} {e : Exn} {s : Sls} {k : α → Sls → OtS} : (Ot.exc e s : Ot α).bindS k = .exc e s := (by rfl)
@[simp] theorem OtS.bindS_exc1 {e : Exn} {s : Sls} {k : Sls → OtS} : (OtS.exc e s).bindS k = .exc e s := (by rfl)
theorem sqx {f g : FS} {st s1 : Sls} {e : Exn} (h : f st = .exc e s1) : fSeq f g st = .exc e s1 := by
  unfold fSeq
  rw [h]
  rfl
theorem g_exc {asg : List Nat} {N : Nat} {f : FS} {as st : Sls} {e : Exn} (h : f (as ++ List.replicate (N - as.length) .un) = .exc e st) (hf : fitAll asg 0 as st = true) : gOf asg N f as = .exc e (argsBk asg 0 as st) := by
  unfold gOf
  rw [h]
  exact if_pos hf
section
variable {K : PySem.W.Frag} {t : Nat} {ws w0 : List Str} {ts : List T3} {rs : List Row} {fl : List (Option Str)} {sr pr : List D}
/-! ### a floor behind a slide -/
theorem ixN_nat {n i : Nat} (h : i < n) : ixN n (i : Int) = some i := by simp [ixN, h]
def slidF (fl : List (Option Str)) (i j : Nat) : List (Option Str) := (fl.set j (fl.getD i none)).set i none
theorem slidF_len {i j : Nat} : (slidF fl i j).length = fl.length := by simp [slidF]
end
end Yd
set_option maxRecDepth 100000
set_option maxHeartbeats 4000000
namespace Yd
open PySem PySem.Spec PyProof.Rows L2 DL
/-! ### exceptions in slots, reckoned -/
theorem isx_of {p : Pn} {tab : Value → Option Bool} {i : Nat} {st : Sls} {e : Exn} {b : Bool} (h : st[i]? = some (.exc p e)) (hb : tab e.cls = some b) : fIsX p tab i st = .ok (.d (.bl b)) st := by
  unfold fIsX
  rw [h]
  simp [hb]
theorem xf_of {p : Pn} {ok : Value → Bool} {n : Str} {i : Nat} {st : Sls} {e : Exn} {x : D} (h : st[i]? = some (.exc p e)) (hk : ok e.cls = true) (hx : fldD n e.fs e.ds = some x) : fXf p ok n i st = .ok (.d x) st := by
  unfold fXf
  rw [h]
  simp [hk, hx]
theorem callx_of {p : Pn} {g : Pn → FG} {i : Nat} {st as : Sls} {e : Exn} {x : D} (h : st[i]? = some (.exc p e)) (hg : g p [.exc p e] = .ok (.d x) as) : fCallX p g i st = .ok (.d x) st := by
  unfold fCallX
  rw [h]
  simp [hg]
theorem try_nx {hit : Value → Bool} {i : Nat} {fb : FS} {fe : Pn → FE} {st s1 : Sls} (e : fb st = .nx s1) : fTryX hit i fb fe st = .nx s1 := by
  unfold fTryX fTry
  rw [e]
theorem try_exc {hit : Value → Bool} {i : Nat} {fb : FS} {fe : Pn → FE} {st s1 s2 : Sls} {u : Exn} {r : Rs} {it : Itm} (e : fb st = .exc u s1) (h : hit u.cls = true) (hl : i < s1.length) (nb : r ≠ .bad) (hr : ∀ p st, st[i]? = some (.exc p u) → fe p st = r.out st) (ho : r.out (s1.set i .un) = .ok it s2) :
    fTryX hit i fb fe st = .rt it s2 := by
  unfold fTryX fTry
  rw [e]
  show (if hit u.cls = true ∧ i < s1.length then ((pickR i fe u).out (s1.set i .un)).bindS fun it s2 => .rt it s2 else .bad) = _
  rw [if_pos ⟨h, hl⟩, pickR_eq nb hr, ho]
  rfl
theorem tab1 {M : Addr} {b : Bool} : tabX [(M, b)] (.ref M) = some b := by simp [tabX]
theorem ok1 {M : Addr} : okX [M] (.ref M) = true := by simp [okX]
section
variable {K : PySem.W.Frag} {S : Sm} {n t : Nat} {ws w0 : List Str} {ts : List T3} {rs : List Row} {fl : List (Option Str)} {sr pr : List D}
theorem eq3 {a b c a' b' c' : Bool} : gEq (.lst [.bl a, .bl b, .bl c]) (.lst [.bl a', .bl b', .bl c']) = .val (.bl (a == a' && (b == b' && c == c'))) := by simp [gEq]
end
end Yd
set_option maxRecDepth 100000
set_option maxHeartbeats 4000000
namespace Yd
open PySem PySem.Spec PyProof.Rows L2 DL
section
variable {K : PySem.W.Frag} {S : Sm} {n t : Nat} {a b w : Str} {o : Bool} {ws w0 : List Str} {ts : List T3} {fl : List (Option Str)} {sr pr : List D} {st : Sls}
/-! ### names that are none -/
theorem check_name_no (hw : w.length ≤ sizeLine) (h : nmB w = false) : g_check_name K [.d (.str w)] = .exc ⟨.ref (He.ga K "InvalidName"), ["given"], [.str w]⟩ [.d (.str w)] := by
  have e := is_name_ev (K := K) hw
  rw [h] at e
  rw [g_check_name, g_exc (st := [.d (.str w)])]
  · rfl
  · show f_check_name K [.d (.str w)] = _
    unfold f_check_name
    generalize g_is_name K = g at *
    simp [e, fRaise]
  · rfl
theorem init_no1 (hw : w.length ≤ sizeLine) (h : nmB w = false) {y : D} : g_Tie_init K [.own (.ins (He.ga K "Tie") [] []), .d (.str w), .d y, .d (.bl o)] = .exc ⟨.ref (He.ga K "InvalidName"), ["given"], [.str w]⟩ [.own (.ins (He.ga K "Tie") [] []), .d (.str w), .d y, .d (.bl o)] := by
  have e := check_name_no (K := K) hw h
  rw [g_Tie_init, g_exc (st := [.own (.ins (He.ga K "Tie") [] []), .d (.str w), .d y, .d (.bl o)])]
  · rfl
  · show f_Tie_init K [.own (.ins (He.ga K "Tie") [] []), .d (.str w), .d y, .d (.bl o)] = _
    unfold f_Tie_init
    refine sqx ?_
    generalize g_check_name K = g at *
    generalize He.ga K "InvalidName" = M at *
    simp [e]
  · rfl
theorem init_no2 (ha : isNm a) (hw : w.length ≤ sizeLine) (h : nmB w = false) : g_Tie_init K [.own (.ins (He.ga K "Tie") [] []), .d (.str a), .d (.str w), .d (.bl o)] = .exc ⟨.ref (He.ga K "InvalidName"), ["given"], [.str w]⟩ [.own (.ins (He.ga K "Tie") [] []), .d (.str a), .d (.str w), .d (.bl o)] := by
  have e := check_name_no (K := K) hw h
  have e1 := check_name_nm (K := K) ha
  rw [g_Tie_init, g_exc (st := [.own (.ins (He.ga K "Tie") [] []), .d (.str a), .d (.str w), .d (.bl o)])]
  · rfl
  · show f_Tie_init K [.own (.ins (He.ga K "Tie") [] []), .d (.str a), .d (.str w), .d (.bl o)] = _
    unfold f_Tie_init
    generalize g_check_name K = g at *
    generalize He.ga K "InvalidName" = M at *
    refine sq (s1 := [.own (.ins (He.ga K "Tie") [] []), .d (.str a), .d (.str w), .d (.bl o)]) ?_ (sqx ?_)
    · simp [e1]
    · simp [e]
  · rfl
theorem gSelf_exc {g : FG} {as as' : Sls} {e : Exn} (h : g as = .exc e as') : gSelf g as = .exc e as' := by
  unfold gSelf
  rw [h]
theorem make2_exc {g : FG} {C : Addr} {x y : D} {e : Exn} (h : g [.own (.ins C [] []), .d x, .d y, .d (.bl false)] = .exc e [.own (.ins C [] []), .d x, .d y, .d (.bl false)]) : makeA C g [.arg 0, .arg 1, .arg 2, .dfl (.bl false)] [.d x, .d y] st = .exc e st := by
  simp [makeA, gSelf_exc h]
theorem startM : g_Tie_start K [.own (tieM K a b o)] = .ok (.d (.str a)) [.own (tieM K a b o)] := by
  rw [g_Tie_start, g_rt_d (x := .str a) (st := [.own (tieM K a b o)])]
  · rfl
  · show f_Tie_start K [.own (tieM K a b o)] = _
    simp [f_Tie_start, tieM, fld_ends]
  · rfl
theorem endM : g_Tie_end K [.own (tieM K a b o)] = .ok (.d (.str b)) [.own (tieM K a b o)] := by
  rw [g_Tie_end, g_rt_d (x := .str b) (st := [.own (tieM K a b o)])]
  · rfl
  · show f_Tie_end K [.own (tieM K a b o)] = _
    simp [f_Tie_end, tieM, fld_ends]
  · rfl
theorem propM {C : Addr} {g : FG} {i : Nat} {r : D} {m : MO} {fs : List Str} {ds : List D} (hi : st[i]? = some (.own m)) (hm : m = .ins C fs ds) (h : g [.own m] = .ok (.d r) [.own m]) : (fProp C g (fName i)) st = .ok (.d r) st := by
  subst hm
  have hl : i < st.length := (List.getElem?_eq_some_iff.mp hi).1
  have sb : st.set i (.own (.ins C fs ds)) = st := by
    refine List.ext_getElem? fun j => ?_
    rw [List.getElem?_set]
    by_cases q : i = j
    · subst q
      rw [if_pos rfl, if_pos hl, hi]
    · rw [if_neg q]
  simp [ap63_fProp, hi, h, noExc, MO.toD, sb]
theorem okX_2 {M N : Addr} : okX [M, N] (.ref M) = true := by simp [okX]
theorem okX_2b {M N : Addr} : okX [M, N] (.ref N) = true := by simp [okX]
theorem tabX_2 {M N : Addr} {x y : Bool} : tabX [(M, x), (N, y)] (.ref M) = some x := by simp [tabX]
theorem tabX_2b {M N : Addr} {x y : Bool} (h : N ≠ M) : tabX [(M, x), (N, y)] (.ref N) = some y := by
  have e : (N == M) = false := by simpa using h
  simp [tabX, List.lookup, e]
/-! ### floors with wrong kinds -/
def okK : Option Str → Bool
  | none => true
  | some w => nmB w
end
end Yd
set_option maxRecDepth 100000
set_option maxHeartbeats 4000000
namespace Yd
open PySem PySem.Spec PyProof.Rows L2 DL
section
variable {K : PySem.W.Frag} {S : Sm} {n t : Nat} {a b w : Str} {o : Bool} {ws w0 : List Str} {ts : List T3} {fl : List (Option Str)} {sr pr : List D} {st : Sls}
theorem drN {m : Nat} (h : S.ok n) (hn : n < 200000) (h0 : 0 < m) (hm : m < 1000) : ∃ (i : Nat) (S' : Sm), S'.ok (n + 1) ∧ i < m ∧ g_l_draw K [.own (.lst S.ds), .d (.int m)] = .ok (.d (.int i)) [.own (.lst S'.ds), .d (.int m)] := by
  have d0 := Sm.dr_lo S (m := m) (by omega)
  have d1 := Sm.dr_hi S (m := m) (by omega)
  have p := pd (K := K) h (by omega) (m := m) (by omega) (by omega)
  obtain ⟨i, hi⟩ : ∃ i : Nat, Sm.dr S (m : Int) = (i : Int) := ⟨(Sm.dr S (m : Int)).toNat, (Int.toNat_of_nonneg d0).symm⟩
  rw [hi] at p d1
  exact ⟨i, S.nx m, Sm.ok_nx h m, by omega, p⟩
/-! ### the law's own word for a name -/
theorem gIn_S {c : Nat} : gIn (.str ⟨#[c]⟩) (.str (Str.ofString "abcdefghijklmnopqrstuvwxyz0123456789")) = .val (.bl (sB c)) := gIn_one
theorem sl26 : gSl (.str (Str.ofString "abcdefghijklmnopqrstuvwxyz0123456789")) none (some 26) = .val (.str (Str.ofString "abcdefghijklmnopqrstuvwxyz")) := by
  rfl
theorem name_ev {w : Str} (hw : w.length ≤ sizeLine) : g_l_name K [.d (.str w)] = .ok (.d (.bl (nmB w))) [.d (.str w)] := by
  obtain ⟨⟨l⟩⟩ := w
  have hl : Str.length ⟨l.toArray⟩ = l.length := by simp [Str.length]
  have hg : gLen (.str ⟨l.toArray⟩) = .val (.int l.length) := by
    rw [gLen_str, if_pos hw, hl]
  by_cases h : 1 ≤ l.length ∧ l.length ≤ 8
  · obtain ⟨c, cs, e⟩ : ∃ c cs, l = c :: cs := by
      cases l with
      | nil => simp at h
      | cons c cs => exact ⟨c, cs, rfl⟩
    have h1 : (1 : Int) ≤ (l.length : Int) := by omega
    have h2 : (l.length : Int) ≤ 8 := by omega
    have e0 : gIx (.str ⟨l.toArray⟩) (.int 0) = .val (.str ⟨#[c]⟩) := by
      rw [gIx_str hw, e]
      simp
    rw [g_l_name, g_rt_d (x := .bl (nmB ⟨l.toArray⟩)) (st := [.d (.str ⟨l.toArray⟩), .d (.str (Str.ofString "abcdefghijklmnopqrstuvwxyz0123456789")), .un])]
    · rfl
    · show f_l_name K [.d (.str ⟨l.toArray⟩), .un, .un] = _
      unfold f_l_name
      refine sq (s1 := [.d (.str ⟨l.toArray⟩), .d (.str (Str.ofString "abcdefghijklmnopqrstuvwxyz0123456789")), .un]) (by simp [s1_l_name]) ?_
      refine sq (s1 := [.d (.str ⟨l.toArray⟩), .d (.str (Str.ofString "abcdefghijklmnopqrstuvwxyz0123456789")), .un]) (by simp [s3_l_name, s2_l_name, kit_str, hg, h1, h2]) ?_
      simp [s5_l_name, e0, sl26, gIn_L]
      cases hc : lB c with
      | true =>
        simp
        rw [plc]
        case e => rfl
        case e1 => rfl
        case e2 => exact lc_each (xs := l) (emb := fun c => .str ⟨#[c]⟩) (seqW_is _) rfl (fun c => .bl (sB c)) (size_ge (by omega)) (fun x hx => by
          refine ⟨_, rfl, rfl, .d (.bl _), ?_, rfl⟩
          simp [e4_l_name, gIn_S])
        simp [gAll_map]
        show _ = nmL l
        rw [e]
        have h3 : cs.length ≤ 7 := by rw [e] at h; simpa using h.2
        simp only [nmL, h3, hc, decide_true, Bool.true_and]
      | false =>
        simp
        show nmL l = false
        rw [e]
        simp only [nmL, hc, Bool.false_and, Bool.and_false]
    · rfl
  · have hn : nmB ⟨l.toArray⟩ = false := by
      show nmL l = false
      cases l with
      | nil => rfl
      | cons c cs =>
        have : ¬ cs.length ≤ 7 := fun z => h ⟨by simp, by simp; omega⟩
        simp only [nmL, this, decide_false, Bool.false_and]
    rw [hn, g_l_name, g_rt_d (x := .bl false) (st := [.d (.str ⟨l.toArray⟩), .d (.str (Str.ofString "abcdefghijklmnopqrstuvwxyz0123456789")), .un])]
    · rfl
    · show f_l_name K [.d (.str ⟨l.toArray⟩), .un, .un] = _
      unfold f_l_name
      refine sq (s1 := [.d (.str ⟨l.toArray⟩), .d (.str (Str.ofString "abcdefghijklmnopqrstuvwxyz0123456789")), .un]) (by simp [s1_l_name]) (sqr ?_)
      by_cases h1 : (1 : Int) ≤ (l.length : Int)
      · have h2 : ¬ (l.length : Int) ≤ 8 := fun z => h ⟨by omega, by omega⟩
        simp [s3_l_name, s2_l_name, kit_str, hg, h1, h2]
      · simp [s3_l_name, s2_l_name, kit_str, hg, h1]
    · rfl
/-! ### drawn strings -/
def okS (w : Str) : Prop := w.length ≤ 20 ∧ ∀ c ∈ w.cps.toList, c < 16 ^ 8
theorem okS_rep (h : okS w) : gRepr (.str w) = .val (.str (rep (.str w))) := gRepr_ok (by
  show (w.cps.toList.all fun c => decide (c < 16 ^ 8)) = true
  rw [List.all_eq_true]
  intro c hc
  exact decide_eq_true (h.2 c hc)) (by rw [rpW_str]; have := h.1; omega)
theorem okS_size (h : okS w) : w.length ≤ sizeLine := size_ge (by have := h.1; omega)
def Sg : Str := " !\"#$&'()*+,-./0123456789:;<=>?@ABCDEFGHIJKLMNOPQRSTUVWXYZ[\\]^_`abcdefghijklmnopqrstuvwxyz{|}~\n"
theorem sg_len : Sg.length = 95 := by decide +kernel
theorem sg_ok : ∀ c ∈ Sg.cps.toList, c < 16 ^ 8 := by decide +kernel
end
end Yd
set_option maxRecDepth 100000
set_option maxHeartbeats 4000000
namespace Yd
open PySem PySem.Spec PyProof.Rows L2 DL
section
variable {K : PySem.W.Frag} {S : Sm} {n t : Nat} {a b w : Str} {o : Bool} {ws w0 : List Str} {ts : List T3} {fl : List (Option Str)} {sr pr : List D} {st : Sls}
theorem rp_nm {w : Str} {n : Nat} (h : isNm w) : rpB (.str w) n = true ∧ w.length ≤ 8 := by
  obtain ⟨c, cs, rfl, h1, h2, h3⟩ := h
  have hs : ∀ x ∈ Sgn.cps.toList, x < 16 ^ 8 := by decide +kernel
  have hl : ∀ x ∈ Ltr.cps.toList, x < 16 ^ 8 := by decide +kernel
  refine ⟨?_, by simp [Str.length]; omega⟩
  simp only [rpB, List.all_eq_true, decide_eq_true_eq]
  intro x hx
  have hx : x ∈ c :: cs := by simpa using hx
  rcases List.mem_cons.mp hx with q | q
  · rw [q]; exact hl c h1
  · exact hs x (h2 x q)
theorem okS_cut (h : okS w) {lo hi : Option Int} : okS (cutS w lo hi) := by
  refine ⟨Nat.le_trans (cutS_length w lo hi) h.1, fun c hc => ?_⟩
  unfold cutS at hc
  exact h.2 c (List.mem_of_mem_drop (List.mem_of_mem_take (by simpa using hc)))
theorem okS_one {c : Nat} (h : c < 16 ^ 8) : okS ⟨#[c]⟩ := ⟨by simp [Str.length], fun x hx => by
  simp at hx
  subst hx
  exact h⟩
theorem okS_nm (h : isNm w) : okS w ∧ w.length ≤ 8 := by
  have l := (rp_nm (n := 1) h).2
  have r := (rp_nm (n := 1) h).1
  refine ⟨⟨by omega, fun c hc => ?_⟩, l⟩
  have r : (w.cps.toList.all fun c => decide (c < 16 ^ 8)) = true := r
  rw [List.all_eq_true] at r
  exact of_decide_eq_true (r c hc)
theorem gEq_nat {i k : Nat} : gEq (.int i) (.int k) = .val (.bl (decide (i = k))) := by
  have : ((i : Int) == (k : Int)) = decide (i = k) := by
    rw [Bool.eq_iff_iff]
    simp
    omega
  simp [gEq, okD, deq, this]
def isCh (w : Str) : Prop := ∃ c, c < 16 ^ 8 ∧ w = ⟨#[c]⟩
theorem join_ch : ∀ {ws : List Str}, (∀ w ∈ ws, isCh w) → ∃ cs : List Nat, Str.join (Str.ofString "") ws = ⟨cs.toArray⟩ ∧ cs.length = ws.length ∧ ∀ x ∈ cs, x < 16 ^ 8
  | [], _ => ⟨[], rfl, rfl, fun x h => nomatch h⟩
  | [w], h => by
    obtain ⟨c, m, e⟩ := h w List.mem_cons_self
    subst e
    exact ⟨[c], rfl, rfl, fun x hx => by rw [List.mem_singleton.mp hx]; exact m⟩
  | w :: w2 :: ws, h => by
    obtain ⟨c, m, e⟩ := h w List.mem_cons_self
    obtain ⟨cs, e1, e2, e3⟩ := join_ch (ws := w2 :: ws) fun x hx => h x (List.mem_cons_of_mem _ hx)
    refine ⟨c :: cs, ?_, by simp [e2], fun x hx => ?_⟩
    · show w ++ Str.ofString "" ++ Str.join (Str.ofString "") (w2 :: ws) = _
      rw [e1, e]
      show Str.append (Str.append ⟨#[c]⟩ (Str.ofString "")) ⟨cs.toArray⟩ = _
      have z : Str.ofString "" = ⟨#[]⟩ := by decide +kernel
      rw [z]
      simp [Str.append]
    · rcases List.mem_cons.mp hx with q | q
      · rw [q]; exact m
      · exact e3 x q
theorem joinc_ev {ws : List Str} (h : ∀ w ∈ ws, isCh w) (hl : ws.length ≤ 20) : ∃ x : Str, gJoin (.str "") [.lst (ws.map D.str)] = .val (.str x) ∧ okS x := by
  obtain ⟨cs, e1, e2, e3⟩ := join_ch h
  refine ⟨⟨cs.toArray⟩, ?_, ⟨by simp [Str.length]; omega, by simpa using e3⟩⟩
  show (match strs? (ws.map D.str) with
    | some (ys : List Str) => if (ys.map Str.length).sum + ys.length * (Str.ofString "").length ≤ 16777216 then Rs.val (.str (Txt.join (Str.ofString "") ys)) else .bad
    | none => .bad) = _
  rw [strs_map]
  have s1 : ∀ {ws : List Str}, (∀ w ∈ ws, isCh w) → (ws.map Str.length).sum = ws.length := by
    intro ws
    induction ws with
    | nil => intro _; rfl
    | cons w ws ih =>
      intro h
      obtain ⟨c, m, e⟩ := h w List.mem_cons_self
      subst e
      simp [ih fun x hx => h x (List.mem_cons_of_mem _ hx), Str.length]
      omega
  have z : (Str.ofString "").length = 0 := by decide +kernel
  show (if (ws.map Str.length).sum + ws.length * (Str.ofString "").length ≤ 16777216 then Rs.val (.str (Txt.join (Str.ofString "") ws)) else .bad) = _
  rw [s1 h, z, if_pos (by omega), TL.join_eq, e1]
abbrev Cst (S : Sm) (z : Nat) (y6 : Sl) : Sls := [.own (.lst S.ds), .d (.int z), .un, .un, .un, .un, y6]
abbrev Kst (s0 : List D) (dk : D) (sg w : Str) (y5 : Sl) : Sls := [.own (.lst s0), .un, .d dk, .d (.str sg), .d (.str w), y5, .un]
theorem gSl_S {lo hi : Option Int} (hw : w.length ≤ sizeLine) : gSl (.str w) lo hi = .val (.str (cutS w lo hi)) := if_pos hw
end
end Yd
set_option maxRecDepth 100000
set_option maxHeartbeats 4000000
namespace Yd
open PySem PySem.Spec PyProof.Rows L2 DL
section
variable {K : PySem.W.Frag} {S : Sm} {n : Nat} {a b w : Str} {x y f : D} {st : Sls}
/-! ### values of any kind in the place of a name -/
def noS : D → Bool
  | .str _ => false
  | .ins _ _ _ => false
  | .scr _ => false
  | _ => true
def nmV : D → Bool
  | .str w => nmB w
  | _ => false
def okT (w : Str) : Prop := w.length ≤ 100 ∧ ∀ c ∈ w.cps.toList, c < 16 ^ 8
theorem okT_rep (h : okT w) : gRepr (.str w) = .val (.str (rep (.str w))) := gRepr_ok (by
  show (w.cps.toList.all fun c => decide (c < 16 ^ 8)) = true
  rw [List.all_eq_true]
  intro c hc
  exact decide_eq_true (h.2 c hc)) (by rw [rpW_str]; have := h.1; omega)
theorem okT_size (h : okT w) : w.length ≤ sizeLine := size_ge (by have := h.1; omega)
def thOk (x : D) : Prop := (∃ w, x = .str w ∧ okT w) ∨ (noS x = true ∧ ∃ tx, gRepr x = .val (.str tx))
theorem th_rep (h : thOk x) : ∃ tx, gRepr x = .val (.str tx) := by
  rcases h with ⟨w, rfl, h⟩ | ⟨_, h⟩
  · exact ⟨_, okT_rep h⟩
  · exact h
theorem nmV_no (h : noS x = true) : nmV x = false := by
  cases x with
  | str w => cases h
  | _ => rfl
theorem kit_no (h : noS x = true) {own : List (Addr × Bool)} : gIsI (kitF ["str"] own) x = .val (.bl false) := by
  cases x <;> first | (simp [noS] at h; done) | simp [gIsI, tyD, kitF, dTys]
theorem is_nameV (h : thOk x) : g_is_name K [.d x] = .ok (.d (.bl (nmV x))) [.d x] := by
  rcases h with ⟨w, rfl, h⟩ | ⟨h, _⟩
  · exact is_name_ev (okT_size h)
  · have k := kit_no h (own := [(He.ga K "Tie", false)])
    rw [nmV_no h, g_is_name, g_rt_d (x := .bl false) (st := [.d x, .un])]
    · rfl
    · show f_is_name K [.d x, .un] = _
      unfold f_is_name
      refine sqr ?_
      generalize kitF ["str"] [(He.ga K "Tie", false)] = kf at *
      simp [k]
    · rfl
theorem nameV (h : thOk x) : g_l_name K [.d x] = .ok (.d (.bl (nmV x))) [.d x] := by
  rcases h with ⟨w, rfl, h⟩ | ⟨h, _⟩
  · exact name_ev (okT_size h)
  · have k := kit_no h (own := [(He.ga K "Tie", false)])
    rw [nmV_no h, g_l_name, g_rt_d (x := .bl false) (st := [.d x, .d (.str (Str.ofString "abcdefghijklmnopqrstuvwxyz0123456789")), .un])]
    · rfl
    · show f_l_name K [.d x, .un, .un] = _
      unfold f_l_name
      refine sq (s1 := [.d x, .d (.str (Str.ofString "abcdefghijklmnopqrstuvwxyz0123456789")), .un]) (by simp [s1_l_name]) (sqr ?_)
      unfold s3_l_name s2_l_name
      generalize kitF ["str"] [(He.ga K "Tie", false)] = kf at *
      simp [k]
    · rfl
theorem check_yes (h : thOk x) (q : nmV x = true) : g_check_name K [.d x] = .ok (.d .non) [.d x] := by
  have e := is_nameV (K := K) h
  rw [q] at e
  rw [g_check_name, g_nx (st := [.d x])]
  · rfl
  · show f_check_name K [.d x] = _
    unfold f_check_name
    generalize g_is_name K = g at *
    simp [e]
  · rfl
theorem check_no (h : thOk x) (q : nmV x = false) : g_check_name K [.d x] = .exc ⟨.ref (He.ga K "InvalidName"), ["given"], [x]⟩ [.d x] := by
  have e := is_nameV (K := K) h
  rw [q] at e
  rw [g_check_name, g_exc (st := [.d x])]
  · rfl
  · show f_check_name K [.d x] = _
    unfold f_check_name
    generalize g_is_name K = g at *
    simp [e, fRaise]
  · rfl
abbrev Ti (K : PySem.W.Frag) (x y f : D) : Sls := [.own (.ins (He.ga K "Tie") [] []), .d x, .d y, .d f]
theorem i_no1 (h : thOk x) (q : nmV x = false) : g_Tie_init K (Ti K x y f) = .exc ⟨.ref (He.ga K "InvalidName"), ["given"], [x]⟩ (Ti K x y f) := by
  have e := check_no (K := K) h q
  rw [g_Tie_init, g_exc (st := Ti K x y f)]
  · rfl
  · show f_Tie_init K (Ti K x y f) = _
    unfold f_Tie_init
    refine sqx ?_
    generalize g_check_name K = g at *
    generalize He.ga K "InvalidName" = M at *
    simp [e]
  · rfl
theorem i_no2 (h : thOk x) (q : nmV x = true) (h2 : thOk y) (q2 : nmV y = false) : g_Tie_init K (Ti K x y f) = .exc ⟨.ref (He.ga K "InvalidName"), ["given"], [y]⟩ (Ti K x y f) := by
  have e1 := check_yes (K := K) h q
  have e := check_no (K := K) h2 q2
  rw [g_Tie_init, g_exc (st := Ti K x y f)]
  · rfl
  · show f_Tie_init K (Ti K x y f) = _
    unfold f_Tie_init
    generalize g_check_name K = g at *
    generalize He.ga K "InvalidName" = M at *
    refine sq (s1 := Ti K x y f) ?_ (sqx ?_)
    · simp [e1]
    · simp [e]
  · rfl
def isB : D → Bool
  | .bl _ => true
  | _ => false
theorem flag_no (h : isB f = false) : gIsNot f (.bl true) = .val (.bl true) ∧ gIsNot f (.bl false) = .val (.bl true) := by
  cases f with
  | bl b => cases h
  | _ => exact ⟨rfl, rfl⟩
theorem i_no3 (h : thOk x) (q : nmV x = true) (h2 : thOk y) (q2 : nmV y = true) (hf : isB f = false) : g_Tie_init K (Ti K x y f) = .exc ⟨.ref (He.ga K "InvalidFlag"), ["given"], [f]⟩ (Ti K x y f) := by
  have e1 := check_yes (K := K) h q
  have e2 := check_yes (K := K) h2 q2
  obtain ⟨k1, k2⟩ := flag_no hf
  rw [g_Tie_init, g_exc (st := Ti K x y f)]
  · rfl
  · show f_Tie_init K (Ti K x y f) = _
    unfold f_Tie_init
    generalize g_check_name K = g at *
    refine sq (s1 := Ti K x y f) (by simp [e1]) (sq (s1 := Ti K x y f) (by simp [e2]) (sqx ?_))
    simp [k1, k2, fRaise]
  · rfl
theorem i_no4 {b : Bool} (h : isNm w) : g_Tie_init K (Ti K (.str w) (.str w) (.bl b)) = .exc ⟨.ref (He.ga K "InvalidEnd"), ["given"], [.str w]⟩ (Ti K (.str w) (.str w) (.bl b)) := by
  have e1 := check_name_nm (K := K) h
  have ge : gEq (.str w) (.str w) = .val (.bl true) := by simp [gEq]
  rw [g_Tie_init, g_exc (st := Ti K (.str w) (.str w) (.bl b))]
  · rfl
  · show f_Tie_init K (Ti K (.str w) (.str w) (.bl b)) = _
    unfold f_Tie_init
    generalize g_check_name K = g at *
    refine sq (s1 := Ti K (.str w) (.str w) (.bl b)) (by simp [e1]) (sq (s1 := Ti K (.str w) (.str w) (.bl b)) (by simp [e1]) (sq (s1 := Ti K (.str w) (.str w) (.bl b)) ?_ (sqx ?_)))
    · cases b <;> simp
    · simp [ge, fRaise]
  · rfl
theorem make3_exc {g : FG} {C : Addr} {e : Exn} (h : g [.own (.ins C [] []), .d x, .d y, .d f] = .exc e [.own (.ins C [] []), .d x, .d y, .d f]) : makeA C g [.arg 0, .arg 1, .arg 2, .arg 3] [.d x, .d y, .d f] st = .exc e st := by
  simp [makeA, gSelf_exc h]
theorem onewayM {o : Bool} : g_Tie_oneway K [.own (tieM K a b o)] = .ok (.d (.bl o)) [.own (tieM K a b o)] := by
  rw [g_Tie_oneway, g_rt_d (x := .bl o) (st := [.own (tieM K a b o)])]
  · rfl
  · show f_Tie_oneway K [.own (tieM K a b o)] = _
    simp [f_Tie_oneway, tieM, fld_single]
  · rfl
/-! ### the law's word for an error -/
theorem error_gen {N F E M : Addr} {p : Pn} {m1 m2 m3 : Bool} {k : Nat} {tag tx : Str} (eN : He.ga K "InvalidName" = N) (eF : He.ga K "InvalidFlag" = F) (eE : He.ga K "InvalidEnd" = E)
    (t1 : tabX [(N, true), (F, false), (E, false)] (.ref M) = some m1) (t2 : tabX [(N, false), (F, true), (E, false)] (.ref M) = some m2) (t3 : tabX [(N, false), (F, false), (E, true)] (.ref M) = some m3)
    (tt : tabX [(N, true), (F, true), (E, true)] (.ref M) = some true) (tf : tabX [(N, false), (F, false), (E, false)] (.ref M) = some false) (tk : okX [N, F, E] (.ref M) = true)
    (hc : gLCount (.lst [.bl m1, .bl m2, .bl m3]) [.bl true] = .val (.int 1)) (hi : gLIndex (.lst [.bl m1, .bl m2, .bl m3]) [.bl true] = .val (.int (k : Nat))) (ht : ([.str "name", .str "flag", .str "end"] : List D)[k]? = some (.str tag))
    (er : gRepr x = .val (.str tx)) : g_l_error K p [.exc p ⟨.ref M, ["given"], [x]⟩] = .ok (.d (.tup [.str tag, .str tx])) [.exc p ⟨.ref M, ["given"], [x]⟩] := by
  have is := fun (st : Sls) (tab : Value → Option Bool) (b : Bool) (h : st[0]? = some (.exc p ⟨.ref M, ["given"], [x]⟩)) (e : tab (.ref M) = some b) => isx_of h e
  have fx := fun (st : Sls) (h : st[0]? = some (.exc p ⟨.ref M, ["given"], [x]⟩)) => xf_of (ok := okX [N, F, E]) (n := "given") (x := x) h tk fldD_1
  let e0 : Sl := .exc p ⟨.ref M, ["given"], [x]⟩
  let ml : Sl := .own (.lst [.bl m1, .bl m2, .bl m3])
  let bl : Sl := .own (.lst [.bl true, .bl false, .bl false])
  have q3 : gEq (.int 1) (.int 1) = .val (.bl true) := gEq_nat (i := 1) (k := 1)
  rw [g_l_error, g_rt_d (x := .tup [.str tag, .str tx]) (st := [e0, ml, bl, bl])]
  · rfl
  · show f_l_error K p [e0, .un, .un, .un] = _
    unfold f_l_error
    have ne3 : gNe (.lst [.bl true, .bl false, .bl false]) (.lst [.bl true, .bl false, .bl false]) = .val (.bl false) := by simp [gNe]
    have ne1 : gNe (.int 1) (.int 1) = .val (.bl false) := by simp [gNe]
    refine sq (s1 := [e0, ml, .un, .un]) ?_ ?_
    · unfold s1_l_error
      rw [eN, eF, eE]
      have a1 := is [e0, .un, .un, .un] _ _ rfl t1
      have a2 := is [e0, .un, .un, .un] _ _ rfl t2
      have a3 := is [e0, .un, .un, .un] _ _ rfl t3
      generalize fIsX p (tabX [(N, true), (F, false), (E, false)]) 0 = f1 at *
      generalize fIsX p (tabX [(N, false), (F, true), (E, false)]) 0 = f2 at *
      generalize fIsX p (tabX [(N, false), (F, false), (E, true)]) 0 = f3 at *
      simp [a1, a2, a3, ml]
    refine sq (s1 := [e0, ml, bl, .un]) ?_ ?_
    · unfold s2_l_error
      rw [eN, eF, eE]
      have a1 := is [e0, ml, .un, .un] _ _ rfl tt
      have a2 := is [e0, ml, .un, .un] _ _ rfl tf
      generalize fIsX p (tabX [(N, true), (F, true), (E, true)]) 0 = f1 at *
      generalize fIsX p (tabX [(N, false), (F, false), (E, false)]) 0 = f2 at *
      simp [a1, a2, bl]
    refine sq (s1 := [e0, ml, bl, bl]) ?_ ?_
    · unfold s3_l_error
      rw [eN, eF, eE]
      have a1 := is [e0, ml, bl, .un] _ _ rfl tt
      have a2 := is [e0, ml, bl, .un] _ _ rfl tf
      generalize fIsX p (tabX [(N, true), (F, true), (E, true)]) 0 = f1 at *
      generalize fIsX p (tabX [(N, false), (F, false), (E, false)]) 0 = f2 at *
      simp [a1, a2, bl]
    refine sq (s1 := [e0, ml, bl, bl]) ?_ ?_
    · unfold s5_l_error s4_l_error
      have c := mtv_go (T := "list") (g := gLCount) (fo := fName 1) (fa := fCons (fC (.bl true)) fNil) (st := [e0, ml, bl, bl]) (s1 := [e0, ml, bl, bl]) (s2 := [e0, ml, bl, bl]) (ir := .ref 1) (its := [.d (.bl true)]) (d := .lst [.bl m1, .bl m2, .bl m3]) (ds := [.bl true]) rfl rfl rfl rfl rfl rfl
      rw [hc] at c
      have c : fMtV "list" gLCount (fName 1) (fCons (fC (.bl true)) fNil) [e0, ml, bl, bl] = .ok (.d (.int 1)) [e0, ml, bl, bl] := c
      generalize fMtV "list" gLCount (fName 1) (fCons (fC (.bl true)) fNil) = fc at *
      simp [c, ne1, ne3, bl]
    · unfold s6_l_error
      rw [eN, eF, eE]
      have c := mtv_go (T := "list") (g := gLIndex) (fo := fName 1) (fa := fCons (fC (.bl true)) fNil) (st := [e0, ml, bl, bl]) (s1 := [e0, ml, bl, bl]) (s2 := [e0, ml, bl, bl]) (ir := .ref 1) (its := [.d (.bl true)]) (d := .lst [.bl m1, .bl m2, .bl m3]) (ds := [.bl true]) rfl rfl rfl rfl rfl rfl
      rw [hi] at c
      have c : fMtV "list" gLIndex (fName 1) (fCons (fC (.bl true)) fNil) [e0, ml, bl, bl] = .ok (.d (.int (k : Nat))) [e0, ml, bl, bl] := c
      have f3 := fx [e0, ml, bl, bl] rfl
      generalize fMtV "list" gLIndex (fName 1) (fCons (fC (.bl true)) fNil) = fc at *
      generalize fXf p (okX [N, F, E]) "given" 0 = ff at *
      simp [c, f3, ht, er]
  · rfl
end
end Yd
set_option maxRecDepth 100000
set_option maxHeartbeats 4000000
namespace Yd
open PySem PySem.Spec PyProof.Rows L2 DL
section
variable {K : PySem.W.Frag} {S : Sm} {n : Nat} {a b w : Str} {x y f : D} {st : Sls}
structure ErrC (K : PySem.W.Frag) (M : Addr) (tag : Str) : Prop where
  hit : okX [He.ga K "InvalidName", He.ga K "InvalidFlag", He.ga K "InvalidEnd"] (.ref M) = true
  err : ∀ (p : Pn) (x : D) (tx : Str), gRepr x = .val (.str tx) → g_l_error K p [.exc p ⟨.ref M, ["given"], [x]⟩] = .ok (.d (.tup [.str tag, .str tx])) [.exc p ⟨.ref M, ["given"], [x]⟩]
theorem errs (h : [He.ga K "InvalidName", He.ga K "InvalidFlag", He.ga K "InvalidEnd"].Nodup) : ErrC K (He.ga K "InvalidName") "name" ∧ ErrC K (He.ga K "InvalidFlag") "flag" ∧ ErrC K (He.ga K "InvalidEnd") "end" := by
  generalize eN : He.ga K "InvalidName" = N at *
  generalize eF : He.ga K "InvalidFlag" = F at *
  generalize eE : He.ga K "InvalidEnd" = E at *
  have h1 : N ≠ F ∧ N ≠ E := by simpa using (List.nodup_cons.mp h).1
  have h2 : F ≠ E := by
    have := (List.nodup_cons.mp (List.nodup_cons.mp h).2).1
    simpa using this
  have b1 : (F == N) = false := by simpa using fun e : F = N => h1.1 e.symm
  have b2 : (E == N) = false := by simpa using fun e : E = N => h1.2 e.symm
  have b3 : (E == F) = false := by simpa using fun e : E = F => h2 e.symm
  refine ⟨⟨by rw [eN, eF, eE]; simp [okX], fun p x tx er => error_gen (k := 0) eN eF eE (m1 := true) (m2 := false) (m3 := false) ?_ ?_ ?_ ?_ ?_ ?_ ?_ ?_ ?_ er⟩, ⟨by rw [eN, eF, eE]; simp [okX], fun p x tx er => error_gen (k := 1) eN eF eE (m1 := false) (m2 := true) (m3 := false) ?_ ?_ ?_ ?_ ?_ ?_ ?_ ?_ ?_ er⟩, ⟨by rw [eN, eF, eE]; simp [okX], fun p x tx er => error_gen (k := 2) eN eF eE (m1 := false) (m2 := false) (m3 := true) ?_ ?_ ?_ ?_ ?_ ?_ ?_ ?_ ?_ er⟩⟩
  all_goals first | rfl | (simp [tabX, okX, List.lookup, b1, b2, b3]; done) | decide +kernel
theorem heard_exc {M : Addr} {tag tx : Str} {v : D} (C : ErrC K M tag) (er : gRepr v = .val (.str tx)) (e : g_Tie_init K (Ti K x y f) = .exc ⟨.ref M, ["given"], [v]⟩ (Ti K x y f)) :
    g_l_heard K [.d x, .d y, .d f] = .ok (.d (.tup [.str tag, .str tx])) [.d x, .d y, .d f] := by
  have mk := make3_exc (st := [.d x, .d y, .d f, .un, .un]) e
  rw [g_l_heard, g_rt_d (x := .tup [.str tag, .str tx]) (st := [.d x, .d y, .d f, .un, .un])]
  · rfl
  · show f_l_heard K [.d x, .d y, .d f, .un, .un] = _
    unfold f_l_heard
    refine sqr ?_
    unfold s4_l_heard
    refine try_exc (u := ⟨.ref M, ["given"], [v]⟩) (s1 := [.d x, .d y, .d f, .un, .un]) (r := .val (.tup [.str tag, .str tx])) ?_ C.hit (by simp) (fun z => nomatch z) (fun p st hp => ?_) rfl
    · unfold b2_l_heard s1_l_heard
      generalize (makeA (He.ga K "Tie") (g_Tie_init K) [.arg 0, .arg 1, .arg 2, .arg 3]) = mkf at *
      simp [mk]
    · unfold x3_l_heard
      exact callx_of (g := fun p => g_l_error K p) hp (C.err p v tx er)
  · rfl
theorem heard_tie {o : Bool} {tx : Str} (ha : isNm a) (hb : isNm b) (hab : a ≠ b) (er : gRepr (.tup [.str a, .str b, .bl o]) = .val (.str tx)) :
    g_l_heard K [.d (.str a), .d (.str b), .d (.bl o)] = .ok (.d (.tup [.str "tie", .str tx])) [.d (.str a), .d (.str b), .d (.bl o)] := by
  have m := make3 (K := K) (o := o) (st := [.d (.str a), .d (.str b), .d (.bl o), .un, .un]) ha hb hab
  have p1 := propM (C := He.ga K "Tie") (i := 3) (st := [.d (.str a), .d (.str b), .d (.bl o), .own (tieM K a b o), .un]) rfl rfl (startM (K := K))
  have p2 := propM (C := He.ga K "Tie") (i := 3) (st := [.d (.str a), .d (.str b), .d (.bl o), .own (tieM K a b o), .un]) rfl rfl (endM (K := K))
  have p3 := propM (C := He.ga K "Tie") (i := 3) (st := [.d (.str a), .d (.str b), .d (.bl o), .own (tieM K a b o), .un]) rfl rfl (onewayM (K := K))
  rw [g_l_heard, g_rt_d (x := .tup [.str "tie", .str tx]) (st := [.d (.str a), .d (.str b), .d (.bl o), .own (tieM K a b o), .un])]
  · rfl
  · show f_l_heard K [.d (.str a), .d (.str b), .d (.bl o), .un, .un] = _
    unfold f_l_heard
    refine sq (s1 := [.d (.str a), .d (.str b), .d (.bl o), .own (tieM K a b o), .un]) ?_ ?_
    · unfold s4_l_heard
      refine try_nx ?_
      unfold b2_l_heard s1_l_heard
      generalize (makeA (He.ga K "Tie") (g_Tie_init K) [.arg 0, .arg 1, .arg 2, .arg 3]) = mk at *
      generalize tieM K a b o = tm at *
      simp [m]
    · unfold s5_l_heard
      generalize (fProp (He.ga K "Tie") (g_Tie_start K) (fName 3)) = f1 at *
      generalize (fProp (He.ga K "Tie") (g_Tie_end K) (fName 3)) = f2 at *
      generalize (fProp (He.ga K "Tie") (g_Tie_oneway K) (fName 3)) = f3 at *
      generalize tieM K a b o = tm at *
      simp [p1, p2, p3, er]
  · rfl
/-! ### what is due -/
theorem due1 {g : FG} (z : g_l_name K = g) {tx : Str} (e : g [.d x] = .ok (.d (.bl false)) [.d x]) (er : gRepr x = .val (.str tx)) : f_l_due K [.d x, .d y, .d f] = .rt (.d (.tup [.str "name", .str tx])) [.d x, .d y, .d f] := by
  unfold f_l_due
  refine sqr ?_
  unfold s2_l_due s1_l_due
  rw [z]
  simp [e, er]
theorem duA {g : FG} (z : g_l_name K = g) (e : g [.d x] = .ok (.d (.bl true)) [.d x]) : s2_l_due K [.d x, .d y, .d f] = .nx [.d x, .d y, .d f] := by
  unfold s2_l_due s1_l_due
  rw [z]
  simp [e]
theorem duB {g : FG} (z : g_l_name K = g) (e : g [.d y] = .ok (.d (.bl true)) [.d y]) : s4_l_due K [.d x, .d y, .d f] = .nx [.d x, .d y, .d f] := by
  unfold s4_l_due s3_l_due
  rw [z]
  simp [e]
theorem due2 {g : FG} (z : g_l_name K = g) {tx : Str} (e1 : g [.d x] = .ok (.d (.bl true)) [.d x]) (e : g [.d y] = .ok (.d (.bl false)) [.d y]) (er : gRepr y = .val (.str tx)) : f_l_due K [.d x, .d y, .d f] = .rt (.d (.tup [.str "name", .str tx])) [.d x, .d y, .d f] := by
  unfold f_l_due
  refine sq (duA z e1) (sqr ?_)
  unfold s4_l_due s3_l_due
  rw [z]
  simp [e, er]
theorem due3 {g : FG} (z : g_l_name K = g) {tx : Str} (e1 : g [.d x] = .ok (.d (.bl true)) [.d x]) (e2 : g [.d y] = .ok (.d (.bl true)) [.d y]) (hf : isB f = false) (er : gRepr f = .val (.str tx)) : f_l_due K [.d x, .d y, .d f] = .rt (.d (.tup [.str "flag", .str tx])) [.d x, .d y, .d f] := by
  obtain ⟨k1, k2⟩ := flag_no hf
  unfold f_l_due
  refine sq (duA z e1) (sq (duB z e2) (sqr ?_))
  unfold s6_l_due s5_l_due
  simp [k1, k2, er]
theorem due4 {g : FG} (z : g_l_name K = g) {o : Bool} {tx t2 : Str} (e1 : g [.d (.str a)] = .ok (.d (.bl true)) [.d (.str a)]) (e2 : g [.d (.str b)] = .ok (.d (.bl true)) [.d (.str b)]) (er : gRepr (.str b) = .val (.str tx)) (er2 : gRepr (.tup [.str a, .str b, .bl o]) = .val (.str t2)) :
    f_l_due K [.d (.str a), .d (.str b), .d (.bl o)] = .rt (.d (if a = b then .tup [.str "end", .str tx] else .tup [.str "tie", .str t2])) [.d (.str a), .d (.str b), .d (.bl o)] := by
  have ge : gEq (.str a) (.str b) = .val (.bl (decide (a = b))) := by
    have : (a == b) = decide (a = b) := by
      rw [Bool.eq_iff_iff]
      simp
    simp [gEq, okD, deq, this]
  unfold f_l_due
  refine sq (duA z e1) (sq (duB z e2) (sq (s1 := [.d (.str a), .d (.str b), .d (.bl o)]) ?_ ?_))
  · unfold s6_l_due s5_l_due
    cases o <;> simp
  · unfold s7_l_due
    by_cases c : a = b
    · rw [decide_eq_true c] at ge
      rw [if_pos c]
      simp [ge, er]
    · rw [decide_eq_false c] at ge
      rw [if_neg c]
      simp [ge, er2]
theorem due_of {r : D} (e : f_l_due K [.d x, .d y, .d f] = .rt (.d r) [.d x, .d y, .d f]) : g_l_due K [.d x, .d y, .d f] = .ok (.d r) [.d x, .d y, .d f] := by
  rw [g_l_due, g_rt_d (x := r) (st := [.d x, .d y, .d f])]
  · rfl
  · exact e
  · rfl
theorem both_ev (hE : [He.ga K "InvalidName", He.ga K "InvalidFlag", He.ga K "InvalidEnd"].Nodup) (h1 : thOk x) (h2 : thOk y) (h3 : ∃ tx, gRepr f = .val (.str tx)) :
    ∃ t1 t2 : Str, g_l_heard K [.d x, .d y, .d f] = .ok (.d (.tup [.str t1, .str t2])) [.d x, .d y, .d f] ∧ g_l_due K [.d x, .d y, .d f] = .ok (.d (.tup [.str t1, .str t2])) [.d x, .d y, .d f] := by
  obtain ⟨cN, cF, cE⟩ := errs hE
  obtain ⟨tx, rx⟩ := th_rep h1
  obtain ⟨ty, ry⟩ := th_rep h2
  obtain ⟨tf, rf⟩ := h3
  have n1 := nameV (K := K) h1
  have n2 := nameV (K := K) h2
  cases q1 : nmV x with
  | false =>
    rw [q1] at n1
    exact ⟨_, _, heard_exc cN rx (i_no1 h1 q1), due_of (due1 rfl n1 rx)⟩
  | true =>
    rw [q1] at n1
    cases q2 : nmV y with
    | false =>
      rw [q2] at n2
      exact ⟨_, _, heard_exc cN ry (i_no2 h1 q1 h2 q2), due_of (due2 rfl n1 n2 ry)⟩
    | true =>
      rw [q2] at n2
      cases q3 : isB f with
      | false => exact ⟨_, _, heard_exc cF rf (i_no3 h1 q1 h2 q2 q3), due_of (due3 rfl n1 n2 q3 rf)⟩
      | true =>
        cases f with
        | bl o =>
          cases x with
          | str a =>
            cases y with
            | str b =>
              have na : isNm a := nmB_iff.mp q1
              have nb : isNm b := nmB_iff.mp q2
              obtain ⟨t3, r3⟩ : ∃ t3, gRepr (.tup [.str a, .str b, .bl o]) = .val (.str t3) := by
                refine ⟨_, gRepr_ok ?_ ?_⟩
                · show rpB (.tup _) (11 + 1) = true
                  have h1 := rp_nm (n := 11) na
                  have h2 := rp_nm (n := 11) nb
                  simp [h1.1, h2.1]
                · have h1 := (rp_nm (n := 11) na).2
                  have h2 := (rp_nm (n := 11) nb).2
                  simp [rpW]
                  have e1 : a.cps.size = a.length := rfl
                  have e2 : b.cps.size = b.length := rfl
                  omega
              have d := due4 rfl n1 n2 ry r3
              by_cases c : a = b
              · subst c
                rw [if_pos rfl] at d
                exact ⟨_, _, heard_exc cE ry (i_no4 na), due_of d⟩
              · rw [if_neg c] at d
                exact ⟨_, _, heard_tie na nb c r3, due_of d⟩
            | _ => cases q2
          | _ => cases q1
        | _ => cases q3
end
end Yd
set_option maxRecDepth 100000
set_option maxHeartbeats 4000000
namespace Yd
open PySem PySem.Spec PyProof.Rows L2 DL
section
variable {K : PySem.W.Frag} {S : Sm} {n : Nat} {a b w : Str} {x y f : D} {st : Sls}
theorem upper_sg : ∀ c ∈ Sgn.cps.toList, (Unicode.upperOf c).length ≤ 1 ∧ ∀ d ∈ Unicode.upperOf c, d < 16 ^ 8 := by decide +kernel
theorem upper_ok (h : isNm w) : okT (Txt.upper w) := by
  obtain ⟨c, cs, rfl, h1, h2, h3⟩ := h
  have hl : ∀ x ∈ Ltr.cps.toList, x ∈ Sgn.cps.toList := by decide +kernel
  have hm : ∀ x ∈ c :: cs, x ∈ Sgn.cps.toList := fun x hx => by
    rcases List.mem_cons.mp hx with q | q
    · rw [q]; exact hl c h1
    · exact h2 x q
  have e : (Txt.upper ⟨(c :: cs).toArray⟩).cps = (((c :: cs).toArray).mapIdx fun _ c => (Unicode.upperOf c).toArray).flatten := rfl
  refine ⟨?_, fun d hd => ?_⟩
  · have l := PyProof.Rows.len_upper ⟨(c :: cs).toArray⟩
    have e2 : Str.length ⟨(c :: cs).toArray⟩ = cs.length + 1 := by simp [Str.length]
    rw [e2] at l
    omega
  · have hd : d ∈ (Txt.upper ⟨(c :: cs).toArray⟩).cps := by simpa using hd
    rw [e] at hd
    obtain ⟨x, hx, hd⟩ := Array.mem_flatten.mp hd
    obtain ⟨i, hi, rfl⟩ := Array.mem_mapIdx.mp hx
    have hi2 : i < (c :: cs).length := by simpa using hi
    exact (upper_sg _ (hm _ (List.getElem_mem hi2))).2 d (by simpa using hd)
end
end Yd
set_option maxRecDepth 100000
set_option maxHeartbeats 4000000
namespace Yd
open PySem PySem.Spec PyProof.Rows L2 DL
section
variable {K : PySem.W.Frag} {S : Sm} {n : Nat} {a b w : Str} {x y f : D} {st : Sls}
theorem len_app {x y : Str} : (x ++ y).length = x.length + y.length := by
  show (Str.append x y).length = _
  simp [Str.append, Str.length]
theorem okT_app {x y : Str} (hx : okT x) (hy : okT y) (hl : x.length + y.length ≤ 100) : okT (x ++ y) := by
  refine ⟨by rw [len_app]; exact hl, fun c hc => ?_⟩
  have e : (x ++ y).cps.toList = x.cps.toList ++ y.cps.toList := by
    show (Str.append x y).cps.toList = _
    simp [Str.append]
  rw [e] at hc
  rcases List.mem_append.mp hc with q | q
  · exact hx.2 c q
  · exact hy.2 c q
theorem okT_nm (h : isNm w) : okT w := by
  obtain ⟨o, l⟩ := okS_nm h
  exact ⟨by omega, o.2⟩
def th1 (w : Str) : List D := [.str "", .str "A", .str "aB", .str "9a", .str "a b", .str "a-b", .str "abcdefghi", .str " a", .str "a ", .str "a\n", .non, .bl true, .int 0, .int 7, .tup [.str w], .lst [.str w], .dic [] []]
def th2 (w : Str) : List D := [.str "_", .str "a_b", .tup [], .str (Txt.upper w), .str (w ++ "!"), .str ("1" ++ w), .str (w ++ "\n")]
theorem okT_lit {s : Str} (h : (decide (s.length ≤ 50) && s.cps.toList.all fun c => decide (c < 16 ^ 8)) = true) : okT s := by
  rw [Bool.and_eq_true, List.all_eq_true] at h
  exact ⟨by have := of_decide_eq_true h.1; omega, fun c hc => of_decide_eq_true (h.2 c hc)⟩
theorem th_ok (hw : isNm w) : ∀ x ∈ th1 w ++ th2 w, thOk x := by
  have ow := okT_nm hw
  have l8 := (okS_nm hw).2
  have rw_ := fun m => (rp_nm (n := m) hw).1
  have e1 : (Str.ofString "!").length = 1 := by decide +kernel
  have e2 : (Str.ofString "1").length = 1 := by decide +kernel
  have e3 : (Str.ofString "\n").length = 1 := by decide +kernel
  intro x hx
  simp only [th1, th2, List.cons_append, List.nil_append, List.mem_cons, List.not_mem_nil, or_false] at hx
  rcases hx with rfl | rfl | rfl | rfl | rfl | rfl | rfl | rfl | rfl | rfl | rfl | rfl | rfl | rfl | rfl | rfl | rfl | rfl | rfl | rfl | rfl | rfl | rfl | rfl
  · exact .inl ⟨_, rfl, okT_lit (by decide +kernel)⟩
  · exact .inl ⟨_, rfl, okT_lit (by decide +kernel)⟩
  · exact .inl ⟨_, rfl, okT_lit (by decide +kernel)⟩
  · exact .inl ⟨_, rfl, okT_lit (by decide +kernel)⟩
  · exact .inl ⟨_, rfl, okT_lit (by decide +kernel)⟩
  · exact .inl ⟨_, rfl, okT_lit (by decide +kernel)⟩
  · exact .inl ⟨_, rfl, okT_lit (by decide +kernel)⟩
  · exact .inl ⟨_, rfl, okT_lit (by decide +kernel)⟩
  · exact .inl ⟨_, rfl, okT_lit (by decide +kernel)⟩
  · exact .inl ⟨_, rfl, okT_lit (by decide +kernel)⟩
  · exact .inr ⟨rfl, _, gRepr_ok (by simp) (by simp)⟩
  · exact .inr ⟨rfl, _, gRepr_ok (by simp) (by simp [rpW])⟩
  · exact .inr ⟨rfl, _, gRepr_ok (by simp [rpB]) (by simp)⟩
  · exact .inr ⟨rfl, _, gRepr_ok (by simp [rpB]) (by simp)⟩
  · exact .inr ⟨rfl, _, gRepr_ok (by show rpB (.tup _) (11 + 1) = true; simp [rw_]) (by simp; omega)⟩
  · exact .inr ⟨rfl, _, gRepr_ok (by show rpB (.lst _) (11 + 1) = true; simp [rw_]) (by simp; omega)⟩
  · exact .inr ⟨rfl, "{}", by simp [gRepr, pyD, PyData.hasDict]⟩
  · exact .inl ⟨_, rfl, okT_lit (by decide +kernel)⟩
  · exact .inl ⟨_, rfl, okT_lit (by decide +kernel)⟩
  · exact .inr ⟨rfl, _, gRepr_ok (by show rpB (.tup _) (11 + 1) = true; simp) (by simp)⟩
  · exact .inl ⟨_, rfl, upper_ok hw⟩
  · exact .inl ⟨_, rfl, okT_app ow (okT_lit (by decide +kernel)) (by omega)⟩
  · exact .inl ⟨_, rfl, okT_app (okT_lit (by decide +kernel)) ow (by omega)⟩
  · exact .inl ⟨_, rfl, okT_app ow (okT_lit (by decide +kernel)) (by omega)⟩
abbrev Vt (s0 : List D) (w : Str) (y2 y3 y4 : Sl) : Sls := [.own (.lst s0), .d (.str w), y2, y3, y4]
variable {s0 s1 s2 : List D} {y2 y3 y4 : Sl}
theorem t1_ev : s1_l_thing K (Vt s0 w y2 y3 y4) = .nx (Vt s0 w (.own (.lst (th1 w))) y3 y4) := by
  unfold s1_l_thing
  simp [th1]
theorem t2_ev (hw : isNm w) : s2_l_thing K (Vt s0 w (.own (.lst (th1 w))) y3 y4) = .nx (Vt s0 w (.own (.lst (th1 w ++ th2 w))) y3 y4) := by
  have l8 := (okS_nm hw).2
  have e1 : (Str.ofString "!").length = 1 := by decide +kernel
  have e2 : (Str.ofString "1").length = 1 := by decide +kernel
  have e3 : (Str.ofString "\n").length = 1 := by decide +kernel
  have a1 : gAdd (.str w) (.str (Str.ofString "!")) = .val (.str (w ++ Str.ofString "!")) := by rw [gAdd_str]; exact if_pos (size_ge (by omega))
  have a2 : gAdd (.str (Str.ofString "1")) (.str w) = .val (.str (Str.ofString "1" ++ w)) := by rw [gAdd_str]; exact if_pos (size_ge (by omega))
  have a3 : gAdd (.str w) (.str (Str.ofString "\n")) = .val (.str (w ++ Str.ofString "\n")) := by rw [gAdd_str]; exact if_pos (size_ge (by omega))
  have a4 : gAdd (.lst (th1 w)) (.lst (th2 w)) = .new (.lst (th1 w ++ th2 w)) := by
    show (if (th1 w).length + (th2 w).length ≤ sizeLine then Rs.new (.lst (th1 w ++ th2 w)) else Rs.bad) = _
    exact if_pos (size_ge (by simp [th1, th2]))
  have u := fun (y2 y3 y4 : Sl) => mtv_go (T := "str") (g := gUpper) (fo := fName 1) (fa := fNil) (st := Vt s0 w y2 y3 y4) (s1 := Vt s0 w y2 y3 y4) (s2 := Vt s0 w y2 y3 y4) (ir := .d (.str w)) (its := []) (d := .str w) (ds := []) rfl rfl rfl rfl rfl rfl
  have gu : gUpper (.str w) [] = .val (.str (Txt.upper w)) := if_pos (by omega)
  simp only [gu] at u
  have u : ∀ y2 y3 y4 : Sl, fMtV "str" gUpper (fName 1) fNil (Vt s0 w y2 y3 y4) = .ok (.d (.str (Txt.upper w))) (Vt s0 w y2 y3 y4) := u
  unfold th2 at a4 ⊢
  unfold s2_l_thing
  generalize fMtV "str" gUpper (fName 1) fNil = fu at *
  generalize Txt.upper w = up at *
  generalize w ++ Str.ofString "!" = w1 at *
  generalize Str.ofString "1" ++ w = w2 at *
  generalize w ++ Str.ofString "\n" = w3 at *
  generalize th1 w = tl at *
  simp [u, a1, a2, a3, a4]
theorem t3_ev {g : FG} (z : g_l_draw K = g) {i j : Nat} (e1 : g [.own (.lst s0), .d (.int 2)] = .ok (.d (.int i)) [.own (.lst s1), .d (.int 2)]) (e2 : g [.own (.lst s1), .d (.int 24)] = .ok (.d (.int j)) [.own (.lst s2), .d (.int 24)]) :
    s3_l_thing K (Vt s0 w y2 y3 y4) = .nx (Vt s2 w y2 (.d (.int i)) (.d (.int j))) := by
  unfold s3_l_thing
  rw [z]
  simp [e1, e2]
theorem t4_ev {tl : List D} {i j : Nat} (e : tl[j]? = some x) : s4_l_thing K (Vt s0 w (.own (.lst tl)) (.d (.int i)) (.d (.int j))) = .rt (.d (if i = 0 then .str w else x)) (Vt s0 w (.own (.lst tl)) (.d (.int i)) (.d (.int j))) := by
  have eg : gEq (.int i) (.int 0) = .val (.bl (decide (i = 0))) := gEq_nat (k := 0)
  unfold s4_l_thing
  by_cases c : i = 0
  · rw [decide_eq_true c] at eg
    rw [if_pos c]
    generalize (D.int (i : Int)) = di at eg ⊢
    simp [eg]
  · rw [decide_eq_false c] at eg
    rw [if_neg c]
    generalize (D.int (i : Int)) = di at eg ⊢
    simp [eg, e]
theorem thing_ev (h : S.ok n) (hn : n < 30000) (hw : isNm w) : ∃ (x : D) (S' : Sm), S'.ok (n + 2) ∧ thOk x ∧ g_l_thing K [.own (.lst S.ds), .d (.str w)] = .ok (.d x) [.own (.lst S'.ds), .d (.str w)] := by
  obtain ⟨i, S1, h1, hi, e1⟩ := drN (K := K) h (by omega) (m := 2) (by omega) (by omega)
  obtain ⟨j, S2, h2, hj, e2⟩ := drN (K := K) h1 (by omega) (m := 24) (by omega) (by omega)
  have hj2 : j < (th1 w ++ th2 w).length := hj
  have ej := List.getElem?_eq_getElem hj2
  have hm := th_ok hw _ (List.getElem_mem hj2)
  generalize (th1 w ++ th2 w)[j] = x at *
  refine ⟨if i = 0 then .str w else x, S2, h2, ?_, ?_⟩
  · by_cases c : i = 0
    · rw [if_pos c]
      exact .inl ⟨w, rfl, okT_nm hw⟩
    · rw [if_neg c]
      exact hm
  rw [g_l_thing, g_rt_d (x := if i = 0 then .str w else x) (st := Vt S2.ds w (.own (.lst (th1 w ++ th2 w))) (.d (.int i)) (.d (.int j)))]
  · rfl
  · show f_l_thing K (Vt S.ds w .un .un .un) = _
    unfold f_l_thing
    exact sq t1_ev (sq (t2_ev hw) (sq (t3_ev rfl e1 e2) (t4_ev ej)))
  · rfl
end
end Yd
set_option maxRecDepth 100000
set_option maxHeartbeats 4000000
namespace Yd
open PySem PySem.Spec PyProof.Rows L2 DL
section
variable {K : PySem.W.Frag} {S : Sm} {n : Nat} {a b w : Str} {x y f : D} {st : Sls}
abbrev natD (k : Nat) : D := .int (k : Nat)
def flL : List D := [.bl false, .bl true, .bl false, .bl true, .int 1, .int 0, .non, .str "True", .tup [], .lst [.bl true], .int (-1), .dic [] []]
theorem fl_ok : ∀ f ∈ flL, ∃ tx, gRepr f = .val (.str tx) := by
  intro f hf
  simp only [flL, List.mem_cons, List.not_mem_nil, or_false] at hf
  rcases hf with rfl | rfl | rfl | rfl | rfl | rfl | rfl | rfl | rfl | rfl | rfl | rfl
  · exact ⟨_, gRepr_ok (by simp) (by simp [rpW])⟩
  · exact ⟨_, gRepr_ok (by simp) (by simp [rpW])⟩
  · exact ⟨_, gRepr_ok (by simp) (by simp [rpW])⟩
  · exact ⟨_, gRepr_ok (by simp) (by simp [rpW])⟩
  · exact ⟨_, gRepr_ok (by simp [rpB]) (by simp)⟩
  · exact ⟨_, gRepr_ok (by simp [rpB]) (by simp)⟩
  · exact ⟨_, gRepr_ok (by simp) (by simp)⟩
  · exact ⟨_, okT_rep (okT_lit (by decide +kernel))⟩
  · exact ⟨_, gRepr_ok (by show rpB (.tup _) (11 + 1) = true; simp) (by simp)⟩
  · exact ⟨_, gRepr_ok (by show rpB (.lst _) (11 + 1) = true; simp) (by simp [rpW])⟩
  · exact ⟨_, gRepr_ok (by simp [rpB]) (by simp)⟩
  · exact ⟨"{}", by simp [gRepr, pyD, PyData.hasDict]⟩
abbrev Ws (s0 : List D) (y2 y3 y4 y5 y6 y7 : Sl) : Sls := [.own (.lst s0), .own (.lst flL), y2, y3, y4, y5, y6, y7]
variable {s0 s1 s2 s3 : List D} {y2 y3 y4 y5 y6 y7 : Sl} {g : FG}
theorem w1_ev {y1 : Sl} : s1_l_right K [.own (.lst s0), y1, y2, y3, y4, y5, y6, y7] = .nx (Ws s0 y2 y3 y4 y5 y6 y7) := by
  unfold s1_l_right
  simp [flL, gNeg]
theorem w2_ev (z : g_l_word K = g) (e : g [.own (.lst s0)] = .ok (.d (.str w)) [.own (.lst s1)]) : s2_l_right K (Ws s0 y2 y3 y4 y5 y6 y7) = .nx (Ws s1 y2 (.d (.str w)) y4 y5 y6 y7) := by
  unfold s2_l_right
  rw [z]
  simp [e]
theorem w3a_ev {gd : FG} (z : g_l_draw K = gd) {i : Nat} (hi : i = 0) (e : gd [.own (.lst s0), .d (.int 3)] = .ok (.d (.int i)) [.own (.lst s1), .d (.int 3)]) :
    s3_l_right K (Ws s0 y2 (.d (.str w)) y4 y5 y6 y7) = .nx (Ws s1 y2 (.d (.str w)) (.d (.str w)) y5 y6 y7) := by
  have eg : gEq (.int i) (.int 0) = .val (.bl (decide (i = 0))) := gEq_nat (k := 0)
  rw [decide_eq_true hi] at eg
  unfold s3_l_right
  rw [z]
  generalize (D.int (i : Int)) = di at *
  simp [e, eg]
theorem w3b_ev {gd : FG} (z : g_l_draw K = gd) (z2 : g_l_word K = g) {i : Nat} (hi : i ≠ 0) (e : gd [.own (.lst s0), .d (.int 3)] = .ok (.d (.int i)) [.own (.lst s1), .d (.int 3)]) (e2 : g [.own (.lst s1)] = .ok (.d (.str a)) [.own (.lst s2)]) :
    s3_l_right K (Ws s0 y2 (.d (.str w)) y4 y5 y6 y7) = .nx (Ws s2 y2 (.d (.str w)) (.d (.str a)) y5 y6 y7) := by
  have eg : gEq (.int i) (.int 0) = .val (.bl (decide (i = 0))) := gEq_nat (k := 0)
  rw [decide_eq_false hi] at eg
  unfold s3_l_right
  rw [z, z2]
  generalize (D.int (i : Int)) = di at *
  simp [e, eg, e2]
theorem w4_ev {gd : FG} (z : g_l_draw K = gd) (z2 : g_l_thing K = g) {i : Nat} (e1 : g [.own (.lst s0), .d (.str w)] = .ok (.d x) [.own (.lst s1), .d (.str w)]) (e2 : g [.own (.lst s1), .d (.str a)] = .ok (.d y) [.own (.lst s2), .d (.str a)])
    (e3 : gd [.own (.lst s2), .d (.int 12)] = .ok (.d (.int i)) [.own (.lst s3), .d (.int 12)]) (ef : flL[i]? = some f) :
    s4_l_right K (Ws s0 y2 (.d (.str w)) (.d (.str a)) y5 y6 y7) = .nx (Ws s3 y2 (.d (.str w)) (.d (.str a)) (.d x) (.d y) (.d f)) := by
  unfold s4_l_right
  rw [z, z2]
  unfold Ws
  generalize flL = fl at *
  simp [e1, e2, e3, ef]
theorem w6_ev {g2 : FG} (z : g_l_heard K = g) (z2 : g_l_due K = g2) {t1 t2 : Str} (e1 : g [.d x, .d y, .d f] = .ok (.d (.tup [.str t1, .str t2])) [.d x, .d y, .d f]) (e2 : g2 [.d x, .d y, .d f] = .ok (.d (.tup [.str t1, .str t2])) [.d x, .d y, .d f]) :
    s6_l_right K (Ws s0 y2 y3 y4 (.d x) (.d y) (.d f)) = .nx (Ws s0 y2 y3 y4 (.d x) (.d y) (.d f)) := by
  have ne : gNe (.tup [.str t1, .str t2]) (.tup [.str t1, .str t2]) = .val (.bl false) := by simp [gNe]
  unfold s6_l_right s5_l_right
  rw [z, z2]
  unfold Ws
  generalize flL = fl at *
  simp [e1, e2, ne]
theorem turn_ev (hE : [He.ga K "InvalidName", He.ga K "InvalidFlag", He.ga K "InvalidEnd"].Nodup) (h : S.ok n) (hn : n < 20000) : ∃ (S' : Sm) (y3' y4' y5' y6' y7' : Sl), S'.ok (n + 60) ∧ b7_l_right K (Ws S.ds y2 y3 y4 y5 y6 y7) = .nx (Ws S'.ds y2 y3' y4' y5' y6' y7') := by
  obtain ⟨w, S1, h1, hw, e1⟩ := word_ev (K := K) h (by omega)
  obtain ⟨i, S2, h2, hi, e2⟩ := drN (K := K) h1 (by omega) (m := 3) (by omega) (by omega)
  obtain ⟨a, S3, h3, ha, A3⟩ : ∃ (a : Str) (S3 : Sm), S3.ok (n + 33) ∧ isNm a ∧ s3_l_right K (Ws S1.ds y2 (.d (.str w)) y4 y5 y6 y7) = .nx (Ws S3.ds y2 (.d (.str w)) (.d (.str a)) y5 y6 y7) := by
    by_cases c : i = 0
    · exact ⟨w, S2, h2.mono (by omega), hw, w3a_ev rfl c e2⟩
    · obtain ⟨a, S3, h3, ha, e3⟩ := word_ev (K := K) h2 (by omega)
      exact ⟨a, S3, h3.mono (by omega), ha, w3b_ev rfl rfl c e2 e3⟩
  obtain ⟨x, S4, h4, hx, e4⟩ := thing_ev (K := K) h3 (by omega) hw
  obtain ⟨y, S5, h5, hy, e5⟩ := thing_ev (K := K) h4 (by omega) ha
  obtain ⟨j, S6, h6, hj, e6⟩ := drN (K := K) h5 (by omega) (m := 12) (by omega) (by omega)
  have hj2 : j < flL.length := hj
  obtain ⟨t1, t2, eh, ed⟩ := both_ev (K := K) hE hx hy (fl_ok _ (List.getElem_mem hj2))
  refine ⟨S6, .d (.str w), .d (.str a), .d x, .d y, .d flL[j], h6.mono (by omega), ?_⟩
  unfold b7_l_right
  exact sq (w2_ev rfl e1) (sq A3 (sq (w4_ev rfl rfl e4 e5 e6 (List.getElem?_eq_getElem hj2)) (w6_ev rfl rfl eh ed)))
theorem right_ev (hE : [He.ga K "InvalidName", He.ga K "InvalidFlag", He.ga K "InvalidEnd"].Nodup) (h : S.ok 0) : ∃ as', g_l_right K [.own (.lst S.ds)] = .ok (.d (.bl true)) as' := by
  obtain ⟨st', el, S4, y2, y3, y4, y5, y6, y7, h4, hst⟩ := for_do (w := rngW 0 8) (h := setSl 2) (body := b7_l_right K) (emb := natD) (xs := List.range 8) (rngW_is0 8)
    (fun k st => ∃ (S' : Sm) (y2 y3 y4 y5 y6 y7 : Sl), S'.ok (0 + 60 * k) ∧ st = Ws S'.ds y2 y3 y4 y5 y6 y7) (P := fun _ => True) (fun _ _ _ => trivial)
    (st := Ws S.ds .un .un .un .un .un .un) ⟨S, _, _, _, _, _, _, by simpa using h, rfl⟩
    (fun k x st hk ⟨S', y2, y3, y4, y5, y6, y7, h4, hst⟩ => by
      subst hst
      have hk2 : k < 8 := by
        have := (List.getElem?_eq_some_iff.mp hk).1
        simpa using this
      have B := turn_ev (K := K) (y2 := .d (natD x)) (y3 := y3) (y4 := y4) (y5 := y5) (y6 := y6) (y7 := y7) hE h4 (by omega)
      rw [show setSl 2 (.d (natD x)) (Ws S'.ds y2 y3 y4 y5 y6 y7) = .nx (Ws S'.ds (.d (natD x)) y3 y4 y5 y6 y7) from rfl, OtS.bindS_nx1]
      generalize b7_l_right K _ = o at B ⊢
      obtain ⟨S5, z3, z4, z5, z6, z7, b1, b2⟩ := B
      subst b2
      exact ⟨S5, _, _, _, _, _, _, b1.mono (by omega), rfl⟩)
  subst hst
  refine ⟨_, g_rt_d (x := .bl true) (st := Ws S4.ds y2 y3 y4 y5 y6 y7) ?_ ?_⟩
  · show f_l_right K [.own (.lst S.ds), .un, .un, .un, .un, .un, .un, .un] = _
    unfold f_l_right
    refine sq w1_ev ?_
    refine sq (s1 := Ws S4.ds y2 y3 y4 y5 y6 y7) ?_ rfl
    unfold s8_l_right
    rw [pfor]
    case e => exact rng1 (j := 8) rfl rfl (by omega)
    case e2 => exact el
  · rfl
theorem plain (hE : [He.ga K "InvalidName", He.ga K "InvalidFlag", He.ga K "InvalidEnd"].Nodup) (ns : List Int) (hl : ns.length ≤ 63) : ∃ as', g_law K [.d (.scr ns)] = .ok (.d (.bl true)) as' :=
  law_ev (lo := 2) (hi := 6) (by decide) (by decide) (by decide) (fun ns k => stream_ev (by decide) (by decide)) (fun S h => right_ev hE h) ns
end
end Yd
open PySem PySem.W PySem.Calls PyProof.Rows
theorem PySem.Challenge.cw_oneholeyards_k03_ties_refused_holds : PySem.Challenge.rw_oneholeyards_k03_ties_refused.Holds := by
  w_on; o_law
  refine HandSHeadRun.head_any (r := OpenLaw.row PySem.Challenge.rw_oneholeyards_k03_ties_refused) (q := view (OpenLaw.row PySem.Challenge.rw_oneholeyards_k03_ties_refused).prog [25]) (H := Yd.hk) (ob := Yd.ob) (M := 20000) (loose := Yd.names) (d := HandSHeadRun.topDef (OpenLaw.row PySem.Challenge.rw_oneholeyards_k03_ties_refused).prog 25) (kwd := []) Yd.ob_eq
    (by kernel_rfl) (fun s => by kernel_rfl) Yd.run (by kernel_rfl) (by kernel_rfl) (by kernel_rfl) (by rfl) (by first | assumption | decide +kernel) (by decide +kernel) ⟨rfl, rfl, rfl, rfl, rfl, by decide +kernel⟩ ?hw ?hc
  case hw => w_witness2
  case hc =>
    refine DL.walk_ofM (l := PySem.Challenge.rw_oneholeyards_k03_ties_refused) (n := 63) (k := 8) (x := "_law_script") rfl (by decide) (by kernel_rfl) Yd.rm_law ?F
    intro w mg fa h Y G hmg0
    obtain ⟨K, KX, c⟩ := Y
    have hmg : mg ("law" : PySem.Str) = some (.ref fa) := by
      have e : (HandSHeadRun.topDef (OpenLaw.row PySem.Challenge.rw_oneholeyards_k03_ties_refused).prog 25).name = ("law" : PySem.Str) := by kernel_rfl
      rw [← e]
      exact hmg0
    have T : Yd.Th K mg := ⟨KX, G, c⟩
    have e := hmg.symm.trans (He.glo_ok KX G (T.fa 39 (f := .glo "law")))
    cases e
    obtain ⟨fd, D, F⟩ := Yd.ok_law (P := (PySem.Challenge.rw_oneholeyards_k03_ties_refused).prog) (w := w) T
    have b := L2.FunD.bindsA (ps := ["_law_script"]) D fun _ _ _ _ _ _ us hl => match us, hl with | [_], _ => rfl
    refine ⟨K, fd, _, KX, fun s v => b s [v] rfl, fun H p a ns hl hO hS => ?_, fun base _ _ => F base⟩
    obtain ⟨as', e⟩ := Yd.plain (K := K) (DL.ndB_ok (T.ex 18)) ns hl
    exact DL.script_go hO hS e p
