import PyProof.Rows.All
import Wide.All
import OpenK.AllK
import Wide.FinOn
import HandS.ForMost
import HandS.Exc
import HandS.WordsExc
import HandS.Defaults
import HandS.ClsMeth
import HandS.Codes
import HandS.Star
import HandS.Walk
import HandS.HeadHook1
import HandS.HeadHook2
import HandS.HeadHook3
import PySem.Challenge.RW_fourwalls_k56_whole_meetings_can_come
import HandS.Head0
import HandS.Head1
import HandS.Head2
import HandS.Head3
import HandS.OwnEq
import HandS.Evl
import HandS.IsInst
import HandS.Wide
import HandS.Gcd
import HandS.Style
import HandS.DictComp
import HandS.Conv
import HandS.Deep
import HandS.More
import KE.GoesMore
import KE.GoesEnum
import PyProof.EqKinds
import PyProof.Rows.SortShellAny
import KE.KSortTup
import HandS.SortRule
import HandS.SortInts
import HandS.Set
import HandS.SetFor
import HandS.SetTxt0
import HandS.TupSets
import PyProof.ListStr
import KE.KSuper
import HandS.NestedK
import PyProof.P3Eq
import HandS.TryOnly
import HandS.HeadEnd
/-! The law holds at every script: the texts of the walk, joined. -/
set_option linter.all false
set_option Elab.async false
section
set_option maxRecDepth 100000
set_option maxHeartbeats 4000000
/-! The text by places, and the facts that the head shows. -/
namespace L2.FW
open PySem PySem.Spec PyProof.Rows
def top (i : Nat) : Stmt := PySem.Challenge.pw_fourwalls_k56_whole_meetings_can_come.main.body.getD i (.Pass ⟨0, 0, 0, 0⟩)
def dD (x : Str) (i : Nat) : He.DefD := ⟨(x, none), x, x, defArgs (top i), defBody (top i), defScope (top i), [], []⟩
def dM (C m q : Str) (i j : Nat) (dfl : List He.Dv) : He.DefD := ⟨(C, some m), m, q, defArgs (inClass (top i) j), defBody (inClass (top i) j), defScope (inClass (top i) j), dfl, []⟩

def fn0 : List He.DefD := [dD "is_rising" 19, dD "is_faces" 20, dD "is_cutters" 21, dD "is_one" 22, dD "is_string" 23, dD "is_room" 24, dD "is_cut" 25, dD "is_address" 26, dD "parts_of" 27, dD "copied" 28, dD "kept_list" 29, dD "is_whole" 34, dD "part_way" 35, dD "check_room" 37, dD "is_step" 38, dD "turns_of" 39]
def fn1 : List He.DefD := [dD "origins" 40, dD "turns_to" 41, dD "reached" 42, dD "is_place" 44, dD "split_box" 45, dD "boxes_of" 46, dD "overlap" 47, dD "sign_between" 48, dD "meetings" 49, dD "meeting" 50, dD "is_view" 55, dD "check_view" 56, dD "rule" 57, dD "used_parts" 58, dD "view_origins" 59, dD "touching" 63]
def fn2 : List He.DefD := [dD "touch_of" 64, dD "side_ways" 65, dD "half_steps" 66, dD "held_steps" 67, dD "ratio_over" 68, dD "is_part" 72, dD "is_line" 73, dD "takes" 74, dD "fits" 75, dD "line_of" 76, dD "_law_open" 78, dD "_law_draw" 79, dD "_law_of" 80, dD "_law_letters" 81, dD "_law_some_faces" 82, dD "_law_some_cutters" 83]
def fn3 : List He.DefD := [dD "_law_part" 84, dD "_law_some_room" 85, dD "_law_some_cut" 86, dD "_law_some_line" 87, dD "_law_some_book" 88, dD "_law_line_text" 89, dD "_law_book_text" 90, dD "_law_book" 91, dD "_law_fits" 92, dD "_law_line_at" 93, dD "_law_cut" 94, dD "_law_split" 95, dD "_law_parts" 96, dD "_law_top" 97, dD "_law_low" 98, dD "_law_add" 99]
def fn4 : List He.DefD := [dD "_law_times" 100, dD "_law_on_way" 101, dD "_law_some_place" 102, dD "_law_some_placed" 103, dD "_law_cut_box" 104, dD "law" 105, dM "Paper" "__init__" "Paper.__init__" 31 1 [], dM "Paper" "is_placed" "Paper.is_placed" 31 4 [], dM "Ratio" "__init__" "Ratio.__init__" 33 0 [.int 1], dM "Ratio" "__add__" "Ratio.__add__" 33 1 [], dM "Ratio" "__sub__" "Ratio.__sub__" 33 2 [], dM "Ratio" "__mul__" "Ratio.__mul__" 33 3 [], dM "Ratio" "is_below" "Ratio.is_below" 33 4 [], dM "Ratio" "__eq__" "Ratio.__eq__" 33 5 [], dM "Touch" "steps" "Touch.steps" 62 2 [], dM "Touch" "rooms" "Touch.rooms" 62 3 []]
def fn5 : List He.DefD := [dM "Touch" "holds" "Touch.holds" 62 5 [], dM "Book" "__init__" "Book.__init__" 71 1 [], dM "Book" "line_at" "Book.line_at" 71 3 [], dM "Book" "cut" "Book.cut" 71 4 [], dM "Book" "parts" "Book.parts" 71 5 []]
def fn : List He.DefD := fn0 ++ (fn1 ++ (fn2 ++ (fn3 ++ (fn4 ++ (fn5)))))
def fa0 : List He.Fa := [.glo "is_rising", .glo "is_faces", .glo "is_cutters", .glo "is_one", .glo "is_string", .glo "is_room", .glo "is_cut", .glo "is_address", .glo "parts_of", .glo "copied", .glo "kept_list", .glo "is_whole", .glo "part_way", .glo "check_room", .glo "is_step", .glo "turns_of"]
def fa1 : List He.Fa := [.glo "origins", .glo "turns_to", .glo "reached", .glo "is_place", .glo "split_box", .glo "boxes_of", .glo "overlap", .glo "sign_between", .glo "meetings", .glo "meeting", .glo "is_view", .glo "check_view", .glo "rule", .glo "used_parts", .glo "view_origins", .glo "touching"]
def fa2 : List He.Fa := [.glo "touch_of", .glo "side_ways", .glo "half_steps", .glo "held_steps", .glo "ratio_over", .glo "is_part", .glo "is_line", .glo "takes", .glo "fits", .glo "line_of", .glo "_law_open", .glo "_law_draw", .glo "_law_of", .glo "_law_letters", .glo "_law_some_faces", .glo "_law_some_cutters"]
def fa3 : List He.Fa := [.glo "_law_part", .glo "_law_some_room", .glo "_law_some_cut", .glo "_law_some_line", .glo "_law_some_book", .glo "_law_line_text", .glo "_law_book_text", .glo "_law_book", .glo "_law_fits", .glo "_law_line_at", .glo "_law_cut", .glo "_law_split", .glo "_law_parts", .glo "_law_top", .glo "_law_low", .glo "_law_add"]
def fa4 : List He.Fa := [.glo "_law_times", .glo "_law_on_way", .glo "_law_some_place", .glo "_law_some_placed", .glo "_law_cut_box", .glo "law", .glo "Paper", .glo "Ratio", .glo "Touch", .glo "Book", .glo "InvalidStep", .free "isinstance", .free "len", .free "all", .free "list", .free "sorted"]
def fa5 : List He.Fa := [.free "set", .free "str", .free "int", .free "bool", .free "tuple", .free "enumerate", .free "range", .free "zip", .free "abs", .free "super", .str "LOWER" "abcdefghijklmnopqrstuvwxyz", .str "UPPER" "ABCDEFGHIJKLMNOPQRSTUVWXYZ", .str "UPRIGHT" "|", .str "LEVEL" "-", .str "VIEWS" "NESWAD", .str "NONE" "none"]
def fa6 : List He.Fa := [.glo "RULES", .glo "USED", .glo "SIDES", .cls "Ratio", .mkr "Ratio", .cls "Touch", .mkr "Touch", .cls "Book", .mkr "Book", .noat "Ratio" "top", .noat "Ratio" "bottom", .noat "Touch" "book", .noat "Touch" "start", .noat "Touch" "sign", .noat "Touch" "one", .noat "Touch" "other"]
def fa7 : List He.Fa := [.noat "Touch" "own_steps", .noat "Book" "faces", .noat "Book" "cutters", .noat "Book" "own_lines", .meth "Ratio" "__init__", .meth "Ratio" "__add__", .meth "Ratio" "__sub__", .meth "Ratio" "__mul__", .meth "Ratio" "is_below", .meth "Ratio" "__eq__", .meth "Touch" "steps", .meth "Touch" "rooms", .meth "Touch" "holds", .meth "Book" "__init__", .meth "Book" "line_at", .meth "Book" "cut"]
def fa8 : List He.Fa := [.meth "Book" "parts", .keep "InvalidStep"]
def fa : List He.Fa := fa0 ++ (fa1 ++ (fa2 ++ (fa3 ++ (fa4 ++ (fa5 ++ (fa6 ++ (fa7 ++ (fa8))))))))
def loose0 : List PySem.Str := ["gcd", "_wall", "__name__", "HouseError", "InvalidFaces", "InvalidCutters", "InvalidLine", "InvalidRoom", "InvalidCutter", "InvalidView", "InvalidSign", "InvalidStep", "InvalidRatio", "InvalidText", "LOWER", "UPPER", "UPRIGHT", "LEVEL", "is_rising", "is_faces"]
def loose1 : List PySem.Str := ["is_cutters", "is_one", "is_string", "is_room", "is_cut", "is_address", "parts_of", "copied", "kept_list", "Paper", "Ratio", "is_whole", "part_way", "check_room", "is_step", "turns_of", "origins", "turns_to", "reached", "is_place"]
def loose2 : List PySem.Str := ["split_box", "boxes_of", "overlap", "sign_between", "meetings", "meeting", "VIEWS", "RULES", "USED", "is_view", "check_view", "rule", "used_parts", "view_origins", "SIDES", "Touch", "touching", "touch_of", "side_ways", "half_steps"]
def loose3 : List PySem.Str := ["held_steps", "ratio_over", "NONE", "Book", "is_part", "is_line", "takes", "fits", "line_of", "_law_open", "_law_draw", "_law_of", "_law_letters", "_law_some_faces", "_law_some_cutters", "_law_part", "_law_some_room", "_law_some_cut", "_law_some_line", "_law_some_book"]
def loose4 : List PySem.Str := ["_law_line_text", "_law_book_text", "_law_book", "_law_fits", "_law_line_at", "_law_cut", "_law_split", "_law_parts", "_law_top", "_law_low", "_law_add", "_law_times", "_law_on_way", "_law_some_place", "_law_some_placed", "_law_cut_box"]
def loose : List PySem.Str := loose0 ++ (loose1 ++ (loose2 ++ (loose3 ++ (loose4))))
/-! tables of the top whose values are tuples; the builtin gcd; the class constant and the static method of Book; Touch's own __init__ (a closure over __class__) -/
def tupAt (K : PySem.W.Frag) (d k : Str) : Addr := match PySem.W.nsIn K (He.ga K d) k with
  | some (some (.ref a)) => a
  | _ => 0
def tupOk (K : PySem.W.Frag) (a : Addr) (vs : List V) : Bool := match K.lookup a with
  | some ⟨.type c, _, .seq its _, _⟩ => decide (c = "tuple") && (decide (its.size ≤ sizeLine) && He.relAll vs its.toList)
  | _ => false
def rowOk (K : PySem.W.Frag) (d : Str) (q : Str × List V) : Bool := He.eqO (PySem.W.nsIn K (He.ga K d) q.1) (some (some (.ref (tupAt K d q.1)))) && tupOk K (tupAt K d q.1) q.2
def tabs : List (Str × List (Str × List V)) := [
  ("RULES", [("N", [.str "both", .str "first"]), ("E", [.str "second", .str "both"]), ("S", [.str "both", .str "second"]), ("W", [.str "first", .str "both"]), ("A", [.str "both", .str "either"]), ("D", [.str "either", .str "both"])]),
  ("USED", [("both", [.int 0, .int 1]), ("first", [.int 0]), ("second", [.int 1]), ("either", [.int 0, .int 1])]),
  ("SIDES", [("|", [.str "E", .str "W"]), ("-", [.str "S", .str "N"])])]
/-- Book.read: the static method's record, its def -/
def smAd (K : PySem.W.Frag) : Addr := match PySem.W.findIn K (.ref (He.ga K "Book")) "read" with
  | some (some (.ref p)) => p
  | _ => 0
def rdAd (K : PySem.W.Frag) : Addr := match PySem.W.recIn K (smAd K) "staticmethod" with
  | some (.ref g :: _) => g
  | _ => 0
def tiAd (K : PySem.W.Frag) : Addr := He.ma K (He.ga K "Touch") "__init__"
abbrev FnX : Type := Option (Str × Str × Arguments × FuncBody × Scope × Addr × List Str × Addr)
def fnX (K : PySem.W.Frag) (a : Addr) : FnX := match K.lookup a with
  | some ⟨_, _, .func fd, _⟩ => some (fd.name, fd.qualname, fd.params, fd.body, fd.scope, fd.globals, fd.closure.map (·.1), fd.builtins)
  | _ => none
def fnXok (K : PySem.W.Frag) (a : Addr) (q : Str) : Bool := PySem.W.keepIn K (.ref a) && (match K.lookup a with
  | some ⟨_, _, .func fd, _⟩ => PySem.W.codeIn K fd.code q && (match fd.defaults with | .none => true | _ => false)
  | _ => false)
def cellOk (K : PySem.W.Frag) : Bool := match K.lookup (tiAd K) with
  | some ⟨_, _, .func fd, _⟩ => (match fd.closure with
    | [(_, c)] => (match K.lookup c with
      | some ⟨_, _, .cell (some (.ref C)), _⟩ => decide (C = He.ga K "Touch")
      | _ => false)
    | _ => false)
  | _ => false
def mostOk (K : PySem.W.Frag) : Bool := match PySem.W.findCls K (.ref (He.ga K "Book")) (.type "type") "MOST" with
  | some (.val (.int i _)) => decide (i = 8)
  | _ => false
def readOk (K : PySem.W.Frag) : Bool := match PySem.W.findCls K (.ref (He.ga K "Book")) (.type "type") "read" with
  | some (.get (.builtin g) (.ref p) .none (.ref C)) => decide (g = "staticmethod.__get__") && (decide (p = smAd K) && decide (C = He.ga K "Book"))
  | _ => false
def exB (K : PySem.W.Frag) : Bool :=
  He.eqO (PySem.W.nsIn K mainGlobals "gcd") (some (some (.builtin "math.gcd"))) &&
  ((tabs.all fun t => t.2.all fun q => rowOk K t.1 q) &&
  ((PySem.W.readsIn K (He.ga K "Book") (.type "type") && (He.eqO (PySem.W.specialIn K (.ref (He.ga K "Book")) "__getattribute__") (some (some (.builtin "type.__getattribute__"))) && (mostOk K && readOk K))) &&
  ((PySem.W.fnIn K (rdAd K) && (fnXok K (rdAd K) "Book.read" && (match PySem.W.recIn K (smAd K) "staticmethod" with | some (.ref g :: _) => decide (g = rdAd K) | _ => false))) &&
  (fnXok K (tiAd K) "Touch.__init__" && cellOk K))))
def fx (K : PySem.W.Frag) : List FnX := [fnX K (rdAd K), fnX K (tiAd K)]
def fxV : List FnX := [some ("read", "Book.read", defArgs (inClass (top 71) 13), .stmts (defBody (inClass (top 71) 13)), defScope (inClass (top 71) 13), mainGlobals, [], builtinsNs),
  some ("__init__", "Touch.__init__", defArgs (inClass (top 62) 1), .stmts (defBody (inClass (top 62) 1)), defScope (inClass (top 62) 1), mainGlobals, ["__class__"], builtinsNs)]
/-- isinstance(x, Ratio); Touch's is_placed, which Paper gives it -/
def insOk (K : PySem.W.Frag) : Bool := He.eqO (PySem.W.findIn K (.ref (He.ga K "Ratio")) "__class__") (some (some (.builtin "object.__class__"))) && (He.eqO (PySem.W.specialIn K (.builtin "object.__class__") "__get__") (some (some (.builtin "getset_descriptor.__get__"))) &&
  (decide (PySem.W.takesIn K (.builtin "object.__class__") = some true) && (decide (PySem.W.mroIn K (He.ga K "Ratio") (.type "object") = some true) && (He.eqO (PySem.W.findIn K (.ref (He.ga K "Touch")) "is_placed") (some (some (.ref (He.ma K (He.ga K "Paper") "is_placed")))) &&
  PySem.W.isFn K (.ref (He.ma K (He.ga K "Paper") "is_placed"))))))
/-- Touch's super: the classes behind, Paper's __init__, the file of the code -/
def supOk (K : PySem.W.Frag) : Bool := (match PySem.W.clsIn K (He.ga K "Touch") with
  | some cd => decide (cd.mro = [.ref (He.ga K "Touch"), .ref (He.ga K "Paper"), .type "object"])
  | none => false) && (He.eqO (PySem.W.alongIn K "__init__" [.ref (He.ga K "Paper"), .type "object"]) (some (some (.ref (He.ma K (He.ga K "Paper") "__init__")))) &&
  (He.eqO (PySem.W.nsIn K PySem.cStatics "thirdparty.any") (some none) && (decide (PySem.W.subIn K (.ref (He.ga K "Touch")) (.ref (He.ga K "Touch")) = some true) && ((match K.lookup (tiAd K) with
  | some ⟨_, _, .func fd, _⟩ => (match fd.code with
    | .ref c => (match K.lookup c with
      | some ⟨_, _, .fields vs, _⟩ => (match vs.toList with
        | _ :: _ :: .str f _ :: _ => decide (f = ("/claim/cut.py" : Str))
        | _ => false)
      | _ => false)
    | _ => false)
  | _ => false) && (PySem.W.isFn K (.ref (He.ma K (He.ga K "Paper") "__init__")) && (PySem.W.selfFirst K (He.ga K "Ratio") && (PySem.W.selfFirst K (He.ga K "Touch") && insOk K)))))))
/-! the Hook -/
def refsM (o : Obj) : List Addr := match o with
  | ⟨oc, _, .fields vs, _⟩ => (match oc with
    | .type c => (match decide (c = "staticmethod") with
      | true => vs.toList.flatMap He.refV
      | false => [])
    | _ => [])
  | ⟨_, _, .dict es _, _⟩ => es.toList.flatMap fun e => He.refV e.val
  | ⟨_, _, .func fd, _⟩ => He.refV fd.code ++ He.refV fd.defaults ++ fd.closure.map (·.2)
  | ⟨_, _, .cls cd, _⟩ => [cd.ns]
  | _ => []
def lvM (g : Addr → Option Obj) : Nat → List Addr → List Addr
  | 0, as => as
  | n + 1, as => as ++ lvM g n (as.flatMap fun a => match g a with
    | some o => refsM o
    | none => [])
def fnL (K : PySem.W.Frag) : List He.DefD → List He.FnW
  | [] => []
  | d :: r => He.fnW K d.at_ :: fnL K r
def vaL : List He.DefD → List He.FnW
  | [] => []
  | d :: r => d.val :: vaL r
def dicL (K : PySem.W.Frag) : List (Option (List (Option (Str × Int)))) := [He.dicW K (He.ga K "RULES"), He.dicW K (He.ga K "USED"), He.dicW K (He.ga K "SIDES")]
def dicV (w : World) : List (Option (List (Option (Str × Int)))) := [some (He.keysIn w.params ["N", "E", "S", "W", "A", "D"]), some (He.keysIn w.params ["both", "first", "second", "either"]), some (He.keysIn w.params ["|", "-"])]
def factsB (K : PySem.W.Frag) : Bool := (fa.all fun f => f.ok K) && ((fn.all fun d => d.ok K) && (exB K && supOk K))
abbrev AlM : Type := Bool × List He.FnW × List (Option (List (Option (Str × Int)))) × List FnX
def obsM (K : PySem.W.Frag) : AlM := (factsB K, fnL K fn, dicL K, fx K)
def valM (w : World) : AlM := (true, vaL fn, dicV w, fxV)
def obsMG (g : Addr → Option Obj) : AlM := obsM (He.frG g (lvM g 5 [mainGlobals, PySem.cStatics]))
def SaysM (w : World) (K : PySem.W.Frag) : Prop := obsM K = valM w
def hookM : PySem.W.Hook where
  α := AlM
  obs := fun s => obsMG s.heap.get?
  val := fun w => valM w
  says := fun w h => ∃ K : PySem.W.Frag, K.In h ∧ SaysM w K
  of := fun _ _ e => ⟨_, He.frG_in, e⟩
  keeps := fun _ _ _ ⟨K, hK, c⟩ k => ⟨K, PySem.W.Frag.In.keeps hK k, c⟩
theorem obsMG_eq {g : Addr → Option Obj} {s : Shared} (h : ∀ a, g a = s.heap.get? a) : obsMG g = hookM.obs s := by
  have e : g = s.heap.get? := funext h
  rw [e] <;> rfl
theorem lists_at {K : PySem.W.Frag} : ∀ {l : List He.DefD}, fnL K l = vaL l → ∀ {i : Nat} {d : He.DefD}, l[i]? = some d → He.fnW K d.at_ = d.val
  | [], _, _, _, h => by simp at h
  | d :: r, e, 0, d', h => by
    have e2 : He.fnW K d.at_ :: fnL K r = d.val :: vaL r := e
    injection e2 with e3 _
    have : d = d' := Option.some.inj h
    subst this
    exact e3
  | d :: r, e, i + 1, d', h => by
    have e2 : He.fnW K d.at_ :: fnL K r = d.val :: vaL r := e
    injection e2 with _ e3
    exact lists_at e3 (i := i) h
/-- what every walk may lean on -/
structure T (w : World) (K : PySem.W.Frag) (mg : Str → Option Value) : Prop where
  ex : ∃ h : Heap, K.In h ∧ h.Ns mainGlobals mg
  c : SaysM w K
section
variable {w : World} {K : PySem.W.Frag} {mg : Str → Option Value}
theorem T.facts (T : T w K mg) : factsB K = true := congrArg (fun z : AlM => z.1) T.c
theorem T.fx (T : T w K mg) : fx K = fxV := congrArg (fun z : AlM => z.2.2.2) T.c
theorem T.dics (T : T w K mg) : dicL K = dicV w := congrArg (fun z : AlM => z.2.2.1) T.c
theorem T.exB (T : T w K mg) : exB K = true := (He.ba (He.ba (He.ba T.facts).2).2).1
theorem T.sup (T : T w K mg) : supOk K = true := (He.ba (He.ba (He.ba T.facts).2).2).2
theorem T.fact (T : T w K mg) (i : Nat) {f : He.Fa} (h : fa[i]? = some f := by rfl) : f.ok K = true := List.all_eq_true.mp (He.ba T.facts).1 f (List.mem_of_getElem? h)
theorem T.def_ (T : T w K mg) (i : Nat) {d : He.DefD} (h : fn[i]? = some d := by rfl) : ∃ fd, FunD K d.name d.qual d.params d.body d.scope (d.dvs K) (d.kws K) (He.fAd K d.at_) fd :=
  He.DefD.funD (lists_at (congrArg (fun z : AlM => z.2.1) T.c) h) (List.all_eq_true.mp (He.ba (He.ba T.facts).2).1 d (List.mem_of_getElem? h))
end
theorem T.glo_ {w : World} {K : PySem.W.Frag} {mg : Str → Option Value} (T : T w K mg) {x : Str} (c : (He.Fa.glo x).ok K = true) : mg x = some (.ref (He.ga K x)) := by
  obtain ⟨h, a, b⟩ := T.ex
  exact He.glo_ok a b c
theorem T.free_ {w : World} {K : PySem.W.Frag} {mg : Str → Option Value} (T : T w K mg) {x : Str} (c : (He.Fa.free x).ok K = true) : mg x = none := by
  obtain ⟨h, a, b⟩ := T.ex
  exact He.free_ok a b c
theorem T.str_ {w : World} {K : PySem.W.Frag} {mg : Str → Option Value} (T : T w K mg) {x z : Str} (c : (He.Fa.str x z).ok K = true) : ∃ t, mg x = some (.str z t) := by
  obtain ⟨h, a, b⟩ := T.ex
  exact He.str_ok a b c
abbrev FnP (K : PySem.W.Frag) (x q : Str) (st : Stmt) (dvs : List V) (f : Addr) (fd : FuncData) : Prop := FunD K x q (defArgs st) (defBody st) (defScope st) dvs [] f fd
section
variable {w : World} {K : PySem.W.Frag} {mg : Str → Option Value}
theorem T.v_gcd (T : T w K mg) : mg "gcd" = some (.builtin "math.gcd") := by
  obtain ⟨h, a, b⟩ := T.ex
  exact PySem.W.mg_of a b (He.eqO_ok (He.ba (show (He.eqO (PySem.W.nsIn K mainGlobals "gcd") (some (some (.builtin "math.gcd"))) && _) = true from T.exB)).1)
end

section
variable {w : World} {K : PySem.W.Frag} {mg : Str → Option Value}
theorem T.g_is_rising (T : T w K mg) : mg "is_rising" = some (.ref (He.ga K "is_rising")) := T.glo_ (T.fact 0 rfl)
theorem T.g_is_faces (T : T w K mg) : mg "is_faces" = some (.ref (He.ga K "is_faces")) := T.glo_ (T.fact 1 rfl)
theorem T.g_is_cutters (T : T w K mg) : mg "is_cutters" = some (.ref (He.ga K "is_cutters")) := T.glo_ (T.fact 2 rfl)
theorem T.g_is_one (T : T w K mg) : mg "is_one" = some (.ref (He.ga K "is_one")) := T.glo_ (T.fact 3 rfl)
theorem T.g_is_string (T : T w K mg) : mg "is_string" = some (.ref (He.ga K "is_string")) := T.glo_ (T.fact 4 rfl)
theorem T.g_is_room (T : T w K mg) : mg "is_room" = some (.ref (He.ga K "is_room")) := T.glo_ (T.fact 5 rfl)
theorem T.g_is_cut (T : T w K mg) : mg "is_cut" = some (.ref (He.ga K "is_cut")) := T.glo_ (T.fact 6 rfl)
theorem T.g_is_address (T : T w K mg) : mg "is_address" = some (.ref (He.ga K "is_address")) := T.glo_ (T.fact 7 rfl)
theorem T.g_parts_of (T : T w K mg) : mg "parts_of" = some (.ref (He.ga K "parts_of")) := T.glo_ (T.fact 8 rfl)
theorem T.g_copied (T : T w K mg) : mg "copied" = some (.ref (He.ga K "copied")) := T.glo_ (T.fact 9 rfl)
theorem T.g_kept_list (T : T w K mg) : mg "kept_list" = some (.ref (He.ga K "kept_list")) := T.glo_ (T.fact 10 rfl)
theorem T.g_is_whole (T : T w K mg) : mg "is_whole" = some (.ref (He.ga K "is_whole")) := T.glo_ (T.fact 11 rfl)
theorem T.g_part_way (T : T w K mg) : mg "part_way" = some (.ref (He.ga K "part_way")) := T.glo_ (T.fact 12 rfl)
theorem T.g_check_room (T : T w K mg) : mg "check_room" = some (.ref (He.ga K "check_room")) := T.glo_ (T.fact 13 rfl)
theorem T.g_is_step (T : T w K mg) : mg "is_step" = some (.ref (He.ga K "is_step")) := T.glo_ (T.fact 14 rfl)
theorem T.g_turns_of (T : T w K mg) : mg "turns_of" = some (.ref (He.ga K "turns_of")) := T.glo_ (T.fact 15 rfl)
theorem T.g_origins (T : T w K mg) : mg "origins" = some (.ref (He.ga K "origins")) := T.glo_ (T.fact 16 rfl)
theorem T.g_turns_to (T : T w K mg) : mg "turns_to" = some (.ref (He.ga K "turns_to")) := T.glo_ (T.fact 17 rfl)
theorem T.g_reached (T : T w K mg) : mg "reached" = some (.ref (He.ga K "reached")) := T.glo_ (T.fact 18 rfl)
theorem T.g_is_place (T : T w K mg) : mg "is_place" = some (.ref (He.ga K "is_place")) := T.glo_ (T.fact 19 rfl)
theorem T.g_split_box (T : T w K mg) : mg "split_box" = some (.ref (He.ga K "split_box")) := T.glo_ (T.fact 20 rfl)
theorem T.g_boxes_of (T : T w K mg) : mg "boxes_of" = some (.ref (He.ga K "boxes_of")) := T.glo_ (T.fact 21 rfl)
theorem T.g_overlap (T : T w K mg) : mg "overlap" = some (.ref (He.ga K "overlap")) := T.glo_ (T.fact 22 rfl)
theorem T.g_sign_between (T : T w K mg) : mg "sign_between" = some (.ref (He.ga K "sign_between")) := T.glo_ (T.fact 23 rfl)
theorem T.g_meetings (T : T w K mg) : mg "meetings" = some (.ref (He.ga K "meetings")) := T.glo_ (T.fact 24 rfl)
theorem T.g_meeting (T : T w K mg) : mg "meeting" = some (.ref (He.ga K "meeting")) := T.glo_ (T.fact 25 rfl)
theorem T.g_is_view (T : T w K mg) : mg "is_view" = some (.ref (He.ga K "is_view")) := T.glo_ (T.fact 26 rfl)
theorem T.g_check_view (T : T w K mg) : mg "check_view" = some (.ref (He.ga K "check_view")) := T.glo_ (T.fact 27 rfl)
theorem T.g_rule (T : T w K mg) : mg "rule" = some (.ref (He.ga K "rule")) := T.glo_ (T.fact 28 rfl)
theorem T.g_used_parts (T : T w K mg) : mg "used_parts" = some (.ref (He.ga K "used_parts")) := T.glo_ (T.fact 29 rfl)
theorem T.g_view_origins (T : T w K mg) : mg "view_origins" = some (.ref (He.ga K "view_origins")) := T.glo_ (T.fact 30 rfl)
theorem T.g_touching (T : T w K mg) : mg "touching" = some (.ref (He.ga K "touching")) := T.glo_ (T.fact 31 rfl)
theorem T.g_touch_of (T : T w K mg) : mg "touch_of" = some (.ref (He.ga K "touch_of")) := T.glo_ (T.fact 32 rfl)
theorem T.g_side_ways (T : T w K mg) : mg "side_ways" = some (.ref (He.ga K "side_ways")) := T.glo_ (T.fact 33 rfl)
theorem T.g_half_steps (T : T w K mg) : mg "half_steps" = some (.ref (He.ga K "half_steps")) := T.glo_ (T.fact 34 rfl)
theorem T.g_held_steps (T : T w K mg) : mg "held_steps" = some (.ref (He.ga K "held_steps")) := T.glo_ (T.fact 35 rfl)
theorem T.g_ratio_over (T : T w K mg) : mg "ratio_over" = some (.ref (He.ga K "ratio_over")) := T.glo_ (T.fact 36 rfl)
theorem T.g_is_part (T : T w K mg) : mg "is_part" = some (.ref (He.ga K "is_part")) := T.glo_ (T.fact 37 rfl)
theorem T.g_is_line (T : T w K mg) : mg "is_line" = some (.ref (He.ga K "is_line")) := T.glo_ (T.fact 38 rfl)
theorem T.g_takes (T : T w K mg) : mg "takes" = some (.ref (He.ga K "takes")) := T.glo_ (T.fact 39 rfl)
theorem T.g_fits (T : T w K mg) : mg "fits" = some (.ref (He.ga K "fits")) := T.glo_ (T.fact 40 rfl)
theorem T.g_line_of (T : T w K mg) : mg "line_of" = some (.ref (He.ga K "line_of")) := T.glo_ (T.fact 41 rfl)
theorem T.g__law_open (T : T w K mg) : mg "_law_open" = some (.ref (He.ga K "_law_open")) := T.glo_ (T.fact 42 rfl)
theorem T.g__law_draw (T : T w K mg) : mg "_law_draw" = some (.ref (He.ga K "_law_draw")) := T.glo_ (T.fact 43 rfl)
theorem T.g__law_of (T : T w K mg) : mg "_law_of" = some (.ref (He.ga K "_law_of")) := T.glo_ (T.fact 44 rfl)
theorem T.g__law_letters (T : T w K mg) : mg "_law_letters" = some (.ref (He.ga K "_law_letters")) := T.glo_ (T.fact 45 rfl)
theorem T.g__law_some_faces (T : T w K mg) : mg "_law_some_faces" = some (.ref (He.ga K "_law_some_faces")) := T.glo_ (T.fact 46 rfl)
theorem T.g__law_some_cutters (T : T w K mg) : mg "_law_some_cutters" = some (.ref (He.ga K "_law_some_cutters")) := T.glo_ (T.fact 47 rfl)
theorem T.g__law_part (T : T w K mg) : mg "_law_part" = some (.ref (He.ga K "_law_part")) := T.glo_ (T.fact 48 rfl)
theorem T.g__law_some_room (T : T w K mg) : mg "_law_some_room" = some (.ref (He.ga K "_law_some_room")) := T.glo_ (T.fact 49 rfl)
theorem T.g__law_some_cut (T : T w K mg) : mg "_law_some_cut" = some (.ref (He.ga K "_law_some_cut")) := T.glo_ (T.fact 50 rfl)
theorem T.g__law_some_line (T : T w K mg) : mg "_law_some_line" = some (.ref (He.ga K "_law_some_line")) := T.glo_ (T.fact 51 rfl)
theorem T.g__law_some_book (T : T w K mg) : mg "_law_some_book" = some (.ref (He.ga K "_law_some_book")) := T.glo_ (T.fact 52 rfl)
theorem T.g__law_line_text (T : T w K mg) : mg "_law_line_text" = some (.ref (He.ga K "_law_line_text")) := T.glo_ (T.fact 53 rfl)
theorem T.g__law_book_text (T : T w K mg) : mg "_law_book_text" = some (.ref (He.ga K "_law_book_text")) := T.glo_ (T.fact 54 rfl)
theorem T.g__law_book (T : T w K mg) : mg "_law_book" = some (.ref (He.ga K "_law_book")) := T.glo_ (T.fact 55 rfl)
theorem T.g__law_fits (T : T w K mg) : mg "_law_fits" = some (.ref (He.ga K "_law_fits")) := T.glo_ (T.fact 56 rfl)
theorem T.g__law_line_at (T : T w K mg) : mg "_law_line_at" = some (.ref (He.ga K "_law_line_at")) := T.glo_ (T.fact 57 rfl)
theorem T.g__law_cut (T : T w K mg) : mg "_law_cut" = some (.ref (He.ga K "_law_cut")) := T.glo_ (T.fact 58 rfl)
theorem T.g__law_split (T : T w K mg) : mg "_law_split" = some (.ref (He.ga K "_law_split")) := T.glo_ (T.fact 59 rfl)
theorem T.g__law_parts (T : T w K mg) : mg "_law_parts" = some (.ref (He.ga K "_law_parts")) := T.glo_ (T.fact 60 rfl)
theorem T.g__law_top (T : T w K mg) : mg "_law_top" = some (.ref (He.ga K "_law_top")) := T.glo_ (T.fact 61 rfl)
theorem T.g__law_low (T : T w K mg) : mg "_law_low" = some (.ref (He.ga K "_law_low")) := T.glo_ (T.fact 62 rfl)
theorem T.g__law_add (T : T w K mg) : mg "_law_add" = some (.ref (He.ga K "_law_add")) := T.glo_ (T.fact 63 rfl)
theorem T.g__law_times (T : T w K mg) : mg "_law_times" = some (.ref (He.ga K "_law_times")) := T.glo_ (T.fact 64 rfl)
theorem T.g__law_on_way (T : T w K mg) : mg "_law_on_way" = some (.ref (He.ga K "_law_on_way")) := T.glo_ (T.fact 65 rfl)
theorem T.g__law_some_place (T : T w K mg) : mg "_law_some_place" = some (.ref (He.ga K "_law_some_place")) := T.glo_ (T.fact 66 rfl)
theorem T.g__law_some_placed (T : T w K mg) : mg "_law_some_placed" = some (.ref (He.ga K "_law_some_placed")) := T.glo_ (T.fact 67 rfl)
theorem T.g__law_cut_box (T : T w K mg) : mg "_law_cut_box" = some (.ref (He.ga K "_law_cut_box")) := T.glo_ (T.fact 68 rfl)
theorem T.g_law (T : T w K mg) : mg "law" = some (.ref (He.ga K "law")) := T.glo_ (T.fact 69 rfl)
theorem T.g_Paper (T : T w K mg) : mg "Paper" = some (.ref (He.ga K "Paper")) := T.glo_ (T.fact 70 rfl)
theorem T.v_Paper (T : T w K mg) : ∃ u, mg "Paper" = some u ∧ RelV (.ref (He.ga K "Paper")) u := ⟨_, T.g_Paper, rfl⟩
theorem T.g_Ratio (T : T w K mg) : mg "Ratio" = some (.ref (He.ga K "Ratio")) := T.glo_ (T.fact 71 rfl)
theorem T.v_Ratio (T : T w K mg) : ∃ u, mg "Ratio" = some u ∧ RelV (.ref (He.ga K "Ratio")) u := ⟨_, T.g_Ratio, rfl⟩
theorem T.g_Touch (T : T w K mg) : mg "Touch" = some (.ref (He.ga K "Touch")) := T.glo_ (T.fact 72 rfl)
theorem T.v_Touch (T : T w K mg) : ∃ u, mg "Touch" = some u ∧ RelV (.ref (He.ga K "Touch")) u := ⟨_, T.g_Touch, rfl⟩
theorem T.g_Book (T : T w K mg) : mg "Book" = some (.ref (He.ga K "Book")) := T.glo_ (T.fact 73 rfl)
theorem T.v_Book (T : T w K mg) : ∃ u, mg "Book" = some u ∧ RelV (.ref (He.ga K "Book")) u := ⟨_, T.g_Book, rfl⟩
theorem T.g_InvalidStep (T : T w K mg) : mg "InvalidStep" = some (.ref (He.ga K "InvalidStep")) := T.glo_ (T.fact 74 rfl)
theorem T.f_isinstance (T : T w K mg) : mg "isinstance" = none := T.free_ (T.fact 75 rfl)
theorem T.f_len (T : T w K mg) : mg "len" = none := T.free_ (T.fact 76 rfl)
theorem T.f_all (T : T w K mg) : mg "all" = none := T.free_ (T.fact 77 rfl)
theorem T.f_list (T : T w K mg) : mg "list" = none := T.free_ (T.fact 78 rfl)
theorem T.f_sorted (T : T w K mg) : mg "sorted" = none := T.free_ (T.fact 79 rfl)
theorem T.f_set (T : T w K mg) : mg "set" = none := T.free_ (T.fact 80 rfl)
theorem T.f_str (T : T w K mg) : mg "str" = none := T.free_ (T.fact 81 rfl)
theorem T.f_int (T : T w K mg) : mg "int" = none := T.free_ (T.fact 82 rfl)
theorem T.f_bool (T : T w K mg) : mg "bool" = none := T.free_ (T.fact 83 rfl)
theorem T.f_tuple (T : T w K mg) : mg "tuple" = none := T.free_ (T.fact 84 rfl)
theorem T.f_enumerate (T : T w K mg) : mg "enumerate" = none := T.free_ (T.fact 85 rfl)
theorem T.f_range (T : T w K mg) : mg "range" = none := T.free_ (T.fact 86 rfl)
theorem T.f_zip (T : T w K mg) : mg "zip" = none := T.free_ (T.fact 87 rfl)
theorem T.f_abs (T : T w K mg) : mg "abs" = none := T.free_ (T.fact 88 rfl)
theorem T.f_super (T : T w K mg) : mg "super" = none := T.free_ (T.fact 89 rfl)
theorem T.s_LOWER (T : T w K mg) : ∃ t, mg "LOWER" = some (.str "abcdefghijklmnopqrstuvwxyz" t) := T.str_ (T.fact 90 rfl)
theorem T.v_LOWER (T : T w K mg) : ∃ u, mg "LOWER" = some u ∧ RelV (.str "abcdefghijklmnopqrstuvwxyz") u := by
  obtain ⟨t, h⟩ := T.s_LOWER
  exact ⟨_, h, t, rfl⟩
theorem T.s_UPPER (T : T w K mg) : ∃ t, mg "UPPER" = some (.str "ABCDEFGHIJKLMNOPQRSTUVWXYZ" t) := T.str_ (T.fact 91 rfl)
theorem T.v_UPPER (T : T w K mg) : ∃ u, mg "UPPER" = some u ∧ RelV (.str "ABCDEFGHIJKLMNOPQRSTUVWXYZ") u := by
  obtain ⟨t, h⟩ := T.s_UPPER
  exact ⟨_, h, t, rfl⟩
theorem T.s_UPRIGHT (T : T w K mg) : ∃ t, mg "UPRIGHT" = some (.str "|" t) := T.str_ (T.fact 92 rfl)
theorem T.v_UPRIGHT (T : T w K mg) : ∃ u, mg "UPRIGHT" = some u ∧ RelV (.str "|") u := by
  obtain ⟨t, h⟩ := T.s_UPRIGHT
  exact ⟨_, h, t, rfl⟩
theorem T.s_LEVEL (T : T w K mg) : ∃ t, mg "LEVEL" = some (.str "-" t) := T.str_ (T.fact 93 rfl)
theorem T.v_LEVEL (T : T w K mg) : ∃ u, mg "LEVEL" = some u ∧ RelV (.str "-") u := by
  obtain ⟨t, h⟩ := T.s_LEVEL
  exact ⟨_, h, t, rfl⟩
theorem T.s_VIEWS (T : T w K mg) : ∃ t, mg "VIEWS" = some (.str "NESWAD" t) := T.str_ (T.fact 94 rfl)
theorem T.v_VIEWS (T : T w K mg) : ∃ u, mg "VIEWS" = some u ∧ RelV (.str "NESWAD") u := by
  obtain ⟨t, h⟩ := T.s_VIEWS
  exact ⟨_, h, t, rfl⟩
theorem T.s_NONE (T : T w K mg) : ∃ t, mg "NONE" = some (.str "none" t) := T.str_ (T.fact 95 rfl)
theorem T.v_NONE (T : T w K mg) : ∃ u, mg "NONE" = some u ∧ RelV (.str "none") u := by
  obtain ⟨t, h⟩ := T.s_NONE
  exact ⟨_, h, t, rfl⟩
theorem T.g_RULES (T : T w K mg) : mg "RULES" = some (.ref (He.ga K "RULES")) := T.glo_ (T.fact 96 rfl)
theorem T.v_RULES (T : T w K mg) : ∃ u, mg "RULES" = some u ∧ RelV (.ref (He.ga K "RULES")) u := ⟨_, T.g_RULES, rfl⟩
theorem T.g_USED (T : T w K mg) : mg "USED" = some (.ref (He.ga K "USED")) := T.glo_ (T.fact 97 rfl)
theorem T.v_USED (T : T w K mg) : ∃ u, mg "USED" = some u ∧ RelV (.ref (He.ga K "USED")) u := ⟨_, T.g_USED, rfl⟩
theorem T.g_SIDES (T : T w K mg) : mg "SIDES" = some (.ref (He.ga K "SIDES")) := T.glo_ (T.fact 98 rfl)
theorem T.v_SIDES (T : T w K mg) : ∃ u, mg "SIDES" = some u ∧ RelV (.ref (He.ga K "SIDES")) u := ⟨_, T.g_SIDES, rfl⟩
theorem T.c_Ratio (T : T w K mg) : Cls K (He.ga K "Ratio") := He.cls_ok (T.fact 99 rfl)
theorem T.mk_Ratio (T : T w K mg) : Mk K (He.ga K "Ratio") (He.ma K (He.ga K "Ratio") "__init__") := He.mkr_ok (T.fact 100 rfl)
theorem T.c_Touch (T : T w K mg) : Cls K (He.ga K "Touch") := He.cls_ok (T.fact 101 rfl)
theorem T.mk_Touch (T : T w K mg) : Mk K (He.ga K "Touch") (He.ma K (He.ga K "Touch") "__init__") := He.mkr_ok (T.fact 102 rfl)
theorem T.c_Book (T : T w K mg) : Cls K (He.ga K "Book") := He.cls_ok (T.fact 103 rfl)
theorem T.mk_Book (T : T w K mg) : Mk K (He.ga K "Book") (He.ma K (He.ga K "Book") "__init__") := He.mkr_ok (T.fact 104 rfl)
theorem T.n_Ratio_top (T : T w K mg) : NoAttr K (He.ga K "Ratio") "top" := He.noat_ok (T.fact 105 rfl)
theorem T.n_Ratio_bottom (T : T w K mg) : NoAttr K (He.ga K "Ratio") "bottom" := He.noat_ok (T.fact 106 rfl)
theorem T.n_Touch_book (T : T w K mg) : NoAttr K (He.ga K "Touch") "book" := He.noat_ok (T.fact 107 rfl)
theorem T.n_Touch_start (T : T w K mg) : NoAttr K (He.ga K "Touch") "start" := He.noat_ok (T.fact 108 rfl)
theorem T.n_Touch_sign (T : T w K mg) : NoAttr K (He.ga K "Touch") "sign" := He.noat_ok (T.fact 109 rfl)
theorem T.n_Touch_one (T : T w K mg) : NoAttr K (He.ga K "Touch") "one" := He.noat_ok (T.fact 110 rfl)
theorem T.n_Touch_other (T : T w K mg) : NoAttr K (He.ga K "Touch") "other" := He.noat_ok (T.fact 111 rfl)
theorem T.n_Touch_own_steps (T : T w K mg) : NoAttr K (He.ga K "Touch") "own_steps" := He.noat_ok (T.fact 112 rfl)
theorem T.n_Book_faces (T : T w K mg) : NoAttr K (He.ga K "Book") "faces" := He.noat_ok (T.fact 113 rfl)
theorem T.n_Book_cutters (T : T w K mg) : NoAttr K (He.ga K "Book") "cutters" := He.noat_ok (T.fact 114 rfl)
theorem T.n_Book_own_lines (T : T w K mg) : NoAttr K (He.ga K "Book") "own_lines" := He.noat_ok (T.fact 115 rfl)
theorem T.m_Ratio_init (T : T w K mg) : Meth K (He.ga K "Ratio") "__init__" (He.ma K (He.ga K "Ratio") "__init__") := He.meth_ok (T.fact 116 rfl)
theorem T.m_Ratio_add (T : T w K mg) : Meth K (He.ga K "Ratio") "__add__" (He.ma K (He.ga K "Ratio") "__add__") := He.meth_ok (T.fact 117 rfl)
theorem T.m_Ratio_sub (T : T w K mg) : Meth K (He.ga K "Ratio") "__sub__" (He.ma K (He.ga K "Ratio") "__sub__") := He.meth_ok (T.fact 118 rfl)
theorem T.m_Ratio_mul (T : T w K mg) : Meth K (He.ga K "Ratio") "__mul__" (He.ma K (He.ga K "Ratio") "__mul__") := He.meth_ok (T.fact 119 rfl)
theorem T.m_Ratio_is_below (T : T w K mg) : Meth K (He.ga K "Ratio") "is_below" (He.ma K (He.ga K "Ratio") "is_below") := He.meth_ok (T.fact 120 rfl)
theorem T.m_Ratio_eq (T : T w K mg) : Meth K (He.ga K "Ratio") "__eq__" (He.ma K (He.ga K "Ratio") "__eq__") := He.meth_ok (T.fact 121 rfl)
theorem T.m_Touch_steps (T : T w K mg) : Meth K (He.ga K "Touch") "steps" (He.ma K (He.ga K "Touch") "steps") := He.meth_ok (T.fact 122 rfl)
theorem T.m_Touch_rooms (T : T w K mg) : Meth K (He.ga K "Touch") "rooms" (He.ma K (He.ga K "Touch") "rooms") := He.meth_ok (T.fact 123 rfl)
theorem T.m_Touch_holds (T : T w K mg) : Meth K (He.ga K "Touch") "holds" (He.ma K (He.ga K "Touch") "holds") := He.meth_ok (T.fact 124 rfl)
theorem T.m_Book_init (T : T w K mg) : Meth K (He.ga K "Book") "__init__" (He.ma K (He.ga K "Book") "__init__") := He.meth_ok (T.fact 125 rfl)
theorem T.m_Book_line_at (T : T w K mg) : Meth K (He.ga K "Book") "line_at" (He.ma K (He.ga K "Book") "line_at") := He.meth_ok (T.fact 126 rfl)
theorem T.m_Book_cut (T : T w K mg) : Meth K (He.ga K "Book") "cut" (He.ma K (He.ga K "Book") "cut") := He.meth_ok (T.fact 127 rfl)
theorem T.m_Book_parts (T : T w K mg) : Meth K (He.ga K "Book") "parts" (He.ma K (He.ga K "Book") "parts") := He.meth_ok (T.fact 128 rfl)
theorem T.d_is_rising (T : T w K mg) : ∃ fd, FnP K "is_rising" "is_rising" (top 19) [] (He.ga K "is_rising") fd := T.def_ 0 (d := dD "is_rising" 19) rfl
theorem T.d_is_faces (T : T w K mg) : ∃ fd, FnP K "is_faces" "is_faces" (top 20) [] (He.ga K "is_faces") fd := T.def_ 1 (d := dD "is_faces" 20) rfl
theorem T.d_is_cutters (T : T w K mg) : ∃ fd, FnP K "is_cutters" "is_cutters" (top 21) [] (He.ga K "is_cutters") fd := T.def_ 2 (d := dD "is_cutters" 21) rfl
theorem T.d_is_one (T : T w K mg) : ∃ fd, FnP K "is_one" "is_one" (top 22) [] (He.ga K "is_one") fd := T.def_ 3 (d := dD "is_one" 22) rfl
theorem T.d_is_string (T : T w K mg) : ∃ fd, FnP K "is_string" "is_string" (top 23) [] (He.ga K "is_string") fd := T.def_ 4 (d := dD "is_string" 23) rfl
theorem T.d_is_room (T : T w K mg) : ∃ fd, FnP K "is_room" "is_room" (top 24) [] (He.ga K "is_room") fd := T.def_ 5 (d := dD "is_room" 24) rfl
theorem T.d_is_cut (T : T w K mg) : ∃ fd, FnP K "is_cut" "is_cut" (top 25) [] (He.ga K "is_cut") fd := T.def_ 6 (d := dD "is_cut" 25) rfl
theorem T.d_is_address (T : T w K mg) : ∃ fd, FnP K "is_address" "is_address" (top 26) [] (He.ga K "is_address") fd := T.def_ 7 (d := dD "is_address" 26) rfl
theorem T.d_parts_of (T : T w K mg) : ∃ fd, FnP K "parts_of" "parts_of" (top 27) [] (He.ga K "parts_of") fd := T.def_ 8 (d := dD "parts_of" 27) rfl
theorem T.d_copied (T : T w K mg) : ∃ fd, FnP K "copied" "copied" (top 28) [] (He.ga K "copied") fd := T.def_ 9 (d := dD "copied" 28) rfl
theorem T.d_kept_list (T : T w K mg) : ∃ fd, FnP K "kept_list" "kept_list" (top 29) [] (He.ga K "kept_list") fd := T.def_ 10 (d := dD "kept_list" 29) rfl
theorem T.d_is_whole (T : T w K mg) : ∃ fd, FnP K "is_whole" "is_whole" (top 34) [] (He.ga K "is_whole") fd := T.def_ 11 (d := dD "is_whole" 34) rfl
theorem T.d_part_way (T : T w K mg) : ∃ fd, FnP K "part_way" "part_way" (top 35) [] (He.ga K "part_way") fd := T.def_ 12 (d := dD "part_way" 35) rfl
theorem T.d_check_room (T : T w K mg) : ∃ fd, FnP K "check_room" "check_room" (top 37) [] (He.ga K "check_room") fd := T.def_ 13 (d := dD "check_room" 37) rfl
theorem T.d_is_step (T : T w K mg) : ∃ fd, FnP K "is_step" "is_step" (top 38) [] (He.ga K "is_step") fd := T.def_ 14 (d := dD "is_step" 38) rfl
theorem T.d_turns_of (T : T w K mg) : ∃ fd, FnP K "turns_of" "turns_of" (top 39) [] (He.ga K "turns_of") fd := T.def_ 15 (d := dD "turns_of" 39) rfl
theorem T.d_origins (T : T w K mg) : ∃ fd, FnP K "origins" "origins" (top 40) [] (He.ga K "origins") fd := T.def_ 16 (d := dD "origins" 40) rfl
theorem T.d_turns_to (T : T w K mg) : ∃ fd, FnP K "turns_to" "turns_to" (top 41) [] (He.ga K "turns_to") fd := T.def_ 17 (d := dD "turns_to" 41) rfl
theorem T.d_reached (T : T w K mg) : ∃ fd, FnP K "reached" "reached" (top 42) [] (He.ga K "reached") fd := T.def_ 18 (d := dD "reached" 42) rfl
theorem T.d_is_place (T : T w K mg) : ∃ fd, FnP K "is_place" "is_place" (top 44) [] (He.ga K "is_place") fd := T.def_ 19 (d := dD "is_place" 44) rfl
theorem T.d_split_box (T : T w K mg) : ∃ fd, FnP K "split_box" "split_box" (top 45) [] (He.ga K "split_box") fd := T.def_ 20 (d := dD "split_box" 45) rfl
theorem T.d_boxes_of (T : T w K mg) : ∃ fd, FnP K "boxes_of" "boxes_of" (top 46) [] (He.ga K "boxes_of") fd := T.def_ 21 (d := dD "boxes_of" 46) rfl
theorem T.d_overlap (T : T w K mg) : ∃ fd, FnP K "overlap" "overlap" (top 47) [] (He.ga K "overlap") fd := T.def_ 22 (d := dD "overlap" 47) rfl
theorem T.d_sign_between (T : T w K mg) : ∃ fd, FnP K "sign_between" "sign_between" (top 48) [] (He.ga K "sign_between") fd := T.def_ 23 (d := dD "sign_between" 48) rfl
theorem T.d_meetings (T : T w K mg) : ∃ fd, FnP K "meetings" "meetings" (top 49) [] (He.ga K "meetings") fd := T.def_ 24 (d := dD "meetings" 49) rfl
theorem T.d_meeting (T : T w K mg) : ∃ fd, FnP K "meeting" "meeting" (top 50) [] (He.ga K "meeting") fd := T.def_ 25 (d := dD "meeting" 50) rfl
theorem T.d_is_view (T : T w K mg) : ∃ fd, FnP K "is_view" "is_view" (top 55) [] (He.ga K "is_view") fd := T.def_ 26 (d := dD "is_view" 55) rfl
theorem T.d_check_view (T : T w K mg) : ∃ fd, FnP K "check_view" "check_view" (top 56) [] (He.ga K "check_view") fd := T.def_ 27 (d := dD "check_view" 56) rfl
theorem T.d_rule (T : T w K mg) : ∃ fd, FnP K "rule" "rule" (top 57) [] (He.ga K "rule") fd := T.def_ 28 (d := dD "rule" 57) rfl
theorem T.d_used_parts (T : T w K mg) : ∃ fd, FnP K "used_parts" "used_parts" (top 58) [] (He.ga K "used_parts") fd := T.def_ 29 (d := dD "used_parts" 58) rfl
theorem T.d_view_origins (T : T w K mg) : ∃ fd, FnP K "view_origins" "view_origins" (top 59) [] (He.ga K "view_origins") fd := T.def_ 30 (d := dD "view_origins" 59) rfl
theorem T.d_touching (T : T w K mg) : ∃ fd, FnP K "touching" "touching" (top 63) [] (He.ga K "touching") fd := T.def_ 31 (d := dD "touching" 63) rfl
theorem T.d_touch_of (T : T w K mg) : ∃ fd, FnP K "touch_of" "touch_of" (top 64) [] (He.ga K "touch_of") fd := T.def_ 32 (d := dD "touch_of" 64) rfl
theorem T.d_side_ways (T : T w K mg) : ∃ fd, FnP K "side_ways" "side_ways" (top 65) [] (He.ga K "side_ways") fd := T.def_ 33 (d := dD "side_ways" 65) rfl
theorem T.d_half_steps (T : T w K mg) : ∃ fd, FnP K "half_steps" "half_steps" (top 66) [] (He.ga K "half_steps") fd := T.def_ 34 (d := dD "half_steps" 66) rfl
theorem T.d_held_steps (T : T w K mg) : ∃ fd, FnP K "held_steps" "held_steps" (top 67) [] (He.ga K "held_steps") fd := T.def_ 35 (d := dD "held_steps" 67) rfl
theorem T.d_ratio_over (T : T w K mg) : ∃ fd, FnP K "ratio_over" "ratio_over" (top 68) [] (He.ga K "ratio_over") fd := T.def_ 36 (d := dD "ratio_over" 68) rfl
theorem T.d_is_part (T : T w K mg) : ∃ fd, FnP K "is_part" "is_part" (top 72) [] (He.ga K "is_part") fd := T.def_ 37 (d := dD "is_part" 72) rfl
theorem T.d_is_line (T : T w K mg) : ∃ fd, FnP K "is_line" "is_line" (top 73) [] (He.ga K "is_line") fd := T.def_ 38 (d := dD "is_line" 73) rfl
theorem T.d_takes (T : T w K mg) : ∃ fd, FnP K "takes" "takes" (top 74) [] (He.ga K "takes") fd := T.def_ 39 (d := dD "takes" 74) rfl
theorem T.d_fits (T : T w K mg) : ∃ fd, FnP K "fits" "fits" (top 75) [] (He.ga K "fits") fd := T.def_ 40 (d := dD "fits" 75) rfl
theorem T.d_line_of (T : T w K mg) : ∃ fd, FnP K "line_of" "line_of" (top 76) [] (He.ga K "line_of") fd := T.def_ 41 (d := dD "line_of" 76) rfl
theorem T.d__law_open (T : T w K mg) : ∃ fd, FnP K "_law_open" "_law_open" (top 78) [] (He.ga K "_law_open") fd := T.def_ 42 (d := dD "_law_open" 78) rfl
theorem T.d__law_draw (T : T w K mg) : ∃ fd, FnP K "_law_draw" "_law_draw" (top 79) [] (He.ga K "_law_draw") fd := T.def_ 43 (d := dD "_law_draw" 79) rfl
theorem T.d__law_of (T : T w K mg) : ∃ fd, FnP K "_law_of" "_law_of" (top 80) [] (He.ga K "_law_of") fd := T.def_ 44 (d := dD "_law_of" 80) rfl
theorem T.d__law_letters (T : T w K mg) : ∃ fd, FnP K "_law_letters" "_law_letters" (top 81) [] (He.ga K "_law_letters") fd := T.def_ 45 (d := dD "_law_letters" 81) rfl
theorem T.d__law_some_faces (T : T w K mg) : ∃ fd, FnP K "_law_some_faces" "_law_some_faces" (top 82) [] (He.ga K "_law_some_faces") fd := T.def_ 46 (d := dD "_law_some_faces" 82) rfl
theorem T.d__law_some_cutters (T : T w K mg) : ∃ fd, FnP K "_law_some_cutters" "_law_some_cutters" (top 83) [] (He.ga K "_law_some_cutters") fd := T.def_ 47 (d := dD "_law_some_cutters" 83) rfl
theorem T.d__law_part (T : T w K mg) : ∃ fd, FnP K "_law_part" "_law_part" (top 84) [] (He.ga K "_law_part") fd := T.def_ 48 (d := dD "_law_part" 84) rfl
theorem T.d__law_some_room (T : T w K mg) : ∃ fd, FnP K "_law_some_room" "_law_some_room" (top 85) [] (He.ga K "_law_some_room") fd := T.def_ 49 (d := dD "_law_some_room" 85) rfl
theorem T.d__law_some_cut (T : T w K mg) : ∃ fd, FnP K "_law_some_cut" "_law_some_cut" (top 86) [] (He.ga K "_law_some_cut") fd := T.def_ 50 (d := dD "_law_some_cut" 86) rfl
theorem T.d__law_some_line (T : T w K mg) : ∃ fd, FnP K "_law_some_line" "_law_some_line" (top 87) [] (He.ga K "_law_some_line") fd := T.def_ 51 (d := dD "_law_some_line" 87) rfl
theorem T.d__law_some_book (T : T w K mg) : ∃ fd, FnP K "_law_some_book" "_law_some_book" (top 88) [] (He.ga K "_law_some_book") fd := T.def_ 52 (d := dD "_law_some_book" 88) rfl
theorem T.d__law_line_text (T : T w K mg) : ∃ fd, FnP K "_law_line_text" "_law_line_text" (top 89) [] (He.ga K "_law_line_text") fd := T.def_ 53 (d := dD "_law_line_text" 89) rfl
theorem T.d__law_book_text (T : T w K mg) : ∃ fd, FnP K "_law_book_text" "_law_book_text" (top 90) [] (He.ga K "_law_book_text") fd := T.def_ 54 (d := dD "_law_book_text" 90) rfl
theorem T.d__law_book (T : T w K mg) : ∃ fd, FnP K "_law_book" "_law_book" (top 91) [] (He.ga K "_law_book") fd := T.def_ 55 (d := dD "_law_book" 91) rfl
theorem T.d__law_fits (T : T w K mg) : ∃ fd, FnP K "_law_fits" "_law_fits" (top 92) [] (He.ga K "_law_fits") fd := T.def_ 56 (d := dD "_law_fits" 92) rfl
theorem T.d__law_line_at (T : T w K mg) : ∃ fd, FnP K "_law_line_at" "_law_line_at" (top 93) [] (He.ga K "_law_line_at") fd := T.def_ 57 (d := dD "_law_line_at" 93) rfl
theorem T.d__law_cut (T : T w K mg) : ∃ fd, FnP K "_law_cut" "_law_cut" (top 94) [] (He.ga K "_law_cut") fd := T.def_ 58 (d := dD "_law_cut" 94) rfl
theorem T.d__law_split (T : T w K mg) : ∃ fd, FnP K "_law_split" "_law_split" (top 95) [] (He.ga K "_law_split") fd := T.def_ 59 (d := dD "_law_split" 95) rfl
theorem T.d__law_parts (T : T w K mg) : ∃ fd, FnP K "_law_parts" "_law_parts" (top 96) [] (He.ga K "_law_parts") fd := T.def_ 60 (d := dD "_law_parts" 96) rfl
theorem T.d__law_top (T : T w K mg) : ∃ fd, FnP K "_law_top" "_law_top" (top 97) [] (He.ga K "_law_top") fd := T.def_ 61 (d := dD "_law_top" 97) rfl
theorem T.d__law_low (T : T w K mg) : ∃ fd, FnP K "_law_low" "_law_low" (top 98) [] (He.ga K "_law_low") fd := T.def_ 62 (d := dD "_law_low" 98) rfl
theorem T.d__law_add (T : T w K mg) : ∃ fd, FnP K "_law_add" "_law_add" (top 99) [] (He.ga K "_law_add") fd := T.def_ 63 (d := dD "_law_add" 99) rfl
theorem T.d__law_times (T : T w K mg) : ∃ fd, FnP K "_law_times" "_law_times" (top 100) [] (He.ga K "_law_times") fd := T.def_ 64 (d := dD "_law_times" 100) rfl
theorem T.d__law_on_way (T : T w K mg) : ∃ fd, FnP K "_law_on_way" "_law_on_way" (top 101) [] (He.ga K "_law_on_way") fd := T.def_ 65 (d := dD "_law_on_way" 101) rfl
theorem T.d__law_some_place (T : T w K mg) : ∃ fd, FnP K "_law_some_place" "_law_some_place" (top 102) [] (He.ga K "_law_some_place") fd := T.def_ 66 (d := dD "_law_some_place" 102) rfl
theorem T.d__law_some_placed (T : T w K mg) : ∃ fd, FnP K "_law_some_placed" "_law_some_placed" (top 103) [] (He.ga K "_law_some_placed") fd := T.def_ 67 (d := dD "_law_some_placed" 103) rfl
theorem T.d__law_cut_box (T : T w K mg) : ∃ fd, FnP K "_law_cut_box" "_law_cut_box" (top 104) [] (He.ga K "_law_cut_box") fd := T.def_ 68 (d := dD "_law_cut_box" 104) rfl
theorem T.d_law (T : T w K mg) : ∃ fd, FnP K "law" "law" (top 105) [] (He.ga K "law") fd := T.def_ 69 (d := dD "law" 105) rfl
theorem T.d_Paper_init (T : T w K mg) : ∃ fd, FnP K "__init__" "Paper.__init__" (inClass (top 31) 1) [] (He.ma K (He.ga K "Paper") "__init__") fd := T.def_ 70 (d := dM "Paper" "__init__" "Paper.__init__" 31 1 []) rfl
theorem T.d_Paper_is_placed (T : T w K mg) : ∃ fd, FnP K "is_placed" "Paper.is_placed" (inClass (top 31) 4) [] (He.ma K (He.ga K "Paper") "is_placed") fd := T.def_ 71 (d := dM "Paper" "is_placed" "Paper.is_placed" 31 4 []) rfl
theorem T.d_Ratio_init (T : T w K mg) : ∃ fd, FnP K "__init__" "Ratio.__init__" (inClass (top 33) 0) [V.int 1] (He.ma K (He.ga K "Ratio") "__init__") fd := T.def_ 72 (d := dM "Ratio" "__init__" "Ratio.__init__" 33 0 [.int 1]) rfl
theorem T.d_Ratio_add (T : T w K mg) : ∃ fd, FnP K "__add__" "Ratio.__add__" (inClass (top 33) 1) [] (He.ma K (He.ga K "Ratio") "__add__") fd := T.def_ 73 (d := dM "Ratio" "__add__" "Ratio.__add__" 33 1 []) rfl
theorem T.d_Ratio_sub (T : T w K mg) : ∃ fd, FnP K "__sub__" "Ratio.__sub__" (inClass (top 33) 2) [] (He.ma K (He.ga K "Ratio") "__sub__") fd := T.def_ 74 (d := dM "Ratio" "__sub__" "Ratio.__sub__" 33 2 []) rfl
theorem T.d_Ratio_mul (T : T w K mg) : ∃ fd, FnP K "__mul__" "Ratio.__mul__" (inClass (top 33) 3) [] (He.ma K (He.ga K "Ratio") "__mul__") fd := T.def_ 75 (d := dM "Ratio" "__mul__" "Ratio.__mul__" 33 3 []) rfl
theorem T.d_Ratio_is_below (T : T w K mg) : ∃ fd, FnP K "is_below" "Ratio.is_below" (inClass (top 33) 4) [] (He.ma K (He.ga K "Ratio") "is_below") fd := T.def_ 76 (d := dM "Ratio" "is_below" "Ratio.is_below" 33 4 []) rfl
theorem T.d_Ratio_eq (T : T w K mg) : ∃ fd, FnP K "__eq__" "Ratio.__eq__" (inClass (top 33) 5) [] (He.ma K (He.ga K "Ratio") "__eq__") fd := T.def_ 77 (d := dM "Ratio" "__eq__" "Ratio.__eq__" 33 5 []) rfl
theorem T.d_Touch_steps (T : T w K mg) : ∃ fd, FnP K "steps" "Touch.steps" (inClass (top 62) 2) [] (He.ma K (He.ga K "Touch") "steps") fd := T.def_ 78 (d := dM "Touch" "steps" "Touch.steps" 62 2 []) rfl
theorem T.d_Touch_rooms (T : T w K mg) : ∃ fd, FnP K "rooms" "Touch.rooms" (inClass (top 62) 3) [] (He.ma K (He.ga K "Touch") "rooms") fd := T.def_ 79 (d := dM "Touch" "rooms" "Touch.rooms" 62 3 []) rfl
theorem T.d_Touch_holds (T : T w K mg) : ∃ fd, FnP K "holds" "Touch.holds" (inClass (top 62) 5) [] (He.ma K (He.ga K "Touch") "holds") fd := T.def_ 80 (d := dM "Touch" "holds" "Touch.holds" 62 5 []) rfl
theorem T.d_Book_init (T : T w K mg) : ∃ fd, FnP K "__init__" "Book.__init__" (inClass (top 71) 1) [] (He.ma K (He.ga K "Book") "__init__") fd := T.def_ 81 (d := dM "Book" "__init__" "Book.__init__" 71 1 []) rfl
theorem T.d_Book_line_at (T : T w K mg) : ∃ fd, FnP K "line_at" "Book.line_at" (inClass (top 71) 3) [] (He.ma K (He.ga K "Book") "line_at") fd := T.def_ 82 (d := dM "Book" "line_at" "Book.line_at" 71 3 []) rfl
theorem T.d_Book_cut (T : T w K mg) : ∃ fd, FnP K "cut" "Book.cut" (inClass (top 71) 4) [] (He.ma K (He.ga K "Book") "cut") fd := T.def_ 83 (d := dM "Book" "cut" "Book.cut" 71 4 []) rfl
theorem T.d_Book_parts (T : T w K mg) : ∃ fd, FnP K "parts" "Book.parts" (inClass (top 71) 5) [] (He.ma K (He.ga K "Book") "parts") fd := T.def_ 84 (d := dM "Book" "parts" "Book.parts" 71 5 []) rfl
end
end L2.FW
end
section
set_option maxRecDepth 100000
set_option maxHeartbeats 0
/-! The head: the top's run, by two kernel runs for each answer of the row special-get-raises. -/
namespace L2.FWHd
open PySem PySem.Spec PyProof.Rows PySem.W PySem.Calls L2.FW
abbrev R : PySem.W.OpenRow := PySem.W.OpenLaw.row PySem.Challenge.rw_fourwalls_k56_whole_meetings_can_come
def ob (s : PySem.W.SharedT) : AlM := obsMG (HandSHeadRun.getT s)
theorem ob_eq (s : PySem.W.SharedT) : ob s = hookM.obs s.abs := obsMG_eq (HandSHeadRun.getT_eq s)
noncomputable abbrev Wh (w : World) := HandSHeadRun.wholeF (fun p => HandSHeadRun.stepQ (HandSHeadRun.denQ HandSHeadRun.tabQ) p w) HandSHeadRun.fenceQ 20000 R.prog
abbrev PA : World → Prop := fun w => (Wh w).map (fun x => (HandSHeadRun.looksF R.prog x.1.heap x.2.abs, HandSHeadRun.seenQ (PySem.W.view R.prog [0, 105]) loose (importedModules R.prog.main.body) (fun s => PySem.W.xlAt (PySem.W.view R.prog [0, 105]) [] s && PySem.W.recOk R.toRowW.records s) x.2.abs, (ob x.2).2)) = some (true, PySem.W.openGood (PySem.W.view R.prog [0, 105]) loose, (valM w).2)
abbrev PB : World → Prop := fun w => (Wh w).map (fun x => (ob x.2).1) = some true
theorem runA0 (w : World) : PA (w.withFollow "special-get-raises" false) := by
  show (Wh (w.withFollow "special-get-raises" false)).map _ = _
  kernel_rfl
theorem runA1 (w : World) : PA (w.withFollow "special-get-raises" true) := by
  show (Wh (w.withFollow "special-get-raises" true)).map _ = _
  kernel_rfl
theorem runB0 (w : World) : PB (w.withFollow "special-get-raises" false) := by
  show (Wh (w.withFollow "special-get-raises" false)).map _ = _
  kernel_rfl
theorem runB1 (w : World) : PB (w.withFollow "special-get-raises" true) := by
  show (Wh (w.withFollow "special-get-raises" true)).map _ = _
  kernel_rfl
theorem map_and {α β γ δ ε : Type} {o : Option α} {f : α → β} {g : α → γ} {h : α → ε × δ} {a : β} {b : γ} {d : δ} {e : ε} (A : o.map (fun x => (f x, g x, (h x).2)) = some (a, b, d)) (B : o.map (fun x => (h x).1) = some e) : o.map (fun x => (f x, g x, h x)) = some (a, b, (e, d)) := by
  cases o with
  | none => cases A
  | some y =>
    have A' : (f y, g y, (h y).2) = (a, b, d) := Option.some.inj A
    have B' : (h y).1 = e := Option.some.inj B
    have A1 := congrArg (fun z : β × γ × δ => z.1) A'
    have A2 := congrArg (fun z : β × γ × δ => z.2.1) A'
    have A3 := congrArg (fun z : β × γ × δ => z.2.2) A'
    exact congrArg some (Prod.ext A1 (Prod.ext A2 (Prod.ext B' A3)))
theorem run (w : World) : HandSHeadRun.RunEqI R (PySem.W.view R.prog [0, 105]) hookM ob 20000 loose w :=
  map_and (PySem.W.byRow2 "special-get-raises" (P := PA) runA0 runA1 w) (PySem.W.byRow2 "special-get-raises" (P := PB) runB0 runB1 w)
end L2.FWHd
end
section
namespace Fw
/-! ### paths, the nearest-first search -/
section
variable {α τ : Type}
inductive Path (S : α → τ → α → Prop) (s : α) : List τ → α → Prop
  | nil : Path S s [] s
  | snoc {p : List τ} {r q : α} {t : τ} : Path S s p r → S r t q → Path S s (p ++ [t]) q
theorem Path.mono {S S' : α → τ → α → Prop} (h : ∀ r t q, S r t q → S' r t q) {s : α} {p : List τ} {q : α} (x : Path S s p q) : Path S' s p q := by
  induction x with
  | nil => exact .nil
  | snoc _ y ih => exact .snoc ih (h _ _ _ y)
theorem Path.cons {S : α → τ → α → Prop} {s r q : α} {t : τ} {p : List τ} (y : S s t r) (x : Path S r p q) : Path S s (t :: p) q := by
  induction x with
  | nil => exact Path.snoc (p := []) .nil y
  | @snoc p r' q' t' _ y' ih => exact Path.snoc (p := t :: p) ih y'
theorem Path.uncons {S : α → τ → α → Prop} {s q : α} {t : τ} {p : List τ} (x : Path S s (t :: p) q) : ∃ r, S s t r ∧ Path S r p q := by
  generalize e : t :: p = l at x
  induction x generalizing p with
  | nil => exact nomatch e
  | @snoc p' r q' t' x y ih =>
    cases p' with
    | nil =>
      have e1 : r = s := by
        generalize e2 : ([] : List τ) = l at x
        cases x with
        | nil => rfl
        | snoc => simp at e2
      subst e1
      simp at e
      obtain ⟨rfl, rfl⟩ := e
      exact ⟨q', y, .nil⟩
    | cons u p'' =>
      simp at e
      obtain ⟨rfl, rfl⟩ := e
      obtain ⟨r', h1, h2⟩ := ih rfl
      exact ⟨r', h1, h2.snoc y⟩
theorem Path.of_nil {S : α → τ → α → Prop} {s q : α} (x : Path S s [] q) : q = s := by
  generalize e : ([] : List τ) = l at x
  cases x with
  | nil => rfl
  | snoc => simp at e

/-- what is known when the i first ones of K have been asked: each room and the way to it -/
structure BI (S : α → τ → α → Prop) (src : τ → α) (s : α) (K : List (α × List τ)) (i : Nat) : Prop where
  start : K[0]? = some (s, [])
  nd : (K.map (·.1)).Nodup
  path : ∀ e ∈ K, Path S s e.2 e.1
  closed : ∀ q p t, (q, p ++ [t]) ∈ K → (src t, p) ∈ K
  mono : ∀ (j k : Nat) (e f : α × List τ), j ≤ k → K[j]? = some e → K[k]? = some f → e.2.length ≤ f.2.length
  near : ∀ e ∈ K, ∀ c, K[i]? = some c → e.2.length ≤ c.2.length + 1
  done : ∀ (j : Nat) (e : α × List τ), j < i → K[j]? = some e → ∀ t q, S e.1 t q → ∃ p, (q, p) ∈ K ∧ p.length ≤ e.2.length + 1
/-- in the midst: r, found by p, is asked; those of L are known -/
structure BJ (S : α → τ → α → Prop) (src : τ → α) (s : α) (K : List (α × List τ)) (i : Nat) (r : α) (p : List τ) (L : List α) : Prop extends BI S src s K i where
  here : K[i]? = some (r, p)
  seen : ∀ q ∈ L, ∃ p', (q, p') ∈ K ∧ p'.length ≤ p.length + 1
variable {S : α → τ → α → Prop} {src : τ → α} {s : α} {K : List (α × List τ)} {i : Nat} {r : α} {p : List τ} {L : List α}
theorem BI.init : BI S src s [(s, [])] 0 where
  start := rfl
  nd := by simp
  path := fun e h => by simp at h; subst h; exact .nil
  closed := fun q p t h => by simp at h
  mono := fun j k e f _ h1 h2 => by
    have a := List.mem_of_getElem? h1
    have b := List.mem_of_getElem? h2
    simp at a b; subst a b; simp
  near := fun e h c h2 => by simp at h h2; subst h h2; simp
  done := fun j e h => absurd h (Nat.not_lt_zero _)
theorem BI.begin (b : BI S src s K i) (h : K[i]? = some (r, p)) : BJ S src s K i r p [] := ⟨b, h, fun _ h => nomatch h⟩
theorem BJ.old (b : BJ S src s K i r p L) {q : α} (h : q ∈ K.map (·.1)) : BJ S src s K i r p (q :: L) := ⟨b.toBI, b.here, fun q' h' => by
  rcases List.mem_cons.mp h' with rfl | h'
  · obtain ⟨e, he, rfl⟩ := List.mem_map.mp h
    exact ⟨e.2, he, b.near e he _ b.here⟩
  · exact b.seen q' h'⟩
theorem BJ.new (b : BJ S src s K i r p L) {q : α} {t : τ} (h : q ∉ K.map (·.1)) (hs : S r t q) (ht : src t = r) : BJ S src s (K ++ [(q, p ++ [t])]) i r p (q :: L) := by
  have hi : i < K.length := (List.getElem?_eq_some_iff.mp b.here).1
  have hm : (r, p) ∈ K := List.mem_of_getElem? b.here
  have old : ∀ (j : Nat) e, (K ++ [(q, p ++ [t])])[j]? = some e → (j < K.length ∧ K[j]? = some e) ∨ (j = K.length ∧ e = (q, p ++ [t])) := fun j e he => by
    by_cases hj : j < K.length
    · rw [List.getElem?_append_left hj] at he; exact .inl ⟨hj, he⟩
    · rw [List.getElem?_append_right (by omega)] at he
      have : j - K.length = 0 := by
        have := (List.getElem?_eq_some_iff.mp he).1
        simp at this; omega
      rw [this] at he
      simp at he
      exact .inr ⟨by omega, he.symm⟩
  refine ⟨⟨?_, ?_, ?_, ?_, ?_, ?_, ?_⟩, ?_, ?_⟩
  · rw [List.getElem?_append_left (by omega)]; exact b.start
  · rw [List.map_append]
    refine List.nodup_append.mpr ⟨b.nd, by simp, ?_⟩
    intro a ha c hc
    simp at hc
    subst hc
    intro e; subst e; exact h ha
  · intro e he
    rcases List.mem_append.mp he with he | he
    · exact b.path e he
    · simp at he; subst he; exact (b.path _ hm).snoc hs
  · intro q' p' t' he
    rcases List.mem_append.mp he with he | he
    · exact List.mem_append_left _ (b.closed _ _ _ he)
    · simp at he
      obtain ⟨rfl, rfl, rfl⟩ := he
      rw [ht]
      exact List.mem_append_left _ hm
  · intro j k e f hjk h1 h2
    rcases old j e h1 with ⟨a1, a2⟩ | ⟨a1, a2⟩ <;> rcases old k f h2 with ⟨b1, b2⟩ | ⟨b1, b2⟩
    · exact b.mono j k e f hjk a2 b2
    · subst b2
      have := b.near e (List.mem_of_getElem? a2) _ b.here
      simpa using this
    · omega
    · subst a2 b2; exact Nat.le_refl _
  · intro e he c hc
    rw [List.getElem?_append_left hi, b.here] at hc
    cases hc
    rcases List.mem_append.mp he with he | he
    · exact b.near e he _ b.here
    · simp at he; subst he; simp
  · intro j e hj he t' q' hs'
    rw [List.getElem?_append_left (by omega)] at he
    obtain ⟨p', h1, h2⟩ := b.done j e hj he t' q' hs'
    exact ⟨p', List.mem_append_left _ h1, h2⟩
  · rw [List.getElem?_append_left hi]; exact b.here
  · intro q' h'
    rcases List.mem_cons.mp h' with rfl | h'
    · exact ⟨p ++ [t], List.mem_append_right _ (by simp), by simp⟩
    · obtain ⟨p', h1, h2⟩ := b.seen q' h'
      exact ⟨p', List.mem_append_left _ h1, h2⟩
theorem BJ.over (b : BJ S src s K i r p L) (h : ∀ t q, S r t q → q ∈ L) : BI S src s K (i + 1) where
  start := b.start
  nd := b.nd
  path := b.path
  closed := b.closed
  mono := b.mono
  near := fun e he c hc => by
    have h1 := b.near e he _ b.here
    have h2 := b.mono i (i + 1) _ c (Nat.le_succ _) b.here hc
    have h3 : p.length ≤ c.2.length := h2
    have h4 : e.2.length ≤ p.length + 1 := h1
    omega
  done := fun j e hj he t q hs => by
    rcases Nat.lt_succ_iff_lt_or_eq.mp hj with hj | rfl
    · exact b.done j e hj he t q hs
    · have e1 := b.here
      rw [he] at e1
      cases e1
      exact b.seen q (h t q hs)
/-- behind the search: each way's end is known by a way that is no longer -/
theorem BI.least (b : BI S src s K i) (h : K.length ≤ i) {l : List τ} {q : α} (x : Path S s l q) : ∃ p, (q, p) ∈ K ∧ p.length ≤ l.length := by
  induction x with
  | nil => exact ⟨[], List.mem_of_getElem? b.start, Nat.le_refl _⟩
  | @snoc l r q t _ y ih =>
    obtain ⟨p, h1, h2⟩ := ih
    obtain ⟨j, hj⟩ := List.mem_iff_getElem?.mp h1
    have hj' := (List.getElem?_eq_some_iff.mp hj).1
    obtain ⟨p', h3, h4⟩ := b.done j _ (by omega) hj t q y
    exact ⟨p', h3, by simp at h4 ⊢; omega⟩
theorem BI.uniq (b : BI S src s K i) {q : α} {p p' : List τ} (h : (q, p) ∈ K) (h' : (q, p') ∈ K) : p = p' := by
  obtain ⟨j, hj⟩ := List.mem_iff_getElem?.mp h
  obtain ⟨k, hk⟩ := List.mem_iff_getElem?.mp h'
  have e1 : (K.map (·.1))[j]? = some q := by simp [hj]
  have e2 : (K.map (·.1))[k]? = some q := by simp [hk]
  obtain ⟨h1, e1⟩ := List.getElem?_eq_some_iff.mp e1
  obtain ⟨h2, e2⟩ := List.getElem?_eq_some_iff.mp e2
  have : j = k := (List.getElem_inj b.nd).mp (e1.trans e2.symm)
  subst this
  rw [hj] at hk
  exact congrArg Prod.snd (Option.some.inj hk)
theorem nodup_le : ∀ {l m : List α}, l.Nodup → (∀ x ∈ l, x ∈ m) → l.length ≤ m.length
  | [], _, _, _ => Nat.zero_le _
  | x :: l, m, h, hs => by
    obtain ⟨m1, m2, rfl⟩ := List.append_of_mem (hs x (List.mem_cons_self ..))
    obtain ⟨h1, h2⟩ := List.nodup_cons.mp h
    have ih := nodup_le (l := l) (m := m1 ++ m2) h2 fun y hy => by
      have := hs y (List.mem_cons_of_mem _ hy)
      simp at this ⊢
      rcases this with h | rfl | h
      · exact .inl h
      · exact absurd hy h1
      · exact .inr h
    simp at ih ⊢
    omega
end
end Fw
end
section
set_option maxRecDepth 100000
set_option maxHeartbeats 4000000
/-! Rules that the layer lacks: own operators (+, -, *), own == with both answers. -/
namespace L2.FW
open PySem PySem.Spec PyProof.Rows
section
variable {prog : Program} {w : World} {A : Around} {E : Value → Shared → Prop} {s : Shared} {K : PySem.W.Frag} {x y C f : Addr}
/-- a class whose own def stands under the operator's name fills the slot -/
theorem looks_fills {M : Model} {h : Heap} {nm : String} {cd : ClassData} {r : List Value} (X : K.In h) (hc : PySem.W.clsIn K C = some cd) (hm : cd.mro = .ref C :: r) (hf : PySem.W.findIn K (.ref C) (dunder nm) = some (some (.ref f))) :
    PySem.W.Looks M h (fillsNumberSlot (.ref C) nm) true := by
  have hmr : PySem.W.Looks M h (mroOf (.ref C)) cd.mro := (PySem.W.looks_clsIn X hc).andThen .now
  unfold fillsNumberSlot
  refine hmr.andThen ?_
  rw [hm]
  intro A Q E s k q
  show wpAny M A (List.anyM _ (Value.ref C :: r)) Q E s
  unfold List.anyM
  refine wpAny_bind ?_
  show wpAny M A (List.anyM _ [dunder nm, dunderR nm]) _ E s
  unfold List.anyM
  refine wpAny_bind (wpAny_bind ((PySem.W.looks_findIn X hf) A _ _ s k ?_))
  exact wpAny_pure (wpAny_pure (wpAny_pure q))

/-- what a call behind an operator must give: anything but NotImplemented -/
def OpBack (Q : Value → Shared → Prop) (v : Value) (s' : Shared) : Prop := match v with
  | .notImplemented => False
  | v => Q v s'
theorem binary_own {op : Operator} {cd : ClassData} {r : List Value} {ox oy : Obj} {od oe : Option Obj} {Q : Value → Shared → Prop} (X : K.In s.heap) (hc : PySem.W.clsIn K C = some cd) (hm : cd.mro = .ref C :: r)
    (hf : PySem.W.findIn K (.ref C) (dunder op.info.2) = some (some (.ref f))) (hfn : PySem.W.isFn K (.ref f) = true) (I : PySem.W.InstAt s.heap x ox C od) (J : PySem.W.InstAt s.heap y oy C oe)
    (h : wpAny (model prog w) A (call (.ref f) [.ref x, .ref y]) (OpBack Q) E s) : wpAny (model prog w) A (binaryOp op (.ref x) (.ref y)) Q E s := by
  have one : wpAny (model prog w) A (binaryOp1 op.info.2 (.ref x) (.ref y)) (fun v s' => ∃ z, v = some z ∧ Q z s') E s := by
    unfold binaryOp1
    refine wpAny_bind (I.type.here (wpAny_bind (J.type.here (wpAny_bind ((looks_fills X hc hm hf).here ?_)))))
    simp only [beq_self_eq_true, if_true, pure_bind, Bool.and_false, Bool.false_eq_true, if_false, Bool.false_and, Bool.not_false, Bool.and_true]
    refine wpAny_bind ?_
    unfold tryMethod
    refine wpAny_bind (PySem.W.special_fn X I hf (beq_iff_eq.mp hfn) (wpAny_mono h (fun v s' hv => ?_) fun _ _ e => e))
    cases v <;> first | exact hv.elim | exact wpAny_pure (wpAny_pure ⟨_, rfl, hv⟩)
  unfold binaryOp
  refine wpAny_holding ?_
  clear h hf
  generalize op.info = p at one
  obtain ⟨sym, nm⟩ := p
  refine wpAny_bind (wpAny_mono one (fun v s' hv => ?_) fun _ _ e => e)
  obtain ⟨z, rfl, q⟩ := hv
  exact wpAny_pure q
end
/-! ### over the layer -/
def rOwn (C : Addr) (sp : Sp) : R2 := fun x y H Q => (∃ a dx fs, x = .ref a ∧ H a = some (.ins C dx fs)) ∧ (∃ b dy gs, y = .ref b ∧ H b = some (.ins C dy gs)) ∧ sp [x, y] H (fun v H' => Q v H') fun _ _ _ => False
section
variable {X : Cx} {C f : Addr} {k : Nat} {sp : Sp} {fd : FuncData} {ps : List Str}
theorem inst_of {pins : List (Addr × Obj)} {σ : St} {H : Hp} {s : Shared} {a dx : Addr} {fs : List (Str × V)} (I : Inv X pins σ H s) (h : H a = some (.ins C dx fs)) : ∃ ox od, PySem.W.InstAt s.heap a ox C od := by
  obtain ⟨mA, J, _⟩ := ins_get I.hok h
  obtain ⟨od, J, _⟩ := J.look
  exact ⟨_, _, J⟩
theorem ret_of {v : V} {u : Value} (r : RelV v u) : u ≠ .notImplemented := by
  intro e
  subst e
  cases v <;> simp [RelV] at r
theorem own_call {pins : List (Addr × Obj)} {σ : St} {H : Hp} {s : Shared} {Q : VK} {a b : Addr} (F : FnOk X.prog X.w X.K X.mg X.base CX0 k f fd ps sp) (hr : Room k X.A) (hb : Binds X.K fd ps []) (I : Inv X pins σ H s)
    (h : sp [.ref a, .ref b] H Q fun _ _ _ => False) : wpAny (model X.prog X.w) X.A (call (.ref f) [.ref a, .ref b]) (EP X pins σ Q) X.xe s := by
  have r : Vals [V.ref a, V.ref b] [Value.ref a, Value.ref b] := .cons rfl (.cons rfl .nil)
  exact run_fn (dvs := []) (ds := []) F hr hb .nil pass0 I r h
theorem op_ownB {op : Operator} {cd : ClassData} {r : List Value} (hc : PySem.W.clsIn X.K C = some cd) (hm : cd.mro = .ref C :: r) (hf : PySem.W.findIn X.K (.ref C) (dunder op.info.2) = some (some (.ref f))) (hfn : PySem.W.isFn X.K (.ref f) = true)
    (F : FnOk X.prog X.w X.K X.mg X.base CX0 k f fd ps sp) (hr : Room k X.A) (hb : Binds X.K fd ps []) : OpR X (binaryOp op) (rOwn C sp) := by
  intro pins s σ H x y v u Q I rx ry h
  obtain ⟨⟨a, dx, fs, rfl, ha⟩, ⟨b, dy, gs, rfl, hb'⟩, q⟩ := h
  cases rx
  cases ry
  obtain ⟨ox, od, J⟩ := inst_of I ha
  obtain ⟨oy, oe, J'⟩ := inst_of I hb'
  refine binary_own I.kIn hc hm hf hfn J J' (wpAny_mono (own_call F hr hb I q) (fun z s' hz => ?_) fun _ _ e => e)
  have hn : z ≠ .notImplemented := by
    obtain ⟨v, H', I', r, q'⟩ := hz
    exact ret_of r
  cases z <;> first | exact hz | exact absurd rfl hn
theorem op_ownE (hf : PySem.W.findIn X.K (.ref C) "__eq__" = some (some (.ref f))) (hfn : PySem.W.isFn X.K (.ref f) = true)
    (F : FnOk X.prog X.w X.K X.mg X.base CX0 k f fd ps sp) (hr : Room k X.A) (hb : Binds X.K fd ps []) : OpR X (compareOp .Eq) (rOwn C sp) := by
  intro pins s σ H x y v u Q I rx ry h
  obtain ⟨⟨a, dx, fs, rfl, ha⟩, ⟨b, dy, gs, rfl, hb'⟩, q⟩ := h
  cases rx
  cases ry
  obtain ⟨ox, od, J⟩ := inst_of I ha
  obtain ⟨oy, oe, J'⟩ := inst_of I hb'
  obtain ⟨m, hF⟩ := I.fr
  show wpAny (model X.prog X.w) X.A (richCompare .Eq (.ref a) (.ref b)) (EP X pins σ Q) X.xe s
  refine PySem.W.cmp_K (op := .Eq) (tb := .ref C) hr.units0 hF I.ok.mod.kin J J'.type (by simp [PySem.W.notFirst]) hf hfn (wpAny_mono (own_call F hr hb I q) (fun z s' hz => ?_) fun _ _ e => e)
  have hn : z ≠ .notImplemented := by
    obtain ⟨v, H', I', r, q'⟩ := hz
    exact ret_of r
  cases z <;> first | exact hz | exact absurd rfl hn
end
end L2.FW
end
section
set_option maxRecDepth 100000
set_option maxHeartbeats 4000000
/-! Readings, step by step: one lemma a construct, and the word walk_at "go" that tries them in turn. -/
namespace L2.FW
open PySem PySem.Spec PyProof.Rows
/-! ### heaps -/
abbrev Ex (H H' : Hp) : Prop := Evl.Ex H H'
theorem Ex.rfl' {H : Hp} : Ex H H := fun _ _ h => h
theorem Ex.t {H H1 H2 : Hp} (a : Ex H H1) (b : Ex H1 H2) : Ex H H2 := fun c o h => b c o (a c o h)
theorem Ex.l {K : PySem.W.Frag} {H H' : Hp} {a : Addr} {xs : List V} (e : Ex H H') (h : SqL K H a xs) : SqL K H' a xs := Evl.ex_l e h
theorem Ex.tu {K : PySem.W.Frag} {H H' : Hp} {a : Addr} {xs : List V} (e : Ex H H') (h : SqT K H a xs) : SqT K H' a xs := Evl.ex_t e h
theorem Ex.nw {H : Hp} {p : Addr} {o : HO} (h : H p = none) : Ex H (upd H p o) := fun b u e => by rw [upd_ne (ne_of_none e h)]; exact e
theorem Ex.none {H H' : Hp} (e : Ex H H') {p : Addr} (h : H' p = .none) : H p = .none := by
  cases q : H p with
  | none => rfl
  | some o => rw [e p o q] at h; cases h
/-- all but the object at l is kept -/
def ExB (l : Addr) (H H' : Hp) : Prop := ∀ a o, a ≠ l → H a = some o → H' a = some o
theorem ExB.rfl' {l : Addr} {H : Hp} : ExB l H H := fun _ _ _ h => h
theorem ExB.of {l : Addr} {H H' : Hp} (e : Ex H H') : ExB l H H' := fun a o _ h => e a o h
theorem ExB.t {l : Addr} {H H1 H2 : Hp} (a : ExB l H H1) (b : ExB l H1 H2) : ExB l H H2 := fun c o n h => b c o n (a c o n h)
theorem ExB.upd {l : Addr} {H : Hp} {o : HO} : ExB l H (upd H l o) := fun b u n e => by rw [upd_ne n]; exact e
/-- an object that was not there ahead of it may change -/
theorem Ex.mut {H0 H H' : Hp} {l : Addr} (e : Ex H0 H) (n : H0 l = .none) (b : ExB l H H') : Ex H0 H' := fun a o h => b a o (ne_of_none h n) (e a o h)
theorem Ex.up {H0 H : Hp} {l : Addr} {o : HO} (e : Ex H0 H) (n : H0 l = .none) : Ex H0 (upd H l o) := e.mut n ExB.upd
/-- a new object, its heap a letter -/
theorem new_ {H : Hp} {o : HO} {Q : VK} (h : ∀ p H1, H p = none → Ex H H1 → H1 p = some o → Q (.ref p) H1) : ∀ p, H p = none → Q (.ref p) (upd H p o) := fun p hp => h p _ hp (Ex.nw hp) upd_same
/-! ### expressions -/
section
variable {σ : St} {H : Hp} {Q : VK} {ta tb tc te : TE} {t u : TT} {K : PySem.W.Frag}
theorem v_var {i : Nat} {v : V} (h : σ[i]? = some (some v)) (q : Q v H) : tVar i σ H Q := ⟨v, h, q⟩
theorem v_c {v : V} (q : Q v H) : tC v σ H Q := q
theorem v_op {r : R2} (q : ta σ H fun x H1 => tb σ H1 fun y H2 => r x y H2 Q) : tOp r ta tb σ H Q := q
theorem v_un {r : V → Hp → VK → Prop} (q : ta σ H fun x H1 => r x H1 Q) : tUn r ta σ H Q := q
theorem v_andV (q : ta σ H fun x H1 => ∃ c, x = .bl c ∧ if c = true then tb σ H1 Q else Q (.bl false) H1) : tAndV ta tb σ H Q := q
theorem v_orV (q : ta σ H fun x H1 => ∃ c, x = .bl c ∧ if c = true then Q (.bl true) H1 else tb σ H1 Q) : tOrV ta tb σ H Q := q
theorem v_notV (q : ta σ H fun x H1 => ∃ c, x = .bl c ∧ Q (.bl (!c)) H1) : tNotV ta σ H Q := q
theorem v_if (q : t σ H fun c H1 => if c = true then ta σ H1 Q else tb σ H1 Q) : tIf t ta tb σ H Q := q
theorem v_chain {r r' : R2} (q : ta σ H fun x H1 => tb σ H1 fun y H2 => r x y H2 fun z H3 => ∃ k, z = .bl k ∧ (if k = true then tc σ H3 fun w' H4 => r' y w' H4 Q else Q (.bl false) H3)) : tChain r r' ta tb tc σ H Q := q
theorem v_cb {r : List V → Hp → VK → Prop} {ts : TA} (q : ts σ H fun vs H1 => r vs H1 Q) : tCB r ts σ H Q := q
theorem v_nil {Q : List V → Hp → Prop} (q : Q [] H) : tNil σ H Q := q
theorem v_cons {ts : TA} {Q : List V → Hp → Prop} (q : ta σ H fun x H1 => ts σ H1 fun xs H2 => Q (x :: xs) H2) : tCons ta ts σ H Q := q
theorem v_call {sp : Sp} {dvs : List V} {E : XK} {ts : TA} (q : ts σ H fun vs H1 => sp (vs ++ dvs) H1 Q E) : tCall sp dvs E ts σ H Q := q
theorem v_tup {ts : TA} (q : ts σ H fun xs H1 => xs.length ≤ sizeLine ∧ ∀ p, H1 p = none → Q (.ref p) (upd H1 p (.tup xs))) : tTup ts σ H Q := q
theorem v_lst {ts : TA} (q : ts σ H fun xs H1 => xs.length ≤ sizeLine ∧ ∀ p, H1 p = none → Q (.ref p) (upd H1 p (.lst xs))) : tLst ts σ H Q := q
theorem v_sl {r : V → Option Int → Option Int → Hp → VK → Prop} {tl th : TO} (q : te σ H fun x H1 => tl σ H1 fun l H2 => th σ H2 fun u H3 => r x l u H3 Q) : tSl r te tl th σ H Q := q
theorem v_part {Q : Option Int → Hp → Prop} (q : te σ H fun x H1 => ∃ i, x = .int i ∧ Q (some i) H1) : tPart te σ H Q := q
theorem v_nopart {Q : Option Int → Hp → Prop} (q : Q none H) : tNoPart σ H Q := q
theorem v_dget {td ty : TE} (q : td σ H fun x H1 => ty σ H1 fun y H2 => ∃ a v, x = .ref a ∧ DGet H2 a y (some v) ∧ Q v H2) : tDGet td ty σ H Q := q
theorem v_din {td ty : TE} (q : ty σ H fun y H1 => td σ H1 fun x H2 => ∃ a o, x = .ref a ∧ DGet H2 a y o ∧ Q (.bl o.isSome) H2) : tDIn ty td σ H Q := q
theorem v_dnin {td ty : TE} (q : ty σ H fun y H1 => td σ H1 fun x H2 => ∃ a o, x = .ref a ∧ DGet H2 a y o ∧ Q (.bl (!o.isSome)) H2) : tDNotIn ty td σ H Q := q
def rFld (K : PySem.W.Frag) (f : Str) (x : V) (H : Hp) (Q : VK) : Prop := ∃ a C dx fs v, x = .ref a ∧ H a = some (.ins C dx fs) ∧ Cls K C ∧ NoAttr K C f ∧ fs.lookup f = some v ∧ Q v H
def rMth (C : Addr) (m : Str) (x : V) (H : Hp) (R : Prop) : Prop := ∃ a dx fs, x = .ref a ∧ H a = some (.ins C dx fs) ∧ fs.lookup m = none ∧ R
theorem v_fld {f : Str} (q : ta σ H fun x H1 => rFld K f x H1 Q) : tFld K ta f σ H Q := q
theorem v_meth {C : Addr} {m : Str} {sp : Sp} {dvs : List V} {E : XK} {ts : TA} (q : ta σ H fun x H1 => rMth C m x H1 (ts σ H1 fun vs H2 => sp (x :: (vs ++ dvs)) H2 Q E)) : tMeth C m sp dvs E ta ts σ H Q := q
theorem v_bm {T : String} {r : V → List V → Hp → VK → Prop} {ts : TA} (q : te σ H fun x H1 => tyV K T x H1 ∧ ts σ H1 fun xs H2 => r x xs H2 Q) : tBM K T r te ts σ H Q := q
theorem v_m1 {r : V → List V → Hp → VK → Prop} (q : ta σ H fun x H1 => (∃ a, x = .str a) ∧ te σ H1 fun y H2 => r x [y] H2 Q) : tM1 r ta te σ H Q := q
theorem v_rI0 {g : Int → Int → V} {i j : Int} (q : Q (g i j) H) : rI0 g (.int i) (.int j) H Q := ⟨i, j, rfl, rfl, q⟩
theorem v_rI {C : Int → Int → Prop} {g : Int → Int → V} {i j : Int} (c : C i j) (q : Q (g i j) H) : rI C g (.int i) (.int j) H Q := ⟨i, j, rfl, rfl, c, q⟩
theorem v_eq {x y : V} (c : scal x y = true) (q : Q (.bl (decide (x = y))) H) : rEq x y H Q := ⟨c, q⟩
theorem v_ne {x y : V} (c : scal x y = true) (q : Q (.bl (!decide (x = y))) H) : rNe x y H Q := ⟨c, q⟩
theorem v_ixL {p : Addr} {xs : List V} {i : Int} {v : V} (h : SqL K H p xs) (a : atI xs i = some v) (q : Q v H) : rIxL K (.ref p) (.int i) H Q := ⟨p, xs, i, v, rfl, rfl, h, a, q⟩
theorem v_ixT {p : Addr} {xs : List V} {i : Int} {v : V} (h : SqT K H p xs) (a : atI xs i = some v) (q : Q v H) : rIxT K (.ref p) (.int i) H Q := ⟨p, xs, i, v, rfl, rfl, h, a, q⟩
theorem v_ixS {z : Str} {i : Int} {c : Nat} (hl : z.length ≤ sizeLine) (a : atI z.cps.toList i = some c) (q : Q (.str ⟨#[c]⟩) H) : rIxS (.str z) (.int i) H Q := ⟨z, i, c, rfl, rfl, hl, a, q⟩
/-! tests -/
variable {Qb : Bool → Hp → Prop}
theorem v_test (q : te σ H fun x H' => ∃ k, x = .bl k ∧ Qb k H') : tTest te σ H Qb := q
theorem v_tB (q : te σ H fun x H' => ∃ k, x = .bl k ∧ Qb k H') : tB te σ H Qb := q
theorem v_and (q : t σ H fun c H1 => if c = true then u σ H1 Qb else Qb false H1) : tAnd t u σ H Qb := q
theorem v_or (q : t σ H fun c H1 => if c = true then Qb true H1 else u σ H1 Qb) : tOr t u σ H Qb := q
theorem v_not (q : t σ H fun c H1 => Qb (!c) H1) : tNot t σ H Qb := q
theorem v_yes (q : Qb true H) : tYes σ H Qb := q
theorem v_bl {b : Bool} {R : Bool → Prop} (q : R b) : ∃ k, V.bl b = .bl k ∧ R k := ⟨b, rfl, q⟩
theorem v_str {z : Str} {R : Str → Prop} (q : R z) : ∃ k, V.str z = .str k ∧ R k := ⟨z, rfl, q⟩
theorem v_int {i : Int} {R : Int → Prop} (q : R i) : ∃ k, V.int i = .int k ∧ R k := ⟨i, rfl, q⟩
theorem v_strE {z : Str} {R : Prop} (q : R) : (∃ a, V.str z = .str a) ∧ R := ⟨⟨z, rfl⟩, q⟩
end
/-! ### statements -/
section
variable {σ : St} {H : Hp} {D : Ends} {te : TE} {t : TT} {a b : TS} {K : PySem.W.Frag}
theorem s_seq (q : a { D with nx := b D } σ H) : tSeq a b D σ H := q
theorem s_next (q : D.nx σ H) : tNext D σ H := q
theorem s_drop (q : te σ H fun _ H1 => D.nx σ H1) : tDrop te D σ H := q
theorem s_ret (q : te σ H D.rt) : tRet te D σ H := q
theorem s_retN (q : D.rt .non H) : tRetN D σ H := q
theorem s_if (q : t σ H fun c H1 => if c = true then a D σ H1 else b D σ H1) : tIfS t a b D σ H := q
theorem s_asg {g : TG} (q : te σ H fun x H1 => g x σ H1 D.nx) : tAsg te g D σ H := q
theorem s_par {i j : Nat} {ts : TA} (q : ts σ H fun vs H1 => ∃ v w, vs = [v, w] ∧ D.nx ((σ.set i (some v)).set j (some w)) H1) : tPar i j ts D σ H := q
theorem s_par3 {i j l : Nat} {ts : TA} (q : ts σ H fun vs H1 => ∃ u v w, vs = [u, v, w] ∧ D.nx (((σ.set i (some u)).set j (some v)).set l (some w)) H1) : tPar3 i j l ts D σ H := q
theorem s_aug {i : Nat} {ti : TIp} {x : V} (h : σ[i]? = some (some x)) (q : te σ H fun y H1 => ti x y H1 fun z H2 => D.nx (σ.set i (some z)) H2) : tAug i te ti D σ H := ⟨x, h, q⟩
theorem s_fld {ta : TE} {f : Str} (q : te σ H fun y H1 => ta σ H1 fun x H2 => ∃ a C dx fs, x = .ref a ∧ H2 a = some (.ins C dx fs) ∧ Cls K C ∧ NoAttr K C f ∧ fs.length < 1000 ∧ D.nx σ (upd H2 a (.ins C dx (putF f y fs)))) : sFld K ta te f D σ H := q
theorem s_dput {td ty : TE} (q : te σ H fun v H1 => td σ H1 fun x H2 => ty σ H2 fun y H3 => ∃ a H4, x = .ref a ∧ DPut H3 a y v H4 ∧ D.nx σ H4) : sDPut td ty te D σ H := q
theorem s_ddel {td ty : TE} (q : td σ H fun x H1 => ty σ H1 fun y H2 => ∃ a kvs k, x = .ref a ∧ H2 a = some (.dK kvs) ∧ y = kV k ∧ (valV kvs k).isSome = true ∧ D.nx σ (upd H2 a (.dK (dropK kvs k)))) : sDDel td ty D σ H := q
variable {Q : St → Hp → Prop}
theorem g_name {i : Nat} {v : V} (q : Q (σ.set i (some v)) H) : gName i v σ H Q := q
theorem g_nil (q : Q σ H) : gNil [] σ H Q := ⟨rfl, q⟩
theorem g_cons {t : TG} {u : TGs} {v : V} {r : List V} (q : t v σ H fun σ' H' => u r σ' H' Q) : gCons t u (v :: r) σ H Q := ⟨v, r, rfl, q⟩
theorem g_tup {n : Nat} {t : TGs} {a : Addr} {xs : List V} (h : SqT K H a xs) (hl : xs.length = n) (q : t xs σ H Q) : gTup K n t (.ref a) σ H Q := ⟨a, xs, rfl, h, hl, q⟩
end
/-! readings under names of their own (a letter Q that stands under a binder is found by no unifier) -/
def rLenStr : List V → Hp → VK → Prop := fun xs H Q => ∃ z, xs = [.str z] ∧ z.length ≤ sizeLine ∧ Q (.int z.length) H
theorem cl_lenStr {X : Cx} : CallR X (.builtin "len") rLenStr := call_len_str
def rLenSeq (K : PySem.W.Frag) : List V → Hp → VK → Prop := fun xs H Q => ∃ p ys, xs = [.ref p] ∧ (SqL K H p ys ∨ SqT K H p ys) ∧ Q (.int ys.length) H
theorem cl_lenSeq {X : Cx} : CallR X (.builtin "len") (rLenSeq X.K) := call_len_seq
def rLenD : List V → Hp → VK → Prop := fun xs H Q => ∃ a kvs, xs = [V.ref a] ∧ H a = some (.dK kvs) ∧ Q (.int kvs.length) H
theorem cl_lenD {X : Cx} : CallR X (.builtin "len") rLenD := call_lenD
def rCatS : R2 := fun x y H Q => ∃ i j, x = .str i ∧ y = .str j ∧ i.length + j.length ≤ sizeLine ∧ Q (.str (i ++ j)) H
theorem op_catS {X : Cx} : OpR X (binaryOp .Add) rCatS := op_add_str
def rSign : R2 := fun x y H Q => ∃ (c : Nat) (z : Str), x = .str ⟨#[c]⟩ ∧ y = .str z ∧ Q (.bl (decide (c ∈ z.cps.toList))) H
theorem op_sign {X : Cx} : OpR X (compareOp .In) rSign := op_in_sign
def rNSign : R2 := fun x y H Q => ∃ (c : Nat) (z : Str), x = .str ⟨#[c]⟩ ∧ y = .str z ∧ Q (.bl (!decide (c ∈ z.cps.toList))) H
theorem op_nsign {X : Cx} : OpR X (compareOp .NotIn) rNSign := op_notIn_sign
def rInt1 : List V → Hp → VK → Prop := fun xs H Q => (∃ i, xs = [.int i] ∧ Q (.int i) H) ∨ ∃ k, xs = [.bl k] ∧ Q (.int (if k then 1 else 0)) H
theorem cl_int1 {X : Cx} : CallR X (.type "int") rInt1 := call_int1
def rBool1 : List V → Hp → VK → Prop := fun xs H Q => (∃ i, xs = [.int i] ∧ Q (.bl (i != 0)) H) ∨ ∃ k, xs = [.bl k] ∧ Q (.bl k) H
theorem cl_bool1 {X : Cx} : CallR X (.type "bool") rBool1 := call_bool1
def rAbs : List V → Hp → VK → Prop := fun xs H Q => ∃ i, xs = [.int i] ∧ Q (.int (if i < 0 then -i else i)) H
theorem cl_abs {X : Cx} : CallR X (.builtin "abs") rAbs := call_abs
def rStrI : List V → Hp → VK → Prop := fun xs H Q => ∃ i, xs = [.int i] ∧ i.natAbs.log2 < 1920 ∧ Q (.str (toString i)) H
theorem cl_strI {X : Cx} : CallR X (.type "str") rStrI := call_str_int
def rListOf (K : PySem.W.Frag) : List V → Hp → VK → Prop := fun xs H Q => ∃ p ys, xs = [.ref p] ∧ (SqL K H p ys ∨ SqT K H p ys) ∧ ∀ l, H l = none → Q (.ref l) (upd H l (.lst ys))
theorem cl_listOf {X : Cx} : CallR X (.type "list") (rListOf X.K) := call_list_of
def rTupOf (K : PySem.W.Frag) : List V → Hp → VK → Prop := fun xs H Q => ∃ p ys, xs = [.ref p] ∧ ((SqL K H p ys ∧ ∀ l, H l = none → Q (.ref l) (upd H l (.tup ys))) ∨ (SqT K H p ys ∧ Q (.ref p) H))
theorem cl_tupOf {X : Cx} : CallR X (.type "tuple") (rTupOf X.K) := call_tuple_of
def rIsNn : R2 := fun x y H Q => y = .non ∧ Q (.bl (decide (x = .non))) H
theorem op_isNn {X : Cx} : OpR X (compareOp .Is) rIsNn := op_isN
def rNotNn : R2 := fun x y H Q => y = .non ∧ Q (.bl (!decide (x = .non))) H
theorem op_notNn {X : Cx} : OpR X (compareOp .IsNot) rNotNn := op_notN
abbrev S (l : List Nat) : Str := SX.S l
theorem S_len (a : List Nat) : (S a).length = a.length := SX.S_len a
theorem S_app (a b : List Nat) : S a ++ S b = S (a ++ b) := SX.S_cat a b
section
variable {H : Hp} {Q : VK} {K : PySem.W.Frag}
theorem v_eqI {i j : Int} (q : Q (.bl (decide (i = j))) H) : rEq (.int i) (.int j) H Q := ⟨rfl, by rw [show decide (V.int i = V.int j) = decide (i = j) by simp]; exact q⟩
theorem v_neI {i j : Int} (q : Q (.bl (!decide (i = j))) H) : rNe (.int i) (.int j) H Q := ⟨rfl, by rw [show decide (V.int i = V.int j) = decide (i = j) by simp]; exact q⟩
theorem v_eqS {i j : List Nat} (q : Q (.bl (decide (i = j))) H) : rEq (.str (S i)) (.str (S j)) H Q := ⟨rfl, by
  rw [show decide (V.str (S i) = V.str (S j)) = decide (i = j) by
    by_cases h : i = j
    · subst h; simp
    · have : ¬ V.str (S i) = V.str (S j) := fun e => h (SX.S_inj (V.str.inj e))
      simp [h, this]]; exact q⟩
theorem v_neS {i j : List Nat} (q : Q (.bl (!decide (i = j))) H) : rNe (.str (S i)) (.str (S j)) H Q := ⟨rfl, by
  rw [show decide (V.str (S i) = V.str (S j)) = decide (i = j) by
    by_cases h : i = j
    · subst h; simp
    · have : ¬ V.str (S i) = V.str (S j) := fun e => h (SX.S_inj (V.str.inj e))
      simp [h, this]]; exact q⟩
theorem v_lenSS {l : List Nat} (h : l.length ≤ 100000) (q : Q (.int (l.length : Nat)) H) : rLenStr [.str (S l)] H Q := ⟨S l, rfl, by rw [S_len, sizeLine_eq]; omega, by rw [S_len]; exact q⟩
theorem v_lenL {p : Addr} {ys : List V} (h : SqL K H p ys) (q : Q (.int (ys.length : Nat)) H) : rLenSeq K [.ref p] H Q := ⟨p, ys, rfl, .inl h, q⟩
theorem v_lenT {p : Addr} {ys : List V} (h : SqT K H p ys) (q : Q (.int (ys.length : Nat)) H) : rLenSeq K [.ref p] H Q := ⟨p, ys, rfl, .inr h, q⟩
theorem v_lenD {p : Addr} {kvs : List (Key × V)} (h : H p = some (.dK kvs)) (q : Q (.int (kvs.length : Nat)) H) : rLenD [.ref p] H Q := ⟨p, kvs, rfl, h, q⟩
theorem v_catS {a b : List Nat} (h : a.length + b.length ≤ 100000) (q : Q (.str (S (a ++ b))) H) : rCatS (.str (S a)) (.str (S b)) H Q := ⟨S a, S b, rfl, rfl, by rw [S_len, S_len, sizeLine_eq]; omega, by rw [S_app]; exact q⟩
theorem v_sign {c : Nat} {l : List Nat} (q : Q (.bl (decide (c ∈ l))) H) : rSign (.str (S [c])) (.str (S l)) H Q := ⟨c, S l, rfl, rfl, q⟩
theorem v_nsign {c : Nat} {l : List Nat} (q : Q (.bl (!decide (c ∈ l))) H) : rNSign (.str (S [c])) (.str (S l)) H Q := ⟨c, S l, rfl, rfl, q⟩
theorem v_int1 {i : Int} (q : Q (.int i) H) : rInt1 [.int i] H Q := .inl ⟨i, rfl, q⟩
theorem v_bool1 {b : Bool} (q : Q (.bl b) H) : rBool1 [.bl b] H Q := .inr ⟨b, rfl, q⟩
theorem v_abs {i : Int} (q : Q (.int (if i < 0 then -i else i)) H) : rAbs [.int i] H Q := ⟨i, rfl, q⟩
theorem v_isN {x : V} (q : Q (.bl (decide (x = .non))) H) : rIsNn x .non H Q := ⟨rfl, q⟩
theorem v_notN {x : V} (q : Q (.bl (!decide (x = .non))) H) : rNotNn x .non H Q := ⟨rfl, q⟩
theorem v_ixSS {l : List Nat} {i : Int} {c : Nat} (hl : l.length ≤ 100000) (a : atI l i = some c) (q : Q (.str (S [c])) H) : rIxS (.str (S l)) (.int i) H Q := ⟨S l, i, c, rfl, rfl, by rw [S_len, sizeLine_eq]; omega, a, q⟩
end
theorem szl {n : Nat} (h : n ≤ 10000000) : n ≤ sizeLine := by rw [sizeLine_eq]; omega
theorem iteNT {A B : Prop} (h : B) : if (!true) = true then A else B := h
theorem iteNF {A B : Prop} (h : A) : if (!false) = true then A else B := h
theorem dI {i j : Int} : decide (V.int i = V.int j) = decide (i = j) := by simp
theorem dN {x : V} (h : x ≠ .non) : decide (x = V.non) = false := by simp [h]
local macro_rules | `(tactic| walk_at "go1") => `(tactic| first
  | ((with_reducible apply v_var); exact rfl)
  | ((with_reducible apply s_aug); exact rfl)
  | with_reducible first
    | refine v_c ?_ | refine v_cons ?_ | refine v_nil ?_ | refine v_op ?_ | refine v_cb ?_ | refine v_call ?_ | refine v_bl ?_ | refine v_yes ?_
    | refine s_seq ?_ | refine s_ret ?_ | refine s_if ?_ | refine s_asg ?_ | refine g_name ?_ | refine v_test ?_ | refine v_tB ?_
    | refine v_rI0 ?_ | refine v_eqI ?_ | refine v_neI ?_ | refine v_eqS ?_ | refine v_neS ?_ | refine v_int1 ?_ | refine v_bool1 ?_ | refine v_abs ?_ | refine v_isN ?_ | refine v_notN ?_ | refine v_nsign ?_
    | refine v_andV ?_ | refine v_orV ?_ | refine v_notV ?_ | refine v_and ?_ | refine v_or ?_ | refine v_not ?_
    | refine v_if ?_ | refine v_tup ?_ | refine v_lst ?_ | refine v_sl ?_ | refine v_part ?_ | refine v_nopart ?_ | refine v_int ?_ | refine v_dget ?_ | refine v_din ?_ | refine v_dnin ?_
    | refine v_fld ?_ | refine v_meth ?_ | refine v_bm ?_ | refine v_m1 ?_ | refine v_strE ?_ | refine v_un ?_ | refine v_chain ?_ | refine s_next ?_ | refine s_drop ?_ | refine s_retN ?_ | refine s_par ?_ | refine s_par3 ?_
    | refine s_fld ?_ | refine s_dput ?_ | refine s_ddel ?_ | refine g_nil ?_ | refine g_cons ?_ | refine iteT ?_ | refine iteF ?_ | refine iteNT ?_ | refine iteNF ?_
    | refine v_str ?_ | refine v_sign ?_)
local macro_rules | `(tactic| walk_at "go") => `(tactic| repeat walk_at "go1")
example (H : Hp) (Q : VK) (h : Q (.int 5) H) : tOp (rI0 fun i j => .int (i + j)) (tVar 0) (tC (.int 2)) [some (.int 3)] H Q := by
  repeat walk_at "go1"
  exact h
end L2.FW
end
section
set_option maxRecDepth 100000
set_option maxHeartbeats 4000000
/-! A def by its name, a method by its class: what is kept of each. -/
namespace L2.FW
open PySem PySem.Spec PyProof.Rows
structure Cal (P : Program) (w : World) (K : PySem.W.Frag) (mg : Str → Option Value) (base : Heap) (k : Nat) (x : Str) (sp : Sp) : Prop where
  ex : ∃ (f : Addr) (fd : FuncData) (ps : List Str), FnOk P w K mg base CX0 k f fd ps sp ∧ mg x = some (.ref f) ∧ PySem.W.keepIn K (.ref f) = true ∧ Binds K fd ps []
structure Met (P : Program) (w : World) (K : PySem.W.Frag) (mg : Str → Option Value) (base : Heap) (k : Nat) (C : Addr) (m : Str) (sp : Sp) : Prop where
  ex : ∃ (f : Addr) (fd : FuncData) (ps : List Str), Cls K C ∧ Meth K C m f ∧ FnOk P w K mg base CX0 k f fd ps sp ∧ Binds K fd ps []
section
variable {P : Program} {w : World} {K : PySem.W.Frag} {mg : Str → Option Value} {base : Heap}
theorem fnD {x q : Str} {st : Stmt} {f : Addr} {fd : FuncData} {dvs : List V} {N ps : List Str} {k : Nat} {sp : Sp} (F : FnP K x q st dvs f fd) (S : FnScope N ps (defScope st)) (len : ∀ vs H Q E, sp vs H Q E → vs.length = ps.length)
    (hbody : ∀ (cdv : Value) (A : Around) (outer : List Env) (s : Shared) (H : Hp) (vs : List V) (Q : VK) (E : XK), Room k (A.deeper (envOfC q (defScope st) s.heap.objs.size f cdv)) → sp vs H Q E →
      ∃ t, PSs (cxOf CX0 P w K mg base N q (defScope st) f cdv A outer s H E).nox (defBody st) t ∧ t { nx := fun _ H' => Q .non H', rt := Q } (start N vs) H) : FnOk P w K mg base CX0 (k + 1) f fd ps sp :=
  F.ok S len fun cdv A outer s H vs Q E hr h => by
    obtain ⟨t, h1, h2⟩ := hbody cdv A outer s H vs Q E hr h
    exact ⟨t, PSs.nox h1, h2⟩
theorem calD {x : Str} {st : Stmt} {f : Addr} {N ps : List Str} {k : Nat} {sp : Sp} (d : ∃ fd, FnP K x x st [] f fd) (g : mg x = some (.ref f)) (S : FnScope N ps (defScope st)) (len : ∀ vs H Q E, sp vs H Q E → vs.length = ps.length)
    (b : ∀ (kV doc pm : Value) (an : Option Addr) (cdv ct : Value) (us : List Value), us.length = ps.length → bindArgs (PySem.W.fnOf x x (defArgs st) (defBody st) (defScope st) .none kV doc pm an cdv ct) ⟨us, []⟩ = pure (ps.zip us))
    (hbody : ∀ (cdv : Value) (A : Around) (outer : List Env) (s : Shared) (H : Hp) (vs : List V) (Q : VK) (E : XK), Room k (A.deeper (envOfC x (defScope st) s.heap.objs.size f cdv)) → sp vs H Q E →
      ∃ t, PSs (cxOf CX0 P w K mg base N x (defScope st) f cdv A outer s H E).nox (defBody st) t ∧ t { nx := fun _ H' => Q .non H', rt := Q } (start N vs) H) : Cal P w K mg base (k + 1) x sp := by
  obtain ⟨fd, F⟩ := d
  exact ⟨f, fd, ps, fnD F S len hbody, g, F.kp, F.bindsN b⟩
theorem metD {m q : Str} {st : Stmt} {f C : Addr} {N ps : List Str} {k : Nat} {sp : Sp} (c : Cls K C) (me : Meth K C m f) (d : ∃ fd, FnP K m q st [] f fd) (S : FnScope N ps (defScope st)) (len : ∀ vs H Q E, sp vs H Q E → vs.length = ps.length)
    (b : ∀ (kV doc pm : Value) (an : Option Addr) (cdv ct : Value) (us : List Value), us.length = ps.length → bindArgs (PySem.W.fnOf m q (defArgs st) (defBody st) (defScope st) .none kV doc pm an cdv ct) ⟨us, []⟩ = pure (ps.zip us))
    (hbody : ∀ (cdv : Value) (A : Around) (outer : List Env) (s : Shared) (H : Hp) (vs : List V) (Q : VK) (E : XK), Room k (A.deeper (envOfC q (defScope st) s.heap.objs.size f cdv)) → sp vs H Q E →
      ∃ t, PSs (cxOf CX0 P w K mg base N q (defScope st) f cdv A outer s H E).nox (defBody st) t ∧ t { nx := fun _ H' => Q .non H', rt := Q } (start N vs) H) : Met P w K mg base (k + 1) C m sp := by
  obtain ⟨fd, F⟩ := d
  exact ⟨f, fd, ps, c, me, fnD F S len hbody, F.bindsN b⟩
end
section
variable {X : Cx} {k j : Nat} {C : Addr} {x m : Str} {sp : Sp} {p pos apos : Pos} {e o : Expr} {es : List Expr} {ta : TE} {t : TA}
theorem pe_cl (c : Cal X.prog X.w X.K X.mg X.base k x sp) (hr : Room j X.A) (hk : k ≤ j) (hg : Gl X x) (ha : PA X (e :: es) t)
    (hdb : (x == ("__debug__" : Str)) = false := by decide) (he : starEach (e :: es) X.env = (false, eval e X.env) :: starEach es X.env := by rfl) (hpl : (backTo pos (starEach es X.env)).any (·.1) = false := by rfl) :
    PE X (.Call (.Name x p) (e :: es) [] pos) (tCall sp [] E0 t) := by
  obtain ⟨f, fd, ps, F, hm, kp, b⟩ := c.ex
  exact pe_call F (hr.mono hk) hg hm kp b .nil pass0 ha hdb he hpl
theorem pe_mm {pl : Sem Bool} (c : Met X.prog X.w X.K X.mg X.base k C m sp) (hr : Room j X.A) (hk : k ≤ j) (he : PE X o ta) (ha : PA X (e :: es) t)
    (hst : starEach (e :: es) X.env = (false, eval e X.env) :: starEach es X.env := by rfl) (hpl : (backTo pos (starEach es X.env)).any (·.1) = false := by rfl)
    (ht : eval (.Call (.Attribute o m apos) (e :: es) [] pos) X.env = (do
      let ov ← eval o X.env
      standAt apos.atName
      let (f, first) ← holding [ov] (getMethod ov m pl)
      callWith pos f first (backTo pos (starEach (e :: es) X.env)) (backToKw pos (keywordEach [] X.env))) := by rfl) :
    PE X (.Call (.Attribute o m apos) (e :: es) [] pos) (tMeth C m sp [] E0 ta t) := by
  obtain ⟨f, fd, ps, hc, hm, F, b⟩ := c.ex
  exact pe_meth (pl := pl) he hc hm F (hr.mono hk) b .nil pass0 ha hst hpl ht
theorem pe_mm0 {pl : Sem Bool} (c : Met X.prog X.w X.K X.mg X.base k C m sp) (hr : Room j X.A) (hk : k ≤ j) (he : PE X o ta)
    (ht : eval (.Call (.Attribute o m apos) [] [] pos) X.env = (do
      let ov ← eval o X.env
      standAt apos.atName
      let (f, first) ← holding [ov] (getMethod ov m pl)
      callWith pos f first (backTo pos (starEach [] X.env)) (backToKw pos (keywordEach [] X.env))) := by rfl) :
    PE X (.Call (.Attribute o m apos) [] [] pos) (tMeth C m sp [] E0 ta tNil) := by
  obtain ⟨f, fd, ps, hc, hm, F, b⟩ := c.ex
  exact pe_meth0 (pl := pl) he hc hm F (hr.mono hk) b .nil pass0 ht
end
/-! isinstance, where the kind of the value is known -/
section
variable {K : PySem.W.Frag} {H : Hp} {Q : VK}
theorem isi_ty {x : V} {t n : String} {b : Bool} (ty : TyX K H x (.type t)) (h : kitB t n = some b) (q : Q (.bl b) H) : rIsi K [x, .ty n] H Q := ⟨x, .ty n, .type t, .type n, b, rfl, .ty n, ty, kit_ty h, q⟩
theorem isi_ss {z : Str} (q : Q (.bl true) H) : rIsi K [.str z, .ty "str"] H Q := isi_ty (.base (.str z)) (by decide +kernel) q
theorem isi_ii {i : Int} (q : Q (.bl true) H) : rIsi K [.int i, .ty "int"] H Q := isi_ty (.base (.int i)) (by decide +kernel) q
theorem isi_ib {i : Int} (q : Q (.bl false) H) : rIsi K [.int i, .ty "bool"] H Q := isi_ty (.base (.int i)) (by decide +kernel) q
end
end L2.FW
end
section
set_option maxRecDepth 100000
set_option maxHeartbeats 4000000
/-! Comprehensions whose elements only make objects. -/
namespace L2.FW
open PySem PySem.Spec PyProof.Rows
/-- what is told of a value outlives the growing of the list at D -/
def Lives (D : Addr) (R : V → Hp → Prop) : Prop := ∀ y H H' xs, H D = some (.lst xs) → ExB D H H' → R y H → R y H'
theorem lc_ev {J : It} {n : Nat} {G : Hp → Prop} {Y : Nat → Hp → V → Hp → Prop} (wk : Walk J n G Y) {g : TG} {tt : TT} {te : TE} {vs : List Nat} {σ : St} {H1 : Hp} {Qd : Addr → Hp → Prop} (hn : n ≤ 10000000) (R : Nat → V → Hp → Prop)
    (hR : ∀ D i, Lives D (R i)) (hG : ∀ H, Ex H1 H → G H)
    (hs : ∀ i x H H' (Kt : VK) (Kn : Hp → Prop), i < n → Ex H1 H → Y i H x H' → (∀ y H4, Ex H H4 → R i y H4 → Kt y H4) → g x (wipe σ vs) H' fun σ2 H2 => wipe σ2 vs = wipe σ vs ∧ tt σ2 H2 fun b H3 => if b = true then te σ2 H3 Kt else Kn H3)
    (hd : ∀ D H' ys, H1 D = none → Ex H1 H' → H' D = some (.lst ys) → ys.length = n → (∀ i y, ys[i]? = some y → R i y H') → Qd D H') :
    ∀ D, H1 D = none → ∃ W : Nat → Nat → Hp → Prop, (∃ m, W 0 m (upd H1 D (.lst []))) ∧ ∀ i m H, W i m H →
      (J.stop i H ∧ Qd D H) ∨ (J.go i H ∧ ∃ Nx : Hp → Prop, (∀ H', Nx H' → ∃ m', m' < m ∧ W (i + 1) m' H') ∧ ∀ x H', J.yld i H x H' → g x (wipe σ vs) H' fun σ2 H2 => wipe σ2 vs = wipe σ vs ∧ tt σ2 H2 fun b H3 =>
        if b = true then te σ2 H3 fun y H4 => ∃ acc, H4 D = some (.lst acc) ∧ acc.length < sizeLine ∧ Nx (upd H4 D (.lst (acc ++ [y]))) else Nx H3) := by
  intro D hD
  refine lc_it wk (fun i H => Ex H1 H ∧ ∃ ys, H D = some (.lst ys) ∧ ys.length = i ∧ ∀ j y, ys[j]? = some y → R j y H) ⟨Ex.nw hD, [], upd_same, rfl, fun j y h => by simp at h⟩ (fun i H hi p => hG H p.1) ?_ ?_
  · rintro i x H H' hi ⟨e, ys, hl, hlen, hr⟩ y
    refine hs i x H H' _ _ hi e y fun z H4 e4 r => ?_
    refine ⟨ys, e4 _ _ hl, ?_, (e.t e4).up hD, ys ++ [z], upd_same, by simp [hlen], ?_⟩
    · rw [hlen, sizeLine_eq]; omega
    · intro j u hj
      have hl4 := e4 _ _ hl
      by_cases hjl : j < ys.length
      · rw [List.getElem?_append_left hjl] at hj
        exact hR D j u H4 _ ys hl4 ExB.upd (hR D j u H H4 ys hl (ExB.of e4) (hr j u hj))
      · rw [List.getElem?_append_right (by omega)] at hj
        have hj0 := (List.getElem?_eq_some_iff.mp hj).1
        simp at hj0
        have ej : j = i := by omega
        subst ej
        rw [show j - ys.length = 0 by omega] at hj
        simp at hj
        subst hj
        exact hR D j z H4 _ ys hl4 ExB.upd r
  · rintro H ⟨e, ys, hl, hlen, hr⟩
    exact hd D H ys hD e hl hlen hr
theorem map_of {α β : Type} {F : α → β} : ∀ {l : List α} {ys : List β}, ys.length = l.length → (∀ (i : Nat) y, ys[i]? = some y → ∃ c, l[i]? = some c ∧ y = F c) → ys = l.map F
  | [], [], _, _ => rfl
  | [], _ :: _, h, _ => by simp at h
  | _ :: _, [], h, _ => by simp at h
  | a :: l, y :: ys, h, k => by
    obtain ⟨c, h1, h2⟩ := k 0 y rfl
    have e : a = c := by simpa using h1
    subst e
    rw [List.map_cons, ← h2, map_of (l := l) (ys := ys) (by simpa using h) fun i z hz => by simpa using k (i + 1) z (by simpa using hz)]
/-- over the signs of a text, the element a value that the sign alone tells -/
theorem lc_strF {z : Str} {g : TG} {tt : TT} {te : TE} {vs : List Nat} {σ : St} {H1 : Hp} {Qd : Addr → Hp → Prop} (F : Nat → V) (hn : z.length ≤ 10000000)
    (hs : ∀ c H (Kt : VK) (Kn : Hp → Prop), c ∈ z.cps.toList → Ex H1 H → (∀ H4, Ex H H4 → Kt (F c) H4) → g (.str ⟨#[c]⟩) (wipe σ vs) H fun σ2 H2 => wipe σ2 vs = wipe σ vs ∧ tt σ2 H2 fun b H3 => if b = true then te σ2 H3 Kt else Kn H3)
    (hd : ∀ D H', H1 D = none → Ex H1 H' → H' D = some (.lst (z.cps.toList.map F)) → Qd D H') :
    ∀ D, H1 D = none → ∃ W : Nat → Nat → Hp → Prop, (∃ m, W 0 m (upd H1 D (.lst []))) ∧ ∀ i m H, W i m H →
      ((Its z).stop i H ∧ Qd D H) ∨ ((Its z).go i H ∧ ∃ Nx : Hp → Prop, (∀ H', Nx H' → ∃ m', m' < m ∧ W (i + 1) m' H') ∧ ∀ x H', (Its z).yld i H x H' → g x (wipe σ vs) H' fun σ2 H2 => wipe σ2 vs = wipe σ vs ∧ tt σ2 H2 fun b H3 =>
        if b = true then te σ2 H3 fun y H4 => ∃ acc, H4 D = some (.lst acc) ∧ acc.length < sizeLine ∧ Nx (upd H4 D (.lst (acc ++ [y]))) else Nx H3) :=
  lc_ev (walk_str (z := z)) hn (fun i y _ => ∃ c, z.cps.toList[i]? = some c ∧ y = F c) (fun _ _ _ _ _ _ _ _ h => h) (fun _ _ => trivial)
    (fun i x H H' Kt Kn hi e y hk => by
      obtain ⟨rfl, c, hc, rfl⟩ := y
      have hc' : z.cps.toList[i]? = some c := by rw [← hc, Array.getElem?_toList]
      exact hs c H' Kt Kn (List.mem_of_getElem? hc') e fun H4 e4 => hk _ _ e4 ⟨c, hc', rfl⟩)
    (fun D H' ys h1 e hl hlen hr => hd D H' h1 e (by rw [hl, map_of (l := z.cps.toList) (F := F) (by simpa using hlen) hr]))
/-- over a list that stands still -/
theorem lc_lstR {K : PySem.W.Frag} {a : Addr} {xs : List V} {g : TG} {tt : TT} {te : TE} {vs : List Nat} {σ : St} {H1 : Hp} {Qd : Addr → Hp → Prop} (ha : SqL K H1 a xs) (hn : xs.length ≤ 10000000) (R : Nat → V → Hp → Prop) (hR : ∀ D i, Lives D (R i))
    (hs : ∀ i x H (Kt : VK) (Kn : Hp → Prop), xs[i]? = some x → Ex H1 H → (∀ y H4, Ex H H4 → R i y H4 → Kt y H4) → g x (wipe σ vs) H fun σ2 H2 => wipe σ2 vs = wipe σ vs ∧ tt σ2 H2 fun b H3 => if b = true then te σ2 H3 Kt else Kn H3)
    (hd : ∀ D H' ys, H1 D = none → Ex H1 H' → H' D = some (.lst ys) → ys.length = xs.length → (∀ i y, ys[i]? = some y → R i y H') → Qd D H') :
    ∀ D, H1 D = none → ∃ W : Nat → Nat → Hp → Prop, (∃ m, W 0 m (upd H1 D (.lst []))) ∧ ∀ i m H, W i m H →
      ((Itl K a).stop i H ∧ Qd D H) ∨ ((Itl K a).go i H ∧ ∃ Nx : Hp → Prop, (∀ H', Nx H' → ∃ m', m' < m ∧ W (i + 1) m' H') ∧ ∀ x H', (Itl K a).yld i H x H' → g x (wipe σ vs) H' fun σ2 H2 => wipe σ2 vs = wipe σ vs ∧ tt σ2 H2 fun b H3 =>
        if b = true then te σ2 H3 fun y H4 => ∃ acc, H4 D = some (.lst acc) ∧ acc.length < sizeLine ∧ Nx (upd H4 D (.lst (acc ++ [y]))) else Nx H3) :=
  lc_ev (walk_list (K := K) (a := a) (xs := xs)) hn R hR (fun H e => e.l ha)
    (fun i x H H' Kt Kn hi e y hk => by
      obtain ⟨rfl, hx⟩ := y
      exact hs i x H' Kt Kn hx e hk) hd
theorem lc_tupF {K : PySem.W.Frag} {a : Addr} {xs : List V} {g : TG} {tt : TT} {te : TE} {vs : List Nat} {σ : St} {H1 : Hp} {Qd : Addr → Hp → Prop} (F : V → V) (ha : SqT K H1 a xs) (hn : xs.length ≤ 10000000)
    (hs : ∀ (i : Nat) (x : V) (H : Hp) (Kt : VK) (Kn : Hp → Prop), xs[i]? = some x → Ex H1 H → (∀ H4, Ex H H4 → Kt (F x) H4) → g x (wipe σ vs) H fun σ2 H2 => wipe σ2 vs = wipe σ vs ∧ tt σ2 H2 fun b H3 => if b = true then te σ2 H3 Kt else Kn H3)
    (hd : ∀ D H', H1 D = none → Ex H1 H' → H' D = some (.lst (xs.map F)) → Qd D H') :
    ∀ D, H1 D = none → ∃ W : Nat → Nat → Hp → Prop, (∃ m, W 0 m (upd H1 D (.lst []))) ∧ ∀ i m H, W i m H →
      ((Itt K a).stop i H ∧ Qd D H) ∨ ((Itt K a).go i H ∧ ∃ Nx : Hp → Prop, (∀ H', Nx H' → ∃ m', m' < m ∧ W (i + 1) m' H') ∧ ∀ x H', (Itt K a).yld i H x H' → g x (wipe σ vs) H' fun σ2 H2 => wipe σ2 vs = wipe σ vs ∧ tt σ2 H2 fun b H3 =>
        if b = true then te σ2 H3 fun y H4 => ∃ acc, H4 D = some (.lst acc) ∧ acc.length < sizeLine ∧ Nx (upd H4 D (.lst (acc ++ [y]))) else Nx H3) :=
  lc_ev (walk_tup (K := K) (a := a) (xs := xs)) hn (fun i y _ => ∃ c, xs[i]? = some c ∧ y = F c) (fun _ _ _ _ _ _ _ _ h => h) (fun H e => e.tu ha)
    (fun i x H H' Kt Kn hi e y hk => by
      obtain ⟨rfl, hx⟩ := y
      exact hs i x H' Kt Kn hx e fun H4 e4 => hk _ _ e4 ⟨x, hx, rfl⟩)
    (fun D H' ys h1 e hl hlen hr => hd D H' h1 e (by rw [hl, map_of (l := xs) (F := F) hlen hr]))
section
variable {σ : St} {H : Hp} {Q : VK} {K : PySem.W.Frag} {wi : TI} {g : TG} {tt : TT} {te : TE} {vs : List Nat}
theorem v_lc (q : wi σ H fun J H1 => ∀ D, H1 D = none → ∃ W : Nat → Nat → Hp → Prop, (∃ m, W 0 m (upd H1 D (.lst []))) ∧ ∀ i m H, W i m H →
      (J.stop i H ∧ Q (.ref D) H) ∨ (J.go i H ∧ ∃ Nx : Hp → Prop, (∀ H', Nx H' → ∃ m', m' < m ∧ W (i + 1) m' H') ∧ ∀ x H', J.yld i H x H' → g x (wipe σ vs) H' fun σ2 H2 => wipe σ2 vs = wipe σ vs ∧ tt σ2 H2 fun b H3 =>
        if b = true then te σ2 H3 fun y H4 => ∃ acc, H4 D = some (.lst acc) ∧ acc.length < sizeLine ∧ Nx (upd H4 D (.lst (acc ++ [y]))) else Nx H3)) : tLc wi g tt te vs σ H Q := q
variable {R : It → Hp → Prop}
theorem i_str {ta : TE} (q : ta σ H fun v H1 => ∃ x, v = .str x ∧ R (Its x) H1) : iStr ta σ H R := q
theorem i_strV {z : Str} (q : R (Its z) H) : ∃ x, V.str z = .str x ∧ R (Its x) H := ⟨z, rfl, q⟩
theorem i_list {ta : TE} (q : ta σ H fun x H1 => ∃ a, x = .ref a ∧ (∃ xs, SqL K H1 a xs) ∧ R (Itl K a) H1) : iList K ta σ H R := q
theorem i_listV {a : Addr} {xs : List V} (h : SqL K H a xs) (q : R (Itl K a) H) : ∃ b, V.ref a = .ref b ∧ (∃ xs, SqL K H b xs) ∧ R (Itl K b) H := ⟨a, rfl, ⟨xs, h⟩, q⟩
theorem v_all {a : Addr} {bs : List Bool} (h : SqL K H a (bs.map V.bl)) (q : Q (.bl (bs.all id)) H) : rAll K [.ref a] H Q := ⟨a, bs, rfl, h, q⟩
end
end L2.FW
end
section
set_option maxRecDepth 100000
set_option maxHeartbeats 4000000
/-! zip of two or three sources of unlike kinds (still lists, still tuples, texts); enumerate of a still tuple. -/
namespace L2.FW
open PySem PySem.Spec PyProof.Rows
/-- what is walked: a list or a tuple that stands still, a text -/
inductive Src
  | l (a : Addr) (xs : List V)
  | t (a : Addr) (xs : List V)
  | s (z : Str)
namespace Src
def items : Src → List V
  | .l _ xs => xs
  | .t _ xs => xs
  | .s z => z.cps.toList.map fun c => V.str ⟨#[c]⟩
def val : Src → V
  | .l a _ => .ref a
  | .t a _ => .ref a
  | .s z => .str z
def holds (K : PySem.W.Frag) (H : Hp) : Src → Prop
  | .l a xs => SqL K H a xs
  | .t a xs => SqT K H a xs
  | .s _ => True
def at_ (it : Addr) (i : Nat) (h : Heap) : Src → Prop
  | .l a _ => h.IsListIter it a i
  | .t a _ => h.IsTupleIter it a i
  | .s z => ∃ t, h.IsStrIter it (strIterType z) z t i
def off (b : Addr) : Src → Prop
  | .l a _ => a ≠ b
  | .t a _ => a ≠ b
  | .s _ => True
theorem ex {K : PySem.W.Frag} {H H' : Hp} {S : Src} (e : Ex H H') (h : S.holds K H) : S.holds K H' := by
  cases S with
  | l a xs => exact e.l h
  | t a xs => exact e.tu h
  | s z => exact h
theorem at_keep {S : Src} {it : Addr} {i : Nat} {h h' : Heap} (k : ∀ o, h.get? it = some o → h'.get? it = some o) (s : S.at_ it i h) : S.at_ it i h' := by
  cases S with
  | l a xs => exact Heap.IsListIter.at s k
  | t a xs => exact Heap.IsTupleIter.at s k
  | s z =>
    obtain ⟨t, o, ho, r⟩ := s
    exact ⟨t, o, k o ho, r⟩
theorem at_obj {S : Src} {it : Addr} {i : Nat} {h : Heap} (s : S.at_ it i h) : ∃ o, h.get? it = some o ∧ ∀ v, o.data ≠ .cell v := by
  cases S with
  | l a xs => obtain ⟨o, e, _, d⟩ := s; exact ⟨o, e, fun v q => by rw [d] at q; cases q⟩
  | t a xs => obtain ⟨o, e, _, d⟩ := s; exact ⟨o, e, fun v q => by rw [d] at q; cases q⟩
  | s z => obtain ⟨t, o, e, _, d⟩ := s; exact ⟨o, e, fun v q => by rw [d] at q; cases q⟩
section
variable {X : Cx} {pins : List (Addr × Obj)} {σ : St} {H : Hp} {s : Shared}
theorem draws {S : Src} (I : Inv X pins σ H s) (hold : S.holds X.K H) (hc : X.calm = true) {it : Addr} {i : Nat} (st : S.at_ it i s.heap) (ho : S.off it) :
    ∃ fp P St, Draws X.prog X.w X.A.in1 it fp S.items.length P St ∧ St i s.heap ∧ it ∈ fp ∧ (∀ b ∈ fp, b = it ∨ ¬ S.off b) ∧ (∀ j x v, P j v → S.items[j]? = some x → RelV x v) ∧ ∀ j h, St j h → S.at_ it j h := by
  have hh : X.A.in1.handled = none := I.ok.hd hc
  cases S with
  | l a xs =>
    obtain ⟨its, rv, p, _⟩ := I.list hold
    have e : xs.length = its.toArray.size := by rw [List.size_toArray]; exact rv.length
    refine ⟨[it, a], fun i v => its.toArray[i]? = some v, fun i h => h.IsListIter it a i ∧ h.IsList a its.toArray, ?_, ⟨st, p.isList⟩, by simp, fun b hb => ?_, fun j x v hv hx => ?_, fun j h q => q.1⟩
    · show Draws _ _ _ _ _ xs.length _ _
      rw [e]
      exact Draws.list hh it a ho its.toArray
    · rcases List.mem_cons.mp hb with q | q
      · exact .inl q
      · exact .inr fun z => z (List.mem_singleton.mp q).symm
    · obtain ⟨u, hu, ru⟩ := rv.get hx
      have : some u = some v := by rw [← hu, ← hv]; simp
      cases this
      exact ru
  | t a xs =>
    obtain ⟨its, rv, p, _⟩ := I.tuple hold
    have e : xs.length = its.toArray.size := by rw [List.size_toArray]; exact rv.length
    refine ⟨[it, a], fun i v => its.toArray[i]? = some v, fun i h => h.IsTupleIter it a i ∧ h.IsTuple a its.toArray, ?_, ⟨st, p⟩, by simp, fun b hb => ?_, fun j x v hv hx => ?_, fun j h q => q.1⟩
    · show Draws _ _ _ _ _ xs.length _ _
      rw [e]
      exact Draws.tuple hh it a ho its.toArray
    · rcases List.mem_cons.mp hb with q | q
      · exact .inl q
      · exact .inr fun z => z (List.mem_singleton.mp q).symm
    · obtain ⟨u, hu, ru⟩ := rv.get hx
      have : some u = some v := by rw [← hu, ← hv]; simp
      cases this
      exact ru
  | s z =>
    obtain ⟨t, st⟩ := st
    refine ⟨[it], fun i v => ∃ c u, z.cps[i]? = some c ∧ v = .str ⟨#[c]⟩ u, fun i h => h.IsStrIter it (strIterType z) z t i, ?_, st, by simp, fun b hb => .inl (List.mem_singleton.mp hb), fun j x v hv hx => ?_, fun j h q => ⟨t, q⟩⟩
    · show Draws _ _ _ _ _ (z.cps.toList.map _).length _ _
      rw [List.length_map, Array.length_toList]
      exact Draws.text hh it z t
    · obtain ⟨c, u, h1, rfl⟩ := hv
      have h2 : (z.cps.toList.map fun c => V.str ⟨#[c]⟩)[j]? = some x := hx
      rw [List.getElem?_map, Array.getElem?_toList, h1] at h2
      cases h2
      exact ⟨u, rfl⟩
/-- what iter(v) makes of it -/
theorem begins {S : Src} (I : Inv X pins σ H s) (hold : S.holds X.K H) {v : Value} (r : RelV S.val v) : ∃ (o : Obj) (G : Heap → Prop), Begins v o G ∧ G s.heap ∧ (∀ it h, h.get? it = some o → S.at_ it 0 h) ∧ ∀ b, s.heap.objs.size ≤ b → S.off b := by
  cases S with
  | l a xs =>
    cases r
    obtain ⟨its, rv, p, _⟩ := I.list hold
    exact ⟨_, _, begins_list a its.toArray, p.isList, fun it h e => ⟨_, e, rfl, rfl⟩, fun b hb z => absurd p.lt (by rw [z]; exact Nat.not_lt.mpr hb)⟩
  | t a xs =>
    cases r
    obtain ⟨its, rv, p, _⟩ := I.tuple hold
    obtain ⟨o, ho, _⟩ := id p
    exact ⟨_, _, begins_tuple a its.toArray, p, fun it h e => ⟨_, e, rfl, rfl⟩, fun b hb z => absurd (Heap.lt_size ho) (by rw [z]; exact Nat.not_lt.mpr hb)⟩
  | s z =>
    obtain ⟨t, rfl⟩ := r
    exact ⟨_, _, begins_text z t, trivial, fun it h e => ⟨t, _, e, rfl, rfl⟩, fun _ _ => trivial⟩
end
end Src
/-! ### two -/
def ItS2 (K : PySem.W.Frag) (p q : Src) : It :=
  ⟨fun i H => i < p.items.length ∧ i < q.items.length ∧ p.holds K H ∧ q.holds K H,
    fun i H v H' => ∃ T x y, v = .ref T ∧ H T = none ∧ H' = upd H T (.tup [x, y]) ∧ p.items[i]? = some x ∧ q.items[i]? = some y,
    fun i H => p.holds K H ∧ q.holds K H ∧ i ≤ p.items.length ∧ i ≤ q.items.length ∧ (i = p.items.length ∨ i = q.items.length)⟩
structure Ap2 (p q : Src) (z TI TO i1 i2 : Addr) : Prop where
  TIz : TI ≠ z
  TOz : TO ≠ z
  TITO : TI ≠ TO
  TIi1 : TI ≠ i1
  TIi2 : TI ≠ i2
  zi1 : z ≠ i1
  zi2 : z ≠ i2
  Ti1 : TO ≠ i1
  Ti2 : TO ≠ i2
  i12 : i1 ≠ i2
  p_ : p.off z ∧ p.off TO ∧ p.off i1 ∧ p.off i2
  q_ : q.off z ∧ q.off TO ∧ q.off i1 ∧ q.off i2
theorem Ap2.sep {p q : Src} {z TI TO i1 i2 : Addr} {f1 f2 : List Addr} (D : Ap2 p q z TI TO i1 i2) (m1 : i1 ∈ f1) (m2 : i2 ∈ f2) (h1 : ∀ b ∈ f1, b = i1 ∨ ¬ p.off b) (h2 : ∀ b ∈ f2, b = i2 ∨ ¬ q.off b) : ZipSep2 z TI TO i1 i2 f1 f2 where
  TIz := D.TIz
  TOz := D.TOz
  TITO := D.TITO
  TIi1 := D.TIi1
  TIi2 := D.TIi2
  mem1 := m1
  mem2 := m2
  zf1 := fun m => (h1 _ m).elim D.zi1 fun n => n D.p_.1
  zf2 := fun m => (h2 _ m).elim D.zi2 fun n => n D.q_.1
  Tf1 := fun m => (h1 _ m).elim D.Ti1 fun n => n D.p_.2.1
  Tf2 := fun m => (h2 _ m).elim D.Ti2 fun n => n D.q_.2.1
  sep1_2 := fun m => (h2 _ m).elim D.i12 fun n => n D.q_.2.2.1
  sep2_1 := fun m => (h1 _ m).elim (fun e => D.i12 e.symm) fun n => n D.p_.2.2.2
theorem turn_S2 {P : Program} {w : World} {K : PySem.W.Frag} {elts : List Expr} {kk : Nat} {tpos : Pos} {p q : Src} {z TI TO i1 i2 : Addr} (D : Ap2 p q z TI TO i1 i2) :
    Turn P w K (.Tuple elts kk tpos) (ItS2 K p q) [z, TI, TO, i1, i2] z (fun i h => IsZip h z TI TO .none ∧ IsTupOf2 h TI (.ref i1) (.ref i2) ∧ (∃ x y, IsTupOf2 h TO x y) ∧ p.at_ i1 i h ∧ q.at_ i2 i h) where
  mem := by simp
  obj := fun i h st c hc => by
    obtain ⟨hz, hTI, ⟨x, y, hTO⟩, h1, h2⟩ := st
    have e' : c = z ∨ c = TI ∨ c = TO ∨ c = i1 ∨ c = i2 := by simpa using hc
    rcases e' with q | q | q | q | q
    · rw [q]; exact ⟨_, hz, fun v q => nomatch q⟩
    · rw [q]; exact ⟨_, hTI, fun v q => nomatch q⟩
    · rw [q]; exact ⟨_, hTO, fun v q => nomatch q⟩
    · rw [q]; exact Src.at_obj h1
    · rw [q]; exact Src.at_obj h2
  keep := fun i h h' st k => by
    obtain ⟨hz, hTI, ⟨x, y, hTO⟩, h1, h2⟩ := st
    exact ⟨k z (by simp) _ hz, k TI (by simp) _ hTI, ⟨x, y, k TO (by simp) _ hTO⟩, Src.at_keep (fun o q => k i1 (by simp) o q) h1, Src.at_keep (fun o q => k i2 (by simp) o q) h2⟩
  item := by
    intro X hP hw hK hc i pins s σ H E I hf st hg
    subst hP hw hK
    obtain ⟨hz, hTI, ⟨x0, y0, hTO⟩, h1, h2⟩ := st
    obtain ⟨l1, l2, o1, o2⟩ := hg
    obtain ⟨f1, P1, S1, D1, st1, m1, a1, r1, k1⟩ := Src.draws I o1 hc h1 D.p_.2.2.1
    obtain ⟨f2, P2, S2, D2, st2, m2, a2, r2, k2⟩ := Src.draws I o2 hc h2 D.q_.2.2.2
    have hzl : z < s.heap.objs.size := Heap.lt_size hz
    refine wpAny_pyNext_zipD2_item (D.sep m1 m2 a1 a2) D1 D2 hz hTI hTO st1 st2 l1 l2 fun u u2 h' tk p1 p2 z' TO' s1 s2 hT hsz hk => ?_
    have hx := List.getElem?_eq_getElem l1
    have hy := List.getElem?_eq_getElem l2
    have ru := r1 _ _ _ p1 hx
    have ru2 := r2 _ _ _ p2 hy
    generalize p.items[i] = x at hx ru
    generalize q.items[i] = y at hy ru2
    refine ⟨_, rfl, wpAny_letOwnedTupleGo_zip (s := { s with heap := h', toks := tk }) z' fun h'' z'' sb => ?_⟩
    have hT2 : h''.get? s.heap.objs.size = some { cls := .type "tuple", data := .seq #[u, u2] } := (sb.2 _ (Nat.ne_of_gt hzl)).trans hT
    have new : ObjOk X.prog X.w (upd H s.heap.objs.size (.tup [x, y])) h'' s.heap.objs.size (.tup [x, y]) :=
      ⟨by show 2 ≤ sizeLine; decide, [u, u2], .cons ru (.cons ru2 .nil), ⟨_, hT2, rfl, _, rfl⟩⟩
    have I1 : Inv X pins σ (upd H s.heap.objs.size (.tup [x, y])) { s with heap := h'', toks := tk } :=
      I.turnedNew (ch := [z, TI, TO, i1, i2]) (fun c o hb q => (sb.2 c (fun q' => hb (by simp [q']))).trans (hk c o (fun q' => hb (by simp [q'])) (fun q' => hb (by simp [q'])) (fun q' => hb (by simp [q'])) (fun q' => hb (by simp [q'])) q)) hf (Nat.le_refl _) new
    refine ⟨.ref s.heap.objs.size, _, I1, rfl, ⟨_, x, y, rfl, I.hok.fresh (Nat.le_refl _), rfl, hx, hy⟩, ⟨z'', ?_, ⟨u, u2, ?_⟩, ?_, ?_⟩, fun c hcm => ?_⟩
    · exact (sb.2 _ D.TIz).trans (hk _ _ D.TIz D.TITO D.TIi1 D.TIi2 hTI)
    · exact (sb.2 _ D.TOz).trans TO'
    · exact Src.at_keep (fun o q => (sb.2 _ (Ne.symm D.zi1)).trans q) (k1 _ _ s1)
    · exact Src.at_keep (fun o q => (sb.2 _ (Ne.symm D.zi2)).trans q) (k2 _ _ s2)
    · have hlt : c < s.heap.objs.size := by
        have e' : c = z ∨ c = TI ∨ c = TO ∨ c = i1 ∨ c = i2 := by simpa using hcm
        rcases e' with q | q | q | q | q
        · rw [q]; exact hzl
        · rw [q]; exact Heap.lt_size hTI
        · rw [q]; exact Heap.lt_size hTO
        · rw [q]; obtain ⟨_, e1, _⟩ := Src.at_obj h1; exact Heap.lt_size e1
        · rw [q]; obtain ⟨_, e2, _⟩ := Src.at_obj h2; exact Heap.lt_size e2
      rw [upd_ne (Nat.ne_of_lt hlt)]
      exact (hf c hcm).1
  done := by
    intro X hP hw hK hc i pins s σ H E I hf st hg
    subst hP hw hK
    obtain ⟨hz, hTI, ⟨x0, y0, hTO⟩, h1, h2⟩ := st
    obtain ⟨o1, o2, l1, l2, hend⟩ := hg
    obtain ⟨f1, P1, S1, D1, st1, m1, a1, r1, k1⟩ := Src.draws I o1 hc h1 D.p_.2.2.1
    obtain ⟨f2, P2, S2, D2, st2, m2, a2, r2, k2⟩ := Src.draws I o2 hc h2 D.q_.2.2.2
    exact wpAny_pyNext_zipD2_end (D.sep m1 m2 a1 a2) D1 D2 hz hTI hTO st1 st2 l1 l2 hend fun h' tk hk => ⟨rfl, I.turnedL (ch := [z, TI, TO, i1, i2]) (fun c o hb q =>
      hk c o (fun q' => hb (by simp [q'])) (fun q' => hb (by simp [q'])) (fun q' => hb (by simp [q'])) (fun q' => hb (by simp [q'])) q) hf⟩
  self := fun A i s Q E st h => wpAny_pyIter_zip st.1 h
def iZipS (K : PySem.W.Frag) (ta : TA) : TI := fun σ H R => ta σ H fun vs H1 => ∃ p q : Src, vs = [p.val, q.val] ∧ p.holds K H1 ∧ q.holds K H1 ∧ R (ItS2 K p q) H1
theorem fpS {X : Cx} {pins : List (Addr × Obj)} {σ : St} {H : Hp} {s : Shared} {l : List Addr} (I : Inv X pins σ H s) (h : ∀ c ∈ l, s.heap.objs.size ≤ c) : ∀ c ∈ l, FpOk X pins H c := fun c m => I.fpOk (h c m) (I.hok.fresh (h c m))
theorem pi_zipS {X : Cx} {e e2 : Expr} {ta : TA} {p pos tpos : Pos} {elts : List Expr} {kk : Nat} (hg : Gl X "zip") (hm : X.mg "zip" = none) (ha : PA X [e, e2] ta)
    (hs : starEach [e, e2] X.env = (false, eval e X.env) :: starEach [e2] X.env := by rfl) (hpl : (backTo pos (starEach [e2] X.env)).any (·.1) = false := by rfl) :
    PI X (.Tuple elts kk tpos) (.Call (.Name "zip" p) [e, e2] [] pos) (iZipS X.K ta) := by
  refine ⟨fun pins s σ H R I h => ?_⟩
  refine Call_ (ld_blt I hg hm PyProof.Rows.boot_zip (PyProof.Rows.callWith_type1 (thn (ha.run pos pins s σ H _ I h) fun us s1 ⟨vs, H1, I1, r1, q1⟩ => ?_) hs hpl))
  obtain ⟨p, q, ex, o1, o2, q1⟩ := q1
  subst ex
  cases r1 with
  | cons r rr =>
    cases rr with
    | cons r' rr =>
      cases rr
      obtain ⟨ob1, G1, B1, g1, t1, f1⟩ := Src.begins I1 o1 r
      obtain ⟨ob2, G2, B2, g2, t2, f2⟩ := Src.begins I1 o2 r'
      refine zip_begins2 B1 B2 g1 g2 fun h' hz hTI hTO e1 e2 hsz hk => wpAny_pyIter_zip hz ?_
      have I2 : Inv X pins σ H1 { s1 with heap := h' } := I1.kept (t' := s1.toks) hk
      have D : Ap2 p q (s1.heap.objs.size + 4) (s1.heap.objs.size + 2) (s1.heap.objs.size + 3) s1.heap.objs.size (s1.heap.objs.size + 1) :=
        ⟨by show @Ne Nat _ _; omega, by show @Ne Nat _ _; omega, by show @Ne Nat _ _; omega, by show @Ne Nat _ _; omega, by show @Ne Nat _ _; omega, by show @Ne Nat _ _; omega, by show @Ne Nat _ _; omega, by show @Ne Nat _ _; omega, by show @Ne Nat _ _; omega, by show @Ne Nat _ _; omega, ⟨f1 _ (by omega), f1 _ (by omega), f1 _ (by omega), f1 _ (by omega)⟩, ⟨f2 _ (by omega), f2 _ (by omega), f2 _ (by omega), f2 _ (by omega)⟩⟩
      refine ⟨s1.heap.objs.size + 4, [s1.heap.objs.size + 4, s1.heap.objs.size + 2, s1.heap.objs.size + 3, s1.heap.objs.size, s1.heap.objs.size + 1], _, _, H1, rfl, I2, turn_S2 D, ⟨hz, hTI, ⟨_, _, hTO⟩, t1 _ _ e1, t2 _ _ e2⟩, fpS I1 fun c hc => ?_, q1⟩
      have e' : c = s1.heap.objs.size + 4 ∨ c = s1.heap.objs.size + 2 ∨ c = s1.heap.objs.size + 3 ∨ c = s1.heap.objs.size ∨ c = s1.heap.objs.size + 1 := by simpa using hc
      rcases e' with rfl | rfl | rfl | rfl | rfl <;> omega
theorem walk_S2 {K : PySem.W.Frag} {p q : Src} {n : Nat} (hn : n = min p.items.length q.items.length) : Walk (ItS2 K p q) n (fun H => p.holds K H ∧ q.holds K H) (YPair (fun i => p.items[i]?) (fun i => q.items[i]?)) := by
  subst hn
  exact ⟨fun i _ hi g => ⟨by omega, by omega, g.1, g.2⟩, fun _ g => ⟨g.1, g.2, by omega, by omega, by omega⟩, fun i H v H' _ g y => y⟩
/-! ### three -/
def ItS3 (K : PySem.W.Frag) (p q r : Src) : It :=
  ⟨fun i H => i < p.items.length ∧ i < q.items.length ∧ i < r.items.length ∧ p.holds K H ∧ q.holds K H ∧ r.holds K H,
    fun i H v H' => ∃ T x y u, v = .ref T ∧ H T = none ∧ H' = upd H T (.tup [x, y, u]) ∧ p.items[i]? = some x ∧ q.items[i]? = some y ∧ r.items[i]? = some u,
    fun i H => p.holds K H ∧ q.holds K H ∧ r.holds K H ∧ i ≤ p.items.length ∧ i ≤ q.items.length ∧ i ≤ r.items.length ∧ (i = p.items.length ∨ i = q.items.length ∨ i = r.items.length)⟩
structure Ap3 (p q r : Src) (z TI TO i1 i2 i3 : Addr) : Prop where
  ap : Ap2 p q z TI TO i1 i2
  TIi3 : TI ≠ i3
  zi3 : z ≠ i3
  Ti3 : TO ≠ i3
  i13 : i1 ≠ i3
  i23 : i2 ≠ i3
  p_ : p.off i3
  q_ : q.off i3
  r_ : r.off z ∧ r.off TO ∧ r.off i1 ∧ r.off i2 ∧ r.off i3
theorem Ap3.sep {p q r : Src} {z TI TO i1 i2 i3 : Addr} {f1 f2 f3 : List Addr} (D : Ap3 p q r z TI TO i1 i2 i3) (m1 : i1 ∈ f1) (m2 : i2 ∈ f2) (m3 : i3 ∈ f3) (h1 : ∀ b ∈ f1, b = i1 ∨ ¬ p.off b) (h2 : ∀ b ∈ f2, b = i2 ∨ ¬ q.off b) (h3 : ∀ b ∈ f3, b = i3 ∨ ¬ r.off b) : ZipSep3 z TI TO i1 i2 i3 f1 f2 f3 where
  TIz := D.ap.TIz
  TOz := D.ap.TOz
  TITO := D.ap.TITO
  TIi1 := D.ap.TIi1
  TIi2 := D.ap.TIi2
  TIi3 := D.TIi3
  mem1 := m1
  mem2 := m2
  mem3 := m3
  zf1 := fun m => (h1 _ m).elim D.ap.zi1 fun n => n D.ap.p_.1
  zf2 := fun m => (h2 _ m).elim D.ap.zi2 fun n => n D.ap.q_.1
  zf3 := fun m => (h3 _ m).elim D.zi3 fun n => n D.r_.1
  Tf1 := fun m => (h1 _ m).elim D.ap.Ti1 fun n => n D.ap.p_.2.1
  Tf2 := fun m => (h2 _ m).elim D.ap.Ti2 fun n => n D.ap.q_.2.1
  Tf3 := fun m => (h3 _ m).elim D.Ti3 fun n => n D.r_.2.1
  sep1_2 := fun m => (h2 _ m).elim D.ap.i12 fun n => n D.ap.q_.2.2.1
  sep1_3 := fun m => (h3 _ m).elim D.i13 fun n => n D.r_.2.2.1
  sep2_1 := fun m => (h1 _ m).elim (fun e => D.ap.i12 e.symm) fun n => n D.ap.p_.2.2.2
  sep2_3 := fun m => (h3 _ m).elim D.i23 fun n => n D.r_.2.2.2.1
  sep3_1 := fun m => (h1 _ m).elim (fun e => D.i13 e.symm) fun n => n D.p_
  sep3_2 := fun m => (h2 _ m).elim (fun e => D.i23 e.symm) fun n => n D.q_
theorem turn_S3 {P : Program} {w : World} {K : PySem.W.Frag} {elts : List Expr} {kk : Nat} {tpos : Pos} {p q r : Src} {z TI TO i1 i2 i3 : Addr} (D : Ap3 p q r z TI TO i1 i2 i3) :
    Turn P w K (.Tuple elts kk tpos) (ItS3 K p q r) [z, TI, TO, i1, i2, i3] z (fun i h => IsZip h z TI TO .none ∧ IsTupOf3 h TI (.ref i1) (.ref i2) (.ref i3) ∧ (∃ x y u, IsTupOf3 h TO x y u) ∧ p.at_ i1 i h ∧ q.at_ i2 i h ∧ r.at_ i3 i h) where
  mem := by simp
  obj := fun i h st c hc => by
    obtain ⟨hz, hTI, ⟨x, y, u, hTO⟩, h1, h2, h3⟩ := st
    have e' : c = z ∨ c = TI ∨ c = TO ∨ c = i1 ∨ c = i2 ∨ c = i3 := by simpa using hc
    rcases e' with q | q | q | q | q | q
    · rw [q]; exact ⟨_, hz, fun v q => nomatch q⟩
    · rw [q]; exact ⟨_, hTI, fun v q => nomatch q⟩
    · rw [q]; exact ⟨_, hTO, fun v q => nomatch q⟩
    · rw [q]; exact Src.at_obj h1
    · rw [q]; exact Src.at_obj h2
    · rw [q]; exact Src.at_obj h3
  keep := fun i h h' st k => by
    obtain ⟨hz, hTI, ⟨x, y, u, hTO⟩, h1, h2, h3⟩ := st
    exact ⟨k z (by simp) _ hz, k TI (by simp) _ hTI, ⟨x, y, u, k TO (by simp) _ hTO⟩, Src.at_keep (fun o q => k i1 (by simp) o q) h1, Src.at_keep (fun o q => k i2 (by simp) o q) h2, Src.at_keep (fun o q => k i3 (by simp) o q) h3⟩
  item := by
    intro X hP hw hK hc i pins s σ H E I hf st hg
    subst hP hw hK
    obtain ⟨hz, hTI, ⟨x0, y0, u0, hTO⟩, h1, h2, h3⟩ := st
    obtain ⟨l1, l2, l3, o1, o2, o3⟩ := hg
    obtain ⟨f1, P1, S1, D1, st1, m1, a1, r1, k1⟩ := Src.draws I o1 hc h1 D.ap.p_.2.2.1
    obtain ⟨f2, P2, S2, D2, st2, m2, a2, r2, k2⟩ := Src.draws I o2 hc h2 D.ap.q_.2.2.2
    obtain ⟨f3, P3, S3, D3, st3, m3, a3, r3, k3⟩ := Src.draws I o3 hc h3 D.r_.2.2.2.2
    have hzl : z < s.heap.objs.size := Heap.lt_size hz
    refine wpAny_pyNext_zipD3_item (D.sep m1 m2 m3 a1 a2 a3) D1 D2 D3 hz hTI hTO st1 st2 st3 l1 l2 l3 fun u u2 u3 h' tk p1 p2 p3 z' TO' s1 s2 s3 hT hsz hk => ?_
    have hx := List.getElem?_eq_getElem l1
    have hy := List.getElem?_eq_getElem l2
    have hw := List.getElem?_eq_getElem l3
    have ru := r1 _ _ _ p1 hx
    have ru2 := r2 _ _ _ p2 hy
    have ru3 := r3 _ _ _ p3 hw
    generalize p.items[i] = x at hx ru
    generalize q.items[i] = y at hy ru2
    generalize r.items[i] = y3 at hw ru3
    refine ⟨_, rfl, wpAny_letOwnedTupleGo_zip (s := { s with heap := h', toks := tk }) z' fun h'' z'' sb => ?_⟩
    have hT2 : h''.get? s.heap.objs.size = some { cls := .type "tuple", data := .seq #[u, u2, u3] } := (sb.2 _ (Nat.ne_of_gt hzl)).trans hT
    have new : ObjOk X.prog X.w (upd H s.heap.objs.size (.tup [x, y, y3])) h'' s.heap.objs.size (.tup [x, y, y3]) :=
      ⟨by show 3 ≤ sizeLine; decide, [u, u2, u3], .cons ru (.cons ru2 (.cons ru3 .nil)), ⟨_, hT2, rfl, _, rfl⟩⟩
    have I1 : Inv X pins σ (upd H s.heap.objs.size (.tup [x, y, y3])) { s with heap := h'', toks := tk } :=
      I.turnedNew (ch := [z, TI, TO, i1, i2, i3]) (fun c o hb q => (sb.2 c (fun q' => hb (by simp [q']))).trans (hk c o (fun q' => hb (by simp [q'])) (fun q' => hb (by simp [q'])) (fun q' => hb (by simp [q'])) (fun q' => hb (by simp [q'])) (fun q' => hb (by simp [q'])) q)) hf (Nat.le_refl _) new
    refine ⟨.ref s.heap.objs.size, _, I1, rfl, ⟨_, x, y, y3, rfl, I.hok.fresh (Nat.le_refl _), rfl, hx, hy, hw⟩, ⟨z'', ?_, ⟨u, u2, u3, ?_⟩, ?_, ?_, ?_⟩, fun c hcm => ?_⟩
    · exact (sb.2 _ D.ap.TIz).trans (hk _ _ D.ap.TIz D.ap.TITO D.ap.TIi1 D.ap.TIi2 D.TIi3 hTI)
    · exact (sb.2 _ D.ap.TOz).trans TO'
    · exact Src.at_keep (fun o q => (sb.2 _ (Ne.symm D.ap.zi1)).trans q) (k1 _ _ s1)
    · exact Src.at_keep (fun o q => (sb.2 _ (Ne.symm D.ap.zi2)).trans q) (k2 _ _ s2)
    · exact Src.at_keep (fun o q => (sb.2 _ (Ne.symm D.zi3)).trans q) (k3 _ _ s3)
    · have hlt : c < s.heap.objs.size := by
        have e' : c = z ∨ c = TI ∨ c = TO ∨ c = i1 ∨ c = i2 ∨ c = i3 := by simpa using hcm
        rcases e' with q | q | q | q | q | q
        · rw [q]; exact hzl
        · rw [q]; exact Heap.lt_size hTI
        · rw [q]; exact Heap.lt_size hTO
        · rw [q]; obtain ⟨_, e1, _⟩ := Src.at_obj h1; exact Heap.lt_size e1
        · rw [q]; obtain ⟨_, e2, _⟩ := Src.at_obj h2; exact Heap.lt_size e2
        · rw [q]; obtain ⟨_, e2, _⟩ := Src.at_obj h3; exact Heap.lt_size e2
      rw [upd_ne (Nat.ne_of_lt hlt)]
      exact (hf c hcm).1
  done := by
    intro X hP hw hK hc i pins s σ H E I hf st hg
    subst hP hw hK
    obtain ⟨hz, hTI, ⟨x0, y0, u0, hTO⟩, h1, h2, h3⟩ := st
    obtain ⟨o1, o2, o3, l1, l2, l3, hend⟩ := hg
    obtain ⟨f1, P1, S1, D1, st1, m1, a1, r1, k1⟩ := Src.draws I o1 hc h1 D.ap.p_.2.2.1
    obtain ⟨f2, P2, S2, D2, st2, m2, a2, r2, k2⟩ := Src.draws I o2 hc h2 D.ap.q_.2.2.2
    obtain ⟨f3, P3, S3, D3, st3, m3, a3, r3, k3⟩ := Src.draws I o3 hc h3 D.r_.2.2.2.2
    exact wpAny_pyNext_zipD3_end (D.sep m1 m2 m3 a1 a2 a3) D1 D2 D3 hz hTI hTO st1 st2 st3 l1 l2 l3 hend fun h' tk hk => ⟨rfl, I.turnedL (ch := [z, TI, TO, i1, i2, i3]) (fun c o hb q =>
      hk c o (fun q' => hb (by simp [q'])) (fun q' => hb (by simp [q'])) (fun q' => hb (by simp [q'])) (fun q' => hb (by simp [q'])) (fun q' => hb (by simp [q'])) q) hf⟩
  self := fun A i s Q E st h => wpAny_pyIter_zip st.1 h
def iZipS3 (K : PySem.W.Frag) (ta : TA) : TI := fun σ H R => ta σ H fun vs H1 => ∃ p q r : Src, vs = [p.val, q.val, r.val] ∧ p.holds K H1 ∧ q.holds K H1 ∧ r.holds K H1 ∧ R (ItS3 K p q r) H1
theorem pi_zipS3 {X : Cx} {e e2 e3 : Expr} {ta : TA} {p pos tpos : Pos} {elts : List Expr} {kk : Nat} (hg : Gl X "zip") (hm : X.mg "zip" = none) (ha : PA X [e, e2, e3] ta)
    (hs : starEach [e, e2, e3] X.env = (false, eval e X.env) :: starEach [e2, e3] X.env := by rfl) (hpl : (backTo pos (starEach [e2, e3] X.env)).any (·.1) = false := by rfl) :
    PI X (.Tuple elts kk tpos) (.Call (.Name "zip" p) [e, e2, e3] [] pos) (iZipS3 X.K ta) := by
  refine ⟨fun pins s σ H R I h => ?_⟩
  refine Call_ (ld_blt I hg hm PyProof.Rows.boot_zip (PyProof.Rows.callWith_type1 (thn (ha.run pos pins s σ H _ I h) fun us s1 ⟨vs, H1, I1, r1, q1⟩ => ?_) hs hpl))
  obtain ⟨p, q, r, ex, o1, o2, o3, q1⟩ := q1
  subst ex
  cases r1 with
  | cons ra rr =>
    cases rr with
    | cons rb rr =>
      cases rr with
      | cons rc rr =>
        cases rr
        obtain ⟨ob1, G1, B1, g1, t1, f1⟩ := Src.begins I1 o1 ra
        obtain ⟨ob2, G2, B2, g2, t2, f2⟩ := Src.begins I1 o2 rb
        obtain ⟨ob3, G3, B3, g3, t3, f3⟩ := Src.begins I1 o3 rc
        refine zip_begins3 B1 B2 B3 g1 g2 g3 fun h' hz hTI hTO e1 e2 e3 hsz hk => wpAny_pyIter_zip hz ?_
        have I2 : Inv X pins σ H1 { s1 with heap := h' } := I1.kept (t' := s1.toks) hk
        have D : Ap3 p q r (s1.heap.objs.size + 5) (s1.heap.objs.size + 3) (s1.heap.objs.size + 4) s1.heap.objs.size (s1.heap.objs.size + 1) (s1.heap.objs.size + 2) :=
          ⟨⟨by show @Ne Nat _ _; omega, by show @Ne Nat _ _; omega, by show @Ne Nat _ _; omega, by show @Ne Nat _ _; omega, by show @Ne Nat _ _; omega, by show @Ne Nat _ _; omega, by show @Ne Nat _ _; omega, by show @Ne Nat _ _; omega, by show @Ne Nat _ _; omega, by show @Ne Nat _ _; omega, ⟨f1 _ (by omega), f1 _ (by omega), f1 _ (by omega), f1 _ (by omega)⟩, ⟨f2 _ (by omega), f2 _ (by omega), f2 _ (by omega), f2 _ (by omega)⟩⟩, by show @Ne Nat _ _; omega, by show @Ne Nat _ _; omega, by show @Ne Nat _ _; omega, by show @Ne Nat _ _; omega, by show @Ne Nat _ _; omega, f1 _ (by omega), f2 _ (by omega), ⟨f3 _ (by omega), f3 _ (by omega), f3 _ (by omega), f3 _ (by omega), f3 _ (by omega)⟩⟩
        refine ⟨s1.heap.objs.size + 5, [s1.heap.objs.size + 5, s1.heap.objs.size + 3, s1.heap.objs.size + 4, s1.heap.objs.size, s1.heap.objs.size + 1, s1.heap.objs.size + 2], _, _, H1, rfl, I2, turn_S3 D, ⟨hz, hTI, ⟨_, _, _, hTO⟩, t1 _ _ e1, t2 _ _ e2, t3 _ _ e3⟩, fpS I1 fun c hc => ?_, q1⟩
        have e' : c = s1.heap.objs.size + 5 ∨ c = s1.heap.objs.size + 3 ∨ c = s1.heap.objs.size + 4 ∨ c = s1.heap.objs.size ∨ c = s1.heap.objs.size + 1 ∨ c = s1.heap.objs.size + 2 := by simpa using hc
        rcases e' with rfl | rfl | rfl | rfl | rfl | rfl <;> omega
def YTri (xs ys us : Nat → Option V) : Nat → Hp → V → Hp → Prop := fun i H v H' => ∃ T x y u, v = .ref T ∧ H T = none ∧ H' = upd H T (.tup [x, y, u]) ∧ xs i = some x ∧ ys i = some y ∧ us i = some u
theorem walk_S3 {K : PySem.W.Frag} {p q r : Src} {n : Nat} (hn : n = min (min p.items.length q.items.length) r.items.length) : Walk (ItS3 K p q r) n (fun H => p.holds K H ∧ q.holds K H ∧ r.holds K H) (YTri (fun i => p.items[i]?) (fun i => q.items[i]?) (fun i => r.items[i]?)) := by
  subst hn
  exact ⟨fun i _ hi g => ⟨by omega, by omega, by omega, g.1, g.2.1, g.2.2⟩, fun _ g => ⟨g.1, g.2.1, g.2.2, by omega, by omega, by omega, by omega⟩, fun i H v H' _ g y => y⟩
/-! ### enumerate -/
set_option maxHeartbeats 2000000 in
theorem meets_enumS {v : Value} {o : Obj} {H : Heap → Prop} (B : Begins v o H) :
    Meets (Builtin.«enumerate.__new__» ⟨[.type "enumerate", v], []⟩) (fun _ R s => H s.heap ∧
      R (.ok (.ret (.ref (s.heap.push o).objs.size))) { s with heap := (s.heap.push o).push { cls := .type "enumerate", data := .fields #[.none, .bool false, .ref s.heap.objs.size, rawInt 0, .none, .none] } }) :=
  .of_wp fun prog w A R s h => by
    obtain ⟨hp, g, d, tk, os⟩ := s; obtain ⟨h1, h⟩ := h
    have hsub := sub_enumerate
    have q1 : ∀ {A' : Around} {E : Value → Shared → Prop} {Q : Value → Shared → Prop}, Q (.ref hp.objs.size) ⟨hp.push o, g, d, tk, os⟩ → wpAny (model prog w) A' (pyIter v) Q E ⟨hp, g, d, tk, os⟩ :=
      fun q => B.iter prog w _ _ ⟨hp, g, d, tk, os⟩ _ h1 q
    wp_walk using q1
    refine wpAny_stack_any fun st => wpAny_pure ?_
    split
    · rename_i c _ _ _ _ _
      cases (c == Value.type "enumerate")
      · wp_walk using q1
        exact ⟨_, rfl, h⟩
      · wp_walk using q1
        exact ⟨_, rfl, h⟩
    · wp_walk using q1
      exact ⟨_, rfl, h⟩
section
variable {prog : Program} {w : World} {A : Around} {E : Value → Shared → Prop} {s : Shared}
theorem call_enumS {v : Value} {o : Obj} {H : Heap → Prop} {Q : Value → Shared → Prop} (B : Begins v o H) (h1 : H s.heap)
    (h : ∀ h', IsEnum h' (s.heap.objs.size + 1) s.heap.objs.size 0 .none → h'.get? s.heap.objs.size = some o → h'.objs.size = s.heap.objs.size + 2 →
      (∀ b o, s.heap.get? b = some o → h'.get? b = some o) → Q (.ref (s.heap.objs.size + 1)) { s with heap := h' }) :
    wpAny (model prog w) A (call (.type "enumerate") [v]) Q E s := by
  refine callType_new F.called_enumerate (by decide) (F.typeCall_enumerate_1 _) (F.newCall_enumerate_1 _) (fun obj => F.args_object_init_2 obj _) F.entry_enumerate_new
    (meets_enumS B) ⟨h1, ?_⟩
  have hz : (s.heap.push o).objs.size = s.heap.objs.size + 1 := Heap.size_push ..
  show _ ∧ _
  rw [hz]
  have he : IsEnum ((s.heap.push o).push { cls := .type "enumerate", data := .fields #[.none, .bool false, .ref s.heap.objs.size, rawInt 0, .none, .none] }) (s.heap.objs.size + 1) s.heap.objs.size 0 .none := by
    have := Heap.get?_push_size (s.heap.push o) (o := { cls := .type "enumerate", data := .fields #[.none, .bool false, .ref s.heap.objs.size, rawInt 0, .none, .none] }) rfl
    rw [hz] at this; exact this
  refine ⟨⟨_, he, rfl⟩, h _ he (Heap.get?_push_of_some _ (Heap.get?_push_size _ B.free)) (by rw [Heap.size_push, hz]) fun b o x => Heap.get?_push_of_some _ (Heap.get?_push_of_some _ x)⟩
end
def ItSe (K : PySem.W.Frag) (p : Src) : It :=
  ⟨fun i H => i < p.items.length ∧ p.holds K H,
    fun i H v H' => ∃ T x, v = .ref T ∧ H T = none ∧ H' = upd H T (.tup [.int (i : Nat), x]) ∧ p.items[i]? = some x,
    fun i H => p.holds K H ∧ i = p.items.length⟩
theorem turn_Se {P : Program} {w : World} {K : PySem.W.Frag} {elts : List Expr} {kk : Nat} {tpos : Pos} {p : Src} {e it : Addr} (hne : e ≠ it) (oe : p.off e) (oi : p.off it) :
    Turn P w K (.Tuple elts kk tpos) (ItSe K p) [e, it] e (fun i h => (∃ old, IsEnum h e it ((i : Nat) : Int) old) ∧ p.at_ it i h) where
  mem := by simp
  obj := fun i h st b hb => by
    obtain ⟨⟨old, he⟩, h1⟩ := st
    have e' : b = e ∨ b = it := by simpa using hb
    rcases e' with z | z
    · rw [z]; exact ⟨_, he, fun v q => nomatch q⟩
    · rw [z]; exact Src.at_obj h1
  keep := fun i h h' st k => let ⟨⟨old, he⟩, hi⟩ := st; ⟨⟨old, k e (by simp) _ he⟩, Src.at_keep (fun o q => k it (by simp) o q) hi⟩
  item := by
    intro X hP hw hK hc i pins s σ H E I hf st hg
    subst hP hw hK
    obtain ⟨⟨old, he⟩, h1⟩ := st
    obtain ⟨l1, o1⟩ := hg
    obtain ⟨f1, P1, S1, D1, st1, m1, a1, r1, k1⟩ := Src.draws I o1 hc h1 oi
    have hel : e < s.heap.objs.size := Heap.lt_size he
    have hil : it < s.heap.objs.size := by obtain ⟨_, q, _⟩ := Src.at_obj h1; exact Heap.lt_size q
    refine wpAny_pyNext_enum_itemD D1 he st1 l1 hne (fun m => (a1 _ m).elim hne fun n => n oe) fun u h' tk p1 ho s1 hT hsz hk => ?_
    have hx := List.getElem?_eq_getElem l1
    have ru := r1 _ _ _ p1 hx
    generalize p.items[i] = x at hx ru
    refine ⟨_, rfl, wpAny_letOwnedTupleGo_enum (s := { s with heap := h', toks := tk + 1 }) ho fun h'' he' sb => ?_⟩
    have hT2 : h''.get? s.heap.objs.size = some { cls := .type "tuple", data := .seq #[.int i tk, u] } := (sb.2 _ (Nat.ne_of_gt hel)).trans hT
    have new : ObjOk X.prog X.w (upd H s.heap.objs.size (.tup [.int (i : Nat), x])) h'' s.heap.objs.size (.tup [.int (i : Nat), x]) :=
      ⟨by show 2 ≤ sizeLine; decide, [.int i tk, u], .cons ⟨_, rfl⟩ (.cons ru .nil), ⟨_, hT2, rfl, _, rfl⟩⟩
    have I1 : Inv X pins σ (upd H s.heap.objs.size (.tup [.int (i : Nat), x])) { s with heap := h'', toks := tk + 1 } :=
      I.turnedNew (ch := [e, it]) (fun b ob hb q => (sb.2 b (fun z => hb (by simp [z]))).trans (hk b ob (fun z => hb (by simp [z])) (fun z => hb (by simp [z])) q)) hf (Nat.le_refl _) new
    refine ⟨.ref s.heap.objs.size, _, I1, rfl, ⟨_, x, rfl, I.hok.fresh (Nat.le_refl _), rfl, hx⟩, ⟨⟨u, ?_⟩, Src.at_keep (fun o q => (sb.2 it (Ne.symm hne)).trans q) (k1 _ _ s1)⟩, fun b hb => ?_⟩
    · have e1 : ((i + 1 : Nat) : Int) = (i : Int) + 1 := by omega
      rw [e1]; exact he'
    · have hb' : b < s.heap.objs.size := by
        have e' : b = e ∨ b = it := by simpa using hb
        rcases e' with z | z
        · rw [z]; exact hel
        · rw [z]; exact hil
      rw [upd_ne (Nat.ne_of_lt hb')]
      exact (hf b hb).1
  done := by
    intro X hP hw hK hc i pins s σ H E I hf st hg
    subst hP hw hK
    obtain ⟨⟨old, he⟩, h1⟩ := st
    obtain ⟨o1, rfl⟩ := hg
    obtain ⟨f1, P1, S1, D1, st1, m1, a1, r1, k1⟩ := Src.draws I o1 hc h1 oi
    obtain ⟨f0, f1, f2, f3, f4, f5⟩ := hf it (by simp)
    exact wpAny_pyNext_enum_endD D1 he st1 fun h' eb => ⟨rfl, I.turned (t' := s.toks) (fun b o hb q => eb b o hb q) f0 f1 f3 f4 f5⟩
  self := fun A i s Q E st h => let ⟨⟨_, he⟩, _⟩ := st; wpAny_pyIter_enum he h
def iEnumS (K : PySem.W.Frag) (ta : TA) : TI := fun σ H R => ta σ H fun vs H1 => ∃ p : Src, vs = [p.val] ∧ p.holds K H1 ∧ R (ItSe K p) H1
theorem pi_enumS {X : Cx} {e : Expr} {ta : TA} {p pos tpos : Pos} {elts : List Expr} {kk : Nat} (hg : Gl X "enumerate") (hm : X.mg "enumerate" = none) (ha : PA X [e] ta) (hs : starEach [e] X.env = [(false, eval e X.env)] := by rfl) :
    PI X (.Tuple elts kk tpos) (.Call (.Name "enumerate" p) [e] [] pos) (iEnumS X.K ta) := by
  refine ⟨fun pins s σ H R I h => ?_⟩
  refine Call_ (ld_blt I hg hm boot_enumerate (PyProof.Rows.callWith_type1 (thn (ha.run pos pins s σ H _ I h) fun us s1 ⟨vs, H1, I1, r1, q1⟩ => ?_) hs rfl))
  obtain ⟨p, ex, o1, q⟩ := q1
  subst ex
  cases r1 with
  | cons r rr =>
    cases rr
    obtain ⟨ob1, G1, B1, g1, t1, f1⟩ := Src.begins I1 o1 r
    refine call_enumS B1 g1 fun h' he e1 hsz hk => wpAny_pyIter_enum he ?_
    have I2 : Inv X pins σ H1 { s1 with heap := h' } := I1.kept (t' := s1.toks) hk
    refine ⟨s1.heap.objs.size + 1, [s1.heap.objs.size + 1, s1.heap.objs.size], _, _, H1, rfl, I2, turn_Se (Nat.succ_ne_self _) (f1 _ (by omega)) (f1 _ (by omega)), ⟨⟨.none, he⟩, t1 _ _ e1⟩, fpS I1 fun b hb => ?_, q⟩
    have e' : b = s1.heap.objs.size + 1 ∨ b = s1.heap.objs.size := by simpa using hb
    rcases e' with rfl | rfl <;> omega
theorem walk_Se {K : PySem.W.Frag} {p : Src} : Walk (ItSe K p) p.items.length (fun H => p.holds K H) (YPair (fun i => some (.int (i : Nat))) (fun i => p.items[i]?)) := by
  refine ⟨fun i _ hi g => ⟨hi, g⟩, fun _ g => ⟨g, rfl⟩, fun i H v H' _ g y => ?_⟩
  obtain ⟨T, x, h1, h2, h3, h4⟩ := y
  exact ⟨T, .int (i : Nat), x, h1, h2, h3, rfl, h4⟩
end L2.FW
end
section
set_option maxRecDepth 100000
set_option maxHeartbeats 4000000
/-! sorted of texts, of tuples of three texts: any number of them. -/
namespace SrtO
open PySem PyProof.Rows Srt
section
variable {α : Type} (lt : α → α → Prop) [DecidableRel lt] [DecidableEq α]
def lex3 (p q : α × α × α) : Bool := if p.1 = q.1 then (if p.2.1 = q.2.1 then decide (lt p.2.2 q.2.2) else decide (lt p.2.1 q.2.1)) else decide (lt p.1 q.1)
theorem lex3_a {p q : α × α × α} (h : ¬ p.1 = q.1) : lex3 lt p q = decide (lt p.1 q.1) := if_neg h
theorem lex3_b {p q : α × α × α} (h : p.1 = q.1) (h2 : ¬ p.2.1 = q.2.1) : lex3 lt p q = decide (lt p.2.1 q.2.1) := (if_pos h).trans (if_neg h2)
theorem lex3_c {p q : α × α × α} (h : p.1 = q.1) (h2 : p.2.1 = q.2.1) : lex3 lt p q = decide (lt p.2.2 q.2.2) := (if_pos h).trans (if_pos h2)
theorem swo_lex3 {β : Type} (k : β → α × α × α) (ir : ∀ a, ¬ lt a a) (tr : ∀ a b c, lt a b → lt b c → lt a c) (tot : ∀ a b, a ≠ b → lt a b ∨ lt b a) : Swo fun x y => lex3 lt (k x) (k y) := by
  have as : ∀ a b, lt a b → ¬ lt b a := fun a b h h' => ir a (tr a b a h h')
  refine ⟨fun x y h => ?_, fun x y z h1 h2 => ?_⟩
  · simp only [lex3] at h ⊢
    generalize k x = p at *
    generalize k y = q at *
    obtain ⟨a, b, c⟩ := p
    obtain ⟨a', b', c'⟩ := q
    simp only at *
    by_cases e : a = a'
    · subst e
      simp only [if_true] at *
      by_cases e : b = b'
      · subst e
        simp only [if_true] at *
        simpa using as _ _ (of_decide_eq_true h)
      · rw [if_neg e] at h
        rw [if_neg (Ne.symm e)]
        simpa using as _ _ (of_decide_eq_true h)
    · rw [if_neg e] at h
      rw [if_neg (Ne.symm e)]
      simpa using as _ _ (of_decide_eq_true h)
  · simp only [lex3] at *
    generalize k x = p at *
    generalize k y = q at *
    generalize k z = r at *
    obtain ⟨a, b, c⟩ := p
    obtain ⟨a', b', c'⟩ := q
    obtain ⟨a2, b2, c2⟩ := r
    simp only at *
    have nt : ∀ u v w, ¬ lt v u → ¬ lt w v → ¬ lt w u := fun u v w h1 h2 h3 => by
      by_cases e : w = v
      · subst e; exact h1 h3
      · rcases tot _ _ e with h | h
        · exact h2 h
        · exact h1 (tr _ _ _ h h3)
    have sq : ∀ u v w, ¬ lt v u → ¬ lt w v → w = u → u = v := fun u v w h1 h2 h3 => by
      subst h3
      by_cases e : w = v
      · exact e
      · rcases tot _ _ e with h | h
        · exact (h2 h).elim
        · exact (h1 h).elim
    have n1 : ¬ lt a' a := fun h => by
      by_cases e : a' = a
      · subst e; exact ir _ h
      · rw [if_neg e] at h1; simp [h] at h1
    have n2 : ¬ lt a2 a' := fun h => by
      by_cases e : a2 = a'
      · subst e; exact ir _ h
      · rw [if_neg e] at h2; simp [h] at h2
    by_cases e : a2 = a
    · have e1 := sq a a' a2 n1 n2 e
      subst e e1
      simp only [if_true] at *
      have m1 : ¬ lt b' b := fun h => by
        by_cases e : b' = b
        · subst e; exact ir _ h
        · rw [if_neg e] at h1; simp [h] at h1
      have m2 : ¬ lt b2 b' := fun h => by
        by_cases e : b2 = b'
        · subst e; exact ir _ h
        · rw [if_neg e] at h2; simp [h] at h2
      by_cases e : b2 = b
      · have e1 := sq b b' b2 m1 m2 e
        subst e e1
        simp only [if_true] at *
        simpa using nt c c' c2 (by simpa using h1) (by simpa using h2)
      · rw [if_neg e]
        simpa using nt b b' b2 m1 m2
    · rw [if_neg e]
      simpa using nt a a' a2 n1 n2
end
section
variable {prog : Program} {w : World} {A : Around} {E : Value → Shared → Prop} {s : Shared}
/-- a tuple of three texts -/
def IsTri (h : Heap) (v : Value) (k : PySem.Str × PySem.Str × PySem.Str) : Prop := ∃ a o t u r n, v = .ref a ∧ h.get? a = some o ∧ o.cls = .type "tuple" ∧ o.data = .seq #[.str k.1 t, .str k.2.1 u, .str k.2.2 r] n
theorem IsTri.keeps {h h' : Heap} {v : Value} {k : PySem.Str × PySem.Str × PySem.Str} (p : IsTri h v k) (kk : ∀ b o, h.get? b = some o → o.cls = .type "tuple" → h'.get? b = some o) : IsTri h' v k := by
  obtain ⟨a, o, t, u, r, n, e, ho, hc, hd⟩ := p
  exact ⟨a, o, t, u, r, n, e, kk a o ho hc, hc, hd⟩
def keyS (k : PySem.Str × PySem.Str × PySem.Str) : List Nat × List Nat × List Nat := (k.1.cps.toList, k.2.1.cps.toList, k.2.2.cps.toList)
abbrev ltT (k : Value → PySem.Str × PySem.Str × PySem.Str) (x y : Value) : Bool := lex3 (· < ·) (keyS (k x)) (keyS (k y))
theorem swo_tri (k : Value → PySem.Str × PySem.Str × PySem.Str) : Swo (ltT k) :=
  swo_lex3 (α := List Nat) (· < ·) (fun v => keyS (k v)) (fun a => List.lt_irrefl a) (fun a b c h1 h2 => List.lt_trans h1 h2) fun a b h => by
    by_cases e : a < b
    · exact .inl e
    · by_cases e2 : b < a
      · exact .inr e2
      · exact (h (List.le_antisymm (List.not_lt.mp e2) (List.not_lt.mp e))).elim
theorem str_eq {a b : PySem.Str} : (a == b) = decide (a.cps.toList = b.cps.toList) := by
  by_cases h : a = b
  · subst h; simp
  · have : ¬ a.cps.toList = b.cps.toList := fun e => h (by
      obtain ⟨x⟩ := a
      obtain ⟨y⟩ := b
      have : x = y := Array.toList_inj.mp e
      rw [this])
    simp [h, this]
theorem tri_cmp {vs : List Value} {k : Value → PySem.Str × PySem.Str × PySem.Str} (hp : ∀ v ∈ vs, IsTri s.heap v (k v)) : Cmp prog w A s (tuples' true) (fun p => p.1 ∈ vs) (lt2 (ltT k)) := by
  intro p q hm hm'
  have h1 := hp _ hm
  have h2 := hp _ hm'
  show wpAny (model prog w) A (keyLt' (tuples' true) p.1 q.1) (fun r s' => s' = s ∧ r = lex3 (· < ·) (keyS (k p.1)) (keyS (k q.1))) (fun _ _ => False) s
  generalize k p.1 = K1 at h1 ⊢
  generalize k q.1 = K2 at h2 ⊢
  obtain ⟨x, y, z⟩ := K1
  obtain ⟨x', y', z'⟩ := K2
  obtain ⟨a, o, t, u, r, n, e, ho, hc, hd⟩ := h1
  obtain ⟨a', o', t', u', r', n', e', ho', hc', hd'⟩ := h2
  rw [e, e']
  have d1 : ∀ {a b : PySem.Str}, decide (a.cps.toList = b.cps.toList) = true → a.cps.toList = b.cps.toList := fun h => of_decide_eq_true h
  have d0 : ∀ {a b : PySem.Str}, decide (a.cps.toList = b.cps.toList) = false → ¬ a.cps.toList = b.cps.toList := fun h => of_decide_eq_false h
  refine PySem.W.kat_lt ho hd ho' hd' ?_
  show PySem.W.KatLex prog w A true (decide (3 < 3)) _ [(.str x t, .str x' t'), (.str y u, .str y' u'), (.str z r, .str z' r')] 0 s
  refine PySem.W.kat_cons (SeqAt.EqAt.str_str x t x' t' prog w _ _ ?_)
  rw [str_eq]
  refine PySem.W.kat_go (fun e1 => ?_) (fun e1 => ?_)
  · refine PySem.W.kat_yes (PySem.W.kat_cons (SeqAt.EqAt.str_str y u y' u' prog w _ _ ?_))
    rw [str_eq]
    refine PySem.W.kat_go (fun e2 => ?_) (fun e2 => ?_)
    · refine PySem.W.kat_yes (PySem.W.kat_cons (SeqAt.EqAt.str_str z r z' r' prog w _ _ ?_))
      rw [str_eq]
      have L := lex3_c (· < ·) (p := keyS (x, y, z)) (q := keyS (x', y', z')) (d1 e1) (d1 e2)
      refine PySem.W.kat_go (fun e3 => ?_) (fun e3 => ?_)
      · refine PySem.W.kat_yes (PySem.W.kat_nil ⟨rfl, ?_⟩)
        rw [L]
        have e4 : (keyS (x, y, z)).2.2 = (keyS (x', y', z')).2.2 := d1 e3
        rw [e4]
        exact (decide_eq_false (List.lt_irrefl _)).symm
      · exact PySem.W.kat_no (PySem.W.kat_one _ _ (PyProof.Rows.lt_str ⟨rfl, L.symm⟩))
    · exact PySem.W.kat_no (PySem.W.kat_one _ _ (PyProof.Rows.lt_str ⟨rfl, (lex3_b (· < ·) (p := keyS (x, y, z)) (q := keyS (x', y', z')) (d1 e1) (d0 e2)).symm⟩))
  · exact PySem.W.kat_no (oneLt_str ⟨rfl, (lex3_a (· < ·) (p := keyS (x, y, z)) (q := keyS (x', y', z')) (d0 e1)).symm⟩)
theorem firsts_tri {h : Heap} : ∀ {vs : List Value}, (∀ v ∈ vs, ∃ k, IsTri h v k) → ∃ fs : List Value, PySem.W.KatTups h vs fs ∧ fs.length = vs.length ∧ ∀ f ∈ fs, ∃ x t, f = Value.str x t
  | [], _ => ⟨[], PySem.W.KatTups.nil, rfl, fun _ hm => by simp at hm⟩
  | v :: vs, hp => by
    obtain ⟨fs, h1, h2, h3⟩ := firsts_tri (vs := vs) fun v' hm => hp v' (List.mem_cons_of_mem _ hm)
    obtain ⟨⟨x, y, z⟩, a, o, t, u, r, n, e, ho, hc, hd⟩ := hp v (List.mem_cons_self ..)
    subst e
    refine ⟨.str x t :: fs, PySem.W.KatTups.cons ho hc hd rfl h1, by rw [List.length_cons, List.length_cons, h2], fun f hm => ?_⟩
    rcases List.mem_cons.mp hm with rfl | hm
    · exact ⟨x, t, rfl⟩
    · exact h3 f hm
theorem tri_sortableO {a : Addr} {vs : List Value} {k : Value → PySem.Str × PySem.Str × PySem.Str} (h0 : 0 < vs.length) (hp : ∀ v ∈ vs, IsTri s.heap v (k v)) (ha : ∀ o, s.heap.get? a = some o → o.cls ≠ .type "tuple") : SortableO prog w A s a vs (ltT k) := by
  intro h' keep
  have hp' : ∀ v ∈ vs, IsTri h' v (k v) := fun v hm => (hp v hm).keeps fun b o e c => keep b o (fun z => by subst z; exact ha o e c) e
  obtain ⟨fs, h1, h2, h3⟩ := firsts_tri fun v hm => ⟨_, hp' v hm⟩
  refine ⟨tuples' true, fun Q E hq => ?_, tri_cmp hp'⟩
  refine PySem.W.kat_kind (T := .type "str") h1 (by omega) (fun f hm => ?_) (by rfl) ?_
  · obtain ⟨x, t, rfl⟩ := h3 f hm
    exact PySem.W.Looks.now
  · have e : (Value.type "str" != Value.type "tuple") = true := by first | decide +kernel | rfl | decide
    rw [e]
    exact hq
end
end SrtO
namespace L2.FW
open PySem PySem.Spec PyProof.Rows
/-- sorted(xs), texts, any number of them -/
def rSortS (K : PySem.W.Frag) : List V → Hp → VK → Prop := fun vs H Q => ∃ (a : Addr) (xs : List Str), vs = [V.ref a] ∧ SqL K H a (xs.map V.str) ∧
  ∀ (ys : List Str) (p : Addr), ys.Perm xs → sortedS ys = true → H p = none → Q (.ref p) (upd H p (.lst (ys.map V.str)))
/-- sorted(xs), tuples of three texts -/
def rSortT3 (K : PySem.W.Frag) : List V → Hp → VK → Prop := fun vs H Q => ∃ (a : Addr) (xs : List V) (k : V → Str × Str × Str), vs = [V.ref a] ∧ SqL K H a xs ∧ (∀ x ∈ xs, ∃ t, x = V.ref t ∧ H t = some (.tup [.str (k x).1, .str (k x).2.1, .str (k x).2.2])) ∧
  ∀ ys p, ys.Perm xs → H p = none → Q (.ref p) (upd H p (.lst ys))
section
variable {X : Cx}
theorem cr_sortS : CallR X (.builtin "sorted") (rSortS X.K) := by
  intro pins s σ H vs us Q I r h
  obtain ⟨a, xs, rfl, hs, q⟩ := h
  obtain ⟨its, rv, hl, hz⟩ := I.list hs
  rw [Vals.ref1 r]
  have hlen0 := rv.length
  refine PyProof.Rows.sorted_strsAny hl.isList rv.strs (by rw [← hlen0]; exact hz) fun out ys h1 h2 h3 => ?_
  obtain ⟨ep, he'⟩ := PyProof.Rows.sortedAll_at s.heap its out
  have hlen : (ys.map V.str).length ≤ sizeLine := by rw [List.length_map, h2.length_eq]; rw [List.length_map] at hz; exact hz
  exact ⟨.ref _, upd H (s.heap.objs.size + 1) (.lst (ys.map V.str)), I.laid (t' := s.toks) (fun _ _ => PyProof.Rows.sortedAll_old) (Nat.le_succ _) ⟨hlen, out.toList, ep, vals_of_strs h1, he'⟩, rfl, q ys _ h2 h3 (I.hok.fresh (Nat.le_succ _))⟩
theorem vals3 {x y z : V} {us : List Value} (r : Vals [x, y, z] us) : ∃ u v w, us = [u, v, w] ∧ RelV x u ∧ RelV y v ∧ RelV z w := by
  cases r with
  | cons a r => cases r with
    | cons b r => cases r with
      | cons c r => cases r; exact ⟨_, _, _, rfl, a, b, c⟩
theorem cr_sortT3 : CallR X (.builtin "sorted") (rSortT3 X.K) := by
  intro pins s σ H vs us Q I r h
  obtain ⟨a, xs, k, rfl, hs, hx, q⟩ := h
  obtain ⟨its, rv, hl, hz⟩ := I.list hs
  obtain ⟨u, rfl, ru⟩ := vals1 r
  obtain rfl : u = Value.ref a := ru
  obtain ⟨e1, e2⟩ := refs_back rv fun x m => by
    obtain ⟨t, e, _⟩ := hx x m
    exact ⟨t, e⟩
  have hp : ∀ v ∈ its, SrtO.IsTri s.heap v (k (backV v)) := fun v hv => by
    obtain ⟨t, rfl⟩ := e2 v hv
    have hm : V.ref t ∈ xs := by rw [e1]; exact List.mem_map.mpr ⟨_, hv, rfl⟩
    obtain ⟨t', e, ht⟩ := hx _ hm
    cases e
    obtain ⟨_, its2, r2, o, ho, hc, n, hd⟩ := I.hok _ _ ht
    obtain ⟨u1, u2, u3, rfl, ri, rj, rk⟩ := vals3 r2
    obtain ⟨t1, rfl⟩ := ri
    obtain ⟨t2, rfl⟩ := rj
    obtain ⟨t3, rfl⟩ := rk
    exact ⟨t, o, t1, t2, t3, n, rfl, ho, hc, hd⟩
  refine SrtO.sorted_ord (SrtO.swo_tri fun u => k (backV u)) hl.isList (by rw [← rv.length]; exact hz) (fun h2 h₁ a' ha kk => SrtO.tri_sortableO (s := { s with heap := h₁ }) (by omega) (fun v hv => (hp v hv).keeps fun b o e _ => (kk b o e).2) fun o e => ?_) fun out h1 h2 => ?_
  · have e' : some o = some (seqObj "list" its.toArray 0) := e.symm.trans ha
    cases e'
    intro c
    exact absurd (Value.type.inj c) (by decide)
  · obtain ⟨ep, he'⟩ := PyProof.Rows.sortedAll_at s.heap its out.toArray
    have h3 : ∀ u ∈ out, ∃ a, u = Value.ref a := fun u hu => e2 u (h2.perm.mem_iff.mp hu)
    have hb : (out.map backV).Perm xs := by rw [e1]; exact h2.perm.map _
    have hlen : (out.map backV).length ≤ sizeLine := by rw [hb.length_eq]; exact hz
    exact ⟨.ref _, upd H (s.heap.objs.size + 1) (.lst (out.map backV)), I.laid (t' := s.toks) (fun _ _ => PyProof.Rows.sortedAll_old) (Nat.le_succ _) ⟨hlen, out, ep, vals_back h3, he'⟩, rfl, q _ _ hb (I.hok.fresh (Nat.le_succ _))⟩
end
end L2.FW
end
section
set_option maxRecDepth 100000
set_option maxHeartbeats 4000000
/-! list(text), sorted(set(text)) of a text whose signs ascend. -/
namespace PySem.Froz
open PySem PySem.Spec PyProof.Rows L2
theorem runD_ok {P : Program} {w : World} : ∀ (cs : List Nat) (tk : Tok) (D : SD) (l : List Str), TxOk P w D l → Ris D.2.2.place.toList → ∃ l', TxOk P w (runD w cs tk D) l' ∧ (∀ k, k ∈ l' ↔ k ∈ l ∨ ∃ c ∈ cs, k = sing c) ∧ l'.length = l.length + cs.length ∧ Ris (runD w cs tk D).2.2.place.toList ∧ (runD w cs tk D).2.2.led = D.2.2.led
  | [], tk, D, l, F, r => ⟨l, F, fun k => by simp, rfl, r, rfl⟩
  | c :: cs, tk, D, l, F, r => by
    obtain ⟨es, ep, t⟩ := D
    have r1 : Ris (addTx (hashStr w (sing c)) (.str (sing c) tk) (es, ep, t)).2.2.place.toList ∧ (addTx (hashStr w (sing c)) (.str (sing c) tk) (es, ep, t)).2.2.led = t.led := by
      have a := layNew_ris t es (hashStr w (sing c)) (.str (sing c) tk) r
      have b := layNew_led t es (hashStr w (sing c)) (.str (sing c) tk)
      have key : ∀ (t2 : SetTable) (es1 : Array (Int × Value)) (wd : Bool) (e : Nat), Ris t2.place.toList → t2.led = t.led → Ris (tailTx e es1 t2 wd).2.2.place.toList ∧ (tailTx e es1 t2 wd).2.2.led = t.led := by
        intro t2 es1 wd e h1 h2
        unfold tailTx
        split
        · exact ⟨relayAll_ris t2 es1 _, (relayAll_led t2 es1 _).trans h2⟩
        · exact ⟨h1, h2⟩
      unfold addTx
      refine key _ _ _ _ ?_ ?_
      · dsimp only
        split <;> exact a
      · dsimp only
        split <;> exact b
    obtain ⟨l', F', h1, h2, h3, h4⟩ := runD_ok cs (tk + 2) _ _ (add_ok (k := sing c) tk F) r1.1
    refine ⟨l', F', fun k => ?_, ?_, h3, h4.trans r1.2⟩
    · rw [h1 k]
      constructor
      · rintro (h | ⟨d, hd, e⟩)
        · rcases List.mem_cons.mp h with h | h
          · exact .inr ⟨c, List.mem_cons_self, h⟩
          · exact .inl h
        · exact .inr ⟨d, List.mem_cons_of_mem _ hd, e⟩
      · rintro (h | ⟨d, hd, e⟩)
        · exact .inl (List.mem_cons_of_mem _ h)
        · rcases List.mem_cons.mp hd with rfl | hd
          · exact .inl (by rw [e]; exact List.mem_cons_self)
          · exact .inr ⟨d, hd, e⟩
    · rw [h2, List.length_cons, List.length_cons]; omega
section
variable {P : Program} {w : World} {A : Around} {E : Value → Shared → Prop} {s : Shared}
set_option maxHeartbeats 3200000 in
theorem call_set_txt {x : Str} {u : Tok} {Q : Value → Shared → Prop} (hh : A.handled = none) (hasc : x.cps.all (· < 128) = true) (hnd : x.cps.toList.Nodup) (hz : x.cps.toList.length < 64)
    (h : ∀ (h' : Heap) (tk : Nat) (D : SD) (l : List Str), h'.get? s.heap.objs.size = some (sObj "set" D) → TxOk P w D l → (∀ k, k ∈ l ↔ ∃ c ∈ x.cps.toList, k = sing c) → l.length = x.cps.toList.length → Ris D.2.2.place.toList →
      (w.params.followText "set-order" = true ∨ D.2.2.led = true) → (∀ b o, s.heap.get? b = some o → h'.get? b = some o) → Q (.ref s.heap.objs.size) { s with heap := h', toks := tk }) :
    wpAny (model P w) A (call (.type "set") [.str x u]) Q E s := by
  obtain ⟨c, tl, hmro⟩ := F.called_set.mro
  have hmade := F.called_set.made
  have hsub := F.called_set.sub
  refine wpAny_call (codeAny_of_tree ?_)
  show wpAny _ _ (callAny (.type "set") _) _ _ _
  refine wpAny_pure ⟨Code.quiet_builtin _ (by decide +kernel), codeAny_builtin F.entry_type_call ?_⟩
  rw [Around.under_plain (weight_type_call_type "set" [.str x u] []) rfl]
  have h1 := F.called_set.notType
  have h2 := F.called_set.canCreate
  have hct := F.typeCall_set_1 (.str x u)
  repeat (any_goals (first | assumption | wp_step))
  refine codeAny_mono (code_set_led1 (.str x u) (E := E) (Q₁ := fun obj s₁ => obj = .ref s.heap.objs.size ∧ s₁ = { s with heap := s.heap.push { cls := .type "set", dict := none, data := .set #[] 0 (.fresh 0 0 (!w.params.followText "set-order")) } }) ⟨rfl, rfl⟩) fun r s₁ hr => ?_
  cases r with
  | error e => exact hr
  | ok fl =>
    cases fl with
    | ret obj =>
      obtain ⟨rfl, rfl⟩ := hr
      have hS : (s.heap.push { cls := .type "set", dict := none, data := .set #[] 0 (.fresh 0 0 (!w.params.followText "set-order")) }).get? s.heap.objs.size = some { cls := .type "set", dict := none, data := .set #[] 0 (.fresh 0 0 (!w.params.followText "set-order")) } := Heap.get?_push_size _ rfl
      have hT : Shared.TypeIs { s with heap := s.heap.push { cls := .type "set", dict := none, data := .set #[] 0 (.fresh 0 0 (!w.params.followText "set-order")) } } (.ref s.heap.objs.size) "set" := ⟨_, hS, rfl⟩
      have hli := F.called_set.init.lookup
      have hbi := F.called_set.init.bind (.ref s.heap.objs.size)
      repeat (any_goals (first | assumption | wp_step))
      refine codeAny_mono (codeAny_call_builtin (R := wants (fun r s₂ => r = .none ∧ ∃ h' tk D l, s₂ = { s with heap := h', toks := tk } ∧ h'.get? s.heap.objs.size = some (sObj "set" D) ∧ TxOk P w D l ∧ (∀ k, k ∈ l ↔ ∃ c ∈ x.cps.toList, k = sing c) ∧ l.length = x.cps.toList.length ∧ Ris D.2.2.place.toList ∧
          (w.params.followText "set-order" = true ∨ D.2.2.led = true) ∧ (∀ b o, s.heap.get? b = some o → h'.get? b = some o)) E) F.called_set.init.plain F.entry_set_init (check_set_init_1 hT ?_)) fun r₂ s₂ hr₂ => ?_
      · have hsls := F.sub_str_set
        have hslf := F.sub_str_frozenset
        unfold Builtin.«set.__init__» noKeywords Builtin.Frozenset.updateFrom
        generalize hPI : pyIter = PI
        wp_walk
        subst hPI
        refine wpAny_pyIter_ascii hasc ?_
        refine wpAny_bind (wpAny_runValue ?_)
        have hh3 : A.in1.in1.handled = none := by simp [hh]
        have hz1 : (s.heap.push { cls := .type "set", dict := none, data := .set #[] 0 (.fresh 0 0 (!w.params.followText "set-order")) }).objs.size = s.heap.objs.size + 1 := Heap.size_push ..
        have hne : s.heap.objs.size ≠ (s.heap.push { cls := .type "set", dict := none, data := .set #[] 0 (.fresh 0 0 (!w.params.followText "set-order")) }).objs.size := by
          rw [Heap.size_push]; exact Nat.ne_of_lt (Nat.lt_succ_self _)
        have F0 : TxOk P w (#[], 0, .fresh 0 0 (!w.params.followText "set-order")) [] := TxOk.nil rfl
        have hS2 : ((s.heap.push { cls := .type "set", dict := none, data := .set #[] 0 (.fresh 0 0 (!w.params.followText "set-order")) }).push (itObj x u 0)).get? s.heap.objs.size = some (sObj "set" (#[], 0, .fresh 0 0 (!w.params.followText "set-order"))) := Heap.get?_push_of_some _ hS
        have hI2 : ((s.heap.push { cls := .type "set", dict := none, data := .set #[] 0 (.fresh 0 0 (!w.params.followText "set-order")) }).push (itObj x u 0)).get? (s.heap.push { cls := .type "set", dict := none, data := .set #[] 0 (.fresh 0 0 (!w.params.followText "set-order")) }).objs.size = some (itObj x u 0) := Heap.get?_push_size _ rfl
        refine code_update (P := P) (w := w) hne (T := "set") (x := x) (u := u) hh3 x.cps.toList 0 (#[], 0, .fresh 0 0 (!w.params.followText "set-order")) [] { s with heap := (s.heap.push { cls := .type "set", dict := none, data := .set #[] 0 (.fresh 0 0 (!w.params.followText "set-order")) }).push (itObj x u 0) } (by simp) hS2 hI2 F0 (fun c _ h => by simp at h) hnd (by show 0 + x.cps.toList.length < 4096; omega) ?_
        obtain ⟨l', G1, G2, G3, G4, G5⟩ := runD_ok x.cps.toList s.toks (#[], 0, .fresh 0 0 (!w.params.followText "set-order")) [] F0 (List.Pairwise.nil : Ris [])
        show wpAny _ _ _ _ _ _
        refine wpAny_pure ?_
        show wpAny _ _ (ret Value.none) _ _ _
        refine wpAny_pure ⟨rfl, _, _, _, l', rfl, ?_, G1, fun k => by rw [G2]; simp, by rw [G3]; simp, G4, ?_, fun b o e => ?_⟩
        · refine Heap.get?_push_of_some _ (Heap.get?_push_of_some _ ?_)
          exact PySem.Heap.get?_update_of_ne _ (Ne.symm hne) (get_upd _ hS2 rfl)
        · rw [G5]
          show _ ∨ (!w.params.followText "set-order") = true
          cases w.params.followText "set-order"
          · exact .inr rfl
          · exact .inl rfl
        · have hb : b < s.heap.objs.size := Heap.lt_size e
          have e2 : ((s.heap.push { cls := .type "set", dict := none, data := .set #[] 0 (.fresh 0 0 (!w.params.followText "set-order")) }).push (itObj x u 0)).get? b = some o := Heap.get?_push_of_some _ (Heap.get?_push_of_some _ e)
          have n1 : b ≠ s.heap.objs.size := Nat.ne_of_lt hb
          have n2 : b ≠ (s.heap.push { cls := .type "set", dict := none, data := .set #[] 0 (.fresh 0 0 (!w.params.followText "set-order")) }).objs.size := by
            rw [Heap.size_push]; exact Nat.ne_of_lt (Nat.lt_succ_of_lt hb)
          exact Heap.get?_push_of_some _ (Heap.get?_push_of_some _ (PySem.Heap.get?_update_of_ne _ (Ne.symm n2) (PySem.Heap.get?_update_of_ne _ (Ne.symm n1) e2)))
      · cases r₂ with
        | error e => exact hr₂
        | ok fl₂ =>
          cases fl₂ with
          | ret r =>
            obtain ⟨rfl, h', tk, D, l, rfl, a1, a2, a3, a4, a5, a6, a7⟩ := hr₂
            repeat (any_goals (first | assumption | wp_step))
            exact h _ _ D l a1 a2 a3 a4 a5 a6 a7
          | _ => exact hr₂.elim
    | _ => exact hr.elim
/-- distinct things of l all in m, of one length: m is l in another order -/
theorem perm_of_sub {α : Type} : ∀ {l m : List α}, l.Nodup → (∀ x ∈ l, x ∈ m) → m.length = l.length → m.Perm l
  | [], m, _, _, h => by
    have : m = [] := List.eq_nil_of_length_eq_zero h
    rw [this]
  | x :: l, m, hn, hs, hl => by
    obtain ⟨h1, h2⟩ := List.nodup_cons.mp hn
    obtain ⟨m1, m2, rfl⟩ := List.append_of_mem (hs x List.mem_cons_self)
    have ih := perm_of_sub (l := l) (m := m1 ++ m2) h2 (fun y hy => by
      have := hs y (List.mem_cons_of_mem _ hy)
      simp at this ⊢
      rcases this with h | rfl | h
      · exact .inl h
      · exact absurd hy h1
      · exact .inr h) (by simp at hl ⊢; omega)
    exact List.perm_middle.trans (ih.cons x)
theorem strsOf_vals : ∀ {vs : List Value}, (∀ v ∈ vs, ∃ k : Str, ∃ t, v = .str k t) → ∃ ss, StrsAre vs ss ∧ ss = vs.map (fun v => match v with | .str k _ => k | _ => Str.empty)
  | [], _ => ⟨[], .nil, rfl⟩
  | v :: vs, h => by
    obtain ⟨ss, h1, h2⟩ := strsOf_vals (vs := vs) fun u hu => h u (List.mem_cons_of_mem _ hu)
    obtain ⟨k, t, rfl⟩ := h v List.mem_cons_self
    exact ⟨k :: ss, .cons _ _ h1, by rw [h2]; rfl⟩
theorem rising_pair : ∀ {l : List Nat} {c : Nat}, risingS (sing c) (l.map sing) = true → (c :: l).Pairwise (· ≤ ·)
  | [], c, _ => List.pairwise_singleton _ _
  | d :: l, c, h => by
    have h' : (!ltCps [d] [c] && risingS (sing d) (l.map sing)) = true := h
    rw [Bool.and_eq_true] at h'
    have ih := rising_pair h'.2
    have hd : c ≤ d := by
      have := h'.1
      simp [ltCps] at this
      omega
    refine List.pairwise_cons.mpr ⟨fun y hy => ?_, ih⟩
    rcases List.mem_cons.mp hy with rfl | hy
    · exact hd
    · exact Nat.le_trans hd ((List.pairwise_cons.mp ih).1 y hy)
theorem sing_uniq {l : List Nat} {ys : List Str} (ha : l.Pairwise (· < ·)) (hp : ys.Perm (l.map sing)) (hs : sortedS ys = true) : ys = l.map sing := by
  let f : Str → Nat := fun s => s.cps.toList.headD 0
  have e1 : ys = (ys.map f).map sing := by
    rw [List.map_map]
    have : ∀ y ∈ ys, (sing ∘ f) y = y := fun y hy => by
      obtain ⟨c, _, rfl⟩ := List.mem_map.mp (hp.mem_iff.mp hy)
      rfl
    rw [List.map_congr_left this, List.map_id']
  have p2 : (ys.map f).Perm l := by
    have := hp.map f
    rw [List.map_map] at this
    have e : (f ∘ sing) = id := rfl
    rw [e, List.map_id] at this
    exact this
  have s2 : (ys.map f).Pairwise (· ≤ ·) := by
    rw [e1] at hs
    generalize ys.map f = m at hs
    match m, hs with
    | [], _ => exact List.Pairwise.nil
    | c :: m, hs => exact rising_pair hs
  have : ys.map f = l := List.Perm.eq_of_pairwise (le := (· ≤ ·)) (fun a b _ _ h1 h2 => Nat.le_antisymm h1 h2) s2 (ha.imp Nat.le_of_lt) p2
  rw [e1, this]
/-- sorted(s), s a set that holds the signs of an ascending text -/
theorem sorted_txt {a : Addr} {D : SD} {l : List Str} {cs : List Nat} {Q : Value → Shared → Prop} (ho : s.heap.get? a = some (sObj "set" D)) (F : TxOk P w D l) (hk : ∀ k, k ∈ l ↔ ∃ c ∈ cs, k = sing c) (hlen : l.length = cs.length) (r : Ris D.2.2.place.toList)
    (hl : w.params.followText "set-order" = true ∨ D.2.2.led = true) (ha : cs.Pairwise (· < ·)) (hz : cs.length < 64) (hh : A.handled = none)
    (hQ : ∀ s' p (out : Array Value) (c : Nat), (∀ b o, s.heap.get? b = some o → s'.heap.get? b = some o) → s'.gens = s.gens → s'.os = s.os → s.heap.objs.size ≤ p →
      s'.heap.get? p = some (seqObj "list" out c) → StrsAre out.toList (cs.map sing) → Q (.ref p) s') :
    wpAny (model P w) A (call (.builtin "sorted") [.ref a]) Q E s := by
  obtain ⟨es, ep, t⟩ := D
  have hsz : es.size = l.length := F.sz
  refine Calls.call_function_entry kind_sorted plain_sorted entry_sorted (args_sorted1 _) ?_
  unfold Builtin.«sorted»
  refine wpAny_bind (m := checkCount "sorted" 1 1 _) (wpAny_pure ?_)
  refine wpAny_bind (collect_set (A := A.in1) hh ⟨_, ho, rfl, rfl⟩ F.fit (by show es.size < 4096; omega) r hl fun s1 vs k1 hz1 g1 o1 pm => ?_)
  have shape : ∀ v ∈ vs, ∃ k : Str, ∃ t, v = .str k t := fun v hv => by
    obtain ⟨e, he, rfl⟩ := List.mem_map.mp (pm.mem_iff.mp hv)
    obtain ⟨⟨k, hk, _⟩, _⟩ := F.el e he
    have hk' : Value.isStrOf k e.2 = true := hk
    generalize e.2 = v at hk'
    cases v <;> first | exact ⟨_, _, rfl⟩ | (simp [Value.isStrOf] at hk')
  obtain ⟨ss, hS, hss⟩ := strsOf_vals shape
  have hvl : vs.length = cs.length := by rw [pm.length_eq, List.length_map, Array.length_toList]; exact hsz.trans hlen
  have hnd : (cs.map sing).Nodup := by
    rw [List.nodup_iff_pairwise_ne, List.pairwise_map]
    exact ha.imp fun {x y} h e => by
      have : x = y := by
        have q2 : [x] = [y] := congrArg (fun y : Str => y.cps.toList) e
        exact (List.cons.inj q2).1
      omega
  have hsub : ∀ z ∈ cs.map sing, z ∈ ss := fun z hz => by
    obtain ⟨c, hc, rfl⟩ := List.mem_map.mp hz
    obtain ⟨e, he, q⟩ := (F.mem (sing c)).mp ((hk _).mpr ⟨c, hc, rfl⟩)
    have hv : e.2 ∈ vs := pm.mem_iff.mpr (List.mem_map.mpr ⟨e, he, rfl⟩)
    rw [hss]
    refine List.mem_map.mpr ⟨e.2, hv, ?_⟩
    obtain ⟨k, t, e2⟩ := shape _ hv
    rw [e2] at q ⊢
    have : Value.isStrOf (sing c) (.str k t) = true := q
    simp [Value.isStrOf] at this
    exact this
  have pp : ss.Perm (cs.map sing) := perm_of_sub hnd hsub (by rw [List.length_map, ← hvl, hss, List.length_map])
  refine wpAny_bind (wpAny_newList ?_ (by rw [hvl, sizeLine_eq]; omega))
  have hoL : (s1.heap.push (seqObj "list" vs.toArray 0)).get? s1.heap.objs.size = some (seqObj "list" vs.toArray 0) := Heap.get?_push_size _ rfl
  refine wpAny_bind (wpAny_holding (wpAny_call_entry slot_list_sort ⟨_, hoL, rfl⟩ entry_list_sort (list_sort_treeK strKind_oneLt hoL hS.keysOf (fun v₁ v₂ rest e => keyKind_strs (by rw [← e]; exact hS)) (by rw [hvl]; exact hz) fun st' hp hs => ⟨_, rfl, ?_⟩) (args_list_sort _)))
  obtain ⟨ys, y1, y2, y3⟩ := sorted_out_str hS hp hs
  have ey := sing_uniq ha (y2.trans pp) y3
  subst ey
  obtain ⟨c, hc⟩ := sortedHeap_at (vs := vs) (out := (arrOf st').map (·.2)) hoL
  refine wpAny_pure ⟨_, rfl, hQ _ s1.heap.objs.size _ c (fun b u e => ?_) g1 o1 hz1 hc y1⟩
  have q := k1 b u e
  have hlt := Heap.lt_size q
  show (sortedHeap (s1.heap.push (seqObj "list" vs.toArray 0)) s1.heap.objs.size vs _).get? b = some u
  rw [sortedHeap_old (Nat.ne_of_lt hlt) (by rw [size_push']; exact Nat.lt_succ_of_lt hlt)]
  exact Heap.get?_push_of_some _ q
end
end PySem.Froz
namespace L2.FW
open PySem PySem.Spec PyProof.Rows
theorem vals_signs {z : Str} : ∀ {l : List Nat} {us : List Value}, us.length = l.length → (∀ (j : Nat) (v : Value), us[j]? = some v → ∃ (c : Nat) (t : Tok), l[j]? = some c ∧ v = Value.str ⟨#[c]⟩ t) → Vals (l.map fun c => V.str ⟨#[c]⟩) us
  | [], [], _, _ => .nil
  | c :: l, [], h, _ => by simp at h
  | [], u :: us, h, _ => by simp at h
  | c :: l, u :: us, h, k => by
    obtain ⟨d, t, h1, rfl⟩ := k 0 u rfl
    have e : c = d := by simpa using h1
    subst e
    exact .cons ⟨t, rfl⟩ (vals_signs (z := z) (by simpa using h) fun j v hv => by simpa using k (j + 1) v (by simpa using hv))
def rListStr : List V → Hp → VK → Prop := fun xs H Q => ∃ z : Str, xs = [.str z] ∧ z.cps.size ≤ 100000 ∧ ∀ p, H p = none → Q (.ref p) (upd H p (.lst (z.cps.toList.map fun c => V.str ⟨#[c]⟩)))
theorem cl_listStr {X : Cx} (hc : X.calm = true) : CallR X (.type "list") rListStr := by
  intro pins s σ H vs us Q I r h
  obtain ⟨z, rfl, hz, q⟩ := h
  obtain ⟨u, rfl, ru⟩ := vals1 r
  obtain ⟨t, rfl⟩ := ru
  have hz2 : z.cps.size ≤ sizeLine := by rw [sizeLine_eq]; omega
  refine call_list_str (hn := hz2) (I.ok.hd hc) z t fun h' tk acc c' hk hS hacc => ?_
  have hlen : (z.cps.toList.map fun c => V.str ⟨#[c]⟩).length ≤ sizeLine := by rw [List.length_map, Array.length_toList]; exact hz2
  refine ⟨.ref _, upd H s.heap.objs.size (.lst (z.cps.toList.map fun c => V.str ⟨#[c]⟩)), I.laid (t' := tk) hk (Nat.le_refl _) ⟨hlen, acc.toList, c', vals_signs (z := z) ?_ fun j v hv => ?_, hS⟩, rfl, q _ (I.hok.fresh (Nat.le_refl _))⟩
  · rw [Array.length_toList, Array.length_toList]
    exact hacc.1
  · rw [Array.getElem?_toList] at hv
    obtain ⟨c, u, h1, h2⟩ := hacc.2 j v hv
    exact ⟨c, u, by rw [Array.getElem?_toList]; exact h1, h2⟩
def tSortSet (ta : TE) : TE := fun σ H Q => ta σ H fun x H1 => ∃ l : List Nat, x = .str (S l) ∧ l.Pairwise (· < ·) ∧ l.length < 64 ∧ (∀ c ∈ l, c < 128) ∧ ∀ p, H1 p = none → Q (.ref p) (upd H1 p (.lst (l.map fun c => V.str (S [c]))))
theorem pe_sortSet {X : Cx} {a : Expr} {ta : TE} {p p2 q pos : Pos} (hg : Gl X "sorted") (hm : X.mg "sorted" = none) (hg2 : Gl X "set") (hm2 : X.mg "set" = none) (ha : PE X a ta) (hc : X.calm = true := by rfl)
    (na : starEach [a] X.env = (false, eval a X.env) :: starEach [] X.env := by rfl) : PE X (.Call (.Name "sorted" p) [.Call (.Name "set" p2) [a] [] q] [] pos) (tSortSet ta) := by
  refine ⟨fun pins s σ H Q I h => ?_⟩
  refine Call_ (ld_blt I hg hm boot_sorted ?_)
  refine PyProof.Rows.callWith_builtin1 (PyProof.Rows.args_cons ?_ rfl) rfl rfl
  refine Call_ (ld_blt I hg2 hm2 boot_set ?_)
  refine PyProof.Rows.callWith_type1 (PyProof.Rows.args_cons (thn (ha.run pins s σ H _ I h) fun v s1 ⟨x, H1, I1, r1, q1⟩ => PyProof.Rows.args_nil ?_) na) na rfl
  obtain ⟨l, rfl, hasc, hl, h128, q1⟩ := q1
  obtain ⟨t, rfl⟩ := r1
  have hcps : (S l).cps.toList = l := by simp [S, SX.S]
  refine PySem.Froz.call_set_txt (I1.ok.hd hc) ?_ ?_ ?_ fun h' tk D l' a1 a2 a3 a4 a5 a6 a7 => ?_
  · rw [Array.all_eq_true']
    intro c hc'
    have : c ∈ l := by rw [← hcps]; exact Array.mem_toList_iff.mpr hc'
    exact decide_eq_true (h128 c this)
  · rw [hcps, List.nodup_iff_pairwise_ne]
    exact hasc.imp fun {x y} h e => by omega
  · rw [hcps]; exact hl
  · refine PyProof.Rows.args_nil ?_
    have I2 : Inv X pins σ H1 { s1 with heap := h', toks := tk } := I1.kept a7
    rw [hcps] at a3 a4
    refine PySem.Froz.sorted_txt (s := { s1 with heap := h', toks := tk }) a1 a2 a3 a4 a5 a6 hasc hl (I1.ok.hd hc) fun s' p out c k1 g1 o1 hp hq hS => ?_
    have hlen : (l.map fun c => V.str (S [c])).length ≤ sizeLine := by rw [List.length_map, sizeLine_eq]; omega
    have hn : H1 p = none := I2.hok.fresh hp
    have hv : Vals (l.map fun c => V.str (S [c])) out.toList := by
      have e2 : ∀ {us : List Value} {m : List Nat}, StrsAre us (m.map PySem.Froz.sing) → Vals (m.map fun c => V.str (S [c])) us := by
        intro us m
        induction m generalizing us with
        | nil => intro h; cases h; exact .nil
        | cons c m ih => intro h; cases h with | cons x t r => exact .cons ⟨_, rfl⟩ (ih r)
      exact e2 hS
    have J : Inv X pins σ (upd H1 p (.lst (l.map fun c => V.str (S [c])))) { s1 with heap := s'.heap, gens := s'.gens, drawn := s'.drawn, toks := s'.toks } :=
      Inv.call (s := { s1 with heap := h', toks := tk }) I2 (ch := []) (Un.laid k1 hp hn) (I2.hok.laid k1 hp ⟨hlen, out.toList, c, hv, hq⟩) (by rw [g1]; exact I2.bare) (fun _ z => nomatch z)
    have e : s' = { s1 with heap := s'.heap, gens := s'.gens, drawn := s'.drawn, toks := s'.toks } := by
      cases s'
      cases s1
      cases o1
      rfl
    rw [e]
    exact ⟨.ref p, _, J, rfl, q1 p hn⟩
end L2.FW
end
section
set_option maxRecDepth 100000
set_option maxHeartbeats 4000000
/-! C.m(..), m a static method of the class C; the class constant Book.MOST; the written dicts whose values are tuples. -/
namespace L2.FW
open PySem PySem.Spec PyProof.Rows
structure Stat (K : PySem.W.Frag) (C : Addr) (m : Str) (p g : Addr) : Prop where
  rd : PySem.W.readsIn K C (.type "type") = true
  ga : PySem.W.specialIn K (.ref C) "__getattribute__" = some (some (.builtin "type.__getattribute__"))
  at_ : PySem.W.findCls K (.ref C) (.type "type") m = some (.get (.builtin "staticmethod.__get__") (.ref p) .none (.ref C))
  rc : ∃ rest, PySem.W.recIn K p "staticmethod" = some (.ref g :: rest)
  kp : PySem.W.keepIn K (.ref g) = true
def tStat (C : Addr) (sp : Sp) (E : XK) (ta : TE) (t : TA) : TE := fun σ H Q => ta σ H fun x H1 => x = .ref C ∧ t σ H1 fun vs H2 => sp vs H2 Q E
section
variable {X : Cx} {k j : Nat} {C p g : Addr} {sp : Sp} {fd : FuncData} {ps : List Str} {m : Str} {pos apos : Pos} {e o : Expr} {es : List Expr} {ta : TE} {t : TA} {pl : Sem Bool}
theorem pe_stat (he : PE X o ta) (c : Stat X.K C m p g) (F : FnOk X.prog X.w X.K X.mg X.base CX0 k g fd ps sp) (b : Binds X.K fd ps []) (hr : Room j X.A) (hk : k ≤ j) (ha : PA X (e :: es) t)
    (hst : starEach (e :: es) X.env = (false, eval e X.env) :: starEach es X.env := by rfl) (hpl : (backTo pos (starEach es X.env)).any (·.1) = false := by rfl)
    (ht : eval (.Call (.Attribute o m apos) (e :: es) [] pos) X.env = (do
      let ov ← eval o X.env
      standAt apos.atName
      let (f, first) ← holding [ov] (getMethod ov m pl)
      callWith pos f first (backTo pos (starEach (e :: es) X.env)) (backToKw pos (keywordEach [] X.env))) := by rfl) :
    PE X (.Call (.Attribute o m apos) (e :: es) [] pos) (tStat C sp E0 ta t) := by
  refine ⟨fun pins s σ H Q I h => ?_⟩
  refine PySem.W.methodCall_KW (pl := pl) (thn (he.run pins s σ H _ I h) fun u s1 ⟨x, H1, I1, rx, ex, q⟩ => ?_) ht
  subst ex
  obtain rfl : u = Value.ref C := rx
  obtain ⟨rest, hp⟩ := c.rc
  refine PySem.W.method_cls I1.kIn c.ga (PySem.W.cls_bind I1.kIn c.rd c.at_ (wpAny_call (PySem.W.sm_get (s := { s1 with toks := s1.toks + 1 }) I1.kIn hp (PySem.W.handed_on rfl ?_))))
  refine PySem.W.callWith_K (first := []) (h₀ := X.base) I1.ok.mod.kin c.kp (thn (ha.run pos pins _ σ H1 _ (I1.tok _) q) fun us s2 ⟨vs, H2, I2, r, q2⟩ => ⟨I2.kIn, ?_⟩) hst hpl
  exact run_fn (dvs := []) (ds := []) F (hr.mono hk) b .nil pass0 I2 r (by rw [List.append_nil]; exact q2)
end
section
variable {w : World} {K : PySem.W.Frag} {mg : Str → Option Value}
theorem T.bookReads (T : T w K mg) : PySem.W.readsIn K (He.ga K "Book") (.type "type") = true ∧ PySem.W.specialIn K (.ref (He.ga K "Book")) "__getattribute__" = some (some (.builtin "type.__getattribute__")) ∧ mostOk K = true ∧ readOk K = true := by
  have a := (He.ba (He.ba (He.ba T.exB).2).2).1
  have b := He.ba a
  have c := He.ba b.2
  have d := He.ba c.2
  exact ⟨b.1, He.eqO_ok c.1, d.1, d.2⟩
theorem T.bookMost (T : T w K mg) : ClX.CRead K (He.ga K "Book") (.type "type") ∧ ∃ u, ClX.CVal K (He.ga K "Book") (.type "type") "MOST" (.int 8) u := by
  obtain ⟨h1, h2, h3, _⟩ := T.bookReads
  refine ⟨⟨h1, h2⟩, ?_⟩
  unfold mostOk at h3
  split at h3
  · rename_i i t e
    have := of_decide_eq_true h3
    subst this
    exact ⟨_, e, t, rfl⟩
  · cases h3
theorem T.rdParts (T : T w K mg) : PySem.W.fnIn K (rdAd K) = true ∧ fnXok K (rdAd K) "Book.read" = true ∧ ∃ rest, PySem.W.recIn K (smAd K) "staticmethod" = some (.ref (rdAd K) :: rest) := by
  have a := (He.ba (He.ba (He.ba (He.ba T.exB).2).2).2).1
  have b := He.ba a
  have c := He.ba b.2
  refine ⟨b.1, c.1, ?_⟩
  have d := c.2
  split at d
  · rename_i g r e
    have := of_decide_eq_true d
    subst this
    exact ⟨_, e⟩
  · cases d
theorem T.stat (T : T w K mg) : Stat K (He.ga K "Book") "read" (smAd K) (rdAd K) := by
  obtain ⟨h1, h2, _, h4⟩ := T.bookReads
  obtain ⟨a1, a2, a3⟩ := T.rdParts
  refine ⟨h1, h2, ?_, a3, (He.ba a2).1⟩
  unfold readOk at h4
  split at h4
  · rename_i g p C e
    have b := He.ba h4
    have c := He.ba b.2
    have e1 := of_decide_eq_true b.1
    have e2 := of_decide_eq_true c.1
    have e3 := of_decide_eq_true c.2
    subst e1 e2 e3
    exact e
  · cases h4
/-- Book.read's def -/
theorem T.d_read (T : T w K mg) : ∃ fd, FnP K "read" "Book.read" (inClass (top 71) 13) [] (rdAd K) fd := by
  obtain ⟨_, a2, _⟩ := T.rdParts
  have hx := congrArg (fun l : List FnX => l[0]?) T.fx
  have hx : some (fnX K (rdAd K)) = some (some _) := hx
  have hx := Option.some.inj hx
  unfold fnXok at a2
  have b := He.ba a2
  unfold fnX at hx
  cases hl : K.lookup (rdAd K) with
  | none => rw [hl] at hx; cases hx
  | some o =>
    obtain ⟨oc, od, data, osl⟩ := o
    rw [hl] at hx b
    cases data with
    | func fd =>
      obtain ⟨nm, qn, pa, bo, sc, gl, cl, dV, kV, dc, pm, an, cd, ct, bn⟩ := fd
      have e2 : (some (nm, qn, pa, bo, sc, gl, cl.map (·.1), bn) : FnX) = (some (("read" : Str), ("Book.read" : Str), defArgs (inClass (top 71) 13), FuncBody.stmts (defBody (inClass (top 71) 13)), defScope (inClass (top 71) 13), mainGlobals, [], builtinsNs) : FnX) := hx
      simp only [Option.some.injEq, Prod.mk.injEq] at e2
      obtain ⟨h1, h2, h3, h4, h5, h6, h7, h8⟩ := e2
      have h7 : cl = [] := List.map_eq_nil_iff.mp h7
      subst h1 h2 h3 h4 h5 h6 h7 h8
      have c3 := b.2
      dsimp only at c3
      obtain ⟨k1, k2⟩ := He.ba c3
      have hd : dV = .none := by
        clear hl hx b c3
        cases dV <;> first | rfl | cases k2
      subst hd
      exact ⟨_, ⟨oc, od, .none, kV, dc, pm, an, cd, ct, osl, rfl, hl, k1, .inl ⟨rfl, rfl⟩, .inl rfl⟩, b.1⟩
    | _ => cases hx
theorem T.row (T : T w K mg) {d k : Str} {vs : List V} (h : rowOk K d (k, vs) = true) : PySem.W.nsIn K (He.ga K d) k = some (some (.ref (tupAt K d k))) ∧ ∀ H, SqT K H (tupAt K d k) vs := by
  have b := He.ba h
  refine ⟨He.eqO_ok b.1, fun H => ?_⟩
  have c : tupOk K (tupAt K d k) vs = true := b.2
  unfold tupOk at c
  cases q : K.lookup (tupAt K d k) with
  | none => rw [q] at c; cases c
  | some o =>
    obtain ⟨oc, od, dt, osl⟩ := o
    rw [q] at c
    cases oc with
    | type cc =>
      cases dt with
      | seq its n =>
        have c2 : (decide (cc = "tuple") && (decide (its.size ≤ sizeLine) && He.relAll vs its.toList)) = true := c
        obtain ⟨k1, k2⟩ := He.ba c2
        obtain ⟨k3, k4⟩ := He.ba k2
        have k1 := of_decide_eq_true k1
        subst k1
        exact .inr ⟨_, its, n, q, rfl, rfl, of_decide_eq_true k3, He.relAll_ok k4⟩
      | _ => cases c
    | _ => cases c
theorem T.tab (T : T w K mg) (i j : Nat) {d k : Str} {vs : List V} {r : List (Str × List V)} (h : tabs[i]? = some (d, r)) (h2 : r[j]? = some (k, vs)) : rowOk K d (k, vs) = true := by
  have a := (He.ba (He.ba T.exB).2).1
  have b := List.all_eq_true.mp a (d, r) (List.mem_of_getElem? h)
  exact List.all_eq_true.mp b (k, vs) (List.mem_of_getElem? h2)
theorem T.dicR (T : T w K mg) : ∃ es n, KDict K w (He.ga K "RULES") es n := He.dicW_ok (ks := ["N", "E", "S", "W", "A", "D"]) (by
  have := congrArg (fun l : List (Option (List (Option (Str × Int)))) => l[0]?) T.dics
  exact Option.some.inj this)
theorem T.dicU (T : T w K mg) : ∃ es n, KDict K w (He.ga K "USED") es n := He.dicW_ok (ks := ["both", "first", "second", "either"]) (by
  have := congrArg (fun l : List (Option (List (Option (Str × Int)))) => l[1]?) T.dics
  exact Option.some.inj this)
theorem T.dicS (T : T w K mg) : ∃ es n, KDict K w (He.ga K "SIDES") es n := He.dicW_ok (ks := ["|", "-"]) (by
  have := congrArg (fun l : List (Option (List (Option (Str × Int)))) => l[2]?) T.dics
  exact Option.some.inj this)
theorem kdct_of {d : Str} {k : Str} {vs : List V} (T : T w K mg) (D : ∃ es n, KDict K w (He.ga K d) es n) (h : rowOk K d (k, vs) = true) : KDct K w (He.ga K d) k (.ref (tupAt K d k)) := by
  obtain ⟨es, n, D⟩ := D
  exact ⟨es, n, _, D.at_, D.lit, (T.row h).1, rfl⟩
end
end L2.FW
end
section
set_option maxRecDepth 100000
set_option maxHeartbeats 4000000
/-! A def that says super().m(e, ..) as its first statement: that statement. -/
namespace L2.FW
open PySem PySem.Spec PyProof.Rows
/-- the program's own file, no name super at its top -/
structure SupP (P : Program) : Prop where
  file : (P.main.file : Str) = "/claim/cut.py"
  top : (P.main.scope.names.lookup ("super" : Str)).isSome = false
/-- what is asked of K, of the frame: C the class of the cell, the def at fi behind it -/
structure SupX (X : Cx) (C fi cc : Addr) (nm : Str) (ar : Arg) : Prop where
  hP : SupP X.prog
  hks : X.env.kindOf "super" = some .globalImplicit
  hkc : X.env.kindOf "__class__" = some .free
  fn : ∃ f oc od fd osl, X.env.func = some f ∧ X.K.lookup f = some ⟨oc, od, .func fd, osl⟩ ∧ (fd.params.posonlyargs ++ fd.params.args).head? = some ar
  code : ∃ cd ccl cdd vs ccs tf, X.env.code = .ref cd ∧ X.K.lookup cd = some ⟨ccl, cdd, .fields vs, ccs⟩ ∧ vs[2]? = some (.str "/claim/cut.py" tf)
  hc : X.env.cells.lookup ("__class__" : Str) = some cc
  cell : ∃ cl cld csl, X.K.lookup cc = some ⟨cl, cld, .cell (some (.ref C)), csl⟩
  cls : ∃ cd, PySem.W.clsIn X.K C = some cd
  sub : PySem.W.mroIn X.K C (.ref C) = some true
  opq : PySem.W.nsIn X.K PySem.cStatics "thirdparty.any" = some none
  along : PySem.W.ks_superIn X.K C C nm = some (some (.ref fi))
  ty : PySem.W.typeIn X.K (.ref fi) = some (.type "function")
  fnin : PySem.W.fnIn X.K fi = true
  gl : X.mg "super" = none
  self : X.N[0]? = some ar.arg
  hn : (nm == ("__class__" : Str)) = false
  han : (ar.arg == ("__classdict__" : Str)) = false
  vis : Vis X.env.scope ar.arg
section
variable {X : Cx} {C fi cc : Addr} {nm : Str} {ar : Arg} {k : Nat} {sp2 : Sp} {body : List Stmt} {p0 p1 p2 p3 p4 : Pos} {e : Expr} {es : List Expr} {ta : TA} {σ : St} {H : Hp} {s : Shared} {a dx : Addr} {fs : List (Str × V)} {Nx : Hp → Prop}
theorem boot_super : bootBuiltins "super" = some (.type "super") := by decide +kernel
theorem sup_first {pl : Sem Bool} (S : SupX X C fi cc nm ar) (F2 : FnR X.prog X.w X.K X.mg X.base CX0 k fi sp2) (hr : Room k X.A) (ha : PA X (e :: es) ta) (I : Inv X [] σ H s) (h0 : σ[0]? = some (some (.ref a))) (hi : H a = some (.ins C dx fs))
    (h : ta σ H fun ws H1 => sp2 (.ref a :: ws) H1 (fun _ H2 => Nx H2) fun _ _ _ => False)
    (hst : starEach (e :: es) X.env = (false, eval e X.env) :: starEach es X.env) (hpl : ∀ pos, (backTo pos (starEach es X.env)).any (·.1) = false)
    (hin : interactive X.env = false) (hsw : swapsWith (.Call (.Attribute (.Call (.Name "super" p0) [] [] p1) nm p2) (e :: es) [] p3) none p4.line X.env = pure false)
    (he : eval (.Call (.Attribute (.Call (.Name "super" p0) [] [] p1) nm p2) (e :: es) [] p3) X.env = (do
      let ov ← attributeBase (.Call (.Name "super" p0) [] [] p1) nm X.env (eval (.Call (.Name "super" p0) [] [] p1) X.env)
      standAt p2.atName
      let (f, first) ← holding [ov] (getMethod ov nm pl)
      callWith p3 f first (backTo p3 (starEach (e :: es) X.env)) [])) :
    PySem.wpAt (model X.prog X.w) X.A (.func body X.env) (exec (.Expr (.Call (.Attribute (.Call (.Name "super" p0) [] [] p1) nm p2) (e :: es) [] p3) p4) X.env) (fun fl s' => fl = .next ∧ ∃ H2, Inv X [] σ H2 s' ∧ Nx H2) X.xe s := by
  have KX : X.K.In s.heap := I.kIn
  obtain ⟨f, oc, od, fd, osl, hfu, hfl, hp⟩ := S.fn
  obtain ⟨cd, ccl, cdd, vs, ccs, tf, hco, hcl, hvs⟩ := S.code
  obtain ⟨cl, cld, csl, hcell⟩ := S.cell
  obtain ⟨cdC, hC⟩ := S.cls
  obtain ⟨oD, hD1, hD2⟩ : ∃ oD, s.heap.get? C = some oD ∧ oD.data = .cls cdC := by
    have hC := hC
    unfold PySem.W.clsIn at hC
    split at hC
    · rename_i c d cd' sl ho
      cases hC
      exact ⟨_, KX _ _ ho, rfl⟩
    · cases hC
  obtain ⟨ox, odx, J⟩ := inst_of I hi
  refine ks_wpAt_Expr_any ?_ hin hsw
  refine ks_wpAt_MethodCall (pl := pl) ?_ he
  refine ks_wpAt_super_base (env := X.env) S.hks S.hkc S.hn hfu (KX _ _ hfl) rfl hp hco (KX _ _ hcl) rfl hvs (by rw [S.hP.file]; rfl) S.hP.top ?_
  obtain ⟨mb, b1, b2⟩ := I.mod.blt
  refine PySem.W.ks_loadName_global I.ok.kind S.hks (Calls.loadGlobal_builtin (by rw [I.ok.glob]; exact I.mod.glob.keeps I.bk) S.gl (by rw [I.ok.blt]; exact b1.keeps I.bk) ((b2 "super" (by decide)).trans boot_super) ⟨rfl, ?_⟩)
  refine wpAny_loadName_free I.ok.kind S.hkc S.hc ⟨_, KX _ _ hcell, rfl⟩ ?_
  have self : ∀ {Q : Value → Shared → Prop}, Q (.ref a) s → wpAny (model X.prog X.w) X.A (loadName X.env ar.arg) Q X.xe s := by
    intro Q q
    obtain ⟨m, hn, hl⟩ := I.loc
    obtain ⟨u, r, l⟩ := hl 0 ar.arg (.ref a) S.self h0 S.vis
    cases r
    rcases l with ⟨hk, hm⟩ | ⟨hk, c, hc, hcell⟩
    · exact wpAny_loadName_local I.ok.kind hk hn hm q
    · rcases hk with hk | hk
      · exact wpAny_loadName_cell I.ok.kind hk hc hcell q
      · exact wpAny_loadName_free I.ok.kind hk hc hcell q S.han
  refine self ?_
  refine ks_wpAny_isType_cls hD1 hD2 ⟨rfl, ?_⟩
  obtain ⟨hh, g, d, t, os⟩ := s
  refine PySem.ks_wpAny_call_super hD1 hD2 J.at_ J.cls (fun c e => ?_) (PySem.W.looks_mroIn KX S.sub) (fun h' e kk => ?_)
  · have := J.no
    unfold PySem.W.notCls at this
    rw [e] at this
    exact Bool.noConfusion this
  · have I1 : Inv X [] σ H ⟨h', g, d, t, os⟩ := I.kept (t' := t) kk
    obtain ⟨of, hof, hofc⟩ : ∃ of, h'.get? fi = some of ∧ of.cls = .type "function" := by
      have ht' : (X.K.lookup fi).map (·.cls) = some (.type "function") := S.ty
      cases z : X.K.lookup fi with
      | none => rw [z] at ht'; cases ht'
      | some of => rw [z] at ht'; exact ⟨of, I1.kIn _ _ z, Option.some.inj ht'⟩
    have hal := S.along
    unfold PySem.W.ks_superIn at hal
    rw [hC] at hal
    refine PySem.ks_wpAny_getMethod_super e (PySem.W.looks_opaque I1.kIn S.opq) (l₀ := cdC.mro) ?_ rfl I1.kIn hal hof hofc (PySem.W.ks_ne (h := hh) KX J hC) S.hn ?_
    · exact fun A Q E s k q => wpAny_bind ((PySem.W.looks_clsIn I1.kIn hC) A _ E s k (wpAny_pure q))
    · have I2 : Inv X [(h'.objs.size, PySem.W.methodObj (.ref fi) (.ref a))] σ H ⟨h'.push (PySem.W.methodObj (.ref fi) (.ref a)), g, d, t + 1, os⟩ := ClX.met_new (g := fi) (C := a) I1
      refine ClX.callwith_cm (g := fi) (C := a) I2 (ClX.base_none I1 (Nat.le_refl _)) S.fnin (thn (ha.run p3 _ _ σ H _ I2 h) fun us s3 ⟨vs, H2, I3, rv, q2⟩ => ⟨⟨ClX.pin_at I3, I3.kIn⟩, ?_⟩) hst (hpl p3)
      refine thn (ClX.run_cm (C := a) F2 hr pass0 I3 rv q2) fun u s4 q4 => ?_
      obtain ⟨v, H3, I4, _, q4⟩ := q4
      exact ⟨rfl, H3, I4, q4⟩
end
end L2.FW
end
section
/-! What the program computes, in plain Lean: texts are lists of code points. -/
namespace Fw
abbrev Tx := List Nat
/-- a book: its faces, its cutters, its lines of six words -/
structure Bk where
  fc : Tx
  ct : Tx
  ls : List (List Tx)
def takesB (p : Tx) (c : Nat) : Bool := decide (p = [46]) || decide (c ∈ p)
def fitsB (ln : List Tx) (r : Tx) (c : Nat) : Bool := takesB (ln.getD 4 []) c && ((ln.take 4).zip r).all fun q => takesB q.1 q.2
def cutOf (ls : List (List Tx)) (r : Tx) (c : Nat) : Tx := match ls.findIdx? (fun ln => fitsB ln r c) with
  | none => []
  | some i => (ls.getD i []).getD 5 []
/-- the parts of a room behind a cut -/
def partsL (r c : Tx) : List Tx := match r, c with
  | [n, e, s, w], [g, x, y] => if g = 124 then [[n, x, s, w], [n, e, s, y]] else [[n, e, x, w], [y, e, s, w]]
  | r, _ => [r]
def Bk.cut (b : Bk) (r : Tx) (c : Nat) : Tx := cutOf b.ls r c
def Bk.parts (b : Bk) (r : Tx) (c : Nat) : List Tx := partsL r (b.cut r c)
def PartOk (l p : Tx) : Prop := p = [46] ∨ (p ≠ [] ∧ p.Pairwise (· < ·) ∧ ∀ c ∈ p, c ∈ l)
def CutOk (l u : Tx) : Prop := u = [] ∨ ∃ g x y, u = [g, x, y] ∧ (g = 124 ∨ g = 45) ∧ x ∈ l ∧ y ∈ l
def LineOk (fc ct : Tx) (ln : List Tx) : Prop := ∃ p0 p1 p2 p3 k u, ln = [p0, p1, p2, p3, k, u] ∧ PartOk fc p0 ∧ PartOk fc p1 ∧ PartOk fc p2 ∧ PartOk fc p3 ∧ PartOk ct k ∧ CutOk fc u
/-- letters that ascend, from lo on, fewer than n above it -/
structure Rise (lo n most : Nat) (l : Tx) : Prop where
  ne : l ≠ []
  asc : l.Pairwise (· < ·)
  len : l.length ≤ most
  all : ∀ c ∈ l, lo ≤ c ∧ c < lo + n
structure BkOk (b : Bk) : Prop where
  fc : Rise 97 26 6 b.fc
  ct : Rise 65 26 4 b.ct
  len : b.ls.length ≤ 8
  ok : ∀ ln ∈ b.ls, LineOk b.fc b.ct ln
def RoomOk (fc r : Tx) : Prop := r.length = 4 ∧ ∀ c ∈ r, c ∈ fc
theorem Rise.nd {lo n most : Nat} {l : Tx} (h : Rise lo n most l) : l.Nodup := by
  rw [List.nodup_iff_pairwise_ne]
  exact h.asc.imp fun {a b} h => by omega
theorem cut_ok {b : Bk} (h : BkOk b) (r : Tx) (c : Nat) : CutOk b.fc (b.cut r c) := by
  unfold Bk.cut cutOf
  split
  · exact .inl rfl
  · rename_i i e
    have hi : i < b.ls.length := by
      have := List.findIdx?_eq_some_iff_getElem.mp e
      exact this.1
    obtain ⟨p0, p1, p2, p3, k, u, e2, _, _, _, _, _, hu⟩ := h.ok _ (List.getElem_mem hi)
    have e3 : b.ls.getD i [] = [p0, p1, p2, p3, k, u] := by rw [List.getD_eq_getElem?_getD, List.getElem?_eq_getElem hi, Option.getD_some, e2]
    rw [e3]
    exact hu
theorem room4 {fc r : Tx} (h : RoomOk fc r) : ∃ n e s w, r = [n, e, s, w] ∧ n ∈ fc ∧ e ∈ fc ∧ s ∈ fc ∧ w ∈ fc := by
  obtain ⟨h1, h2⟩ := h
  match r, h1 with
  | [n, e, s, w], _ => exact ⟨n, e, s, w, rfl, h2 _ (by simp), h2 _ (by simp), h2 _ (by simp), h2 _ (by simp)⟩
theorem part_room {fc r u q : Tx} (hr : RoomOk fc r) (hu : CutOk fc u) (h : q ∈ partsL r u) : RoomOk fc q := by
  obtain ⟨n, e, s, w, rfl, h1, h2, h3, h4⟩ := room4 hr
  rcases hu with rfl | ⟨g, x, y, rfl, _, hx, hy⟩
  · simp [partsL] at h; subst h; exact hr
  · simp only [partsL] at h
    split at h <;> simp at h <;> rcases h with rfl | rfl <;> refine ⟨rfl, fun c hc => ?_⟩ <;> simp at hc <;> rcases hc with rfl | rfl | rfl | rfl <;> assumption
/-- the two parts -/
def part0 (r u : Tx) : Tx := (partsL r u).getD 0 []
def part1 (r u : Tx) : Tx := (partsL r u).getD 1 []
theorem parts2 {fc r u : Tx} (hr : RoomOk fc r) (hu : CutOk fc u) (hn : u ≠ []) : partsL r u = [part0 r u, part1 r u] := by
  obtain ⟨n, e, s, w, rfl, _⟩ := room4 hr
  rcases hu with rfl | ⟨g, x, y, rfl, _⟩
  · exact absurd rfl hn
  · by_cases hg : g = 124
    · simp [part0, part1, partsL, hg]
    · simp [part0, part1, partsL, hg]
theorem parts1 {r : Tx} : partsL r [] = [r] := by
  unfold partsL
  split
  · rename_i h; cases h
  · rfl
end Fw
end
section
set_option maxRecDepth 100000
set_option maxHeartbeats 4000000
namespace L2.FW
open PySem PySem.Spec PyProof.Rows Fw
variable {P : Program} {w : World} {K : PySem.W.Frag} {mg : Str → Option Value} {base : Heap}
/-- a text is short enough for every rule here -/
abbrev Sm (z : Str) : Prop := z.length ≤ 100000
theorem sm_line {z : Str} (h : Sm z) : z.length ≤ sizeLine := by rw [sizeLine_eq]; omega
local macro_rules | `(tactic| walk_at "go1") => `(tactic| first
  | ((with_reducible apply v_var); exact rfl)
  | ((with_reducible apply s_aug); exact rfl)
  | with_reducible first
    | refine v_c ?_ | refine v_cons ?_ | refine v_nil ?_ | refine v_op ?_ | refine v_cb ?_ | refine v_call ?_ | refine v_bl ?_ | refine v_yes ?_
    | refine s_seq ?_ | refine s_ret ?_ | refine s_if ?_ | refine s_asg ?_ | refine g_name ?_ | refine v_test ?_ | refine v_tB ?_
    | refine v_rI0 ?_ | refine v_eqI ?_ | refine v_neI ?_ | refine v_eqS ?_ | refine v_neS ?_ | refine v_int1 ?_ | refine v_bool1 ?_ | refine v_abs ?_ | refine v_isN ?_ | refine v_notN ?_ | refine v_nsign ?_
    | refine v_andV ?_ | refine v_orV ?_ | refine v_notV ?_ | refine v_and ?_ | refine v_or ?_ | refine v_not ?_
    | refine v_if ?_ | refine v_tup ?_ | refine v_lst ?_ | refine v_sl ?_ | refine v_part ?_ | refine v_nopart ?_ | refine v_int ?_ | refine v_dget ?_ | refine v_din ?_ | refine v_dnin ?_
    | refine v_fld ?_ | refine v_meth ?_ | refine v_bm ?_ | refine v_m1 ?_ | refine v_strE ?_ | refine v_un ?_ | refine v_chain ?_ | refine s_next ?_ | refine s_drop ?_ | refine s_retN ?_ | refine s_par ?_ | refine s_par3 ?_
    | refine s_fld ?_ | refine s_dput ?_ | refine s_ddel ?_ | refine g_nil ?_ | refine g_cons ?_ | refine iteT ?_ | refine iteF ?_ | refine iteNT ?_ | refine iteNF ?_
    | refine isi_ss ?_ | refine isi_ii ?_ | refine isi_ib ?_ | refine v_lc ?_ | refine i_str ?_ | refine v_str ?_ | refine i_list ?_ | refine v_sign ?_)
local macro_rules | `(tactic| walk_at "go") => `(tactic| repeat walk_at "go1")
/-! is_string -/
def allIn (z f : Str) : Bool := z.cps.toList.all fun c => decide (c ∈ f.cps.toList)
def spIsString : Sp := fun vs H Q _ => ∃ z f : Str, vs = [.str z, .str f] ∧ Sm z ∧ ∀ H', Ex H H' → Q (.bl (allIn z f)) H'
/-! is_string: slots value 0 faces 1 letter 2 -/
theorem sc_is_string : FnScope ["value", "faces", "letter"] ["value", "faces"] (defScope (top 23)) := C8.fnScope_by (by decide +kernel)
theorem cal_is_string (T : T w K mg) : Cal P w K mg base 1 "is_string" spIsString := by
  refine calD T.d_is_string T.g_is_string sc_is_string (fun vs H Q E h => ?_) (fun _ _ _ _ _ _ us hl => match us, hl with | [_, _], _ => rfl) (fun cdv A outer s H vs Q E hr h => ?_)
  · obtain ⟨z, f, rfl, _⟩ := h; rfl
  obtain ⟨z, f, rfl, hz, k⟩ := h
  refine ⟨_, (pss_one (ps_ret (pe_and (pe_callB call_isi (by rfl) T.f_isinstance (by decide +kernel) (pa_cons (pv 0) (pa_cons (pe_bltn (v := .ty "str") rfl T.f_str (by decide +kernel) rfl) pa_nil))) (pe_one (pe_callB (cr_all rfl) (by rfl) T.f_all (by decide +kernel) (pa_cons (pe_lc (own := [("letter", 2)]) (g := gName 2) (by rfl) sc_is_string.nd (pi_str (pv 0)) (blkOk_by (own := [("letter", 2)]) (N := ["value", "faces", "letter"]) (sc := defScope (top 23)) (by decide +kernel)) (fun _ _ _ _ _ => (pg_name (i := 2) sc_is_string.nd rfl (Or.inl rfl))) (fun _ _ _ _ _ => pts_nil) (fun _ _ _ _ _ => (pe_cmpR op_sign (pv 2) (pv 1) rfl))) pa_nil)))))), ?_⟩
  walk_at "go"
  refine lc_strF (z := z) (fun c => .bl (decide (c ∈ f.cps.toList))) (by have := hz; omega) (fun c H1 Kt Kn hc e kt => ?_) fun D H1 nD e hD => ?_
  · walk_at "go"
    refine ⟨rfl, ?_⟩
    walk_at "go"
    exact kt _ Ex.rfl'
  · walk_at "go"
    refine v_all (bs := z.cps.toList.map fun c => decide (c ∈ f.cps.toList)) (.inl (.inl (by rw [hD, List.map_map]; rfl))) ?_
    have := k _ e
    rw [allIn] at this
    rw [List.all_map]
    exact this
/-! texts as lists of code points -/
theorem sm_S {a : List Nat} (h : a.length ≤ 100000) : Sm (S a) := by rw [Sm, S_len]; exact h
theorem decS {a b : List Nat} : decide (V.str (S a) = V.str (S b)) = decide (a = b) := by
  by_cases h : a = b
  · subst h; simp
  · have : ¬ V.str (S a) = V.str (S b) := fun e => h (SX.S_inj (V.str.inj e))
    simp [h, this]
theorem beqV {a b : V} {k : Bool} (h : decide (a = b) = k) : (decide (a = b)) = k := h
def spIsOne : Sp := fun vs H Q _ => ∃ (c : Nat) (l : List Nat), vs = [.str (S [c]), .str (S l)] ∧ Q (.bl (decide (c ∈ l))) H
/-! is_one: slots value 0 letters 1 -/
theorem sc_is_one : FnScope ["value", "letters"] ["value", "letters"] (defScope (top 22)) := C8.fnScope_by (by decide +kernel)
theorem cal_is_one (T : T w K mg) : Cal P w K mg base 1 "is_one" spIsOne := by
  refine calD T.d_is_one T.g_is_one sc_is_one (fun vs H Q E h => ?_) (fun _ _ _ _ _ _ us hl => match us, hl with | [_, _], _ => rfl) (fun cdv A outer s H vs Q E hr h => ?_)
  · obtain ⟨z, f, rfl, _⟩ := h; rfl
  obtain ⟨c, l, rfl, k⟩ := h
  refine ⟨_, (pss_one (ps_ret (pe_and (pe_callB call_isi (by rfl) T.f_isinstance (by decide +kernel) (pa_cons (pv 0) (pa_cons (pe_bltn (v := .ty "str") rfl T.f_str (by decide +kernel) rfl) pa_nil))) (pe_and (pe_cmpR op_eq (pe_callB cl_lenStr (by rfl) T.f_len (by decide +kernel) (pa_cons (pv 0) pa_nil)) pe_int (nomark _)) (pe_one (pe_cmpR op_sign (pv 0) (pv 1) rfl)))))), ?_⟩
  walk_at "go"
  refine v_lenSS (l := [c]) (by simp) ?_
  walk_at "go"
  refine iteT ?_
  walk_at "go"
  exact k
def roomOk (r f : List Nat) : Bool := (r.all fun c => decide (c ∈ f)) && decide (r.length = 4)
def spIsRoom : Sp := fun vs H Q _ => ∃ (r f : List Nat), vs = [.str (S r), .str (S f)] ∧ r.length ≤ 100000 ∧ ∀ H', Ex H H' → Q (.bl (roomOk r f)) H'
/-! is_room: slots value 0 faces 1 -/
theorem sc_is_room : FnScope ["value", "faces"] ["value", "faces"] (defScope (top 24)) := C8.fnScope_by (by decide +kernel)
theorem cal_is_room (T : T w K mg) : Cal P w K mg base 2 "is_room" spIsRoom := by
  refine calD T.d_is_room T.g_is_room sc_is_room (fun vs H Q E h => ?_) (fun _ _ _ _ _ _ us hl => match us, hl with | [_, _], _ => rfl) (fun cdv A outer s H vs Q E hr h => ?_)
  · obtain ⟨z, f, rfl, _⟩ := h; rfl
  obtain ⟨r, f, rfl, hz, k⟩ := h
  refine ⟨_, (pss_one (ps_ret (pe_and (pe_cl (cal_is_string T) hr (by decide) rfl (pa_cons (pv 0) (pa_cons (pv 1) pa_nil))) (pe_one (pe_cmpR op_eq (pe_callB cl_lenStr (by rfl) T.f_len (by decide +kernel) (pa_cons (pv 0) pa_nil)) pe_int (nomark _)))))), ?_⟩
  walk_at "go"
  refine ⟨S r, S f, rfl, sm_S hz, fun H1 e => ?_⟩
  walk_at "go"
  have k1 := k H1 e
  rw [roomOk] at k1
  show if allIn (S r) (S f) = true then _ else _
  have ea : allIn (S r) (S f) = (r.all fun c => decide (c ∈ f)) := rfl
  rw [ea]
  cases hc : r.all fun c => decide (c ∈ f)
  · rw [hc] at k1
    exact k1
  · rw [hc] at k1
    walk_at "go"
    refine v_lenSS (l := r) hz ?_
    walk_at "go"
    rw [show decide ((r.length : Int) = 4) = decide (r.length = 4) from by simp only [decide_eq_decide]; omega]
    exact k1
def spIsCut : Sp := fun vs H Q _ => ∃ (g x y : Nat) (f : List Nat), vs = [.str (S [g, x, y]), .str (S f)] ∧ (g = 124 ∨ g = 45) ∧ x ∈ f ∧ y ∈ f ∧ ∀ H', Ex H H' → Q (.bl true) H'
theorem at0 {α : Type} {a : α} {l : List α} : atI (a :: l) 0 = some a := atI_nat (j := 0) rfl
/-! is_cut: slots value 0 faces 1 -/
theorem sc_is_cut : FnScope ["value", "faces"] ["value", "faces"] (defScope (top 25)) := C8.fnScope_by (by decide +kernel)
theorem cal_is_cut (T : T w K mg) : Cal P w K mg base 2 "is_cut" spIsCut := by
  refine calD T.d_is_cut T.g_is_cut sc_is_cut (fun vs H Q E h => ?_) (fun _ _ _ _ _ _ us hl => match us, hl with | [_, _], _ => rfl) (fun cdv A outer s H vs Q E hr h => ?_)
  · obtain ⟨_, _, _, _, rfl, _⟩ := h; rfl
  obtain ⟨g, x, y, f, rfl, hg, hx, hy, k⟩ := h
  refine ⟨_, (pss_cons (ps_if (PW.pt (pw_or (pt_not (pt_val (pe_callB call_isi (by rfl) T.f_isinstance (by decide +kernel) (pa_cons (pv 0) (pa_cons (pe_bltn (v := .ty "str") rfl T.f_str (by decide +kernel) rfl) pa_nil))))) (pw_or (pt_cmpR op_ne (pe_callB cl_lenStr (by rfl) T.f_len (by decide +kernel) (pa_cons (pv 0) pa_nil)) pe_int (nomark _)) (pw_or1 (pt_cmpR op_notIn_seq (pe_ix ix_str (pv 0) pe_int (fun _ _ => rfl)) (pe_tup (pa_cons (C8.pe_gc rfl T.v_UPRIGHT) (pa_cons (C8.pe_gc rfl T.v_LEVEL) pa_nil))) rfl))))) (pss_one (ps_ret pe_bl)) pss_nil)
      (pss_one (ps_ret (pe_cl (cal_is_string T) hr (by decide) rfl (pa_cons (pe_slice C8.sl_txt (pv 0) (po_some pe_int) po_none) (pa_cons (pv 1) pa_nil)))))), ?_⟩
  walk_at "go"
  refine v_lenSS (l := [g, x, y]) (by simp) ?_
  walk_at "go"
  refine iteF ?_
  walk_at "go"
  refine v_ixSS (l := [g, x, y]) (by simp) at0 ?_
  walk_at "go"
  refine ⟨by decide, fun p hp => ?_⟩
  refine ⟨p, _, rfl, .inr (.inl (.inl upd_same)), rfl, rfl, ?_⟩
  walk_at "go"
  have hn : inV (V.str (S [g])) [V.str (S [124]), V.str (S [45])] = true := by
    rcases hg with rfl | rfl <;> decide +kernel
  rw [show inV (V.str { cps := #[g] }) [V.str (Str.ofString "|"), V.str (Str.ofString "-")] = true from hn]
  refine iteF ?_
  walk_at "go"
  refine ⟨S [g, x, y], rfl, by rw [S_len, sizeLine_eq]; simp, ?_⟩
  walk_at "go"
  refine ⟨S [x, y], S f, ?_, sm_S (by simp), fun H1 e => ?_⟩
  · rw [SX.slice_from (a := [g, x, y]) (by decide)]; rfl
  · have ea : allIn (S [x, y]) (S f) = true := by simp [allIn, S, hx, hy]
    rw [ea]
    exact k _ ((Ex.nw hp).t e)
def spIsAddr : Sp := fun vs H Q _ => ∃ (a : List Nat), vs = [.str (S a)] ∧ a.length ≤ 100000 ∧ (∀ c ∈ a, c = 48 ∨ c = 49) ∧ ∀ H', Ex H H' → Q (.bl true) H'
/-! is_address: slots value 0 digit 1 -/
theorem sc_is_address : FnScope ["value", "digit"] ["value"] (defScope (top 26)) := C8.fnScope_by (by decide +kernel)
theorem cal_is_address (T : T w K mg) : Cal P w K mg base 1 "is_address" spIsAddr := by
  refine calD T.d_is_address T.g_is_address sc_is_address (fun vs H Q E h => ?_) (fun _ _ _ _ _ _ us hl => match us, hl with | [_], _ => rfl) (fun cdv A outer s H vs Q E hr h => ?_)
  · obtain ⟨z, rfl, _⟩ := h; rfl
  obtain ⟨a, rfl, hz, ha, k⟩ := h
  refine ⟨_, (pss_one (ps_ret (pe_and (pe_callB call_isi (by rfl) T.f_isinstance (by decide +kernel) (pa_cons (pv 0) (pa_cons (pe_bltn (v := .ty "str") rfl T.f_str (by decide +kernel) rfl) pa_nil))) (pe_one (pe_callB (cr_all rfl) (by rfl) T.f_all (by decide +kernel) (pa_cons (pe_lc (own := [("digit", 1)]) (g := gName 1) (by rfl) sc_is_address.nd (pi_str (pv 0)) (blkOk_by (own := [("digit", 1)]) (N := ["value", "digit"]) (sc := defScope (top 26)) (by decide +kernel)) (fun _ _ _ _ _ => (pg_name (i := 1) sc_is_address.nd rfl (Or.inl rfl))) (fun _ _ _ _ _ => pts_nil) (fun _ _ _ _ _ => (pe_cmpR op_sign (pv 1) pe_str rfl))) pa_nil)))))), ?_⟩
  walk_at "go"
  refine lc_strF (z := S a) (fun c => .bl true) (by rw [S_len]; omega) (fun c H1 Kt Kn hc e kt => ?_) fun D H1 nD e hD => ?_
  · walk_at "go"
    refine ⟨rfl, ?_⟩
    walk_at "go"
    have : decide (c ∈ (Str.ofString "01").cps.toList) = true := by
      rcases ha c hc with rfl | rfl <;> decide +kernel
    rw [this]
    exact kt _ Ex.rfl'
  · walk_at "go"
    refine v_all (bs := a.map fun c => true) (.inl (.inl (by rw [hD, List.map_map]; rfl))) ?_
    rw [show (a.map fun c => true).all id = true from by simp]
    exact k _ e
def spIsWhole : Sp := fun vs H Q _ => ∃ (i : Int), vs = [.int i] ∧ Q (.bl true) H
/-! is_whole: slots value 0 -/
theorem sc_is_whole : FnScope ["value"] ["value"] (defScope (top 34)) := C8.fnScope_by (by decide +kernel)
theorem cal_is_whole (T : T w K mg) : Cal P w K mg base 1 "is_whole" spIsWhole := by
  refine calD T.d_is_whole T.g_is_whole sc_is_whole (fun vs H Q E h => ?_) (fun _ _ _ _ _ _ us hl => match us, hl with | [_], _ => rfl) (fun cdv A outer s H vs Q E hr h => ?_)
  · obtain ⟨z, rfl, _⟩ := h; rfl
  obtain ⟨i, rfl, k⟩ := h
  refine ⟨_, (pss_one (ps_ret (pe_and (pe_callB call_isi (by rfl) T.f_isinstance (by decide +kernel) (pa_cons (pv 0) (pa_cons (pe_bltn (v := .ty "int") rfl T.f_int (by decide +kernel) rfl) pa_nil))) (pe_one (pe_not (pe_callB call_isi (by rfl) T.f_isinstance (by decide +kernel) (pa_cons (pv 0) (pa_cons (pe_bltn (v := .ty "bool") rfl T.f_bool (by decide +kernel) rfl) pa_nil)))))))), ?_⟩
  walk_at "go"
  exact k
def spPartsOf : Sp := fun vs H Q _ => ∃ (r c : List Nat), vs = [.str (S r), .str (S c)] ∧ r.length = 4 ∧ (c = [] ∨ ∃ g x y, c = [g, x, y]) ∧ ∀ p H', H p = none → Ex H H' → H' p = some (.lst ((partsL r c).map fun z => V.str (S z))) → Q (.ref p) H'
/-! parts_of: slots room 0 cut 1 north 2 east 3 south 4 west 5 -/
theorem sc_parts_of : FnScope ["room", "cut", "north", "east", "south", "west"] ["room", "cut"] (defScope (top 27)) := C8.fnScope_by (by decide +kernel)
theorem cal_parts_of (T : T w K mg) : Cal P w K mg base 1 "parts_of" spPartsOf := by
  refine calD T.d_parts_of T.g_parts_of sc_parts_of (fun vs H Q E h => ?_) (fun _ _ _ _ _ _ us hl => match us, hl with | [_, _], _ => rfl) (fun cdv A outer s H vs Q E hr h => ?_)
  · obtain ⟨_, _, rfl, _⟩ := h; rfl
  obtain ⟨r, c, rfl, hr4, hc, k⟩ := h
  obtain ⟨n, e, ss, w', rfl⟩ : ∃ a b c d, r = [a, b, c, d] := by
    match r, hr4 with
    | [a, b, c, d], _ => exact ⟨a, b, c, d, rfl⟩
  refine ⟨_, (pss_cons (ps_if (pt_cmpR op_eq (pv 1) pe_str (nomark _)) (pss_one (ps_ret (pe_lst (pa_cons (pv 0) pa_nil)))) pss_nil)
      (pss_cons (ps_asg (pe_tup (pa_cons (pe_ix ix_str (pv 0) pe_int (fun _ _ => rfl)) (pa_cons (pe_ix ix_str (pv 0) pe_int (fun _ _ => rfl)) (pa_cons (pe_ix ix_str (pv 0) pe_int (fun _ _ => rfl)) (pa_cons (pe_ix ix_str (pv 0) pe_int (fun _ _ => rfl)) pa_nil))))) (pg_tup rfl (pgs_cons (pg_name (i := 2) sc_parts_of.nd rfl (Or.inl rfl)) (pgs_cons (pg_name (i := 3) sc_parts_of.nd rfl (Or.inl rfl)) (pgs_cons (pg_name (i := 4) sc_parts_of.nd rfl (Or.inl rfl)) (pgs_cons (pg_name (i := 5) sc_parts_of.nd rfl (Or.inl rfl)) pgs_nil))))))
      (pss_cons (ps_if (pt_cmpR op_eq (pe_ix ix_str (pv 1) pe_int (fun _ _ => rfl)) (C8.pe_gc rfl T.v_UPRIGHT) (nomark _)) (pss_one (ps_ret (pe_lst (pa_cons (pe_op op_catS (pe_op op_catS (pe_op op_catS (pv 2) (pe_ix ix_str (pv 1) pe_int (fun _ _ => rfl))) (pv 4)) (pv 5)) (pa_cons (pe_op op_catS (pe_op op_catS (pe_op op_catS (pv 2) (pv 3)) (pv 4)) (pe_ix ix_str (pv 1) pe_int (fun _ _ => rfl))) pa_nil))))) pss_nil)
      (pss_one (ps_ret (pe_lst (pa_cons (pe_op op_catS (pe_op op_catS (pe_op op_catS (pv 2) (pv 3)) (pe_ix ix_str (pv 1) pe_int (fun _ _ => rfl))) (pv 5)) (pa_cons (pe_op op_catS (pe_op op_catS (pe_op op_catS (pe_ix ix_str (pv 1) pe_int (fun _ _ => rfl)) (pv 3)) (pv 4)) (pv 5)) pa_nil)))))))), ?_⟩
  walk_at "go"
  rw [show (Str.ofString "").1.toList = [] from rfl]
  rcases hc with rfl | ⟨g, x, y, rfl⟩
  · walk_at "go"
    refine iteT ?_
    walk_at "go"
    exact ⟨szl (by simp), fun p hp => k p _ hp (Ex.nw hp) upd_same⟩
  · refine iteF ?_
    walk_at "go"
    refine v_ixSS (by simp) at0 ?_
    walk_at "go"
    refine v_ixSS (by simp) (atI_nat (j := 1) rfl) ?_
    walk_at "go"
    refine v_ixSS (by simp) (atI_nat (j := 2) rfl) ?_
    walk_at "go"
    refine v_ixSS (by simp) (atI_nat (j := 3) rfl) ?_
    walk_at "go"
    refine ⟨szl (by simp), fun p hp => ?_⟩
    generalize hH1 : upd H p _ = H1
    have e1 : Ex H H1 := hH1 ▸ Ex.nw hp
    have hp1 : H1 p = some _ := hH1 ▸ upd_same
    refine g_tup (.inl (.inl hp1)) rfl ?_
    walk_at "go"
    refine v_ixSS (by simp) at0 ?_
    walk_at "go"
    rw [show (Str.ofString "|").1.toList = [124] from rfl]
    have kp : ∀ q H', H1 q = none → Ex H1 H' → H' q = some (.lst ((partsL [n, e, ss, w'] [g, x, y]).map fun z => V.str (S z))) → Q (.ref q) H' := fun q H' hq e2 h2 => k q H' (e1.none hq) (e1.t e2) h2
    by_cases hg : g = 124
    · rw [show partsL [n, e, ss, w'] [g, x, y] = [[n, x, ss, w'], [n, e, ss, y]] from if_pos hg] at kp
      rw [show decide ([g] = [124]) = true from by simp [hg]]
      walk_at "go"
      refine v_ixSS (by simp) (atI_nat (j := 1) rfl) ?_
      refine v_catS (by simp) ?_
      walk_at "go"
      refine v_catS (by simp) ?_
      walk_at "go"
      refine v_catS (by simp) ?_
      walk_at "go"
      refine v_catS (by simp) ?_
      walk_at "go"
      refine v_catS (by simp) ?_
      walk_at "go"
      refine v_ixSS (by simp) (atI_nat (j := 2) rfl) ?_
      refine v_catS (by simp) ?_
      walk_at "go"
      exact ⟨szl (show 2 ≤ 10000000 by decide), fun q hq => kp q _ hq (Ex.nw hq) upd_same⟩
    · rw [show partsL [n, e, ss, w'] [g, x, y] = [[n, e, x, w'], [y, e, ss, w']] from if_neg hg] at kp
      rw [show decide ([g] = [124]) = false from by simp [hg]]
      walk_at "go"
      refine v_catS (by simp) ?_
      walk_at "go"
      refine v_ixSS (by simp) (atI_nat (j := 1) rfl) ?_
      refine v_catS (by simp) ?_
      walk_at "go"
      refine v_catS (by simp) ?_
      walk_at "go"
      refine v_ixSS (by simp) (atI_nat (j := 2) rfl) ?_
      walk_at "go"
      refine v_catS (by simp) ?_
      walk_at "go"
      refine v_catS (by simp) ?_
      walk_at "go"
      refine v_catS (by simp) ?_
      walk_at "go"
      exact ⟨szl (show 2 ≤ 10000000 by decide), fun q hq => kp q _ hq (Ex.nw hq) upd_same⟩
def spIsPlace : Sp := fun vs H Q _ => ∃ (t b : Int), vs = [.int t, .int b] ∧ 0 < t ∧ t < b ∧ Q (.bl true) H
/-! is_place: slots top 0 bottom 1 -/
theorem sc_is_place : FnScope ["top", "bottom"] ["top", "bottom"] (defScope (top 44)) := C8.fnScope_by (by decide +kernel)
theorem cal_is_place (T : T w K mg) : Cal P w K mg base 2 "is_place" spIsPlace := by
  refine calD T.d_is_place T.g_is_place sc_is_place (fun vs H Q E h => ?_) (fun _ _ _ _ _ _ us hl => match us, hl with | [_, _], _ => rfl) (fun cdv A outer s H vs Q E hr h => ?_)
  · obtain ⟨_, _, rfl, _⟩ := h; rfl
  obtain ⟨t, b, rfl, h1, h2, k⟩ := h
  refine ⟨_, (pss_one (ps_ret (pe_and (pe_cl (cal_is_whole T) hr (by decide) rfl (pa_cons (pv 0) pa_nil)) (pe_and (pe_cl (cal_is_whole T) hr (by decide) rfl (pa_cons (pv 1) pa_nil)) (pe_one (pe_chain op_lt op_lt pe_int (pv 0) (pv 1))))))), ?_⟩
  walk_at "go"
  refine ⟨t, rfl, ?_⟩
  walk_at "go"
  refine ⟨b, rfl, ?_⟩
  walk_at "go"
  rw [show decide (0 < t) = true from decide_eq_true h1]
  walk_at "go"
  rw [show decide (t < b) = true from decide_eq_true h2]
  exact k
end L2.FW
end
section
set_option maxRecDepth 100000
set_option maxHeartbeats 4000000
/-! How the program's things lie in the heap. -/
namespace L2.FW
open PySem PySem.Spec PyProof.Rows Fw
abbrev sV (w : Tx) : V := V.str (S w)
/-- rows of texts -/
def HLn (H : Hp) (rs : List (Addr × List Tx)) : Prop := ∀ r ∈ rs, H r.1 = some (.tup (r.2.map sV))
theorem HLn.ex {H H' : Hp} {rs : List (Addr × List Tx)} (e : Ex H H') (h : HLn H rs) : HLn H' rs := fun r m => e _ _ (h r m)
theorem HLn.get {H : Hp} {rs : List (Addr × List Tx)} (h : HLn H rs) {i : Nat} {x : V} (e : (rs.map fun r => V.ref r.1)[i]? = some x) : ∃ r, x = .ref r.1 ∧ H r.1 = some (.tup (r.2.map sV)) ∧ (rs.map (·.2))[i]? = some r.2 ∧ r ∈ rs := by
  rw [List.getElem?_map] at e
  cases q : rs[i]? with
  | none => rw [q] at e; cases e
  | some r =>
    rw [q] at e
    cases e
    have hm := List.mem_of_getElem? q
    exact ⟨r, rfl, h r hm, by rw [List.getElem?_map, q]; rfl, hm⟩
def HBook (K : PySem.W.Frag) (H : Hp) (a : Addr) (b : Bk) : Prop := ∃ dx l rs, H a = some (.ins (He.ga K "Book") dx [("faces", sV b.fc), ("cutters", sV b.ct), ("own_lines", .ref l)]) ∧ H l = some (.lst (rs.map fun r => V.ref r.1)) ∧ HLn H rs ∧ rs.map (·.2) = b.ls
theorem HBook.ex {K : PySem.W.Frag} {H H' : Hp} {a : Addr} {b : Bk} (e : Ex H H') (h : HBook K H a b) : HBook K H' a b := by
  obtain ⟨dx, l, rs, h1, h2, h3, h4⟩ := h
  exact ⟨dx, l, rs, e _ _ h1, e _ _ h2, h3.ex e, h4⟩
section
variable {w : World} {K : PySem.W.Frag} {mg : Str → Option Value} {H : Hp} {Q : VK} {a : Addr} {b : Bk}
theorem fld_any {C dx : Addr} {fs : List (Str × V)} {f : Str} {v : V} (h : H a = some (.ins C dx fs)) (c : Cls K C) (n : NoAttr K C f) (hl : fs.lookup f = some v) (q : Q v H) : rFld K f (.ref a) H Q := ⟨a, C, dx, fs, v, rfl, h, c, n, hl, q⟩
theorem fld_faces (T : T w K mg) (h : HBook K H a b) (q : Q (sV b.fc) H) : rFld K "faces" (.ref a) H Q := by
  obtain ⟨dx, l, rs, h1, _⟩ := h
  exact fld_any h1 T.c_Book T.n_Book_faces rfl q
theorem fld_cutters (T : T w K mg) (h : HBook K H a b) (q : Q (sV b.ct) H) : rFld K "cutters" (.ref a) H Q := by
  obtain ⟨dx, l, rs, h1, _⟩ := h
  exact fld_any h1 T.c_Book T.n_Book_cutters rfl q
theorem fld_lines (T : T w K mg) (h : HBook K H a b) (q : ∀ l rs, H l = some (.lst (rs.map fun r => V.ref r.1)) → HLn H rs → rs.map (·.2) = b.ls → Q (.ref l) H) : rFld K "own_lines" (.ref a) H Q := by
  obtain ⟨dx, l, rs, h1, h2, h3, h4⟩ := h
  exact fld_any h1 T.c_Book T.n_Book_own_lines rfl (q l rs h2 h3 h4)
theorem mth_book {m : Str} {R : Prop} (h : HBook K H a b) (hm : ∀ x y z : V, [(("faces" : Str), x), ("cutters", y), ("own_lines", z)].lookup m = none) (q : R) : rMth (He.ga K "Book") m (.ref a) H R := by
  obtain ⟨dx, l, rs, h1, _⟩ := h
  exact ⟨a, dx, _, rfl, h1, hm _ _ _, q⟩
end
theorem ex_l {K : PySem.W.Frag} {H : Hp} {a : Addr} {xs : List V} (h : H a = some (.lst xs)) : SqL K H a xs := .inl (.inl h)
theorem ex_t {K : PySem.W.Frag} {H : Hp} {a : Addr} {xs : List V} (h : H a = some (.tup xs)) : SqT K H a xs := .inl (.inl h)
theorem v_ixLL {K : PySem.W.Frag} {H : Hp} {Q : VK} {p : Addr} {xs : List V} {i : Nat} {v : V} (h : H p = some (.lst xs)) (a : xs[i]? = some v) (q : Q v H) : rIxL K (.ref p) (.int (i : Int)) H Q := v_ixL (ex_l h) (atI_nat a) q
theorem v_ixTT {K : PySem.W.Frag} {H : Hp} {Q : VK} {p : Addr} {xs : List V} {i : Nat} {v : V} (h : H p = some (.tup xs)) (a : xs[i]? = some v) (q : Q v H) : rIxT K (.ref p) (.int (i : Int)) H Q := v_ixT (ex_t h) (atI_nat a) q
section
variable {σ : St} {H : Hp} {K : PySem.W.Frag} {R : It → Hp → Prop} {ta : TA} {te : TE} {Q : VK}
theorem i_zipS (q : ta σ H fun vs H1 => ∃ p q : Src, vs = [p.val, q.val] ∧ p.holds K H1 ∧ q.holds K H1 ∧ R (ItS2 K p q) H1) : iZipS K ta σ H R := q
theorem i_zipS3 (q : ta σ H fun vs H1 => ∃ p q r : Src, vs = [p.val, q.val, r.val] ∧ p.holds K H1 ∧ q.holds K H1 ∧ r.holds K H1 ∧ R (ItS3 K p q r) H1) : iZipS3 K ta σ H R := q
theorem i_enumS (q : ta σ H fun vs H1 => ∃ p : Src, vs = [p.val] ∧ p.holds K H1 ∧ R (ItSe K p) H1) : iEnumS K ta σ H R := q
theorem i_enum (q : ta σ H fun vs H1 => ∃ a xs, vs = [.ref a] ∧ SqL K H1 a xs ∧ R (Ite K a) H1) : iEnum K ta σ H R := q
theorem i_tup (q : te σ H fun x H1 => ∃ a, x = .ref a ∧ (∃ xs, SqT K H1 a xs) ∧ R (Itt K a) H1) : iTup K te σ H R := q
theorem i_rng (q : ta σ H fun vs H1 => ∃ j : Int, vs = [.int j] ∧ -(2 ^ 62) ≤ j ∧ j < 2 ^ 62 ∧ R (Itr 0 j.toNat) H1) : iRng1 ta σ H R := q
theorem i_keys (q : te σ H fun x H1 => ∃ d o, x = .ref d ∧ ((∃ kvs, H1 d = some (.frz o (.dK kvs)) ∧ R (Itk d o kvs) H1) ∨ ∃ kvs, H1 d = some (.frz o (.dT kvs)) ∧ R (Itkt d o kvs) H1)) : iKeys te σ H R := q
theorem v_star {Q : List V → Hp → Prop} (q : te σ H fun x H1 => ∃ p xs, x = V.ref p ∧ (SqT K H1 p xs ∨ SqL K H1 p xs) ∧ ta σ H1 fun ys H2 => Q (xs ++ ys) H2) : StX.tStar K te ta σ H Q := q
theorem v_cval {f : Str} (q : te σ H fun x H1 => ∃ C mc v u, x = .ref C ∧ ClX.CRead K C mc ∧ ClX.CVal K C mc f v u ∧ Q v H1) : ClX.tCVal K te f σ H Q := q
variable {D : Ends} {wi : TI} {g : TG} {tb : TS}
theorem s_for (q : wi σ H fun J H1 => ∃ W : Nat → Nat → St → Hp → Prop, (∃ m, W 0 m σ H1) ∧ ∀ i m σ H, W i m σ H → (J.stop i H ∧ D.nx σ H) ∨
      (J.go i H ∧ ∃ N : St → Hp → Prop, (∀ σ' H', N σ' H' → ∃ m', m' < m ∧ W (i + 1) m' σ' H') ∧ ∀ x H', J.yld i H x H' → g x σ H' fun σ2 H2 => tb { D with nx := N, ct := N, bk := D.nx } σ2 H2)) : tFor wi g tb D σ H := q
theorem v_slT {p : Addr} {xs : List V} {lo hi : Option Int} (h : H p = some (.tup xs)) (hc : ¬ (HT.sIx xs.length 0 lo = 0 ∧ HT.sIx xs.length xs.length hi = xs.length)) (q : ∀ r, H r = none → Q (.ref r) (upd H r (.tup (cutV xs lo hi)))) : rSlT K (.ref p) lo hi H Q := ⟨p, xs, rfl, ex_t h, hc, q⟩
end
/-- over a zip of two still sources, the element told by the two items alone -/
theorem zip_at {p q : List V} {F : V → V → V} : ∀ {ys : List V}, ys.length = min p.length q.length → (∀ (i : Nat) y, ys[i]? = some y → ∃ a b, p[i]? = some a ∧ q[i]? = some b ∧ y = F a b) → ys = List.zipWith F p q := by
  intro ys hl h
  apply List.ext_getElem?
  intro i
  rw [List.getElem?_zipWith]
  cases e : ys[i]? with
  | none =>
    have : ys.length ≤ i := List.getElem?_eq_none_iff.mp e
    by_cases h1 : p.length ≤ i
    · rw [List.getElem?_eq_none h1]
    · rw [List.getElem?_eq_none (show q.length ≤ i by omega)]
      cases p[i]? <;> rfl
  | some y =>
    obtain ⟨a, b, h1, h2, rfl⟩ := h i y e
    rw [h1, h2]
theorem lc_zipF {K : PySem.W.Frag} {p q : Src} {g : TG} {tt : TT} {te : TE} {vs : List Nat} {σ : St} {H1 : Hp} {Qd : Addr → Hp → Prop} (F : V → V → V) (hp : p.holds K H1) (hq : q.holds K H1) (hn : p.items.length ≤ 10000000)
    (hs : ∀ (i : Nat) (x y : V) (T : Addr) (H : Hp) (Kt : VK) (Kn : Hp → Prop), p.items[i]? = some x → q.items[i]? = some y → Ex H1 H → H T = some (.tup [x, y]) → (∀ H4, Ex H H4 → Kt (F x y) H4) → g (.ref T) (wipe σ vs) H fun σ2 H2 => wipe σ2 vs = wipe σ vs ∧ tt σ2 H2 fun b H3 => if b = true then te σ2 H3 Kt else Kn H3)
    (hd : ∀ D H', H1 D = none → Ex H1 H' → H' D = some (.lst (List.zipWith F p.items q.items)) → Qd D H') :
    ∀ D, H1 D = none → ∃ W : Nat → Nat → Hp → Prop, (∃ m, W 0 m (upd H1 D (.lst []))) ∧ ∀ i m H, W i m H →
      ((ItS2 K p q).stop i H ∧ Qd D H) ∨ ((ItS2 K p q).go i H ∧ ∃ Nx : Hp → Prop, (∀ H', Nx H' → ∃ m', m' < m ∧ W (i + 1) m' H') ∧ ∀ x H', (ItS2 K p q).yld i H x H' → g x (wipe σ vs) H' fun σ2 H2 => wipe σ2 vs = wipe σ vs ∧ tt σ2 H2 fun b H3 =>
        if b = true then te σ2 H3 fun y H4 => ∃ acc, H4 D = some (.lst acc) ∧ acc.length < sizeLine ∧ Nx (upd H4 D (.lst (acc ++ [y]))) else Nx H3) :=
  lc_ev (walk_S2 (K := K) (p := p) (q := q) rfl) (by omega) (fun i y _ => ∃ a b, p.items[i]? = some a ∧ q.items[i]? = some b ∧ y = F a b) (fun _ _ _ _ _ _ _ _ h => h) (fun H e => ⟨Src.ex e hp, Src.ex e hq⟩)
    (fun i x H H' Kt Kn hi e y hk => by
      obtain ⟨T, a, b, rfl, hT, rfl, h1, h2⟩ := y
      exact hs i a b T _ Kt Kn h1 h2 (e.t (Ex.nw hT)) upd_same fun H4 e4 => hk _ _ ((Ex.nw hT).t e4) ⟨a, b, h1, h2, rfl⟩)
    (fun D H' ys h1 e hl hlen hr => hd D H' h1 e (by rw [hl, zip_at hlen hr]))
section
variable {c : Prop} [Decidable c] {A B : Prop}
theorem itF (h : ¬ c) (q : B) : if decide c = true then A else B := by rw [if_neg (by simpa using h)]; exact q
theorem itT (h : c) (q : A) : if decide c = true then A else B := by rw [if_pos (by simpa using h)]; exact q
theorem itNF (h : ¬ c) (q : A) : if (!decide c) = true then A else B := by rw [if_pos (by simpa using h)]; exact q
theorem itNT (h : c) (q : B) : if (!decide c) = true then A else B := by rw [if_neg (by simpa using h)]; exact q
end
theorem isi_tt {K : PySem.W.Frag} {H : Hp} {Q : VK} {t : Addr} {xs : List V} (h : H t = some (.tup xs)) (q : Q (.bl true) H) : rIsi K [.ref t, .ty "tuple"] H Q := isi_ty (.base (.tup h)) (by decide +kernel) q
theorem isi_ll {K : PySem.W.Frag} {H : Hp} {Q : VK} {t : Addr} {xs : List V} (h : H t = some (.lst xs)) (q : Q (.bl true) H) : rIsi K [.ref t, .ty "list"] H Q := isi_ty (.base (.lst h)) (by decide +kernel) q
theorem isi_sl {K : PySem.W.Frag} {H : Hp} {Q : VK} {z : Str} (q : Q (.bl false) H) : rIsi K [.str z, .ty "list"] H Q := isi_ty (.base (.str z)) (by decide +kernel) q
theorem isi_st {K : PySem.W.Frag} {H : Hp} {Q : VK} {z : Str} (q : Q (.bl false) H) : rIsi K [.str z, .ty "tuple"] H Q := isi_ty (.base (.str z)) (by decide +kernel) q
theorem isi_il {K : PySem.W.Frag} {H : Hp} {Q : VK} {z : Int} (q : Q (.bl false) H) : rIsi K [.int z, .ty "list"] H Q := isi_ty (.base (.int z)) (by decide +kernel) q
theorem isi_it {K : PySem.W.Frag} {H : Hp} {Q : VK} {z : Int} (q : Q (.bl false) H) : rIsi K [.int z, .ty "tuple"] H Q := isi_ty (.base (.int z)) (by decide +kernel) q
theorem isi_tl {K : PySem.W.Frag} {H : Hp} {Q : VK} {t : Addr} {xs : List V} (h : H t = some (.tup xs)) (q : Q (.bl false) H) : rIsi K [.ref t, .ty "list"] H Q := isi_ty (.base (.tup h)) (by decide +kernel) q
theorem ty_l {K : PySem.W.Frag} {H : Hp} {l : Addr} {xs : List V} (h : H l = some (.lst xs)) : tyV K "list" (.ref l) H := .inl ⟨rfl, _, ex_l h⟩
theorem v_append {H : Hp} {Q : VK} {l : Addr} {xs : List V} {y : V} (h : H l = some (.lst xs)) (hz : xs.length < 10000000) (q : Q .non (upd H l (.lst (xs ++ [y])))) : rAppend (.ref l) [y] H Q := ⟨l, xs, y, rfl, rfl, h, by rw [sizeLine_eq]; omega, q⟩
theorem v_makeR {C : Addr} {sp : Sp} {E : XK} {t : TA} {σ : St} {H : Hp} {Q : VK} (q : t σ H fun vs H1 => ∀ x dx, H1 x = Option.none → H1 dx = Option.none → dx ≠ x → sp (V.ref x :: vs) (upd (upd H1 dx (.own x)) x (.ins C dx [])) (fun v H2 => v = .non ∧ Q (.ref x) H2) E) : StX.tMakeR C sp E t σ H Q := q
/-- an instance made: x its address, dx its dict's -/
def rMk (C : Addr) (sp : Sp) (dvs : List V) (E : XK) (vs : List V) (H1 : Hp) (Q : VK) : Prop := ∀ x dx, H1 x = Option.none → H1 dx = Option.none → dx ≠ x → sp (V.ref x :: (vs ++ dvs)) (upd (upd H1 dx (.own x)) x (.ins C dx [])) (fun v H2 => v = .non ∧ Q (.ref x) H2) E
theorem v_make {C : Addr} {sp : Sp} {dvs : List V} {E : XK} {t : TA} {σ : St} {H : Hp} {Q : VK} (q : t σ H fun vs H1 => rMk C sp dvs E vs H1 Q) : tMake C sp dvs E t σ H Q := q
/-- a new instance: the two cells of it -/
theorem made_ {H : Hp} {x dx C : Addr} (hx : H x = none) (hd : H dx = none) (n : dx ≠ x) : Ex H (upd (upd H dx (.own x)) x (.ins C dx [])) := (Ex.nw hd).t (Ex.nw (by rw [upd_ne (Ne.symm n)]; exact hx))
theorem cps_S (l : List Nat) : (S l).cps.toList = l := by simp [S, SX.S]
theorem all_zip {α β : Type} {f : α → β → Bool} : ∀ {l : List α} {r : List β}, (List.zipWith f l r).all id = (l.zip r).all fun q => f q.1 q.2
  | [], _ => by simp
  | _ :: _, [] => by simp
  | a :: l, b :: r => by rw [List.zipWith_cons_cons, List.zip_cons_cons, List.all_cons, List.all_cons, all_zip] <;> rfl
theorem zipV {f : Tx → Nat → Bool} {l : List Tx} {r : Tx} {F : V → V → V} (hF : ∀ p c, F (sV p) (.str ⟨#[c]⟩) = .bl (f p c)) : List.zipWith F (l.map sV) ((S r).cps.toList.map fun c => V.str ⟨#[c]⟩) = (List.zipWith f l r).map V.bl := by
  rw [cps_S, List.zipWith_map, List.map_zipWith]
  congr 1
  funext p c
  exact hF p c
theorem roomOk_of {f r : Tx} (h : RoomOk f r) : roomOk r f = true := by
  unfold roomOk
  rw [Bool.and_eq_true, List.all_eq_true]
  exact ⟨fun c hc => decide_eq_true (h.2 c hc), decide_eq_true h.1⟩
end L2.FW
end
section
set_option maxRecDepth 100000
set_option maxHeartbeats 4000000
/-! Texts, lists of texts, tuples of three texts as data (== of lists, a tuple in a list). -/
namespace L2.FW
open PySem PySem.Spec PyProof.Rows Fw
/-- signs of the plain alphabet alone -/
def Asc (z : Tx) : Prop := ∀ c ∈ z, c < 128
theorem ok_tx {z : Tx} (h : Asc z) : PyData.strOk (S z) = true := by
  unfold PyData.strOk
  rw [Array.all_eq_true']
  intro c hc
  have : c ∈ z := by rw [← cps_S z]; exact Array.mem_toList_iff.mpr hc
  have := h c this
  exact decide_eq_true (by omega)
def tD (w : Tx) : PyData := .str (S w)
theorem dp_strs {K : PySem.W.Frag} {H : Hp} : ∀ l : List Tx, DpAll K H (l.map sV) (l.map tD)
  | [] => .nil
  | w :: l => .cons (.str _) (dp_strs l)
theorem tDs_lay : ∀ l : List Tx, (∀ z ∈ l, Asc z) → PyData.canLayAll0 (l.map tD) = true
  | [], _ => by simp [PyData.canLayAll0]
  | z :: zs, h => by simp [PyData.canLayAll0, tD, PyData.canLay0, tDs_lay zs fun x m => h x (List.mem_cons_of_mem _ m), ok_tx (h z List.mem_cons_self)]
theorem tDs_depth : ∀ l : List Tx, PyData.depthAll (l.map tD) ≤ 0
  | [] => by simp [PyData.depthAll]
  | z :: zs => by
    have h1 := tDs_depth zs
    simp only [List.map_cons, PyData.depthAll, tD, PyData.depth]
    omega
theorem tDs_shaped (l : List Tx) (ha : ∀ z ∈ l, Asc z) : SeqAt.shaped (.list (l.map tD)) = true := by
  have h1 := tDs_depth l
  show (PyData.canLay0 (.list (l.map tD)) && decide (PyData.depth (.list (l.map tD)) ≤ 64)) = true
  rw [Bool.and_eq_true]
  refine ⟨by simp only [PyData.canLay0]; exact tDs_lay l ha, decide_eq_true ?_⟩
  simp only [PyData.depth]
  omega
theorem v_eqLL {K : PySem.W.Frag} {H : Hp} {Q : VK} {a b : Addr} {l : List Tx} (hz : ∀ z ∈ l, Asc z) (ha : H a = some (.lst (l.map sV))) (hb : H b = some (.lst (l.map sV))) (q : Q (.bl true) H) : rEqD K (.ref a) (.ref b) H Q := by
  refine ⟨.list (l.map tD), .list (l.map tD), .lst (ex_l ha) (dp_strs l), .lst (ex_l hb) (dp_strs l), tDs_shaped l hz, tDs_shaped l hz, ?_⟩
  rw [SeqAt.eqv_refl _ (by simp only [PyData.canLay0]; exact tDs_lay l hz)]
  exact q
/-- a tuple of three texts -/
abbrev Tri := Tx × Tx × Tx
def AscT (z : Tri) : Prop := Asc z.1 ∧ Asc z.2.1 ∧ Asc z.2.2
def triV (z : Tri) : List V := [sV z.1, sV z.2.1, sV z.2.2]
def triD (z : Tri) : PyData := .tuple [tD z.1, tD z.2.1, tD z.2.2]
theorem triD_eqv (z w : Tri) : PyData.eqv (triD z) (triD w) = decide (z = w) := by
  obtain ⟨a, b, c⟩ := z
  obtain ⟨a', b', c'⟩ := w
  have se : ∀ x y : Tx, (S x == S y) = decide (x = y) := fun x y => by
    by_cases h : x = y
    · subst h; simp
    · have : ¬ S x = S y := fun e => h (SX.S_inj e)
      simp [h, this]
  have e : PyData.eqv (triD (a, b, c)) (triD (a', b', c')) = ((S a == S a') && ((S b == S b') && ((S c == S c') && true))) := by simp only [triD, tD, PyData.eqv, PyData.eqvAll]
  rw [e, se, se, se]
  by_cases h1 : a = a' <;> by_cases h2 : b = b' <;> by_cases h3 : c = c' <;> simp [h1, h2, h3]
theorem triDs_lay : ∀ zs : List Tri, (∀ z ∈ zs, AscT z) → PyData.canLayAll0 (zs.map triD) = true
  | [], _ => by simp [PyData.canLayAll0]
  | z :: zs, h => by
    obtain ⟨h1, h2, h3⟩ := h z List.mem_cons_self
    simp [PyData.canLayAll0, triD, tD, PyData.canLay0, triDs_lay zs fun x m => h x (List.mem_cons_of_mem _ m), ok_tx h1, ok_tx h2, ok_tx h3]
theorem triDs_depth : ∀ zs : List Tri, PyData.depthAll (zs.map triD) ≤ 1
  | [] => by simp [PyData.depthAll]
  | z :: zs => by
    have h1 := triDs_depth zs
    simp only [List.map_cons, PyData.depthAll, triD, tD, PyData.depth]
    omega
theorem triDs_shaped (zs : List Tri) (ha : ∀ z ∈ zs, AscT z) : SeqAt.shaped (.list (zs.map triD)) = true := by
  have h1 := triDs_depth zs
  show (PyData.canLay0 (.list (zs.map triD)) && decide (PyData.depth (.list (zs.map triD)) ≤ 64)) = true
  rw [Bool.and_eq_true]
  refine ⟨by simp only [PyData.canLay0]; exact triDs_lay zs ha, decide_eq_true ?_⟩
  simp only [PyData.depth]
  omega
theorem triD_shaped (z : Tri) (ha : AscT z) : SeqAt.shaped (triD z) = true := by
  show (PyData.canLay0 (triD z) && decide (PyData.depth (triD z) ≤ 64)) = true
  simp [triD, tD, PyData.canLay0, PyData.canLayAll0, PyData.depth, PyData.depthAll, ok_tx ha.1, ok_tx ha.2.1, ok_tx ha.2.2]
/-- addresses of such tuples -/
def HTri (H : Hp) (rs : List (Addr × Tri)) : Prop := ∀ r ∈ rs, H r.1 = some (.tup (triV r.2))
theorem HTri.ex {H H' : Hp} {rs : List (Addr × Tri)} (e : Ex H H') (h : HTri H rs) : HTri H' rs := fun r m => e _ _ (h r m)
theorem dp_tri {K : PySem.W.Frag} {H : Hp} {t : Addr} {z : Tri} (h : H t = some (.tup (triV z))) : Dp K H (.ref t) (triD z) := .tup (ex_t h) (.cons (.str _) (.cons (.str _) (.cons (.str _) .nil)))
theorem dp_tris {K : PySem.W.Frag} {H : Hp} : ∀ rs : List (Addr × Tri), HTri H rs → DpAll K H (rs.map fun r => V.ref r.1) (rs.map fun r => triD r.2)
  | [], _ => .nil
  | r :: rs, h => .cons (dp_tri (h r List.mem_cons_self)) (dp_tris rs fun x m => h x (List.mem_cons_of_mem _ m))
theorem v_inTri {K : PySem.W.Frag} {H : Hp} {Q : VK} {t a : Addr} {z : Tri} {rs : List (Addr × Tri)} (hz : AscT z) (hrz : ∀ r ∈ rs, AscT r.2) (ht : H t = some (.tup (triV z))) (ha : H a = some (.lst (rs.map fun r => V.ref r.1))) (hr : HTri H rs) (q : Q (.bl (decide (z ∈ rs.map (·.2)))) H) : rInD K (.ref t) (.ref a) H Q := by
  refine ⟨triD z, rs.map fun r => triD r.2, dp_tri ht, .lst (ex_l ha) (dp_tris rs hr), triD_shaped z hz, ?_, ?_⟩
  · have := triDs_shaped (rs.map (·.2)) fun z m => by
      obtain ⟨r, hr, rfl⟩ := List.mem_map.mp m
      exact hrz r hr
    rw [List.map_map] at this
    exact this
  · have : ((rs.map fun r => triD r.2).any fun y => PyData.eqv y (triD z)) = decide (z ∈ rs.map (·.2)) := by
      rw [List.any_map, Bool.eq_iff_iff, List.any_eq_true, decide_eq_true_iff, List.mem_map]
      constructor
      · rintro ⟨r, hr, e⟩
        simp only [Function.comp, triD_eqv, decide_eq_true_iff] at e
        exact ⟨r, hr, e⟩
      · rintro ⟨r, hr, e⟩
        exact ⟨r, hr, by simp only [Function.comp, triD_eqv, decide_eq_true_iff]; exact e⟩
    rw [this]
    exact q
end L2.FW
end
section
set_option maxRecDepth 100000
set_option maxHeartbeats 4000000
/-! Books: what a line takes, which line fits, a room's cut and parts. -/
namespace L2.FW
open PySem PySem.Spec PyProof.Rows Fw
variable {P : Program} {w : World} {K : PySem.W.Frag} {mg : Str → Option Value} {base : Heap}
local macro_rules | `(tactic| walk_at "go1") => `(tactic| first
  | ((with_reducible apply v_var); exact rfl)
  | ((with_reducible apply s_aug); exact rfl)
  | with_reducible first
    | refine v_c ?_ | refine v_cons ?_ | refine v_nil ?_ | refine v_op ?_ | refine v_cb ?_ | refine v_call ?_ | refine v_bl ?_ | refine v_yes ?_
    | refine s_seq ?_ | refine s_ret ?_ | refine s_if ?_ | refine s_asg ?_ | refine g_name ?_ | refine v_test ?_ | refine v_tB ?_
    | refine v_rI0 ?_ | refine v_eqI ?_ | refine v_neI ?_ | refine v_eqS ?_ | refine v_neS ?_ | refine v_int1 ?_ | refine v_bool1 ?_ | refine v_abs ?_ | refine v_isN ?_ | refine v_notN ?_ | refine v_nsign ?_
    | refine v_andV ?_ | refine v_orV ?_ | refine v_notV ?_ | refine v_and ?_ | refine v_or ?_ | refine v_not ?_
    | refine v_if ?_ | refine v_tup ?_ | refine v_lst ?_ | refine v_sl ?_ | refine v_part ?_ | refine v_nopart ?_ | refine v_int ?_ | refine v_dget ?_ | refine v_din ?_ | refine v_dnin ?_
    | refine v_fld ?_ | refine v_meth ?_ | refine v_bm ?_ | refine v_m1 ?_ | refine v_strE ?_ | refine v_un ?_ | refine v_chain ?_ | refine s_next ?_ | refine s_drop ?_ | refine s_retN ?_ | refine s_par ?_ | refine s_par3 ?_
    | refine s_fld ?_ | refine s_dput ?_ | refine s_ddel ?_ | refine g_nil ?_ | refine g_cons ?_ | refine iteT ?_ | refine iteF ?_ | refine iteNT ?_ | refine iteNF ?_
    | refine isi_ss ?_ | refine isi_ii ?_ | refine isi_ib ?_ | refine v_lc ?_ | refine i_str ?_ | refine v_str ?_ | refine i_list ?_ | refine i_zipS ?_ | refine i_zipS3 ?_ | refine i_enumS ?_ | refine i_enum ?_ | refine i_tup ?_ | refine i_rng ?_ | refine s_for ?_ | refine v_star ?_ | refine v_makeR ?_ | refine v_make ?_ | refine v_cval ?_ | refine v_sign ?_)
local macro_rules | `(tactic| walk_at "go") => `(tactic| repeat walk_at "go1")
def spTakes : Sp := fun vs H Q _ => ∃ (p : Tx) (c : Nat), vs = [sV p, sV [c]] ∧ Q (.bl (takesB p c)) H
/-! takes: slots part 0 letter 1 -/
theorem sc_takes : FnScope ["part", "letter"] ["part", "letter"] (defScope (top 74)) := C8.fnScope_by (by decide +kernel)
theorem cal_takes (T : T w K mg) : Cal P w K mg base 1 "takes" spTakes := by
  refine calD T.d_takes T.g_takes sc_takes (fun vs H Q E h => ?_) (fun _ _ _ _ _ _ us hl => match us, hl with | [_, _], _ => rfl) (fun cdv A outer s H vs Q E hr h => ?_)
  · obtain ⟨_, _, rfl, _⟩ := h; rfl
  obtain ⟨p, c, rfl, k⟩ := h
  refine ⟨_, (pss_one (ps_ret (pe_or (pe_cmpR op_eq (pv 0) pe_str (nomark _)) (pe_one (pe_cmpR op_sign (pv 1) (pv 0) rfl))))), ?_⟩
  walk_at "go"
  rw [show (Str.ofString ".").1.toList = [46] from rfl]
  unfold takesB at k
  cases hp : decide (p = [46])
  · rw [hp] at k
    walk_at "go"
    exact k
  · rw [hp] at k
    walk_at "go"
    exact k
def spFits : Sp := fun vs H Q _ => ∃ (a : Addr) (ln : List Tx) (r : Tx) (c : Nat), vs = [.ref a, sV r, sV [c]] ∧ H a = some (.tup (ln.map sV)) ∧ ln.length = 6 ∧ r.length = 4 ∧ ∀ H', Ex H H' → Q (.bl (fitsB ln r c)) H'
/-! fits: slots line 0 room 1 cutter 2 part 3 face 4 -/
theorem sc_fits : FnScope ["line", "room", "cutter", "part", "face"] ["line", "room", "cutter"] (defScope (top 75)) := C8.fnScope_by (by decide +kernel)
theorem cal_fits (T : T w K mg) : Cal P w K mg base 2 "fits" spFits := by
  refine calD T.d_fits T.g_fits sc_fits (fun vs H Q E h => ?_) (fun _ _ _ _ _ _ us hl => match us, hl with | [_, _, _], _ => rfl) (fun cdv A outer s H vs Q E hr h => ?_)
  · obtain ⟨_, _, _, _, rfl, _⟩ := h; rfl
  obtain ⟨a, ln, r, c, rfl, ha, hl, hr4, k⟩ := h
  refine ⟨_, (pss_one (ps_ret (pe_and (pe_cl (cal_takes T) hr (by decide) rfl (pa_cons (pe_ix ix_tup (pv 0) pe_int (fun _ _ => rfl)) (pa_cons (pv 2) pa_nil))) (pe_one (pe_callB (cr_all rfl) (by rfl) T.f_all (by decide +kernel) (pa_cons (pe_lc (own := [("part", 3), ("face", 4)]) (g := gTup K 2 (gCons (gName 3) (gCons (gName 4) gNil))) (by rfl) sc_fits.nd (pi_zipS (by rfl) T.f_zip (pa_cons (pe_slice sl_tup (pv 0) po_none (po_some pe_int)) (pa_cons (pv 1) pa_nil))) (blkOk_by (own := [("part", 3), ("face", 4)]) (N := ["line", "room", "cutter", "part", "face"]) (sc := defScope (top 75)) (by decide +kernel)) (fun _ _ _ _ _ => (pg_tup rfl (pgs_cons (pg_name (i := 3) sc_fits.nd rfl (Or.inl rfl)) (pgs_cons (pg_name (i := 4) sc_fits.nd rfl (Or.inl rfl)) pgs_nil)))) (fun _ _ _ _ _ => pts_nil) (fun _ _ _ _ _ => (pe_cl (cal_takes T) hr (by decide) rfl (pa_cons (pv 3) (pa_cons (pv 4) pa_nil))))) pa_nil)))))), ?_⟩
  walk_at "go"
  have h4 : (ln.map sV)[4]? = some (sV (ln.getD 4 [])) := by
    rw [List.getElem?_map, List.getD_eq_getElem?_getD, List.getElem?_eq_getElem (by omega)]; rfl
  refine v_ixTT (i := 4) ha h4 ?_
  walk_at "go"
  refine ⟨_, _, rfl, ?_⟩
  unfold fitsB at k
  cases ht : takesB (ln.getD 4 []) c
  · rw [ht] at k
    walk_at "go"
    exact k _ Ex.rfl'
  · rw [ht] at k
    walk_at "go"
    refine v_slT ha (by simp [hl, HT.sIx]) fun p hp => ?_
    generalize hH1 : upd H p _ = H1
    have e1 : Ex H H1 := hH1 ▸ Ex.nw hp
    have hp1 : H1 p = some _ := hH1 ▸ upd_same
    walk_at "go"
    have hcut : cutV (ln.map sV) none (some 4) = (ln.take 4).map sV := by
      simp [cutV, HT.sIx, hl, List.map_take]
    rw [hcut] at hp1
    refine ⟨.t p ((ln.take 4).map sV), .s (S r), rfl, ex_t hp1, trivial, ?_⟩
    refine lc_zipF (fun a b => .bl (match a, b with | .str p, .str z => takesB p.cps.toList (z.cps.toList.headD 0) | _, _ => false)) (ex_t hp1) trivial (by simp [Src.items]; omega) (fun i x y T' H2 Kt Kn hx hy e hT kt => ?_) fun D H2 nD e hD => ?_
    · refine g_tup (ex_t hT) rfl ?_
      walk_at "go"
      refine ⟨rfl, ?_⟩
      walk_at "go"
      have hx' : ((ln.take 4).map sV)[i]? = some x := hx
      have hy' : (((S r).cps.toList).map fun c => V.str ⟨#[c]⟩)[i]? = some y := hy
      rw [List.getElem?_map] at hx' hy'
      obtain ⟨p', hp', rfl⟩ := Option.map_eq_some_iff.mp hx'
      obtain ⟨c', hc', rfl⟩ := Option.map_eq_some_iff.mp hy'
      exact ⟨p', c', rfl, kt _ Ex.rfl'⟩
    · walk_at "go"
      refine v_all (bs := List.zipWith takesB (ln.take 4) r) (ex_l (hD.trans ?_)) ?_
      · exact congrArg (fun z => some (HO.lst z)) (zipV fun p c => by simp [cps_S])
      · rw [Bool.true_and, ← all_zip] at k
        exact k _ (e1.t e)
def spLineAt (K : PySem.W.Frag) : Sp := fun vs H Q _ => ∃ (a : Addr) (b : Bk) (r : Tx) (c : Nat), vs = [.ref a, sV r, sV [c]] ∧ HBook K H a b ∧ (∀ ln ∈ b.ls, ln.length = 6) ∧ RoomOk b.fc r ∧ c ∈ b.ct ∧
  ∀ H', Ex H H' → Q (match b.ls.findIdx? (fun ln => fitsB ln r c) with | none => .non | some i => .int (i : Nat)) H'
/-! Book.line_at: slots self 0 room 1 cutter 2 at 3 line 4 -/
theorem sc_Book_line_at : FnScope ["self", "room", "cutter", "at", "line"] ["self", "room", "cutter"] (defScope (inClass (top 71) 3)) := C8.fnScope_by (by decide +kernel)
theorem met_Book_line_at (T : T w K mg) : Met P w K mg base 3 (He.ga K "Book") "line_at" (spLineAt K) := by
  refine metD T.c_Book T.m_Book_line_at T.d_Book_line_at sc_Book_line_at (fun vs H Q E h => ?_) (fun _ _ _ _ _ _ us hl => match us, hl with | [_, _, _], _ => rfl) (fun cdv A outer s H vs Q E hr h => ?_)
  · obtain ⟨_, _, _, _, rfl, _⟩ := h; rfl
  obtain ⟨a, b, r, c, rfl, hb, hl6, hrm, hc, k⟩ := h
  refine ⟨_, (pss_cons (ps_if (pt_not (pt_val (pe_cl (cal_is_room T) hr (by decide) rfl (pa_cons (pv 1) (pa_cons (pe_fld (pv 0) rfl) pa_nil))))) pss_never pss_nil)
      (pss_cons (ps_if (pt_not (pt_val (pe_cl (cal_is_one T) hr (by decide) rfl (pa_cons (pv 2) (pa_cons (pe_fld (pv 0) rfl) pa_nil))))) pss_never pss_nil)
      (pss_cons (ps_for PassesOwn.never rfl (pi_enum (by rfl) T.f_enumerate (pa_cons (pe_fld (pv 0) rfl) pa_nil)) (pg_tup rfl (pgs_cons (pg_name (i := 3) sc_Book_line_at.nd rfl (Or.inl rfl)) (pgs_cons (pg_name (i := 4) sc_Book_line_at.nd rfl (Or.inl rfl)) pgs_nil))) (pss_one (ps_if (pt_val (pe_cl (cal_fits T) hr (by decide) rfl (pa_cons (pv 4) (pa_cons (pv 1) (pa_cons (pv 2) pa_nil))))) (pss_one (ps_ret (pv 3))) pss_nil)))
      (pss_one (ps_ret pe_non))))), ?_⟩
  walk_at "go"
  refine fld_faces T hb ?_
  walk_at "go"
  refine ⟨r, b.fc, rfl, by rw [hrm.1]; decide, fun H1 e1 => ?_⟩
  rw [roomOk_of hrm]
  walk_at "go"
  refine fld_cutters T (hb.ex e1) ?_
  walk_at "go"
  refine ⟨c, b.ct, rfl, ?_⟩
  rw [decide_eq_true hc]
  walk_at "go"
  refine fld_lines T (hb.ex e1) fun l rs hl hrs hls => ?_
  walk_at "go"
  refine ⟨l, _, rfl, ex_l hl, ?_⟩
  refine for_it (walk_enum (K := K) (xs := rs.map fun r => V.ref r.1)) (fun i σ H2 => Ex H1 H2 ∧ (∃ u v, σ = [some (.ref a), some (sV r), some (sV [c]), u, v]) ∧ ∀ (j : Nat) ln, j < i → b.ls[j]? = some ln → fitsB ln r c = false) ⟨Ex.rfl', ⟨_, _, rfl⟩, fun j ln h => absurd h (Nat.not_lt_zero _)⟩ (fun i σ H2 hi p => ex_l (p.1 _ _ hl)) ?_ ?_
  · rintro i x σ H2 H3 hi ⟨e2, ⟨u, v, rfl⟩, hno⟩ ⟨TT, x', y, rfl, hT, rfl, h1, h2⟩
    cases h1
    obtain ⟨r', rfl, hr', hls', hm⟩ := hrs.get h2
    rw [hls] at hls'
    have hln : r'.2.length = 6 := hl6 _ (List.mem_of_getElem? hls')
    have e3 : Ex H1 (upd H2 TT (.tup [.int (i : Nat), .ref r'.1])) := e2.t (Ex.nw hT)
    refine g_tup (ex_t upd_same) rfl ?_
    walk_at "go"
    refine ⟨r'.1, r'.2, r, c, rfl, e3 _ _ hr', hln, hrm.1, fun H4 e4 => ?_⟩
    cases hf : fitsB r'.2 r c
    · walk_at "go"
      refine ⟨e3.t e4, ⟨_, _, rfl⟩, fun j ln hj hx => ?_⟩
      rcases Nat.lt_succ_iff_lt_or_eq.mp hj with hj | rfl
      · exact hno j ln hj hx
      · rw [hls'] at hx
        cases hx
        exact hf
    · walk_at "go"
      have hfi : b.ls.findIdx? (fun ln => fitsB ln r c) = some i := by
        obtain ⟨hi', e'⟩ := List.getElem?_eq_some_iff.mp hls'
        refine List.findIdx?_eq_some_iff_getElem.mpr ⟨hi', by rw [e']; exact hf, fun j hj => ?_⟩
        have := hno j _ hj (List.getElem?_eq_getElem (by omega))
        simpa using this
      have := k _ (e1.t (e3.t e4))
      rw [hfi] at this
      exact this
  · rintro σ H2 ⟨e2, ⟨u, v, rfl⟩, hno⟩
    walk_at "go"
    have hfi : b.ls.findIdx? (fun ln => fitsB ln r c) = none := by
      rw [List.findIdx?_eq_none_iff]
      intro ln hln
      obtain ⟨j, hj⟩ := List.mem_iff_getElem?.mp hln
      have hj' := (List.getElem?_eq_some_iff.mp hj).1
      refine hno j ln ?_ hj
      rw [← hls] at hj'
      simpa using hj'
    have := k _ (e1.t e2)
    rw [hfi] at this
    exact this
def spCut (K : PySem.W.Frag) : Sp := fun vs H Q _ => ∃ (a : Addr) (b : Bk) (r : Tx) (c : Nat), vs = [.ref a, sV r, sV [c]] ∧ HBook K H a b ∧ (∀ ln ∈ b.ls, ln.length = 6) ∧ RoomOk b.fc r ∧ c ∈ b.ct ∧ ∀ H', Ex H H' → Q (sV (b.cut r c)) H'
/-! Book.cut: slots self 0 room 1 cutter 2 at 3 -/
theorem sc_Book_cut : FnScope ["self", "room", "cutter", "at"] ["self", "room", "cutter"] (defScope (inClass (top 71) 4)) := C8.fnScope_by (by decide +kernel)
theorem met_Book_cut (T : T w K mg) : Met P w K mg base 4 (He.ga K "Book") "cut" (spCut K) := by
  refine metD T.c_Book T.m_Book_cut T.d_Book_cut sc_Book_cut (fun vs H Q E h => ?_) (fun _ _ _ _ _ _ us hl => match us, hl with | [_, _, _], _ => rfl) (fun cdv A outer s H vs Q E hr h => ?_)
  · obtain ⟨_, _, _, _, rfl, _⟩ := h; rfl
  obtain ⟨a, b, r, c, rfl, hb, hl6, hrm, hc, k⟩ := h
  refine ⟨_, (pss_cons (ps_set (i := 3) sc_Book_cut.nd rfl (Or.inl rfl) (pe_mm (met_Book_line_at T) hr (by decide) (pv 0) (pa_cons (pv 1) (pa_cons (pv 2) pa_nil))))
      (pss_one (ps_ret (pe_ifExp (pt_cmpR op_isNn (pv 3) pe_non (nomark _)) pe_str (pe_ix ix_tup (pe_ix ix_list (pe_fld (pv 0) rfl) (pv 3) (fun _ _ => rfl)) pe_int (fun _ _ => rfl)))))), ?_⟩
  walk_at "go"
  refine mth_book hb (fun _ _ _ => rfl) ?_
  walk_at "go"
  refine ⟨a, b, r, c, rfl, hb, hl6, hrm, hc, fun H1 e1 => ?_⟩
  unfold Bk.cut cutOf at k
  cases hf : b.ls.findIdx? (fun ln => fitsB ln r c) with
  | none =>
    rw [hf] at k
    walk_at "go"
    exact k _ e1
  | some i =>
    rw [hf] at k
    walk_at "go"
    refine itF (fun h => by cases h) ?_
    walk_at "go"
    refine fld_lines T (hb.ex e1) fun l rs hl hrs hls => ?_
    walk_at "go"
    have hi : i < b.ls.length := (List.findIdx?_eq_some_iff_getElem.mp hf).1
    have hi2 : i < rs.length := by rw [← hls] at hi; simpa using hi
    have h1 : (rs.map fun r => V.ref r.1)[i]? = some (.ref rs[i].1) := by simp [hi2]
    have hr' := hrs _ (List.getElem_mem hi2)
    have hls' : b.ls[i]? = some rs[i].2 := by rw [← hls]; simp [hi2]
    refine v_ixLL hl h1 ?_
    walk_at "go"
    have hg : b.ls.getD i [] = rs[i].2 := by
      rw [List.getD_eq_getElem?_getD, hls', Option.getD_some]
    have hln : (b.ls.getD i []).length = 6 := by rw [hg]; exact hl6 _ (List.mem_of_getElem? hls')
    have h5 : (rs[i].2.map sV)[5]? = some (sV ((b.ls.getD i []).getD 5 [])) := by
      rw [hg] at hln ⊢
      rw [List.getElem?_map, List.getD_eq_getElem?_getD, List.getElem?_eq_getElem (by omega)]; rfl
    refine v_ixTT (i := 5) hr' h5 ?_
    exact k _ e1
def spParts (K : PySem.W.Frag) : Sp := fun vs H Q _ => ∃ (a : Addr) (b : Bk) (r : Tx) (c : Nat), vs = [.ref a, sV r, sV [c]] ∧ HBook K H a b ∧ BkOk b ∧ RoomOk b.fc r ∧ c ∈ b.ct ∧
  ∀ p H', H p = none → Ex H H' → H' p = some (.lst ((b.parts r c).map sV)) → Q (.ref p) H'
theorem ln6 {b : Bk} (h : BkOk b) : ∀ ln ∈ b.ls, ln.length = 6 := fun ln hl => by
  obtain ⟨_, _, _, _, _, _, rfl, _⟩ := h.ok ln hl
  rfl
/-! Book.parts: slots self 0 room 1 cutter 2 -/
theorem sc_Book_parts : FnScope ["self", "room", "cutter"] ["self", "room", "cutter"] (defScope (inClass (top 71) 5)) := C8.fnScope_by (by decide +kernel)
theorem met_Book_parts (T : T w K mg) : Met P w K mg base 5 (He.ga K "Book") "parts" (spParts K) := by
  refine metD T.c_Book T.m_Book_parts T.d_Book_parts sc_Book_parts (fun vs H Q E h => ?_) (fun _ _ _ _ _ _ us hl => match us, hl with | [_, _, _], _ => rfl) (fun cdv A outer s H vs Q E hr h => ?_)
  · obtain ⟨_, _, _, _, rfl, _⟩ := h; rfl
  obtain ⟨a, b, r, c, rfl, hb, bo, hrm, hc, k⟩ := h
  refine ⟨_, (pss_one (ps_ret (pe_cl (cal_parts_of T) hr (by decide) rfl (pa_cons (pv 1) (pa_cons (pe_mm (met_Book_cut T) hr (by decide) (pv 0) (pa_cons (pv 1) (pa_cons (pv 2) pa_nil))) pa_nil))))), ?_⟩
  walk_at "go"
  refine mth_book hb (fun _ _ _ => rfl) ?_
  walk_at "go"
  refine ⟨a, b, r, c, rfl, hb, ln6 bo, hrm, hc, fun H1 e1 => ?_⟩
  walk_at "go"
  refine ⟨r, b.cut r c, rfl, hrm.1, ?_, fun p H' hp e2 h2 => ?_⟩
  · rcases cut_ok bo r c with h | ⟨g, x, y, h, _⟩
    · exact .inl h
    · exact .inr ⟨g, x, y, h⟩
  · exact k p H' (e1.none hp) (e1.t e2) h2
end L2.FW
end
section
set_option maxRecDepth 100000
set_option maxHeartbeats 4000000
/-! What a book is made of: rising texts, parts, lines. -/
namespace L2.FW
open PySem PySem.Spec PyProof.Rows Fw
variable {P : Program} {w : World} {K : PySem.W.Frag} {mg : Str → Option Value} {base : Heap}
local macro_rules | `(tactic| walk_at "go1") => `(tactic| first
  | ((with_reducible apply v_var); exact rfl)
  | ((with_reducible apply s_aug); exact rfl)
  | with_reducible first
    | refine v_c ?_ | refine v_cons ?_ | refine v_nil ?_ | refine v_op ?_ | refine v_cb ?_ | refine v_call ?_ | refine v_bl ?_ | refine v_yes ?_
    | refine s_seq ?_ | refine s_ret ?_ | refine s_if ?_ | refine s_asg ?_ | refine g_name ?_ | refine v_test ?_ | refine v_tB ?_
    | refine v_rI0 ?_ | refine v_eqI ?_ | refine v_neI ?_ | refine v_eqS ?_ | refine v_neS ?_ | refine v_int1 ?_ | refine v_bool1 ?_ | refine v_abs ?_ | refine v_isN ?_ | refine v_notN ?_ | refine v_nsign ?_
    | refine v_andV ?_ | refine v_orV ?_ | refine v_notV ?_ | refine v_and ?_ | refine v_or ?_ | refine v_not ?_
    | refine v_if ?_ | refine v_tup ?_ | refine v_lst ?_ | refine v_sl ?_ | refine v_part ?_ | refine v_nopart ?_ | refine v_int ?_ | refine v_dget ?_ | refine v_din ?_ | refine v_dnin ?_
    | refine v_fld ?_ | refine v_meth ?_ | refine v_bm ?_ | refine v_m1 ?_ | refine v_strE ?_ | refine v_un ?_ | refine v_chain ?_ | refine s_next ?_ | refine s_drop ?_ | refine s_retN ?_ | refine s_par ?_ | refine s_par3 ?_
    | refine s_fld ?_ | refine s_dput ?_ | refine s_ddel ?_ | refine g_nil ?_ | refine g_cons ?_ | refine iteT ?_ | refine iteF ?_ | refine iteNT ?_ | refine iteNF ?_
    | refine isi_ss ?_ | refine isi_ii ?_ | refine isi_ib ?_ | refine v_lc ?_ | refine i_str ?_ | refine v_str ?_ | refine i_list ?_ | refine i_zipS ?_ | refine i_zipS3 ?_ | refine i_enumS ?_ | refine i_enum ?_ | refine i_tup ?_ | refine i_rng ?_ | refine s_for ?_ | refine v_star ?_ | refine v_makeR ?_ | refine v_make ?_ | refine v_cval ?_ | refine v_sign ?_)
local macro_rules | `(tactic| walk_at "go") => `(tactic| repeat walk_at "go1")
def spRising : Sp := fun vs H Q _ => ∃ (l L : Tx) (m : Int), vs = [sV l, sV L, .int m] ∧ l ≠ [] ∧ (l.length : Int) ≤ m ∧ l.Pairwise (· < ·) ∧ l.length < 64 ∧ Asc l ∧ (∀ c ∈ l, c ∈ L) ∧ ∀ H', Ex H H' → Q (.bl true) H'
/-! is_rising: slots value 0 letters 1 most 2 letter 3 -/
theorem sc_is_rising : FnScope ["value", "letters", "most", "letter"] ["value", "letters", "most"] (defScope (top 19)) := C8.fnScope_by (by decide +kernel)
theorem cal_is_rising (T : T w K mg) : Cal P w K mg base 1 "is_rising" spRising := by
  refine calD T.d_is_rising T.g_is_rising sc_is_rising (fun vs H Q E h => ?_) (fun _ _ _ _ _ _ us hl => match us, hl with | [_, _, _], _ => rfl) (fun cdv A outer s H vs Q E hr h => ?_)
  · obtain ⟨_, _, _, rfl, _⟩ := h; rfl
  obtain ⟨l, L, m, rfl, hne, hm, hasc, h64, h128, hin, k⟩ := h
  refine ⟨_, (pss_cons (ps_if (PW.pt (pw_or (pt_not (pt_val (pe_callB call_isi (by rfl) T.f_isinstance (by decide +kernel) (pa_cons (pv 0) (pa_cons (pe_bltn (v := .ty "str") rfl T.f_str (by decide +kernel) rfl) pa_nil))))) (pw_or1 (pt_not (pt_chain op_le op_le pe_int (pe_callB cl_lenStr (by rfl) T.f_len (by decide +kernel) (pa_cons (pv 0) pa_nil)) (pv 2)))))) (pss_one (ps_ret pe_bl)) pss_nil)
      (pss_one (ps_ret (pe_and (pe_callB (cr_all rfl) (by rfl) T.f_all (by decide +kernel) (pa_cons (pe_lc (own := [("letter", 3)]) (g := gName 3) (by rfl) sc_is_rising.nd (pi_str (pv 0)) (blkOk_by (own := [("letter", 3)]) (N := ["value", "letters", "most", "letter"]) (sc := defScope (top 19)) (by decide +kernel)) (fun _ _ _ _ _ => (pg_name (i := 3) sc_is_rising.nd rfl (Or.inl rfl))) (fun _ _ _ _ _ => pts_nil) (fun _ _ _ _ _ => (pe_cmpR op_sign (pv 3) (pv 1) rfl))) pa_nil)) (pe_one (pe_cmpR (op_eqD hr.units) (pe_callTy (cl_listStr rfl) (by rfl) T.f_list (by decide +kernel) (pa_cons (pv 0) pa_nil)) (pe_sortSet rfl T.f_sorted rfl T.f_set (pv 0)) (nomark _))))))), ?_⟩
  walk_at "go"
  have h1 : 1 ≤ l.length := by cases l <;> simp at hne ⊢
  refine v_lenSS (l := l) (by omega) ?_
  walk_at "go"
  refine itT (by omega) ?_
  walk_at "go"
  refine itNT (by omega) ?_
  walk_at "go"
  refine lc_strF (z := S l) (fun c => .bl (decide (c ∈ L))) (by rw [S_len]; omega) (fun c H1 Kt Kn hc e kt => ?_) fun D H1 nD e hD => ?_
  · walk_at "go"
    refine ⟨rfl, ?_⟩
    walk_at "go"
    exact kt _ Ex.rfl'
  · walk_at "go"
    refine v_all (bs := l.map fun c => decide (c ∈ L)) (ex_l (by rw [hD, cps_S, List.map_map]; rfl)) ?_
    have hall : (l.map fun c => decide (c ∈ L)).all id = true := by
      rw [List.all_map, List.all_eq_true]
      exact fun c hc => decide_eq_true (hin c hc)
    rw [hall]
    walk_at "go"
    refine ⟨S l, rfl, by show (S l).cps.size ≤ 100000; rw [← Array.length_toList, cps_S]; omega, fun p hp => ?_⟩
    generalize hH2 : upd H1 p _ = H2
    have e2 : Ex H1 H2 := hH2 ▸ Ex.nw hp
    have hp2 : H2 p = some _ := hH2 ▸ upd_same
    refine ⟨_, rfl, l, rfl, hasc, h64, h128, fun q hq => ?_⟩
    generalize hH3 : upd H2 q _ = H3
    have e3 : Ex H2 H3 := hH3 ▸ Ex.nw hq
    have hq3 : H3 q = some _ := hH3 ▸ upd_same
    refine v_eqLL (l := l.map fun c => [c]) (fun z hz => ?_) (e3 _ _ (hp2.trans ?_)) (hq3.trans ?_) (k _ (e.t (e2.t e3)))
    · obtain ⟨c, hc, rfl⟩ := List.mem_map.mp hz
      intro d hd
      rw [List.mem_singleton.mp hd]
      exact h128 c hc
    · rw [cps_S, List.map_map]; rfl
    · rw [List.map_map]; rfl
def spFaces (lo n most : Nat) : Sp := fun vs H Q _ => ∃ l : Tx, vs = [sV l] ∧ Rise lo n most l ∧ ∀ H', Ex H H' → Q (.bl true) H'
theorem rise_lower {l : Tx} (h : Rise 97 26 6 l) : Asc l ∧ ∀ c ∈ l, c ∈ (Str.ofString "abcdefghijklmnopqrstuvwxyz").cps.toList := by
  have e : (Str.ofString "abcdefghijklmnopqrstuvwxyz").cps.toList = [97,98,99,100,101,102,103,104,105,106,107,108,109,110,111,112,113,114,115,116,117,118,119,120,121,122] := by decide +kernel
  refine ⟨fun c hc => by have := h.all c hc; omega, fun c hc => ?_⟩
  rw [e]
  have := h.all c hc
  simp
  omega
theorem rise_upper {l : Tx} (h : Rise 65 26 4 l) : Asc l ∧ ∀ c ∈ l, c ∈ (Str.ofString "ABCDEFGHIJKLMNOPQRSTUVWXYZ").cps.toList := by
  have e : (Str.ofString "ABCDEFGHIJKLMNOPQRSTUVWXYZ").cps.toList = [65,66,67,68,69,70,71,72,73,74,75,76,77,78,79,80,81,82,83,84,85,86,87,88,89,90] := by decide +kernel
  refine ⟨fun c hc => by have := h.all c hc; omega, fun c hc => ?_⟩
  rw [e]
  have := h.all c hc
  simp
  omega
/-! is_faces: slots value 0 -/
theorem sc_is_faces : FnScope ["value"] ["value"] (defScope (top 20)) := C8.fnScope_by (by decide +kernel)
theorem cal_is_faces (T : T w K mg) : Cal P w K mg base 2 "is_faces" (spFaces 97 26 6) := by
  refine calD T.d_is_faces T.g_is_faces sc_is_faces (fun vs H Q E h => ?_) (fun _ _ _ _ _ _ us hl => match us, hl with | [_], _ => rfl) (fun cdv A outer s H vs Q E hr h => ?_)
  · obtain ⟨_, rfl, _⟩ := h; rfl
  obtain ⟨l, rfl, hl, k⟩ := h
  refine ⟨_, (pss_one (ps_ret (pe_cl (cal_is_rising T) hr (by decide) rfl (pa_cons (pv 0) (pa_cons (C8.pe_gc rfl T.v_LOWER) (pa_cons pe_int pa_nil)))))), ?_⟩
  walk_at "go"
  obtain ⟨a1, a2⟩ := rise_lower hl
  have := hl.len
  exact ⟨l, _, 6, rfl, hl.ne, by omega, hl.asc, by omega, a1, a2, k⟩
/-! is_cutters: slots value 0 -/
theorem sc_is_cutters : FnScope ["value"] ["value"] (defScope (top 21)) := C8.fnScope_by (by decide +kernel)
theorem cal_is_cutters (T : T w K mg) : Cal P w K mg base 2 "is_cutters" (spFaces 65 26 4) := by
  refine calD T.d_is_cutters T.g_is_cutters sc_is_cutters (fun vs H Q E h => ?_) (fun _ _ _ _ _ _ us hl => match us, hl with | [_], _ => rfl) (fun cdv A outer s H vs Q E hr h => ?_)
  · obtain ⟨_, rfl, _⟩ := h; rfl
  obtain ⟨l, rfl, hl, k⟩ := h
  refine ⟨_, (pss_one (ps_ret (pe_cl (cal_is_rising T) hr (by decide) rfl (pa_cons (pv 0) (pa_cons (C8.pe_gc rfl T.v_UPPER) (pa_cons pe_int pa_nil)))))), ?_⟩
  walk_at "go"
  obtain ⟨a1, a2⟩ := rise_upper hl
  have := hl.len
  exact ⟨l, _, 4, rfl, hl.ne, by omega, hl.asc, by omega, a1, a2, k⟩
def spIsPart : Sp := fun vs H Q _ => ∃ (p L : Tx), vs = [sV p, sV L] ∧ PartOk L p ∧ Asc L ∧ L.length < 64 ∧ ∀ H', Ex H H' → Q (.bl true) H'
theorem nodup_len {l m : Tx} (h : l.Pairwise (· < ·)) (hs : ∀ x ∈ l, x ∈ m) : l.length ≤ m.length := nodup_le (by
  rw [List.nodup_iff_pairwise_ne]
  exact h.imp fun {a b} h => by omega) hs
/-! is_part: slots value 0 letters 1 -/
theorem sc_is_part : FnScope ["value", "letters"] ["value", "letters"] (defScope (top 72)) := C8.fnScope_by (by decide +kernel)
theorem cal_is_part (T : T w K mg) : Cal P w K mg base 2 "is_part" spIsPart := by
  refine calD T.d_is_part T.g_is_part sc_is_part (fun vs H Q E h => ?_) (fun _ _ _ _ _ _ us hl => match us, hl with | [_, _], _ => rfl) (fun cdv A outer s H vs Q E hr h => ?_)
  · obtain ⟨_, _, rfl, _⟩ := h; rfl
  obtain ⟨p, L, rfl, hp, hL, h64, k⟩ := h
  refine ⟨_, (pss_one (ps_ret (pe_and (pe_callB call_isi (by rfl) T.f_isinstance (by decide +kernel) (pa_cons (pv 0) (pa_cons (pe_bltn (v := .ty "str") rfl T.f_str (by decide +kernel) rfl) pa_nil))) (pe_one (pe_or (pe_cmpR op_eq (pv 0) pe_str (nomark _)) (pe_one (pe_cl (cal_is_rising T) hr (by decide) rfl (pa_cons (pv 0) (pa_cons (pv 1) (pa_cons (pe_callB cl_lenStr (by rfl) T.f_len (by decide +kernel) (pa_cons (pv 1) pa_nil)) pa_nil)))))))))), ?_⟩
  walk_at "go"
  rw [show (Str.ofString ".").1.toList = [46] from rfl]
  rcases hp with rfl | ⟨h1, h2, h3⟩
  · refine itT rfl ?_
    exact k _ Ex.rfl'
  · have hl := nodup_len h2 h3
    cases hd : decide (p = [46])
    · walk_at "go"
      refine v_lenSS (l := L) (by omega) ?_
      walk_at "go"
      exact ⟨p, L, _, rfl, h1, by omega, h2, by omega, fun c hc => hL c (h3 c hc), h3, k⟩
    · walk_at "go"
      exact k _ Ex.rfl'
def spIsLine : Sp := fun vs H Q _ => ∃ (t : Addr) (ln : List Tx) (fc ct : Tx), vs = [.ref t, sV fc, sV ct] ∧ H t = some (.tup (ln.map sV)) ∧ LineOk fc ct ln ∧ Asc fc ∧ Asc ct ∧ fc.length < 64 ∧ ct.length < 64 ∧ ∀ H', Ex H H' → Q (.bl true) H'
/-! is_line: slots value 0 faces 1 cutters 2 part 3 -/
theorem sc_is_line : FnScope ["value", "faces", "cutters", "part"] ["value", "faces", "cutters"] (defScope (top 73)) := C8.fnScope_by (by decide +kernel)
theorem cal_is_line (T : T w K mg) : Cal P w K mg base 3 "is_line" spIsLine := by
  refine calD T.d_is_line T.g_is_line sc_is_line (fun vs H Q E h => ?_) (fun _ _ _ _ _ _ us hl => match us, hl with | [_, _, _], _ => rfl) (fun cdv A outer s H vs Q E hr h => ?_)
  · obtain ⟨_, _, _, _, rfl, _⟩ := h; rfl
  obtain ⟨t, ln, fc, ct, rfl, ht, hl, hfc, hct, f64, c64, k⟩ := h
  refine ⟨_, (pss_cons (ps_if (PW.pt (pw_or (pt_not (pt_val (pe_callB call_isi (by rfl) T.f_isinstance (by decide +kernel) (pa_cons (pv 0) (pa_cons (pe_bltn (v := .ty "tuple") rfl T.f_tuple (by decide +kernel) rfl) pa_nil))))) (pw_or1 (pt_cmpR op_ne (pe_callB cl_lenSeq (by rfl) T.f_len (by decide +kernel) (pa_cons (pv 0) pa_nil)) pe_int (nomark _))))) (pss_one (ps_ret pe_bl)) pss_nil)
      (pss_cons (ps_if (PW.pt (pw_or (pt_not (pt_val (pe_callB (cr_all rfl) (by rfl) T.f_all (by decide +kernel) (pa_cons (pe_lc (own := [("part", 3)]) (g := gName 3) (by rfl) sc_is_line.nd (pi_tup (pe_slice sl_tup (pv 0) po_none (po_some pe_int))) (blkOk_by (own := [("part", 3)]) (N := ["value", "faces", "cutters", "part"]) (sc := defScope (top 73)) (by decide +kernel)) (fun _ _ _ _ _ => (pg_name (i := 3) sc_is_line.nd rfl (Or.inl rfl))) (fun _ _ _ _ _ => pts_nil) (fun _ _ _ _ _ => (pe_cl (cal_is_part T) hr (by decide) rfl (pa_cons (pv 3) (pa_cons (pv 1) pa_nil))))) pa_nil)))) (pw_or1 (pt_not (pt_val (pe_cl (cal_is_part T) hr (by decide) rfl (pa_cons (pe_ix ix_tup (pv 0) pe_int (fun _ _ => rfl)) (pa_cons (pv 2) pa_nil)))))))) (pss_one (ps_ret pe_bl)) pss_nil)
      (pss_one (ps_ret (pe_and (pe_callB call_isi (by rfl) T.f_isinstance (by decide +kernel) (pa_cons (pe_ix ix_tup (pv 0) pe_int (fun _ _ => rfl)) (pa_cons (pe_bltn (v := .ty "str") rfl T.f_str (by decide +kernel) rfl) pa_nil))) (pe_one (pe_or (pe_cmpR op_eq (pe_ix ix_tup (pv 0) pe_int (fun _ _ => rfl)) pe_str (nomark _)) (pe_one (pe_cl (cal_is_cut T) hr (by decide) rfl (pa_cons (pe_ix ix_tup (pv 0) pe_int (fun _ _ => rfl)) (pa_cons (pv 1) pa_nil))))))))))), ?_⟩
  walk_at "go"
  obtain ⟨p0, p1, p2, p3, ck, u, rfl, o0, o1, o2, o3, ok, hu⟩ := hl
  refine isi_tt ht ?_
  walk_at "go"
  refine v_lenT (ex_t ht) ?_
  walk_at "go"
  refine itNT (by simp) ?_
  walk_at "go"
  refine v_slT ht (by simp [HT.sIx]) fun p hp => ?_
  generalize hH1 : upd H p _ = H1
  have e1 : Ex H H1 := hH1 ▸ Ex.nw hp
  have hp1 : H1 p = some (.tup [sV p0, sV p1, sV p2, sV p3]) := hH1 ▸ upd_same
  walk_at "go"
  refine ⟨p, rfl, ⟨_, ex_t hp1⟩, ?_⟩
  refine lc_tupF (xs := [sV p0, sV p1, sV p2, sV p3]) (fun _ => .bl true) (ex_t hp1) (by simp) (fun i x H2 Kt Kn hx e kt => ?_) fun D H2 nD e hD => ?_
  · walk_at "go"
    refine ⟨rfl, ?_⟩
    walk_at "go"
    have hx' : ∃ q, x = sV q ∧ PartOk fc q := by
      have := List.mem_of_getElem? hx
      simp at this
      rcases this with rfl | rfl | rfl | rfl
      · exact ⟨_, rfl, o0⟩
      · exact ⟨_, rfl, o1⟩
      · exact ⟨_, rfl, o2⟩
      · exact ⟨_, rfl, o3⟩
    obtain ⟨q, rfl, hq⟩ := hx'
    exact ⟨q, fc, rfl, hq, hfc, f64, fun H' e' => kt _ e'⟩
  · walk_at "go"
    refine v_all (bs := [true, true, true, true]) (ex_l hD) ?_
    rw [show [true, true, true, true].all id = true from rfl]
    walk_at "go"
    have e12 := e1.t e
    refine v_ixTT (i := 4) (e12 _ _ ht) rfl ?_
    walk_at "go"
    refine ⟨ck, ct, rfl, ok, hct, c64, fun H3 e3 => ?_⟩
    walk_at "go"
    have ht3 := e3 _ _ (e12 _ _ ht)
    refine v_ixTT (i := 5) ht3 rfl ?_
    walk_at "go"
    refine v_ixTT (i := 5) ht3 rfl ?_
    walk_at "go"
    rcases hu with rfl | ⟨g, x, y, rfl, hg, hx, hy⟩
    · refine itT rfl ?_
      exact k _ (e12.t e3)
    · refine itF (fun h => by cases h) ?_
      walk_at "go"
      refine v_ixTT (i := 5) ht3 rfl ?_
      walk_at "go"
      exact ⟨g, x, y, fc, rfl, hg, hx, hy, fun H4 e4 => k _ (e12.t (e3.t e4))⟩
end L2.FW
end
section
set_option maxRecDepth 100000
set_option maxHeartbeats 4000000
/-! A book made, a book read. -/
namespace L2.FW
open PySem PySem.Spec PyProof.Rows Fw
variable {P : Program} {w : World} {K : PySem.W.Frag} {mg : Str → Option Value} {base : Heap}
local macro_rules | `(tactic| walk_at "go1") => `(tactic| first
  | ((with_reducible apply v_var); exact rfl)
  | ((with_reducible apply s_aug); exact rfl)
  | with_reducible first
    | refine v_c ?_ | refine v_cons ?_ | refine v_nil ?_ | refine v_op ?_ | refine v_cb ?_ | refine v_call ?_ | refine v_bl ?_ | refine v_yes ?_
    | refine s_seq ?_ | refine s_ret ?_ | refine s_if ?_ | refine s_asg ?_ | refine g_name ?_ | refine v_test ?_ | refine v_tB ?_
    | refine v_rI0 ?_ | refine v_eqI ?_ | refine v_neI ?_ | refine v_eqS ?_ | refine v_neS ?_ | refine v_int1 ?_ | refine v_bool1 ?_ | refine v_abs ?_ | refine v_isN ?_ | refine v_notN ?_ | refine v_nsign ?_
    | refine v_andV ?_ | refine v_orV ?_ | refine v_notV ?_ | refine v_and ?_ | refine v_or ?_ | refine v_not ?_
    | refine v_if ?_ | refine v_tup ?_ | refine v_lst ?_ | refine v_sl ?_ | refine v_part ?_ | refine v_nopart ?_ | refine v_int ?_ | refine v_dget ?_ | refine v_din ?_ | refine v_dnin ?_
    | refine v_fld ?_ | refine v_meth ?_ | refine v_bm ?_ | refine v_m1 ?_ | refine v_strE ?_ | refine v_un ?_ | refine v_chain ?_ | refine s_next ?_ | refine s_drop ?_ | refine s_retN ?_ | refine s_par ?_ | refine s_par3 ?_
    | refine s_fld ?_ | refine s_dput ?_ | refine s_ddel ?_ | refine g_nil ?_ | refine g_cons ?_ | refine iteT ?_ | refine iteF ?_ | refine iteNT ?_ | refine iteNF ?_
    | refine isi_ss ?_ | refine isi_ii ?_ | refine isi_ib ?_ | refine v_lc ?_ | refine i_str ?_ | refine v_str ?_ | refine i_list ?_ | refine i_zipS ?_ | refine i_zipS3 ?_ | refine i_enumS ?_ | refine i_enum ?_ | refine i_tup ?_ | refine i_rng ?_ | refine s_for ?_ | refine v_star ?_ | refine v_makeR ?_ | refine v_make ?_ | refine v_cval ?_ | refine v_sign ?_)
local macro_rules | `(tactic| walk_at "go") => `(tactic| repeat walk_at "go1")
/-- a cut as a word: none where there is none -/
def encU (u : Tx) : Tx := if u = [] then [110, 111, 110, 101] else u
/-- the words of a line -/
def encL (ln : List Tx) : List Tx := ln.take 5 ++ [encU (ln.getD 5 [])]
def rowT (ln : List Tx) : Tx := TL.joinL [32] (encL ln)
theorem part_word {l p : Tx} (hl : ∀ c ∈ l, 65 ≤ c) (h : PartOk l p) : p ≠ [] ∧ ∀ c ∈ p, 46 ≤ c := by
  rcases h with rfl | ⟨h1, _, h3⟩
  · exact ⟨by simp, by simp⟩
  · exact ⟨h1, fun c hc => by have := hl c (h3 c hc); omega⟩
theorem cut_word {l u : Tx} (hl : ∀ c ∈ l, 65 ≤ c) (h : CutOk l u) : encU u ≠ [] ∧ (∀ c ∈ encU u, 45 ≤ c) ∧ (encU u = [110, 111, 110, 101] ↔ u = []) := by
  rcases h with rfl | ⟨g, x, y, rfl, hg, hx, hy⟩
  · simp [encU]
  · simp only [encU]
    have h1 := hl x hx
    have h2 := hl y hy
    refine ⟨by simp, fun c hc => ?_, by simp⟩
    simp at hc
    rcases hc with rfl | rfl | rfl
    · rcases hg with rfl | rfl <;> omega
    · omega
    · omega
def spLineOf : Sp := fun vs H Q _ => ∃ (ln : List Tx) (fc ct : Tx), vs = [sV (rowT ln)] ∧ LineOk fc ct ln ∧ (∀ c ∈ fc, 65 ≤ c) ∧ (∀ c ∈ ct, 65 ≤ c) ∧ (rowT ln).length ≤ 100000 ∧ ∀ p H', H p = none → Ex H H' → H' p = some (.tup (ln.map sV)) → Q (.ref p) H'
/-! line_of: slots row 0 words 1 -/
theorem sc_line_of : FnScope ["row", "words"] ["row"] (defScope (top 76)) := C8.fnScope_by (by decide +kernel)
theorem cal_line_of (T : T w K mg) : Cal P w K mg base 1 "line_of" spLineOf := by
  refine calD T.d_line_of T.g_line_of sc_line_of (fun vs H Q E h => ?_) (fun _ _ _ _ _ _ us hl => match us, hl with | [_], _ => rfl) (fun cdv A outer s H vs Q E hr h => ?_)
  · obtain ⟨_, _, _, rfl, _⟩ := h; rfl
  obtain ⟨ln, fc, ct, rfl, hl, hfc, hct, hz, k⟩ := h
  obtain ⟨p0, p1, p2, p3, ck, u, rfl, o0, o1, o2, o3, ok, hu⟩ := hl
  obtain ⟨a0, b0⟩ := part_word hfc o0
  obtain ⟨a1, b1⟩ := part_word hfc o1
  obtain ⟨a2, b2⟩ := part_word hfc o2
  obtain ⟨a3, b3⟩ := part_word hfc o3
  obtain ⟨a4, b4⟩ := part_word hct ok
  obtain ⟨a5, b5, c5⟩ := cut_word hfc hu
  have hw : encL [p0, p1, p2, p3, ck, u] = [p0, p1, p2, p3, ck, encU u] := rfl
  have hsp : Txt.split (S (rowT [p0, p1, p2, p3, ck, u])) (S [32]) = [p0, p1, p2, p3, ck, encU u].map S := by
    rw [SX.split_S (by simp) (by decide), rowT, hw, SX.spl_join (by simp)]
    intro p hp hc
    simp at hp
    rcases hp with rfl | rfl | rfl | rfl | rfl | rfl
    · have := b0 _ hc; omega
    · have := b1 _ hc; omega
    · have := b2 _ hc; omega
    · have := b3 _ hc; omega
    · have := b4 _ hc; omega
    · have := b5 _ hc; omega
  refine ⟨_, (pss_cons (ps_set (i := 1) sc_line_of.nd rfl (Or.inl rfl) (pe_split (pv 0) pe_str))
      (pss_cons (ps_if (PW.pt (pw_or (pt_cmpR op_ne (pe_callB cl_lenSeq (by rfl) T.f_len (by decide +kernel) (pa_cons (pv 1) pa_nil)) pe_int (nomark _)) (pw_or1 (pt_cmpR op_in_seq pe_str (pv 1) rfl)))) (pss_one (ps_ret pe_non)) pss_nil)
      (pss_one (ps_ret (pe_tup (StX.pa_star (pe_slice sl_list (pv 1) po_none (po_some pe_int)) (pa_cons (pe_ifExp (pt_cmpR op_eq (pe_ix ix_list (pv 1) pe_int (fun _ _ => rfl)) (C8.pe_gc rfl T.v_NONE) (nomark _)) pe_str (pe_ix ix_list (pv 1) pe_int (fun _ _ => rfl))) pa_nil))))))), ?_⟩
  walk_at "go"
  refine ⟨S (rowT [p0, p1, p2, p3, ck, u]), S [32], rfl, rfl, rfl, by rw [S_len, sizeLine_eq]; omega, fun p hp => ?_⟩
  rw [hsp]
  generalize hH1 : upd H p _ = H1
  have e1 : Ex H H1 := hH1 ▸ Ex.nw hp
  have hp1 : H1 p = some (.lst [sV p0, sV p1, sV p2, sV p3, sV ck, sV (encU u)]) := hH1 ▸ upd_same
  walk_at "go"
  refine v_lenL (ex_l hp1) ?_
  walk_at "go"
  refine itNT rfl ?_
  walk_at "go"
  refine ⟨p, _, rfl, .inl (ex_l hp1), rfl, rfl, ?_⟩
  have hin : inV (V.str (Str.ofString "")) [sV p0, sV p1, sV p2, sV p3, sV ck, sV (encU u)] = false := by
    have nz : ∀ z : Tx, z ≠ [] → eqV (sV z) (V.str (Str.ofString "")) = false := fun z hz => by
      have : S z ≠ S [] := fun e => hz (SX.S_inj e)
      show decide (S z = S []) = false
      exact decide_eq_false this
    simp only [inV, List.any_cons, List.any_nil, nz p0 a0, nz p1 a1, nz p2 a2, nz p3 a3, nz ck a4, nz (encU u) a5, Bool.or_false]
  rw [hin]
  rw [show (if false = true then !false else false) = false from rfl]
  walk_at "go"
  refine ⟨p, _, rfl, ex_l hp1, fun q hq => ?_⟩
  generalize hH2 : upd H1 q _ = H2
  have e2 : Ex H1 H2 := hH2 ▸ Ex.nw hq
  have hq2 : H2 q = some (.lst [sV p0, sV p1, sV p2, sV p3, sV ck]) := hH2 ▸ upd_same
  refine ⟨q, _, rfl, .inr (ex_l hq2), ?_⟩
  walk_at "go"
  refine v_ixLL (i := 5) (e2 _ _ hp1) rfl ?_
  walk_at "go"
  rw [show (Str.ofString "none").1.toList = [110, 111, 110, 101] from rfl]
  by_cases hu0 : u = []
  · refine itT (c5.mpr hu0) ?_
    subst hu0
    walk_at "go"
    exact ⟨szl (by simp), fun r hr => k r _ (e1.none (e2.none hr)) ((e1.t e2).t (Ex.nw hr)) upd_same⟩
  · refine itF (fun h => hu0 (c5.mp h)) ?_
    walk_at "go"
    refine v_ixLL (i := 5) (e2 _ _ hp1) rfl ?_
    walk_at "go"
    have he : encU u = u := if_neg hu0
    rw [he]
    exact ⟨szl (by simp), fun r hr => k r _ (e1.none (e2.none hr)) ((e1.t e2).t (Ex.nw hr)) upd_same⟩
theorem nox_ex {X : Cx} {body : List Stmt} {D : Ends} {σ : St} {H : Hp} (h : ∃ t, PSs X.nox body t ∧ t D σ H) : ∃ t, PSs X body t ∧ t D σ H := by
  obtain ⟨t, h1, h2⟩ := h
  exact ⟨t, h1.nox, h2⟩
/-- Book.__init__ behind the binding: the lines in a tuple -/
def spBookI (K : PySem.W.Frag) : Sp := fun vs H Q _ => ∃ (a dx p : Addr) (b : Bk) (rs : List (Addr × List Tx)), vs = [.ref a, sV b.fc, sV b.ct, .ref p] ∧ H a = some (.ins (He.ga K "Book") dx []) ∧ H p = some (.tup (rs.map fun r => V.ref r.1)) ∧ HLn H rs ∧ rs.map (·.2) = b.ls ∧ BkOk b ∧
  ∀ H', ExB a H H' → HBook K H' a b → Q .non H'
/-! Book.__init__: slots self 0 faces 1 cutters 2 lines 3 at 4 line 5 -/
theorem sc_Book___init__ : FnScope ["self", "faces", "cutters", "lines", "at", "line"] ["self", "faces", "cutters", "lines"] (defScope (inClass (top 71) 1)) := C8.fnScope_by (by decide +kernel)
theorem init_Book (T : T w K mg) : FnR P w K mg base CX0 4 (He.ma K (He.ga K "Book") "__init__") (fun vs H Q E => ∃ ws rest, vs = ws ++ rest ∧ ws.length = 3 ∧ rest.length ≤ sizeLine ∧ ∀ p, H p = Option.none → spBookI K (ws ++ [V.ref p]) (upd H p (.tup rest)) Q E) := by
  obtain ⟨fd, F⟩ := T.d_Book_init
  obtain ⟨oc, od, dV, kV, doc, pm, an, cdv, ct, osl, rfl, lk, hcd, hD, hK⟩ := F.ex
  obtain rfl : dV = .none := by
    rcases hD with ⟨_, e⟩ | ⟨e, _⟩
    · exact e
    · exact absurd rfl e
  refine StX.fn_star (ps := ["self", "faces", "cutters"]) (pv := "lines") (sp := spBookI K) lk hcd sc_Book___init__ StX.cxUp_none ?_ fun A outer s H vs Q E hr h => ?_
  · intro us rest hl
    match us, hl with
    | [a, b, c], _ =>
      cases rest with
      | nil => rfl
      | cons r rs => rfl
  · obtain ⟨a, dx, p, b, rs, rfl, ha, hp, hrs, hls, bo, k⟩ := h
    refine nox_ex ⟨_, (pss_cons (ps_if (pt_not (pt_val (pe_cl (cal_is_faces T) hr (by decide) rfl (pa_cons (pv 1) pa_nil)))) pss_never pss_nil)
      (pss_cons (ps_if (pt_not (pt_val (pe_cl (cal_is_cutters T) hr (by decide) rfl (pa_cons (pv 2) pa_nil)))) pss_never pss_nil)
      (pss_cons (ps_for PassesOwn.never rfl (pi_enumS (by rfl) T.f_enumerate (pa_cons (pv 3) pa_nil)) (pg_tup rfl (pgs_cons (pg_name (i := 4) sc_Book___init__.nd rfl (Or.inl rfl)) (pgs_cons (pg_name (i := 5) sc_Book___init__.nd rfl (Or.inl rfl)) pgs_nil))) (pss_one (ps_if (PW.pt (pw_or (pt_cmpR op_ge (pv 4) (ClX.pe_cval (C8.pe_gc rfl T.v_Book)) (nomark _)) (pw_or1 (pt_not (pt_val (pe_cl (cal_is_line T) hr (by decide) rfl (pa_cons (pv 5) (pa_cons (pv 1) (pa_cons (pv 2) pa_nil))))))))) pss_never pss_nil)))
      (pss_cons (ps_fld (pv 0) (pv 1) rfl)
      (pss_cons (ps_fld (pv 0) (pv 2) rfl)
      (pss_one (ps_fld (pv 0) (pe_callTy cl_listOf (by rfl) T.f_list (by decide +kernel) (pa_cons (pv 3) pa_nil)) rfl))))))), ?_⟩
    have fasc := rise_lower bo.fc
    have casc := rise_upper bo.ct
    have fl := bo.fc.len
    have cl := bo.ct.len
    walk_at "go"
    refine ⟨b.fc, rfl, bo.fc, fun H1 e1 => ?_⟩
    walk_at "go"
    refine ⟨b.ct, rfl, bo.ct, fun H2 e2 => ?_⟩
    walk_at "go"
    have e12 := e1.t e2
    refine ⟨.t p (rs.map fun r => V.ref r.1), rfl, ex_t (e12 _ _ hp), ?_⟩
    refine for_it (walk_Se (K := K) (p := .t p (rs.map fun r => V.ref r.1))) (fun i σ H3 => Ex H2 H3 ∧ ∃ u v, σ = [some (.ref a), some (sV b.fc), some (sV b.ct), some (.ref p), u, v]) ⟨Ex.rfl', _, _, rfl⟩ (fun i σ H3 hi q => ex_t ((e12.t q.1) _ _ hp)) ?_ ?_
    · rintro i x σ H3 H4 hi ⟨e3, u, v, rfl⟩ ⟨TT, x', y, rfl, hT, rfl, h1, h2⟩
      cases h1
      obtain ⟨r', rfl, hr', hls', hm⟩ := hrs.get h2
      have e4 : Ex H2 (upd H3 TT (.tup [.int (i : Nat), .ref r'.1])) := e3.t (Ex.nw hT)
      refine g_tup (ex_t upd_same) rfl ?_
      walk_at "go"
      obtain ⟨c1, u8, c2⟩ := T.bookMost
      refine ⟨_, _, _, u8, rfl, c1, c2, ?_⟩
      walk_at "go"
      have hi8 : i < 8 := by
        have h8 := bo.len
        rw [← hls] at h8
        have hi' : i < (rs.map fun r => V.ref r.1).length := hi
        simp at h8 hi'
        omega
      refine itF (by omega) ?_
      walk_at "go"
      refine ⟨r'.1, r'.2, b.fc, b.ct, rfl, (e12.t e4) _ _ hr', ?_, fasc.1, casc.1, by omega, by omega, fun H5 e5 => ?_⟩
      · refine bo.ok _ ?_
        rw [← hls]
        exact List.mem_map.mpr ⟨r', hm, rfl⟩
      · walk_at "go"
        exact ⟨e4.t e5, _, _, rfl⟩
    · rintro σ H3 ⟨e3, u, v, rfl⟩
      have e123 := e12.t e3
      walk_at "go"
      refine ⟨a, _, dx, [], rfl, e123 _ _ ha, T.c_Book, T.n_Book_faces, by show 0 < 1000; decide, ?_⟩
      walk_at "go"
      refine ⟨a, _, dx, _, rfl, upd_same, T.c_Book, T.n_Book_cutters, by show 1 < 1000; decide, ?_⟩
      walk_at "go"
      rw [upd_upd]
      generalize hH4 : upd H3 a _ = H4
      have b4 : ExB a H H4 := (ExB.of e123).t (hH4 ▸ ExB.upd)
      have ha4 : H4 a = some (.ins (He.ga K "Book") dx [("faces", sV b.fc), ("cutters", sV b.ct)]) := hH4 ▸ upd_same
      have npa : p ≠ a := fun e => by rw [e, ha] at hp; cases hp
      refine ⟨p, _, rfl, .inr (ex_t (b4 _ _ npa hp)), fun l hl => ?_⟩
      have nla : l ≠ a := fun e => by rw [e, ha4] at hl; cases hl
      walk_at "go"
      refine ⟨a, _, dx, _, rfl, (Ex.nw hl) _ _ ha4, T.c_Book, T.n_Book_own_lines, by show 2 < 1000; decide, ?_⟩
      generalize hH5 : upd (upd H4 l _) a _ = H5
      have b5 : ExB a H H5 := b4.t ((ExB.of (Ex.nw hl)).t (hH5 ▸ ExB.upd))
      have ha5 : H5 a = some (.ins (He.ga K "Book") dx [("faces", sV b.fc), ("cutters", sV b.ct), ("own_lines", .ref l)]) := hH5 ▸ upd_same
      have hl5 : H5 l = some (.lst (rs.map fun r => V.ref r.1)) := by rw [← hH5, upd_ne nla]; exact upd_same
      have hrs5 : HLn H5 rs := fun r hr => b5 _ _ (fun e => by have := hrs r hr; rw [e, ha] at this; cases this) (hrs r hr)
      exact k H5 b5 ⟨dx, l, rs, ha5, hl5, hrs5, hls⟩
theorem HLn.lst {H : Hp} {rs : List (Addr × List Tx)} {l : Addr} {xs ys : List V} (h : HLn H rs) (hl : H l = some (.lst xs)) : HLn (upd H l (.lst ys)) rs := fun r m => by
  have := h r m
  rw [upd_ne (fun e => by rw [e, hl] at this; cases this)]
  exact this
/-- a book of the lines in a list -/
theorem pe_mkR_Book {X : Cx} {j : Nat} {p pos : Pos} {e : Expr} {es : List Expr} {t : TA} (T : T X.w X.K X.mg) (hr : Room j X.A) (hg : Gl X "Book") (ha : PA X (e :: es) t) (hk : 5 ≤ j := by decide)
    (he : starEach (e :: es) X.env = (false, eval e X.env) :: starEach es X.env := by rfl) (hst : (backTo pos (starEach es X.env)).any (·.1) = true := by rfl) :
    PE X (.Call (.Name "Book" p) (e :: es) [] pos) (StX.tMakeR (He.ga X.K "Book") (fun vs H Q E => ∃ ws rest, vs = ws ++ rest ∧ ws.length = 3 ∧ rest.length ≤ sizeLine ∧ ∀ p, H p = Option.none → spBookI X.K (ws ++ [V.ref p]) (upd H p (.tup rest)) Q E) E0 t) := by
  refine ⟨fun pins s σ H Q I h => ?_⟩
  refine wpAny_Call_Name_kw (ld_glob I hg T.g_Book ?_ (by decide))
  refine PySem.W.callWith_S2 (h₀ := X.base) I.ok.mod.kin T.mk_Book.kp (thn (ha.run pos pins s σ H _ I h) fun us s1 ⟨vs, H1, I1, r, q⟩ => ⟨I1.kIn, ?_⟩) he hst
  exact StX.run_makeR T.mk_Book (init_Book T) (hr.mono hk) pass0 I1 r q
def headT (b : Bk) : Tx := b.fc ++ 32 :: b.ct
def bookT (b : Bk) : Tx := TL.joinL [10] (headT b :: b.ls.map rowT)
theorem row_no10 {fc ct : Tx} {ln : List Tx} (h : LineOk fc ct ln) (hf : ∀ c ∈ fc, 65 ≤ c) (hc : ∀ c ∈ ct, 65 ≤ c) : 10 ∉ rowT ln := by
  obtain ⟨p0, p1, p2, p3, ck, u, rfl, o0, o1, o2, o3, ok, hu⟩ := h
  have b0 := (part_word hf o0).2
  have b1 := (part_word hf o1).2
  have b2 := (part_word hf o2).2
  have b3 := (part_word hf o3).2
  have b4 := (part_word hc ok).2
  have b5 := (cut_word hf hu).2.1
  intro h
  have e : rowT [p0, p1, p2, p3, ck, u] = p0 ++ 32 :: (p1 ++ 32 :: (p2 ++ 32 :: (p3 ++ 32 :: (ck ++ 32 :: encU u)))) := by simp [rowT, encL, TL.joinL]
  rw [e] at h
  simp only [List.mem_append, List.mem_cons] at h
  have n : ¬ (10 = 32) := by decide
  rcases h with h | h | h | h | h | h | h | h | h | h | h
  · have := b0 _ h; omega
  · exact n h
  · have := b1 _ h; omega
  · exact n h
  · have := b2 _ h; omega
  · exact n h
  · have := b3 _ h; omega
  · exact n h
  · have := b4 _ h; omega
  · exact n h
  · have := b5 _ h; omega
def spRead (K : PySem.W.Frag) : Sp := fun vs H Q _ => ∃ b : Bk, vs = [sV (bookT b)] ∧ BkOk b ∧ (bookT b).length ≤ 100000 ∧ (∀ ln ∈ b.ls, (rowT ln).length ≤ 100000) ∧ ∀ a H', H a = none → Ex H H' → HBook K H' a b → Q (.ref a) H'
/-! Book.read: slots text 0 rows 1 head 2 lines 3 at 4 row 5 line 6 -/
theorem sc_Book_read : FnScope ["text", "rows", "head", "lines", "at", "row", "line"] ["text"] (defScope (inClass (top 71) 13)) := C8.fnScope_by (by decide +kernel)
theorem ok_read (T : T w K mg) : ∃ fd, FnOk P w K mg base CX0 6 (rdAd K) fd ["text"] (spRead K) ∧ Binds K fd ["text"] [] := by
  obtain ⟨fd, F⟩ := T.d_read
  refine ⟨fd, fnD F sc_Book_read (fun vs H Q E h => ?_) (fun cdv A outer s H vs Q E hr h => ?_), F.bindsN (fun _ _ _ _ _ _ us hl => match us, hl with | [_], _ => rfl)⟩
  · obtain ⟨_, rfl, _⟩ := h; rfl
  obtain ⟨b, rfl, bo, hz, hrz, k⟩ := h
  have fasc := rise_lower bo.fc
  have casc := rise_upper bo.ct
  have fl := bo.fc.len
  have cl := bo.ct.len
  refine ⟨_, (pss_cons (ps_set (i := 1) sc_Book_read.nd rfl (Or.inl rfl) (pe_ifExp (pt_val (pe_callB call_isi (by rfl) T.f_isinstance (by decide +kernel) (pa_cons (pv 0) (pa_cons (pe_bltn (v := .ty "str") rfl T.f_str (by decide +kernel) rfl) pa_nil)))) (pe_split (pv 0) pe_str) (pe_lst (pa_cons pe_str pa_nil))))
      (pss_cons (ps_set (i := 2) sc_Book_read.nd rfl (Or.inl rfl) (pe_split (pe_ix ix_list (pv 1) pe_int (fun _ _ => rfl)) pe_str))
      (pss_cons (ps_if (PW.pt (pw_or (pt_cmpR op_ne (pe_callB cl_lenSeq (by rfl) T.f_len (by decide +kernel) (pa_cons (pv 2) pa_nil)) pe_int (nomark _)) (pw_or (pt_not (pt_val (pe_cl (cal_is_faces T) hr (by decide) rfl (pa_cons (pe_ix ix_list (pv 2) pe_int (fun _ _ => rfl)) pa_nil)))) (pw_or1 (pt_not (pt_val (pe_cl (cal_is_cutters T) hr (by decide) rfl (pa_cons (pe_ix ix_list (pv 2) pe_int (fun _ _ => rfl)) pa_nil)))))))) pss_never pss_nil)
      (pss_cons (ps_set (i := 3) sc_Book_read.nd rfl (Or.inl rfl) (pe_lst pa_nil))
      (pss_cons (ps_for PassesOwn.never rfl (pi_enum (by rfl) T.f_enumerate (pa_cons (pv 1) pa_nil)) (pg_tup rfl (pgs_cons (pg_name (i := 4) sc_Book_read.nd rfl (Or.inl rfl)) (pgs_cons (pg_name (i := 5) sc_Book_read.nd rfl (Or.inl rfl)) pgs_nil))) (pss_one (ps_if (pt_cmpR op_gt (pv 4) pe_int (nomark _)) (pss_cons (ps_set (i := 6) sc_Book_read.nd rfl (Or.inl rfl) (pe_cl (cal_line_of T) hr (by decide) rfl (pa_cons (pv 5) pa_nil)))
      (pss_cons (ps_if (PW.pt (pw_or (pt_cmpR op_gt (pv 4) (ClX.pe_cval (C8.pe_gc rfl T.v_Book)) (nomark _)) (pw_or1 (pt_not (pt_val (pe_cl (cal_is_line T) hr (by decide) rfl (pa_cons (pv 6) (pa_cons (pe_ix ix_list (pv 2) pe_int (fun _ _ => rfl)) (pa_cons (pe_ix ix_list (pv 2) pe_int (fun _ _ => rfl)) pa_nil))))))))) pss_never pss_nil)
      (pss_one (ps_expr (pe_bm PySem.F.plainAttrs_list PySem.F.slot_list_append PySem.F.type_list_append mt_append (pv 3) (pa_cons (pv 6) pa_nil)))))) pss_nil)))
      (pss_one (ps_ret (pe_mkR_Book T hr rfl (pa_cons (pe_ix ix_list (pv 2) pe_int (fun _ _ => rfl)) (pa_cons (pe_ix ix_list (pv 2) pe_int (fun _ _ => rfl)) (StX.pa_star (pv 3) pa_nil))))))))))), ?_⟩
  have hasc : ∀ c ∈ b.fc, 65 ≤ c := fun c hc => by have := bo.fc.all c hc; omega
  have casc2 : ∀ c ∈ b.ct, 65 ≤ c := fun c hc => by have := bo.ct.all c hc; omega
  have hrows : Txt.split (S (bookT b)) (S [10]) = (headT b :: b.ls.map rowT).map S := by
    rw [SX.split_S (by simp) (by decide), bookT, SX.spl_join (by simp)]
    intro p hp hc
    rcases List.mem_cons.mp hp with rfl | hp
    · rcases List.mem_append.mp hc with hc | hc
      · have := hasc _ hc; omega
      · rcases List.mem_cons.mp hc with hc | hc
        · cases hc
        · have := casc2 _ hc; omega
    · obtain ⟨ln, hln, rfl⟩ := List.mem_map.mp hp
      exact row_no10 (bo.ok ln hln) hasc casc2 hc
  have hhead : Txt.split (S (headT b)) (S [32]) = [b.fc, b.ct].map S := by
    rw [SX.split_S (by simp) (by decide)]
    have : headT b = TL.joinL [32] [b.fc, b.ct] := by simp [headT, TL.joinL]
    rw [this, SX.spl_join (by simp)]
    intro p hp hc
    simp at hp
    rcases hp with rfl | rfl
    · have := hasc _ hc; omega
    · have := casc2 _ hc; omega
  walk_at "go"
  refine ⟨S (bookT b), S [10], rfl, rfl, rfl, by rw [S_len, sizeLine_eq]; omega, fun p hp => ?_⟩
  rw [hrows]
  generalize hH1 : upd H p _ = H1
  have e1 : Ex H H1 := hH1 ▸ Ex.nw hp
  have hp1 : H1 p = some (.lst ((headT b :: b.ls.map rowT).map sV)) := by rw [← hH1, upd_same, List.map_map]; rfl
  walk_at "go"
  refine v_ixLL (i := 0) hp1 rfl ?_
  refine ⟨⟨_, rfl⟩, ?_⟩
  walk_at "go"
  refine ⟨S (headT b), S [32], rfl, rfl, rfl, by rw [S_len, sizeLine_eq]; simp [headT]; omega, fun q hq => ?_⟩
  rw [hhead]
  generalize hH2 : upd H1 q _ = H2
  have e2 : Ex H1 H2 := hH2 ▸ Ex.nw hq
  have hq2 : H2 q = some (.lst [sV b.fc, sV b.ct]) := hH2 ▸ upd_same
  walk_at "go"
  refine v_lenL (ex_l hq2) ?_
  walk_at "go"
  refine itNT rfl ?_
  walk_at "go"
  refine v_ixLL (i := 0) hq2 rfl ?_
  walk_at "go"
  refine ⟨b.fc, rfl, bo.fc, fun H3 e3 => ?_⟩
  walk_at "go"
  refine v_ixLL (i := 1) (e3 _ _ hq2) rfl ?_
  walk_at "go"
  refine ⟨b.ct, rfl, bo.ct, fun H4 e4 => ?_⟩
  walk_at "go"
  refine ⟨szl (by simp), fun l hl => ?_⟩
  walk_at "go"
  have e24 := e3.t e4
  refine ⟨p, _, rfl, ex_l ((e2.t (e24.t (Ex.nw hl))) _ _ hp1), ?_⟩
  refine for_it (walk_enum (K := K) (xs := (headT b :: b.ls.map rowT).map sV)) (fun i σ H5 => Ex H4 H5 ∧ (∃ u v w', σ = [some (sV (bookT b)), some (.ref p), some (.ref q), some (.ref l), u, v, w']) ∧ ∃ rs : List (Addr × List Tx), H5 l = some (.lst (rs.map fun r => V.ref r.1)) ∧ HLn H5 rs ∧ rs.map (·.2) = b.ls.take (i - 1))
    ⟨Ex.nw hl, ⟨_, _, _, rfl⟩, [], upd_same, fun r m => by simp at m, by simp⟩ (fun i σ H5 hi pv => ex_l ((e2.t (e24.t pv.1)) _ _ hp1)) ?_ ?_
  · rintro i x σ H5 H6 hi ⟨e5, ⟨u, v, w', rfl⟩, rs, hl5, hrs5, hls5⟩ ⟨TT, x', y, rfl, hT, rfl, h1, h2⟩
    cases h1
    have e6 : Ex H5 (upd H5 TT (.tup [.int (i : Nat), y])) := Ex.nw hT
    have hT6 : upd H5 TT (.tup [.int (i : Nat), y]) TT = some (.tup [.int (i : Nat), y]) := upd_same
    generalize upd H5 TT (.tup [.int (i : Nat), y]) = H6 at e6 hT6
    refine g_tup (ex_t hT6) rfl ?_
    walk_at "go"
    cases i with
    | zero =>
      refine itF (by simp) ?_
      walk_at "go"
      exact ⟨e5.t e6, ⟨_, _, _, rfl⟩, rs, e6 _ _ hl5, hrs5.ex e6, hls5⟩
    | succ j =>
      refine itT (by omega) ?_
      have h2' : ((b.ls.map rowT).map sV)[j]? = some y := h2
      rw [List.map_map, List.getElem?_map] at h2'
      obtain ⟨ln, hln, rfl⟩ := Option.map_eq_some_iff.mp h2'
      have hm := List.mem_of_getElem? hln
      have hj : j < b.ls.length := (List.getElem?_eq_some_iff.mp hln).1
      walk_at "go"
      refine ⟨ln, b.fc, b.ct, rfl, bo.ok ln hm, hasc, casc2, hrz ln hm, fun t H7 ht e7 ht7 => ?_⟩
      walk_at "go"
      obtain ⟨c1, u8, c2⟩ := T.bookMost
      refine ⟨_, _, _, u8, rfl, c1, c2, ?_⟩
      walk_at "go"
      refine itF (by have := bo.len; omega) ?_
      have hq7 := (e24.t (e5.t (e6.t e7))) _ _ hq2
      walk_at "go"
      refine v_ixLL (i := 0) hq7 rfl ?_
      walk_at "go"
      refine v_ixLL (i := 1) hq7 rfl ?_
      walk_at "go"
      refine ⟨t, ln, b.fc, b.ct, rfl, ht7, bo.ok ln hm, fasc.1, casc.1, by omega, by omega, fun H8 e8 => ?_⟩
      walk_at "go"
      have e58 := e6.t (e7.t e8)
      have hl8 := e58 _ _ hl5
      have lrs : rs.length ≤ b.ls.length := by
        have := congrArg List.length hls5
        simp at this
        omega
      refine ⟨ty_l hl8, ?_⟩
      walk_at "go"
      refine v_append hl8 ?_ ?_
      · have := bo.len
        simp
        omega
      · refine ⟨(e5.t e58).up hl, ⟨_, _, _, rfl⟩, rs ++ [(t, ln)], by rw [List.map_append]; exact upd_same, HLn.lst (fun r m => ?_) hl8, ?_⟩
        · rcases List.mem_append.mp m with m | m
          · exact (hrs5.ex e58) r m
          · rw [List.mem_singleton.mp m]
            exact e8 _ _ ht7
        · rw [List.map_append, hls5]
          show b.ls.take j ++ [ln] = b.ls.take (j + 1)
          rw [List.take_add_one, hln]
          rfl
  · rintro σ H5 ⟨e5, ⟨u, v, w', rfl⟩, rs, hl5, hrs5, hls5⟩
    have hq5 := (e24.t e5) _ _ hq2
    walk_at "go"
    refine v_ixLL (i := 0) hq5 rfl ?_
    walk_at "go"
    refine v_ixLL (i := 1) hq5 rfl ?_
    walk_at "go"
    refine ⟨l, _, rfl, .inr (ex_l hl5), ?_⟩
    walk_at "go"
    intro x dx hx hd hn
    generalize hH6 : upd (upd H5 dx _) x _ = H6
    have e6 : Ex H5 H6 := hH6 ▸ made_ hx hd hn
    have hx6 : H6 x = some (.ins (He.ga K "Book") dx []) := hH6 ▸ upd_same
    have lrs : rs.length ≤ b.ls.length := by
      have := congrArg List.length hls5
      simp at this
      omega
    refine ⟨[.ref x, sV b.fc, sV b.ct], rs.map fun r => V.ref r.1, by rw [List.append_nil]; rfl, rfl, szl (by have := bo.len; simp; omega), fun p' hp' => ?_⟩
    have e7 : Ex H6 (upd H6 p' (.tup (rs.map fun r => V.ref r.1))) := Ex.nw hp'
    refine ⟨x, dx, p', b, rs, rfl, e7 _ _ hx6, upd_same, hrs5.ex (e6.t e7), ?_, bo, fun H8 b8 hb8 => ⟨rfl, ?_⟩⟩
    · rw [hls5]
      simp
    · exact k x H8 ((e1.t (e2.t (e24.t e5))).none hx) (((e1.t (e2.t (e24.t e5))).t (e6.t e7)).mut ((e1.t (e2.t (e24.t e5))).none hx) b8) hb8
end L2.FW
end
section
set_option maxRecDepth 100000
set_option maxHeartbeats 4000000
set_option exponentiation.threshold 9000
/-! Ratios: rationals, num over den. -/
namespace L2.FW
open PySem PySem.Spec PyProof.Rows Fw
variable {P : Program} {w : World} {K : PySem.W.Frag} {mg : Str → Option Value} {base : Heap}
local macro_rules | `(tactic| walk_at "go1") => `(tactic| first
  | ((with_reducible apply v_var); exact rfl)
  | ((with_reducible apply s_aug); exact rfl)
  | with_reducible first
    | refine v_c ?_ | refine v_cons ?_ | refine v_nil ?_ | refine v_op ?_ | refine v_cb ?_ | refine v_call ?_ | refine v_bl ?_ | refine v_yes ?_
    | refine s_seq ?_ | refine s_ret ?_ | refine s_if ?_ | refine s_asg ?_ | refine g_name ?_ | refine v_test ?_ | refine v_tB ?_
    | refine v_rI0 ?_ | refine v_eqI ?_ | refine v_neI ?_ | refine v_eqS ?_ | refine v_neS ?_ | refine v_int1 ?_ | refine v_bool1 ?_ | refine v_abs ?_ | refine v_isN ?_ | refine v_notN ?_ | refine v_nsign ?_
    | refine v_andV ?_ | refine v_orV ?_ | refine v_notV ?_ | refine v_and ?_ | refine v_or ?_ | refine v_not ?_
    | refine v_if ?_ | refine v_tup ?_ | refine v_lst ?_ | refine v_sl ?_ | refine v_part ?_ | refine v_nopart ?_ | refine v_int ?_ | refine v_dget ?_ | refine v_din ?_ | refine v_dnin ?_
    | refine v_fld ?_ | refine v_meth ?_ | refine v_bm ?_ | refine v_m1 ?_ | refine v_strE ?_ | refine v_un ?_ | refine v_chain ?_ | refine s_next ?_ | refine s_drop ?_ | refine s_retN ?_ | refine s_par ?_ | refine s_par3 ?_
    | refine s_fld ?_ | refine s_dput ?_ | refine s_ddel ?_ | refine g_nil ?_ | refine g_cons ?_ | refine iteT ?_ | refine iteF ?_ | refine iteNT ?_ | refine iteNF ?_
    | refine isi_ss ?_ | refine isi_ii ?_ | refine isi_ib ?_ | refine v_lc ?_ | refine i_str ?_ | refine v_str ?_ | refine i_list ?_ | refine i_zipS ?_ | refine i_zipS3 ?_ | refine i_enumS ?_ | refine i_enum ?_ | refine i_tup ?_ | refine i_rng ?_ | refine s_for ?_ | refine v_star ?_ | refine v_makeR ?_ | refine v_make ?_ | refine v_cval ?_ | refine v_sign ?_)
local macro_rules | `(tactic| walk_at "go") => `(tactic| repeat walk_at "go1")
theorem T.insP (T : T w K mg) : insOk K = true := (He.ba (He.ba (He.ba (He.ba (He.ba (He.ba (He.ba (He.ba T.sup).2).2).2).2).2).2).2).2
theorem T.insRatio (T : T w K mg) : C8.InsC K (He.ga K "Ratio") := by
  have a := He.ba T.insP
  have b := He.ba a.2
  have c := He.ba b.2
  have d := He.ba c.2
  exact ⟨T.c_Ratio, He.eqO_ok a.1, He.eqO_ok b.1, of_decide_eq_true c.1, of_decide_eq_true d.1, if_pos (beq_self_eq_true _)⟩
theorem T.ratioSelf (T : T w K mg) : ∃ cd r, PySem.W.clsIn K (He.ga K "Ratio") = some cd ∧ cd.mro = .ref (He.ga K "Ratio") :: r := by
  have a := (He.ba (He.ba (He.ba (He.ba (He.ba (He.ba (He.ba T.sup).2).2).2).2).2).2).1
  unfold PySem.W.selfFirst at a
  cases h : PySem.W.clsIn K (He.ga K "Ratio") with
  | none => rw [h] at a; cases a
  | some cd =>
    rw [h] at a
    have a : (cd.mro.head? == some (.ref (He.ga K "Ratio"))) = true := a
    have e := beq_iff_eq.mp a
    cases hm : cd.mro with
    | nil => rw [hm] at e; cases e
    | cons x r =>
      rw [hm] at e
      have : x = .ref (He.ga K "Ratio") := by simpa using e
      exact ⟨cd, r, rfl, by rw [hm, this]⟩
def HRat (K : PySem.W.Frag) (H : Hp) (a : Addr) (q : Rat) : Prop := ∃ dx, H a = some (.ins (He.ga K "Ratio") dx [("top", .int q.num), ("bottom", .int (q.den : Int))])
theorem HRat.ex {H H' : Hp} {a : Addr} {q : Rat} (e : Ex H H') (h : HRat K H a q) : HRat K H' a q := by
  obtain ⟨dx, h⟩ := h
  exact ⟨dx, e _ _ h⟩
/-- small enough for what is done here -/
structure Bd (n : Nat) (q : Rat) : Prop where
  num : q.num.natAbs < 2 ^ n
  den : q.den < 2 ^ n
theorem Bd.mono {n m : Nat} {q : Rat} (h : Bd n q) (l : n ≤ m) : Bd m q := ⟨Nat.lt_of_lt_of_le h.num (Nat.pow_le_pow_right (by decide) l), Nat.lt_of_lt_of_le h.den (Nat.pow_le_pow_right (by decide) l)⟩
theorem lg {i : Nat} {n : Nat} (h : i < 2 ^ n) (hn : 0 < n) : i.log2 < n := by
  by_cases z : i = 0
  · subst z; simpa using hn
  · exact (Nat.log2_lt z).mpr h
theorem divInt_bd {t b : Int} {n : Nat} (hb : 0 < b) (h1 : t.natAbs < 2 ^ n) (h2 : b.natAbs < 2 ^ n) : Bd n (Rat.divInt t b) := by
  constructor
  · rw [Rat.num_divInt, Int.sign_eq_one_of_pos hb, Int.one_mul]
    have hg : 0 < b.gcd t := Int.gcd_pos_of_ne_zero_left _ (by omega)
    obtain ⟨k, hk⟩ := Int.gcd_dvd_right b t
    generalize b.gcd t = g at hg hk
    subst hk
    rw [Int.mul_ediv_cancel_left _ (by omega)]
    refine Nat.lt_of_le_of_lt ?_ h1
    rw [Int.natAbs_mul, Int.natAbs_natCast]
    exact Nat.le_mul_of_pos_left _ hg
  · rw [Rat.den_divInt, if_neg (by omega)]
    exact Nat.lt_of_le_of_lt (Nat.div_le_self _ _) h2
theorem divInt_parts {t b : Int} (hb : 0 < b) : (Rat.divInt t b).num = t / ((Nat.gcd t.natAbs b.natAbs : Nat) : Int) ∧ ((Rat.divInt t b).den : Int) = b / ((Nat.gcd t.natAbs b.natAbs : Nat) : Int) := by
  have e : b.gcd t = Nat.gcd t.natAbs b.natAbs := Nat.gcd_comm _ _
  constructor
  · rw [Rat.num_divInt, Int.sign_eq_one_of_pos hb, Int.one_mul, e]
  · rw [Rat.den_divInt, if_neg (by omega), e, Int.natCast_ediv]
    congr 1
    omega
def spRatI (K : PySem.W.Frag) : Sp := fun vs H Q _ => ∃ (a dx : Addr) (t b : Int), vs = [.ref a, .int t, .int b] ∧ H a = some (.ins (He.ga K "Ratio") dx []) ∧ 0 < b ∧ b.natAbs < 2 ^ 8000 ∧ ∀ H', ExB a H H' → HRat K H' a (Rat.divInt t b) → Q .non H'
/-! Ratio.__init__: slots self 0 top 1 bottom 2 by 3 -/
theorem sc_Ratio___init__ : FnScope ["self", "top", "bottom", "by"] ["self", "top", "bottom"] (defScope (inClass (top 33) 0)) := C8.fnScope_by (by decide +kernel)
theorem init_Ratio (T : T w K mg) : ∃ fd, FnOk P w K mg base CX0 2 (He.ma K (He.ga K "Ratio") "__init__") fd ["self", "top", "bottom"] (spRatI K) ∧ (∃ ds, Vals [] ds ∧ Binds K fd ["self", "top", "bottom"] ds) ∧ ∃ ds, Vals [V.int 1] ds ∧ Binds K fd ["self", "top", "bottom"] ds := by
  obtain ⟨fd, F⟩ := T.d_Ratio_init
  refine ⟨fd, FunD.ok F sc_Ratio___init__ (fun vs H Q E h => ?_) (fun cdv A outer s H vs Q E hr h => nox_ex ?_), F.binds1 3 1 (by simp) rfl fun T kV doc pm an cdv ct us its h1 h2 => ?_, F.binds1 2 0 (by simp) rfl fun T kV doc pm an cdv ct us its h1 h2 => ?_⟩
  · obtain ⟨_, _, _, _, rfl, _⟩ := h; rfl
  · obtain ⟨a, dx, t, b, rfl, ha, hb, hbs, k⟩ := h
    have hg : 0 < Nat.gcd t.natAbs b.natAbs := Nat.gcd_pos_of_pos_right _ (by omega)
    have hgs : Nat.gcd t.natAbs b.natAbs < 2 ^ 8000 := Nat.lt_of_le_of_lt (Nat.le_of_dvd (by omega) (Nat.gcd_dvd_right _ _)) hbs
    obtain ⟨p1, p2⟩ := divInt_parts (t := t) hb
    generalize hgg : Nat.gcd t.natAbs b.natAbs = g at hg hgs p1 p2
    have hw : CDivW t (g : Int) := ⟨by omega, by rw [Int.natAbs_natCast]; exact Nat.lt_trans (lg hgs (by decide)) (by decide)⟩
    refine ⟨_, (pss_cons (ps_if (PW.pt (pw_or (pt_not (pt_val (pe_cl (cal_is_whole T) hr (by decide) rfl (pa_cons (pv 1) pa_nil)))) (pw_or (pt_not (pt_val (pe_cl (cal_is_whole T) hr (by decide) rfl (pa_cons (pv 2) pa_nil)))) (pw_or1 (pt_cmpR op_eq (pv 2) pe_int (nomark _)))))) pss_never pss_nil)
      (pss_cons (ps_set (i := 3) sc_Ratio___init__.nd rfl (Or.inl rfl) (pe_callBfun cr_gcd rfl T.v_gcd (pa_cons (pv 1) (pa_cons (pv 2) pa_nil))))
      (pss_cons (ps_if (pt_cmpR op_lt (pv 2) pe_int (nomark _)) (pss_one (ps_set (i := 3) sc_Ratio___init__.nd rfl (Or.inl rfl) (pe_un un_neg (pv 3)))) pss_nil)
      (pss_cons (ps_fld (pv 0) (pe_op op_fdivW (pv 1) (pv 3)) rfl)
      (pss_one (ps_fld (pv 0) (pe_op op_fdivW (pv 2) (pv 3)) rfl)))))), ?_⟩
    walk_at "go"
    refine ⟨t, rfl, ?_⟩
    walk_at "go"
    refine ⟨b, rfl, ?_⟩
    walk_at "go"
    refine itF (by omega) ?_
    walk_at "go"
    refine ⟨t, b, rfl, ?_⟩
    rw [hgg]
    walk_at "go"
    refine itF (by omega) ?_
    walk_at "go"
    refine v_rI hw ?_
    walk_at "go"
    refine ⟨a, _, dx, [], rfl, ha, T.c_Ratio, T.n_Ratio_top, by show 0 < 1000; decide, ?_⟩
    walk_at "go"
    refine v_rI hw ?_
    walk_at "go"
    refine ⟨a, _, dx, _, rfl, upd_same, T.c_Ratio, T.n_Ratio_bottom, by show 1 < 1000; decide, ?_⟩
    rw [upd_upd]
    refine k _ ExB.upd ⟨dx, ?_⟩
    rw [upd_same, p1, p2]
    rfl
  · match us, its, h1, h2 with
    | [a, b, c], [d], _, _ => exact ⟨_, rfl, rfl⟩
  · match us, its, h1, h2 with
    | [a, b], [d], _, _ => exact ⟨_, rfl, rfl⟩
section
variable {X : Cx} {j : Nat} {p pos : Pos} {e : Expr} {es : List Expr} {t : TA}
theorem pe_mk_Ratio2 (T : T X.w X.K X.mg) (hr : Room j X.A) (hg : Gl X "Ratio") (ha : PA X (e :: es) t) (hk : 3 ≤ j := by decide)
    (he : starEach (e :: es) X.env = (false, eval e X.env) :: starEach es X.env := by rfl) (hpl : (backTo pos (starEach es X.env)).any (·.1) = false := by rfl) :
    PE X (.Call (.Name "Ratio" p) (e :: es) [] pos) (tMake (He.ga X.K "Ratio") (spRatI X.K) [] E0 t) := by
  obtain ⟨fd, F, ⟨ds, h1, h2⟩, _⟩ := init_Ratio (P := X.prog) (base := X.base) T
  exact pe_make T.mk_Ratio F (hr.mono hk) hg T.g_Ratio h2 h1 pass0 ha (by decide) he hpl
theorem pe_mk_Ratio1 (T : T X.w X.K X.mg) (hr : Room j X.A) (hg : Gl X "Ratio") (ha : PA X (e :: es) t) (hk : 3 ≤ j := by decide)
    (he : starEach (e :: es) X.env = (false, eval e X.env) :: starEach es X.env := by rfl) (hpl : (backTo pos (starEach es X.env)).any (·.1) = false := by rfl) :
    PE X (.Call (.Name "Ratio" p) (e :: es) [] pos) (tMake (He.ga X.K "Ratio") (spRatI X.K) [V.int 1] E0 t) := by
  obtain ⟨fd, F, _, ⟨ds, h1, h2⟩⟩ := init_Ratio (P := X.prog) (base := X.base) T
  exact pe_make T.mk_Ratio F (hr.mono hk) hg T.g_Ratio h2 h1 pass0 ha (by decide) he hpl
end
theorem mk_rat {H : Hp} {Q : VK} {E : XK} {t b : Int} {vs ds : List V} (hv : vs ++ ds = [.int t, .int b]) (hb : 0 < b) (hbs : b.natAbs < 2 ^ 8000) (q : ∀ x H', H x = none → Ex H H' → HRat K H' x (Rat.divInt t b) → Q (.ref x) H') :
    rMk (He.ga K "Ratio") (spRatI K) ds E vs H Q := by
  intro x dx hx hd hn
  rw [hv]
  have e1 := made_ (C := He.ga K "Ratio") hx hd hn
  exact ⟨x, dx, t, b, rfl, upd_same, hb, hbs, fun H' b' h' => ⟨rfl, q x H' hx (e1.mut hx b') h'⟩⟩
section
variable {H : Hp} {Q : VK} {a : Addr} {q : Rat}
theorem fld_top (T : T w K mg) (h : HRat K H a q) (k : Q (.int q.num) H) : rFld K "top" (.ref a) H Q := by
  obtain ⟨dx, h⟩ := h
  exact fld_any h T.c_Ratio T.n_Ratio_top rfl k
theorem fld_bottom (T : T w K mg) (h : HRat K H a q) (k : Q (.int (q.den : Int)) H) : rFld K "bottom" (.ref a) H Q := by
  obtain ⟨dx, h⟩ := h
  exact fld_any h T.c_Ratio T.n_Ratio_bottom rfl k
end
theorem mulW {i j : Int} {n m : Nat} (hi : i.natAbs < 2 ^ n) (hj : j.natAbs < 2 ^ m) (h : n + m < 900000) : CMulW i j := by
  have h1 := lg (Nat.lt_of_lt_of_le hi (Nat.pow_le_pow_right (by decide) (Nat.le_succ n))) (Nat.succ_pos n)
  have h2 := lg (Nat.lt_of_lt_of_le hj (Nat.pow_le_pow_right (by decide) (Nat.le_succ m))) (Nat.succ_pos m)
  unfold CMulW
  omega
theorem mul_bd {i j : Int} {n m : Nat} (hi : i.natAbs < 2 ^ n) (hj : j.natAbs < 2 ^ m) : (i * j).natAbs < 2 ^ (n + m) := by
  rw [Int.natAbs_mul, Nat.pow_add]
  exact Nat.mul_lt_mul'' hi hj
theorem add_bd {i j : Int} {n : Nat} (hi : i.natAbs < 2 ^ n) (hj : j.natAbs < 2 ^ n) : (i + j).natAbs < 2 ^ (n + 1) := by
  have := Int.natAbs_add_le i j
  rw [Nat.pow_succ]
  omega
theorem sub_bd {i j : Int} {n : Nat} (hi : i.natAbs < 2 ^ n) (hj : j.natAbs < 2 ^ n) : (i - j).natAbs < 2 ^ (n + 1) := by
  have := Int.natAbs_sub_le i j
  rw [Nat.pow_succ]
  omega
theorem den_pos (q : Rat) : 0 < (q.den : Int) := by have := q.den_pos; omega
theorem den_abs {q : Rat} {n : Nat} (h : Bd n q) : (q.den : Int).natAbs < 2 ^ n := by rw [Int.natAbs_natCast]; exact h.den
theorem den_mul (p q : Rat) : 0 < (p.den : Int) * (q.den : Int) := Int.mul_pos (den_pos p) (den_pos q)
/-- an operation on two ratios: a new one -/
def spRat2 (K : PySem.W.Frag) (f : Rat → Rat → Rat) : Sp := fun vs H Q _ => ∃ (a b : Addr) (p q : Rat), vs = [.ref a, .ref b] ∧ HRat K H a p ∧ HRat K H b q ∧ Bd 3900 p ∧ Bd 3900 q ∧ ∀ x H', H x = none → Ex H H' → HRat K H' x (f p q) → Q (.ref x) H'
def ratAdd (p q : Rat) : Rat := p + q
def ratSub (p q : Rat) : Rat := p - q
def ratMul (p q : Rat) : Rat := p * q
theorem rat_add (p q : Rat) : Rat.divInt (p.num * q.den + q.num * p.den) (p.den * q.den) = p + q := by
  have h := Rat.divInt_add_divInt p.num q.num (d₁ := p.den) (d₂ := q.den) (by have := den_pos p; omega) (by have := den_pos q; omega)
  rw [Rat.num_divInt_den, Rat.num_divInt_den] at h
  exact h.symm
theorem rat_sub (p q : Rat) : Rat.divInt (p.num * q.den - q.num * p.den) (p.den * q.den) = p - q := by
  have h := Rat.divInt_sub_divInt p.num q.num (d₁ := p.den) (d₂ := q.den) (by have := den_pos p; omega) (by have := den_pos q; omega)
  rw [Rat.num_divInt_den, Rat.num_divInt_den] at h
  exact h.symm
theorem rat_mul (p q : Rat) : Rat.divInt (p.num * q.num) (p.den * q.den) = p * q := by
  have h := Rat.divInt_mul_divInt p.num q.num (d₁ := p.den) (d₂ := q.den)
  rw [Rat.num_divInt_den, Rat.num_divInt_den] at h
  exact h.symm
/-! Ratio.__add__: slots self 0 other 1 -/
theorem sc_Ratio___add__ : FnScope ["self", "other"] ["self", "other"] (defScope (inClass (top 33) 1)) := C8.fnScope_by (by decide +kernel)
theorem met_Ratio_add (T : T w K mg) : Met P w K mg base 4 (He.ga K "Ratio") "__add__" (spRat2 K ratAdd) := by
  refine metD T.c_Ratio T.m_Ratio_add T.d_Ratio_add sc_Ratio___add__ (fun vs H Q E h => ?_) (fun _ _ _ _ _ _ us hl => match us, hl with | [_, _], _ => rfl) (fun cdv A outer s H vs Q E hr h => ?_)
  · obtain ⟨_, _, _, _, rfl, _⟩ := h; rfl
  obtain ⟨a, b, p, q, rfl, ha, hb, bp, bq, k⟩ := h
  refine ⟨_, (pss_one (ps_ret (pe_mk_Ratio2 T hr rfl (pa_cons (pe_op op_add (pe_op op_mulW (pe_fld (pv 0) rfl) (pe_fld (pv 1) rfl)) (pe_op op_mulW (pe_fld (pv 1) rfl) (pe_fld (pv 0) rfl))) (pa_cons (pe_op op_mulW (pe_fld (pv 0) rfl) (pe_fld (pv 1) rfl)) pa_nil))))), ?_⟩
  walk_at "go"
  refine fld_top T ha ?_
  walk_at "go"
  refine fld_bottom T hb ?_
  walk_at "go"
  refine v_rI (mulW bp.num (den_abs bq) (by decide)) ?_
  walk_at "go"
  refine fld_top T hb ?_
  walk_at "go"
  refine fld_bottom T ha ?_
  walk_at "go"
  refine v_rI (mulW bq.num (den_abs bp) (by decide)) ?_
  walk_at "go"
  refine fld_bottom T ha ?_
  walk_at "go"
  refine fld_bottom T hb ?_
  walk_at "go"
  refine v_rI (mulW (den_abs bp) (den_abs bq) (by decide)) ?_
  walk_at "go"
  refine mk_rat rfl (den_mul p q) (Nat.lt_of_lt_of_le (mul_bd (den_abs bp) (den_abs bq)) (Nat.pow_le_pow_right (by decide) (by decide))) ?_
  rw [rat_add]
  exact k
/-! Ratio.__sub__: slots self 0 other 1 -/
theorem sc_Ratio___sub__ : FnScope ["self", "other"] ["self", "other"] (defScope (inClass (top 33) 2)) := C8.fnScope_by (by decide +kernel)
theorem met_Ratio_sub (T : T w K mg) : Met P w K mg base 4 (He.ga K "Ratio") "__sub__" (spRat2 K ratSub) := by
  refine metD T.c_Ratio T.m_Ratio_sub T.d_Ratio_sub sc_Ratio___sub__ (fun vs H Q E h => ?_) (fun _ _ _ _ _ _ us hl => match us, hl with | [_, _], _ => rfl) (fun cdv A outer s H vs Q E hr h => ?_)
  · obtain ⟨_, _, _, _, rfl, _⟩ := h; rfl
  obtain ⟨a, b, p, q, rfl, ha, hb, bp, bq, k⟩ := h
  refine ⟨_, (pss_one (ps_ret (pe_mk_Ratio2 T hr rfl (pa_cons (pe_op op_sub (pe_op op_mulW (pe_fld (pv 0) rfl) (pe_fld (pv 1) rfl)) (pe_op op_mulW (pe_fld (pv 1) rfl) (pe_fld (pv 0) rfl))) (pa_cons (pe_op op_mulW (pe_fld (pv 0) rfl) (pe_fld (pv 1) rfl)) pa_nil))))), ?_⟩
  walk_at "go"
  refine fld_top T ha ?_
  walk_at "go"
  refine fld_bottom T hb ?_
  walk_at "go"
  refine v_rI (mulW bp.num (den_abs bq) (by decide)) ?_
  walk_at "go"
  refine fld_top T hb ?_
  walk_at "go"
  refine fld_bottom T ha ?_
  walk_at "go"
  refine v_rI (mulW bq.num (den_abs bp) (by decide)) ?_
  walk_at "go"
  refine fld_bottom T ha ?_
  walk_at "go"
  refine fld_bottom T hb ?_
  walk_at "go"
  refine v_rI (mulW (den_abs bp) (den_abs bq) (by decide)) ?_
  walk_at "go"
  refine mk_rat rfl (den_mul p q) (Nat.lt_of_lt_of_le (mul_bd (den_abs bp) (den_abs bq)) (Nat.pow_le_pow_right (by decide) (by decide))) ?_
  rw [rat_sub]
  exact k
/-! Ratio.__mul__: slots self 0 other 1 -/
theorem sc_Ratio___mul__ : FnScope ["self", "other"] ["self", "other"] (defScope (inClass (top 33) 3)) := C8.fnScope_by (by decide +kernel)
theorem met_Ratio_mul (T : T w K mg) : Met P w K mg base 4 (He.ga K "Ratio") "__mul__" (spRat2 K ratMul) := by
  refine metD T.c_Ratio T.m_Ratio_mul T.d_Ratio_mul sc_Ratio___mul__ (fun vs H Q E h => ?_) (fun _ _ _ _ _ _ us hl => match us, hl with | [_, _], _ => rfl) (fun cdv A outer s H vs Q E hr h => ?_)
  · obtain ⟨_, _, _, _, rfl, _⟩ := h; rfl
  obtain ⟨a, b, p, q, rfl, ha, hb, bp, bq, k⟩ := h
  refine ⟨_, (pss_one (ps_ret (pe_mk_Ratio2 T hr rfl (pa_cons (pe_op op_mulW (pe_fld (pv 0) rfl) (pe_fld (pv 1) rfl)) (pa_cons (pe_op op_mulW (pe_fld (pv 0) rfl) (pe_fld (pv 1) rfl)) pa_nil))))), ?_⟩
  walk_at "go"
  refine fld_top T ha ?_
  walk_at "go"
  refine fld_top T hb ?_
  walk_at "go"
  refine v_rI (mulW bp.num bq.num (by decide)) ?_
  walk_at "go"
  refine fld_bottom T ha ?_
  walk_at "go"
  refine fld_bottom T hb ?_
  walk_at "go"
  refine v_rI (mulW (den_abs bp) (den_abs bq) (by decide)) ?_
  walk_at "go"
  refine mk_rat rfl (den_mul p q) (Nat.lt_of_lt_of_le (mul_bd (den_abs bp) (den_abs bq)) (Nat.pow_le_pow_right (by decide) (by decide))) ?_
  rw [rat_mul]
  exact k
def spBelow (K : PySem.W.Frag) : Sp := fun vs H Q _ => ∃ (a b : Addr) (p q : Rat), vs = [.ref a, .ref b] ∧ HRat K H a p ∧ HRat K H b q ∧ Bd 3900 p ∧ Bd 3900 q ∧ Q (.bl (decide (p < q))) H
/-! Ratio.is_below: slots self 0 other 1 -/
theorem sc_Ratio_is_below : FnScope ["self", "other"] ["self", "other"] (defScope (inClass (top 33) 4)) := C8.fnScope_by (by decide +kernel)
theorem met_Ratio_is_below (T : T w K mg) : Met P w K mg base 1 (He.ga K "Ratio") "is_below" (spBelow K) := by
  refine metD T.c_Ratio T.m_Ratio_is_below T.d_Ratio_is_below sc_Ratio_is_below (fun vs H Q E h => ?_) (fun _ _ _ _ _ _ us hl => match us, hl with | [_, _], _ => rfl) (fun cdv A outer s H vs Q E hr h => ?_)
  · obtain ⟨_, _, _, _, rfl, _⟩ := h; rfl
  obtain ⟨a, b, p, q, rfl, ha, hb, bp, bq, k⟩ := h
  refine ⟨_, (pss_one (ps_ret (pe_callTy cl_bool1 (by rfl) T.f_bool (by decide +kernel) (pa_cons (pe_cmpR op_lt (pe_op op_mulW (pe_fld (pv 0) rfl) (pe_fld (pv 1) rfl)) (pe_op op_mulW (pe_fld (pv 1) rfl) (pe_fld (pv 0) rfl)) (nomark _)) pa_nil)))), ?_⟩
  walk_at "go"
  refine fld_top T ha ?_
  walk_at "go"
  refine fld_bottom T hb ?_
  walk_at "go"
  refine v_rI (mulW bp.num (den_abs bq) (by decide)) ?_
  walk_at "go"
  refine fld_top T hb ?_
  walk_at "go"
  refine fld_bottom T ha ?_
  walk_at "go"
  refine v_rI (mulW bq.num (den_abs bp) (by decide)) ?_
  walk_at "go"
  rw [show decide (p.num * (q.den : Int) < q.num * (p.den : Int)) = decide (p < q) from by simp only [Rat.lt_iff]]
  exact k
def spRatEq (K : PySem.W.Frag) : Sp := fun vs H Q _ => ∃ (a b : Addr) (p q : Rat), vs = [.ref a, .ref b] ∧ HRat K H a p ∧ HRat K H b q ∧ Q (.bl (decide (p = q))) H
/-! Ratio.__eq__: slots self 0 other 1 -/
theorem sc_Ratio___eq__ : FnScope ["self", "other"] ["self", "other"] (defScope (inClass (top 33) 5)) := C8.fnScope_by (by decide +kernel)
theorem met_Ratio_eq (T : T w K mg) : Met P w K mg base 1 (He.ga K "Ratio") "__eq__" (spRatEq K) := by
  refine metD T.c_Ratio T.m_Ratio_eq T.d_Ratio_eq sc_Ratio___eq__ (fun vs H Q E h => ?_) (fun _ _ _ _ _ _ us hl => match us, hl with | [_, _], _ => rfl) (fun cdv A outer s H vs Q E hr h => ?_)
  · obtain ⟨_, _, _, _, rfl, _⟩ := h; rfl
  obtain ⟨a, b, p, q, rfl, ha, hb, k⟩ := h
  refine ⟨_, (pss_one (ps_ret (pe_and (pe_callB (C8.call_isC T.insRatio) (by rfl) T.f_isinstance (by decide +kernel) (pa_cons (pv 1) (pa_cons (C8.pe_gc rfl T.v_Ratio) pa_nil))) (pe_and (pe_cmpR op_eq (pe_fld (pv 0) rfl) (pe_fld (pv 1) rfl) (nomark _)) (pe_one (pe_cmpR op_eq (pe_fld (pv 0) rfl) (pe_fld (pv 1) rfl) (nomark _))))))), ?_⟩
  walk_at "go"
  obtain ⟨dx, hb'⟩ := id hb
  refine ⟨b, dx, _, rfl, hb', ?_⟩
  walk_at "go"
  refine fld_top T ha ?_
  walk_at "go"
  refine fld_top T hb ?_
  walk_at "go"
  cases h1 : decide (p.num = q.num)
  · walk_at "go"
    have h1 := of_decide_eq_false h1
    rw [show decide (p = q) = false from decide_eq_false fun e => h1 (by rw [e])] at k
    exact k
  · walk_at "go"
    refine fld_bottom T ha ?_
    walk_at "go"
    refine fld_bottom T hb ?_
    walk_at "go"
    have h1 := of_decide_eq_true h1
    rw [show decide ((p.den : Int) = (q.den : Int)) = decide (p = q) from by
      rw [decide_eq_decide]
      exact ⟨fun h => Rat.ext h1 (by omega), fun h => by rw [h]⟩]
    exact k
section
variable {X : Cx} {j : Nat}
theorem own_add (T : T X.w X.K X.mg) (hr : Room j X.A) (hk : 4 ≤ j := by decide) : OpR X (binaryOp .Add) (rOwn (He.ga X.K "Ratio") (spRat2 X.K ratAdd)) := by
  obtain ⟨f, fd, ps, _, m, F, b⟩ := (met_Ratio_add (P := X.prog) (base := X.base) T).ex
  obtain ⟨cd, r, h1, h2⟩ := T.ratioSelf
  exact op_ownB h1 h2 m.at_ m.fn F (hr.mono hk) b
theorem own_sub (T : T X.w X.K X.mg) (hr : Room j X.A) (hk : 4 ≤ j := by decide) : OpR X (binaryOp .Sub) (rOwn (He.ga X.K "Ratio") (spRat2 X.K ratSub)) := by
  obtain ⟨f, fd, ps, _, m, F, b⟩ := (met_Ratio_sub (P := X.prog) (base := X.base) T).ex
  obtain ⟨cd, r, h1, h2⟩ := T.ratioSelf
  exact op_ownB h1 h2 m.at_ m.fn F (hr.mono hk) b
theorem own_mul (T : T X.w X.K X.mg) (hr : Room j X.A) (hk : 4 ≤ j := by decide) : OpR X (binaryOp .Mult) (rOwn (He.ga X.K "Ratio") (spRat2 X.K ratMul)) := by
  obtain ⟨f, fd, ps, _, m, F, b⟩ := (met_Ratio_mul (P := X.prog) (base := X.base) T).ex
  obtain ⟨cd, r, h1, h2⟩ := T.ratioSelf
  exact op_ownB h1 h2 m.at_ m.fn F (hr.mono hk) b
theorem own_eq (T : T X.w X.K X.mg) (hr : Room j X.A) (hk : 1 ≤ j := by decide) : OpR X (compareOp .Eq) (rOwn (He.ga X.K "Ratio") (spRatEq X.K)) := by
  obtain ⟨f, fd, ps, _, m, F, b⟩ := (met_Ratio_eq (P := X.prog) (base := X.base) T).ex
  exact op_ownE m.at_ m.fn F (hr.mono hk) b
end
theorem v_own2 {f : Rat → Rat → Rat} {H : Hp} {Q : VK} {a b : Addr} {p q : Rat} (ha : HRat K H a p) (hb : HRat K H b q) (bp : Bd 3900 p) (bq : Bd 3900 q) (k : ∀ x H', H x = none → Ex H H' → HRat K H' x (f p q) → Q (.ref x) H') : rOwn (He.ga K "Ratio") (spRat2 K f) (.ref a) (.ref b) H Q := by
  obtain ⟨dx, h1⟩ := id ha
  obtain ⟨dy, h2⟩ := id hb
  exact ⟨⟨a, dx, _, rfl, h1⟩, ⟨b, dy, _, rfl, h2⟩, a, b, p, q, rfl, ha, hb, bp, bq, k⟩
theorem v_ownEq {H : Hp} {Q : VK} {a b : Addr} {p q : Rat} (ha : HRat K H a p) (hb : HRat K H b q) (k : Q (.bl (decide (p = q))) H) : rOwn (He.ga K "Ratio") (spRatEq K) (.ref a) (.ref b) H Q := by
  obtain ⟨dx, h1⟩ := id ha
  obtain ⟨dy, h2⟩ := id hb
  exact ⟨⟨a, dx, _, rfl, h1⟩, ⟨b, dy, _, rfl, h2⟩, a, b, p, q, rfl, ha, hb, k⟩
theorem add_bdR {p q : Rat} {n m : Nat} (h1 : Bd n p) (h2 : Bd m q) : Bd (n + m + 1) (p + q) := by
  have e := rat_add p q
  rw [← e]
  refine divInt_bd (den_mul p q) ?_ (Nat.lt_of_lt_of_le (mul_bd (den_abs h1) (den_abs h2)) (Nat.pow_le_pow_right (by decide) (Nat.le_succ _)))
  have a := mul_bd h1.num (den_abs h2)
  have b := mul_bd h2.num (den_abs h1)
  rw [Nat.add_comm m n] at b
  exact add_bd a b
theorem sub_bdR {p q : Rat} {n m : Nat} (h1 : Bd n p) (h2 : Bd m q) : Bd (n + m + 1) (p - q) := by
  have e := rat_sub p q
  rw [← e]
  refine divInt_bd (den_mul p q) ?_ (Nat.lt_of_lt_of_le (mul_bd (den_abs h1) (den_abs h2)) (Nat.pow_le_pow_right (by decide) (Nat.le_succ _)))
  have a := mul_bd h1.num (den_abs h2)
  have b := mul_bd h2.num (den_abs h1)
  rw [Nat.add_comm m n] at b
  exact sub_bd a b
theorem mul_bdR {p q : Rat} {n m : Nat} (h1 : Bd n p) (h2 : Bd m q) : Bd (n + m) (p * q) := by
  have e := rat_mul p q
  rw [← e]
  exact divInt_bd (den_mul p q) (mul_bd h1.num h2.num) (mul_bd (den_abs h1) (den_abs h2))
/-- low + (high - low) * top / bottom -/
def onWay (low high : Rat) (t b : Int) : Rat := low + (high - low) * Rat.divInt t b
def spPartWay (K : PySem.W.Frag) : Sp := fun vs H Q _ => ∃ (a c : Addr) (p q : Rat) (t b : Int), vs = [.ref a, .ref c, .int t, .int b] ∧ HRat K H a p ∧ HRat K H c q ∧ Bd 1000 p ∧ Bd 1000 q ∧ 0 < b ∧ b.natAbs < 2 ^ 200 ∧ t.natAbs < 2 ^ 200 ∧
  ∀ x H', H x = none → Ex H H' → HRat K H' x (onWay p q t b) → Q (.ref x) H'
/-! part_way: slots low 0 high 1 top 2 bottom 3 -/
theorem sc_part_way : FnScope ["low", "high", "top", "bottom"] ["low", "high", "top", "bottom"] (defScope (top 35)) := C8.fnScope_by (by decide +kernel)
theorem cal_part_way (T : T w K mg) : Cal P w K mg base 5 "part_way" (spPartWay K) := by
  refine calD T.d_part_way T.g_part_way sc_part_way (fun vs H Q E h => ?_) (fun _ _ _ _ _ _ us hl => match us, hl with | [_, _, _, _], _ => rfl) (fun cdv A outer s H vs Q E hr h => ?_)
  · obtain ⟨_, _, _, _, _, _, rfl, _⟩ := h; rfl
  obtain ⟨a, c, p, q, t, b, rfl, ha, hc, bp, bq, hb, hbs, hts, k⟩ := h
  have br : Bd 200 (Rat.divInt t b) := divInt_bd hb hts hbs
  refine ⟨_, (pss_one (ps_ret (pe_op (own_add T hr) (pv 0) (pe_op (own_mul T hr) (pe_op (own_sub T hr) (pv 1) (pv 0)) (pe_mk_Ratio2 T hr rfl (pa_cons (pv 2) (pa_cons (pv 3) pa_nil))))))), ?_⟩
  walk_at "go"
  refine v_own2 hc ha (bq.mono (by decide)) (bp.mono (by decide)) fun x H1 hx e1 h1 => ?_
  walk_at "go"
  refine mk_rat rfl hb (Nat.lt_of_lt_of_le hbs (Nat.pow_le_pow_right (by decide) (by decide))) fun y H2 hy e2 h2 => ?_
  have bs := sub_bdR bq bp
  refine v_own2 (h1.ex e2) h2 (bs.mono (by decide)) (br.mono (by decide)) fun z H3 hz e3 h3 => ?_
  refine v_own2 (ha.ex (e1.t (e2.t e3))) h3 (bp.mono (by decide)) ((mul_bdR bs br).mono (by decide)) fun u H4 hu e4 h4 => ?_
  exact k u H4 ((e1.t (e2.t e3)).none hu) (e1.t (e2.t (e3.t e4))) h4
def spRatOver (K : PySem.W.Frag) : Sp := fun vs H Q _ => ∃ (a c : Addr) (p q : Rat), vs = [.ref a, .ref c] ∧ HRat K H a p ∧ HRat K H c q ∧ Bd 1000 p ∧ Bd 1000 q ∧ 0 < q ∧
  ∀ x H', H x = none → Ex H H' → HRat K H' x (p / q) → Q (.ref x) H'
theorem rat_over {p q : Rat} (h : 0 < q) : 0 < (p.den : Int) * q.num ∧ Rat.divInt (p.num * q.den) (p.den * q.num) = p / q := by
  have hn : 0 < q.num := by
    have h := (Rat.lt_iff 0 q).mp h
    rw [Rat.zero_num, Rat.zero_den] at h
    omega
  refine ⟨Int.mul_pos (den_pos p) hn, ?_⟩
  have e := Rat.divInt_mul_divInt p.num q.den (d₁ := p.den) (d₂ := q.num)
  rw [← e, Rat.num_divInt_den, ← Rat.inv_def, ← Rat.div_def]
/-! ratio_over: slots one 0 other 1 -/
theorem sc_ratio_over : FnScope ["one", "other"] ["one", "other"] (defScope (top 68)) := C8.fnScope_by (by decide +kernel)
theorem cal_ratio_over (T : T w K mg) : Cal P w K mg base 4 "ratio_over" (spRatOver K) := by
  refine calD T.d_ratio_over T.g_ratio_over sc_ratio_over (fun vs H Q E h => ?_) (fun _ _ _ _ _ _ us hl => match us, hl with | [_, _], _ => rfl) (fun cdv A outer s H vs Q E hr h => ?_)
  · obtain ⟨_, _, _, _, rfl, _⟩ := h; rfl
  obtain ⟨a, b, p, q, rfl, ha, hb, bp, bq, hq, k⟩ := h
  refine ⟨_, (pss_one (ps_ret (pe_mk_Ratio2 T hr rfl (pa_cons (pe_op op_mulW (pe_fld (pv 0) rfl) (pe_fld (pv 1) rfl)) (pa_cons (pe_op op_mulW (pe_fld (pv 0) rfl) (pe_fld (pv 1) rfl)) pa_nil))))), ?_⟩
  walk_at "go"
  refine fld_top T ha ?_
  walk_at "go"
  refine fld_bottom T hb ?_
  walk_at "go"
  refine v_rI (mulW bp.num (den_abs bq) (by decide)) ?_
  walk_at "go"
  refine fld_bottom T ha ?_
  walk_at "go"
  refine fld_top T hb ?_
  walk_at "go"
  refine v_rI (mulW (den_abs bp) bq.num (by decide)) ?_
  walk_at "go"
  obtain ⟨o1, o2⟩ := rat_over (p := p) hq
  refine mk_rat rfl o1 (Nat.lt_of_lt_of_le (mul_bd (den_abs bp) bq.num) (Nat.pow_le_pow_right (by decide) (by decide))) ?_
  rw [o2]
  exact k
end L2.FW
end
section
set_option maxRecDepth 100000
set_option maxHeartbeats 4000000
/-! Copies of a list of steps. -/
namespace L2.FW
open PySem PySem.Spec PyProof.Rows Fw
variable {P : Program} {w : World} {K : PySem.W.Frag} {mg : Str → Option Value} {base : Heap}
local macro_rules | `(tactic| walk_at "go1") => `(tactic| first
  | ((with_reducible apply v_var); exact rfl)
  | ((with_reducible apply s_aug); exact rfl)
  | with_reducible first
    | refine v_c ?_ | refine v_cons ?_ | refine v_nil ?_ | refine v_op ?_ | refine v_cb ?_ | refine v_call ?_ | refine v_bl ?_ | refine v_yes ?_
    | refine s_seq ?_ | refine s_ret ?_ | refine s_if ?_ | refine s_asg ?_ | refine g_name ?_ | refine v_test ?_ | refine v_tB ?_
    | refine v_rI0 ?_ | refine v_eqI ?_ | refine v_neI ?_ | refine v_eqS ?_ | refine v_neS ?_ | refine v_int1 ?_ | refine v_bool1 ?_ | refine v_abs ?_ | refine v_isN ?_ | refine v_notN ?_ | refine v_nsign ?_
    | refine v_andV ?_ | refine v_orV ?_ | refine v_notV ?_ | refine v_and ?_ | refine v_or ?_ | refine v_not ?_
    | refine v_if ?_ | refine v_tup ?_ | refine v_lst ?_ | refine v_sl ?_ | refine v_part ?_ | refine v_nopart ?_ | refine v_int ?_ | refine v_dget ?_ | refine v_din ?_ | refine v_dnin ?_
    | refine v_fld ?_ | refine v_meth ?_ | refine v_bm ?_ | refine v_m1 ?_ | refine v_strE ?_ | refine v_un ?_ | refine v_chain ?_ | refine s_next ?_ | refine s_drop ?_ | refine s_retN ?_ | refine s_par ?_ | refine s_par3 ?_
    | refine s_fld ?_ | refine s_dput ?_ | refine s_ddel ?_ | refine g_nil ?_ | refine g_cons ?_ | refine iteT ?_ | refine iteF ?_ | refine iteNT ?_ | refine iteNF ?_
    | refine isi_ss ?_ | refine isi_ii ?_ | refine isi_ib ?_ | refine v_lc ?_ | refine i_str ?_ | refine v_str ?_ | refine i_list ?_ | refine i_zipS ?_ | refine i_zipS3 ?_ | refine i_enumS ?_ | refine i_enum ?_ | refine i_tup ?_ | refine i_rng ?_ | refine s_for ?_ | refine v_star ?_ | refine v_makeR ?_ | refine v_make ?_ | refine v_cval ?_ | refine v_sign ?_)
local macro_rules | `(tactic| walk_at "go") => `(tactic| repeat walk_at "go1")
inductive Scl : V → Prop
  | s (z : Str) : Scl (.str z)
  | i (z : Int) : Scl (.int z)
def spCopy0 : Sp := fun vs H Q _ => ∃ x, vs = [x] ∧ Scl x ∧ Q x H
/-! copied: slots value 0 item 1 -/
theorem sc_copied : FnScope ["value", "item"] ["value"] (defScope (top 28)) := C8.fnScope_by (by decide +kernel)
theorem cal_copied0 (T : T w K mg) : Cal P w K mg base 1 "copied" spCopy0 := by
  refine calD T.d_copied T.g_copied sc_copied (fun vs H Q E h => ?_) (fun _ _ _ _ _ _ us hl => match us, hl with | [_], _ => rfl) (fun cdv A outer s H vs Q E hr h => ?_)
  · obtain ⟨_, rfl, _⟩ := h; rfl
  obtain ⟨x, rfl, hx, k⟩ := h
  refine ⟨_, (pss_cons (ps_if (pt_val (pe_callB call_isi (by rfl) T.f_isinstance (by decide +kernel) (pa_cons (pv 0) (pa_cons (pe_bltn (v := .ty "list") rfl T.f_list (by decide +kernel) rfl) pa_nil)))) pss_never pss_nil)
      (pss_cons (ps_if (pt_val (pe_callB call_isi (by rfl) T.f_isinstance (by decide +kernel) (pa_cons (pv 0) (pa_cons (pe_bltn (v := .ty "tuple") rfl T.f_tuple (by decide +kernel) rfl) pa_nil)))) pss_never pss_nil)
      (pss_one (ps_ret (pv 0))))), ?_⟩
  cases hx with
  | s z =>
    walk_at "go"
    refine isi_sl ?_
    walk_at "go"
    refine isi_st ?_
    walk_at "go"
    exact k
  | i z =>
    walk_at "go"
    refine isi_il ?_
    walk_at "go"
    refine isi_it ?_
    walk_at "go"
    exact k
def spCopy1 : Sp := fun vs H Q _ => ∃ t xs, vs = [.ref t] ∧ H t = some (.tup xs) ∧ xs.length ≤ 1000 ∧ (∀ x ∈ xs, Scl x) ∧ ∀ t' H', H t' = none → Ex H H' → H' t' = some (.tup xs) → Q (.ref t') H'
theorem cal_copied1 (T : T w K mg) : Cal P w K mg base 2 "copied" spCopy1 := by
  refine calD T.d_copied T.g_copied sc_copied (fun vs H Q E h => ?_) (fun _ _ _ _ _ _ us hl => match us, hl with | [_], _ => rfl) (fun cdv A outer s H vs Q E hr h => ?_)
  · obtain ⟨_, _, rfl, _⟩ := h; rfl
  obtain ⟨t, xs, rfl, ht, hn, hx, k⟩ := h
  refine ⟨_, (pss_cons (ps_if (pt_val (pe_callB call_isi (by rfl) T.f_isinstance (by decide +kernel) (pa_cons (pv 0) (pa_cons (pe_bltn (v := .ty "list") rfl T.f_list (by decide +kernel) rfl) pa_nil)))) pss_never pss_nil)
      (pss_cons (ps_if (pt_val (pe_callB call_isi (by rfl) T.f_isinstance (by decide +kernel) (pa_cons (pv 0) (pa_cons (pe_bltn (v := .ty "tuple") rfl T.f_tuple (by decide +kernel) rfl) pa_nil)))) (pss_one (ps_ret (pe_callTy cl_tupOf (by rfl) T.f_tuple (by decide +kernel) (pa_cons (pe_lc (own := [("item", 1)]) (g := gName 1) (by rfl) sc_copied.nd (pi_tup (pv 0)) (blkOk_by (own := [("item", 1)]) (N := ["value", "item"]) (sc := defScope (top 28)) (by decide +kernel)) (fun _ _ _ _ _ => (pg_name (i := 1) sc_copied.nd rfl (Or.inl rfl))) (fun _ _ _ _ _ => pts_nil) (fun _ _ _ _ _ => (pe_cl (cal_copied0 T) hr (by decide) rfl (pa_cons (pv 1) pa_nil)))) pa_nil)))) pss_nil)
      (pss_one (ps_ret (pv 0))))), ?_⟩
  walk_at "go"
  refine isi_tl ht ?_
  walk_at "go"
  refine isi_tt ht ?_
  walk_at "go"
  refine ⟨t, rfl, ⟨_, ex_t ht⟩, ?_⟩
  refine lc_tupF id (ex_t ht) (by omega) (fun i x H2 Kt Kn hi e kt => ?_) fun D H2 hD e hl => ?_
  · walk_at "go"
    refine ⟨rfl, ?_⟩
    walk_at "go"
    exact ⟨x, rfl, hx _ (List.mem_of_getElem? hi), kt _ Ex.rfl'⟩
  · rw [List.map_id] at hl
    refine ⟨D, _, rfl, .inl ⟨ex_l hl, fun l hl' => ?_⟩⟩
    exact k l _ (e.none hl') (e.t (Ex.nw hl')) upd_same
/-- rows of values -/
def HRow (H : Hp) (rs : List (Addr × List V)) : Prop := ∀ r ∈ rs, H r.1 = some (.tup r.2)
theorem HRow.ex {H H' : Hp} {rs : List (Addr × List V)} (e : Ex H H') (h : HRow H rs) : HRow H' rs := fun r m => e _ _ (h r m)
theorem rows_of {H : Hp} {l : List (List V)} : ∀ {ys : List V}, ys.length = l.length → (∀ (i : Nat) y, ys[i]? = some y → ∃ t xs, y = .ref t ∧ l[i]? = some xs ∧ H t = some (.tup xs)) → ∃ rs : List (Addr × List V), ys = rs.map (fun r => V.ref r.1) ∧ rs.map (·.2) = l ∧ HRow H rs := by
  induction l with
  | nil =>
    intro ys hl h
    match ys, hl with
    | [], _ => exact ⟨[], rfl, rfl, fun r m => by cases m⟩
  | cons xs l ih =>
    intro ys hl h
    match ys, hl with
    | y :: ys, hl =>
      obtain ⟨t, xs', rfl, hx, ht⟩ := h 0 y rfl
      cases hx
      obtain ⟨rs, rfl, h2, h3⟩ := ih (ys := ys) (by simpa using hl) fun i y hy => h (i + 1) y hy
      refine ⟨(t, xs) :: rs, rfl, by rw [List.map_cons, h2], fun r m => ?_⟩
      rcases List.mem_cons.mp m with rfl | m
      · exact ht
      · exact h3 r m
def spCopy2 : Sp := fun vs H Q _ => ∃ l rs, vs = [.ref l] ∧ H l = some (.lst (rs.map fun r : Addr × List V => V.ref r.1)) ∧ HRow H rs ∧ rs.length ≤ 1000 ∧ (∀ r ∈ rs, r.2.length ≤ 1000 ∧ ∀ x ∈ r.2, Scl x) ∧
  ∀ l' rs' H', H l' = none → Ex H H' → H' l' = some (.lst (rs'.map fun r : Addr × List V => V.ref r.1)) → HRow H' rs' → rs'.map (·.2) = rs.map (·.2) → Q (.ref l') H'
theorem cal_copied2 (T : T w K mg) : Cal P w K mg base 3 "copied" spCopy2 := by
  refine calD T.d_copied T.g_copied sc_copied (fun vs H Q E h => ?_) (fun _ _ _ _ _ _ us hl => match us, hl with | [_], _ => rfl) (fun cdv A outer s H vs Q E hr h => ?_)
  · obtain ⟨_, _, rfl, _⟩ := h; rfl
  obtain ⟨l, rs, rfl, hl, hrs, hn, hx, k⟩ := h
  refine ⟨_, (pss_cons (ps_if (pt_val (pe_callB call_isi (by rfl) T.f_isinstance (by decide +kernel) (pa_cons (pv 0) (pa_cons (pe_bltn (v := .ty "list") rfl T.f_list (by decide +kernel) rfl) pa_nil)))) (pss_one (ps_ret (pe_lc (own := [("item", 1)]) (g := gName 1) (by rfl) sc_copied.nd (pi_list (pv 0)) (blkOk_by (own := [("item", 1)]) (N := ["value", "item"]) (sc := defScope (top 28)) (by decide +kernel)) (fun _ _ _ _ _ => (pg_name (i := 1) sc_copied.nd rfl (Or.inl rfl))) (fun _ _ _ _ _ => pts_nil) (fun _ _ _ _ _ => (pe_cl (cal_copied1 T) hr (by decide) rfl (pa_cons (pv 1) pa_nil)))))) pss_nil)
      (pss_cons (ps_if (pt_val (pe_callB call_isi (by rfl) T.f_isinstance (by decide +kernel) (pa_cons (pv 0) (pa_cons (pe_bltn (v := .ty "tuple") rfl T.f_tuple (by decide +kernel) rfl) pa_nil)))) pss_never pss_nil)
      (pss_one (ps_ret (pv 0))))), ?_⟩
  walk_at "go"
  refine isi_ll hl ?_
  walk_at "go"
  refine ⟨l, rfl, ⟨_, ex_l hl⟩, ?_⟩
  refine lc_lstR (ex_l hl) (by simp; omega) (fun i y H => ∃ t xs, y = .ref t ∧ (rs.map (·.2))[i]? = some xs ∧ H t = some (.tup xs)) (fun D i y H H' zs hD b h => ?_) (fun i x H2 Kt Kn hi e kt => ?_) fun D H2 ys hD e hl2 hlen hr2 => ?_
  · obtain ⟨t, xs, rfl, h1, h2⟩ := h
    exact ⟨t, xs, rfl, h1, b _ _ (fun e => by rw [e, hD] at h2; cases h2) h2⟩
  · rw [List.getElem?_map] at hi
    obtain ⟨r, hri, rfl⟩ := Option.map_eq_some_iff.mp hi
    have hm := List.mem_of_getElem? hri
    walk_at "go"
    refine ⟨rfl, ?_⟩
    walk_at "go"
    refine ⟨r.1, r.2, rfl, e _ _ (hrs _ hm), (hx r hm).1, (hx r hm).2, fun t' H3 ht' e3 h3 => ?_⟩
    exact kt _ _ e3 ⟨t', r.2, rfl, by rw [List.getElem?_map, hri]; rfl, h3⟩
  · obtain ⟨rs', rfl, h2, h3⟩ := rows_of (by simpa using hlen) hr2
    exact k D rs' H2 hD e hl2 h3 h2
theorem isiT_l {H : Hp} {Q : VK} {l p : Addr} {xs : List V} (h : H l = some (.lst xs)) (hp : H p = some (.tup [V.ty "list", V.ty "tuple"])) (q : Q (.bl true) H) : rIsiT K [.ref l, .ref p] H Q :=
  ⟨.ref l, p, _, .type "list", [.type "list", .type "tuple"], true, rfl, hp, .cons (.ty _) (.cons (.ty _) .nil), .base (.lst h), kitAny_cons (b := true) (kit_ty (by decide +kernel)) (fun e => nomatch e) (fun _ => rfl), q⟩
/-! kept_list: slots value 0 -/
theorem sc_kept_list : FnScope ["value"] ["value"] (defScope (top 29)) := C8.fnScope_by (by decide +kernel)
theorem cal_kept_list (T : T w K mg) : Cal P w K mg base 4 "kept_list" spCopy2 := by
  refine calD T.d_kept_list T.g_kept_list sc_kept_list (fun vs H Q E h => ?_) (fun _ _ _ _ _ _ us hl => match us, hl with | [_], _ => rfl) (fun cdv A outer s H vs Q E hr h => ?_)
  · obtain ⟨_, _, rfl, _⟩ := h; rfl
  obtain ⟨l, rs, rfl, hl, hrs, hn, hx, k⟩ := h
  refine ⟨_, (pss_one (ps_ret (pe_ifExp (pt_val (pe_callB call_isiT (by rfl) T.f_isinstance (by decide +kernel) (pa_cons (pv 0) (pa_cons (pe_tup (pa_cons (pe_bltn (v := .ty "list") rfl T.f_list (by decide +kernel) rfl) (pa_cons (pe_bltn (v := .ty "tuple") rfl T.f_tuple (by decide +kernel) rfl) pa_nil))) pa_nil)))) (pe_cl (cal_copied2 T) hr (by decide) rfl (pa_cons (pe_callTy cl_listOf (by rfl) T.f_list (by decide +kernel) (pa_cons (pv 0) pa_nil)) pa_nil)) (pv 0)))), ?_⟩
  walk_at "go"
  refine ⟨szl (by simp), fun p hp => ?_⟩
  walk_at "go"
  refine isiT_l ((Ex.nw hp) _ _ hl) upd_same ?_
  walk_at "go"
  refine ⟨l, _, rfl, .inl (ex_l ((Ex.nw hp) _ _ hl)), fun l2 hl2 => ?_⟩
  have e2 := (Ex.nw (o := .tup [V.ty "list", V.ty "tuple"]) hp).t (Ex.nw (o := .lst (rs.map fun r : Addr × List V => V.ref r.1)) hl2)
  refine ⟨l2, rs, rfl, upd_same, hrs.ex e2, hn, hx, fun l' rs' H' h1 e3 h3 h4 h5 => ?_⟩
  exact k l' rs' H' (e2.none h1) (e2.t e3) h3 h4 h5
end L2.FW
end
section
set_option maxRecDepth 100000
set_option maxHeartbeats 4000000
/-! Rooms: turns, the search from a start. -/
namespace L2.FW
open PySem PySem.Spec PyProof.Rows Fw
variable {P : Program} {w : World} {K : PySem.W.Frag} {mg : Str → Option Value} {base : Heap}
local macro_rules | `(tactic| walk_at "go1") => `(tactic| first
  | ((with_reducible apply v_var); exact rfl)
  | ((with_reducible apply s_aug); exact rfl)
  | with_reducible first
    | refine v_c ?_ | refine v_cons ?_ | refine v_nil ?_ | refine v_op ?_ | refine v_cb ?_ | refine v_call ?_ | refine v_bl ?_ | refine v_yes ?_
    | refine s_seq ?_ | refine s_ret ?_ | refine s_if ?_ | refine s_asg ?_ | refine g_name ?_ | refine v_test ?_ | refine v_tB ?_
    | refine v_rI0 ?_ | refine v_eqI ?_ | refine v_neI ?_ | refine v_eqS ?_ | refine v_neS ?_ | refine v_int1 ?_ | refine v_bool1 ?_ | refine v_abs ?_ | refine v_isN ?_ | refine v_notN ?_ | refine v_nsign ?_
    | refine v_andV ?_ | refine v_orV ?_ | refine v_notV ?_ | refine v_and ?_ | refine v_or ?_ | refine v_not ?_
    | refine v_if ?_ | refine v_tup ?_ | refine v_lst ?_ | refine v_sl ?_ | refine v_part ?_ | refine v_nopart ?_ | refine v_int ?_ | refine v_dget ?_ | refine v_din ?_ | refine v_dnin ?_
    | refine v_fld ?_ | refine v_meth ?_ | refine v_bm ?_ | refine v_m1 ?_ | refine v_strE ?_ | refine v_un ?_ | refine v_chain ?_ | refine s_next ?_ | refine s_drop ?_ | refine s_retN ?_ | refine s_par ?_ | refine s_par3 ?_
    | refine s_fld ?_ | refine s_dput ?_ | refine s_ddel ?_ | refine g_nil ?_ | refine g_cons ?_ | refine iteT ?_ | refine iteF ?_ | refine iteNT ?_ | refine iteNF ?_
    | refine isi_ss ?_ | refine isi_ii ?_ | refine isi_ib ?_ | refine v_lc ?_ | refine i_str ?_ | refine v_str ?_ | refine i_list ?_ | refine i_zipS ?_ | refine i_zipS3 ?_ | refine i_enumS ?_ | refine i_enum ?_ | refine i_tup ?_ | refine i_rng ?_ | refine s_for ?_ | refine v_star ?_ | refine v_makeR ?_ | refine v_make ?_ | refine v_cval ?_ | refine v_sign ?_)
local macro_rules | `(tactic| walk_at "go") => `(tactic| repeat walk_at "go1")
/-- a turn: the room, the cutter, the part -/
abbrev Turn := Tx × Nat × Nat
def stepB (b : Bk) (r : Tx) (t : Turn) (q : Tx) : Prop := t.1 = r ∧ t.2.1 ∈ b.ct ∧ b.cut r t.2.1 ≠ [] ∧ (b.parts r t.2.1)[t.2.2]? = some q
def turnsC (b : Bk) (r : Tx) (cs : Tx) : List (Tx × Nat) := (cs.filter fun c => decide (b.cut r c ≠ [])).map fun c => (r, c)
def turns1 (b : Bk) (r : Tx) : List (Tx × Nat) := turnsC b r b.ct
theorem turnsC_snoc (b : Bk) (r cs : Tx) (c : Nat) : turnsC b r (cs ++ [c]) = turnsC b r cs ++ if b.cut r c = [] then [] else [(r, c)] := by
  unfold turnsC
  rw [List.filter_append, List.map_append]
  congr 1
  by_cases h : b.cut r c = [] <;> simp [h]
def turnsL (b : Bk) (rs : List Tx) : List (Tx × Nat) := rs.flatMap (turns1 b)
def rcV (x : Tx × Nat) : List V := [sV x.1, sV [x.2]]
def HRc (H : Hp) (rs : List (Addr × Tx × Nat)) : Prop := ∀ r ∈ rs, H r.1 = some (.tup (rcV r.2))
theorem HRc.ex {H H' : Hp} {rs : List (Addr × Tx × Nat)} (e : Ex H H') (h : HRc H rs) : HRc H' rs := fun r m => e _ _ (h r m)
theorem HRc.exB {H H' : Hp} {rs : List (Addr × Tx × Nat)} {D : Addr} {xs : List V} (e : ExB D H H') (hD : H D = some (.lst xs)) (h : HRc H rs) : HRc H' rs := fun r m => e _ _ (fun e => by have := h r m; rw [e, hD] at this; cases this) (h r m)
section
variable {J J1 : It} {n n1 : Nat} {G G1 : Hp → Prop} {Y Y1 : Nat → Hp → V → Hp → Prop} {g g1 : TG} {tt tt1 : TT} {te : TE} {wi1 : TI} {vs vs1 : List Nat} {σ σ2 : St} {H1 H4 : Hp} {D : Addr} {Qd Nx : Hp → Prop}
theorem in_it (w : Walk J1 n1 G1 Y1) (Pv : Nat → Hp → Prop) (h0 : Pv 0 H4) (hG : ∀ i H, i ≤ n1 → Pv i H → G1 H)
    (hs : ∀ i x H H', i < n1 → Pv i H → Y1 i H x H' → g1 x (wipe σ2 vs1) H' fun σ3 H5 => wipe σ3 vs1 = wipe σ2 vs1 ∧ tt1 σ3 H5 fun b H6 => if b = true then te σ3 H6 fun y H7 => ∃ acc, H7 D = some (.lst acc) ∧ acc.length < sizeLine ∧ Pv (i + 1) (upd H7 D (.lst (acc ++ [y]))) else Pv (i + 1) H6) (hd : ∀ H, Pv n1 H → Nx H) :
    ∃ W1 : Nat → Nat → Hp → Prop, (∃ m, W1 0 m H4) ∧ ∀ j k H, W1 j k H →
      (J1.stop j H ∧ Nx H) ∨ (J1.go j H ∧ ∃ Nx1 : Hp → Prop, (∀ H', Nx1 H' → ∃ k', k' < k ∧ W1 (j + 1) k' H') ∧ ∀ x H', J1.yld j H x H' → g1 x (wipe σ2 vs1) H' fun σ3 H5 => wipe σ3 vs1 = wipe σ2 vs1 ∧ tt1 σ3 H5 fun b H6 =>
        if b = true then te σ3 H6 fun y H7 => ∃ acc, H7 D = some (.lst acc) ∧ acc.length < sizeLine ∧ Nx1 (upd H7 D (.lst (acc ++ [y]))) else Nx1 H6) := by
  refine ⟨fun i m H => m = n1 - i ∧ i ≤ n1 ∧ Pv i H, ⟨n1, by simp, Nat.zero_le _, h0⟩, ?_⟩
  rintro i m H ⟨rfl, hi, p⟩
  have q := hG i H hi p
  by_cases hlt : i < n1
  · exact .inr ⟨w.goes i H hlt q, Pv (i + 1), fun H' p' => ⟨n1 - (i + 1), by omega, rfl, hlt, p'⟩, fun x H' y => hs i x H H' hlt p (w.yields i H x H' hlt q y)⟩
  · have e : i = n1 := by omega
    subst e
    exact .inl ⟨w.stops H q, hd H p⟩
theorem lc2_it (w : Walk J n G Y) (Pv : Nat → Hp → Prop) (h0 : Pv 0 (upd H1 D (.lst []))) (hG : ∀ i H, i ≤ n → Pv i H → G H)
    (hs : ∀ i x H H', i < n → Pv i H → Y i H x H' → g x (wipe σ vs) H' fun σ2 H2 => wipe σ2 vs = wipe σ vs ∧ tt σ2 H2 fun b H3 =>
      if b = true then wi1 σ2 H3 fun J1 H4 => ∃ W1 : Nat → Nat → Hp → Prop, (∃ m, W1 0 m H4) ∧ ∀ j k H, W1 j k H →
        (J1.stop j H ∧ Pv (i + 1) H) ∨ (J1.go j H ∧ ∃ Nx1 : Hp → Prop, (∀ H', Nx1 H' → ∃ k', k' < k ∧ W1 (j + 1) k' H') ∧ ∀ x H', J1.yld j H x H' → g1 x (wipe σ2 vs1) H' fun σ3 H5 => wipe σ3 vs1 = wipe σ2 vs1 ∧ tt1 σ3 H5 fun b H6 =>
          if b = true then te σ3 H6 fun y H7 => ∃ acc, H7 D = some (.lst acc) ∧ acc.length < sizeLine ∧ Nx1 (upd H7 D (.lst (acc ++ [y]))) else Nx1 H6)
      else Pv (i + 1) H3) (hd : ∀ H, Pv n H → Qd H) :
    ∃ W : Nat → Nat → Hp → Prop, (∃ m, W 0 m (upd H1 D (.lst []))) ∧ ∀ i m H, W i m H →
      (J.stop i H ∧ Qd H) ∨ (J.go i H ∧ ∃ Nx : Hp → Prop, (∀ H', Nx H' → ∃ m', m' < m ∧ W (i + 1) m' H') ∧ ∀ x H', J.yld i H x H' → g x (wipe σ vs) H' fun σ2 H2 => wipe σ2 vs = wipe σ vs ∧ tt σ2 H2 fun b H3 =>
        if b = true then wi1 σ2 H3 fun J1 H4 => ∃ W1 : Nat → Nat → Hp → Prop, (∃ m, W1 0 m H4) ∧ ∀ j k H, W1 j k H →
          (J1.stop j H ∧ Nx H) ∨ (J1.go j H ∧ ∃ Nx1 : Hp → Prop, (∀ H', Nx1 H' → ∃ k', k' < k ∧ W1 (j + 1) k' H') ∧ ∀ x H', J1.yld j H x H' → g1 x (wipe σ2 vs1) H' fun σ3 H5 => wipe σ3 vs1 = wipe σ2 vs1 ∧ tt1 σ3 H5 fun b H6 =>
            if b = true then te σ3 H6 fun y H7 => ∃ acc, H7 D = some (.lst acc) ∧ acc.length < sizeLine ∧ Nx1 (upd H7 D (.lst (acc ++ [y]))) else Nx1 H6)
        else Nx H3) := by
  refine ⟨fun i m H => m = n - i ∧ i ≤ n ∧ Pv i H, ⟨n, by simp, Nat.zero_le _, h0⟩, ?_⟩
  rintro i m H ⟨rfl, hi, p⟩
  have q := hG i H hi p
  by_cases hlt : i < n
  · exact .inr ⟨w.goes i H hlt q, Pv (i + 1), fun H' p' => ⟨n - (i + 1), by omega, rfl, hlt, p'⟩, fun x H' y => hs i x H H' hlt p (w.yields i H x H' hlt q y)⟩
  · have e : i = n := by omega
    subst e
    exact .inl ⟨w.stops H q, hd H p⟩
end
theorem v_lc2 {σ : St} {H : Hp} {Q : VK} {wi : TI} {g : TG} {tt : TT} {wi1 : TI} {g1 : TG} {tt1 : TT} {te : TE} {vs vs1 : List Nat} (q : wi σ H fun J H1 => ∀ D, H1 D = none → ∃ W : Nat → Nat → Hp → Prop, (∃ m, W 0 m (upd H1 D (.lst []))) ∧ ∀ i m H, W i m H →
  (J.stop i H ∧ Q (.ref D) H) ∨ (J.go i H ∧ ∃ Nx : Hp → Prop, (∀ H', Nx H' → ∃ m', m' < m ∧ W (i + 1) m' H') ∧ ∀ x H', J.yld i H x H' → g x (wipe σ vs) H' fun σ2 H2 => wipe σ2 vs = wipe σ vs ∧ tt σ2 H2 fun b H3 =>
    if b = true then wi1 σ2 H3 fun J1 H4 => ∃ W1 : Nat → Nat → Hp → Prop, (∃ m, W1 0 m H4) ∧ ∀ j k H, W1 j k H →
      (J1.stop j H ∧ Nx H) ∨ (J1.go j H ∧ ∃ Nx1 : Hp → Prop, (∀ H', Nx1 H' → ∃ k', k' < k ∧ W1 (j + 1) k' H') ∧ ∀ x H', J1.yld j H x H' → g1 x (wipe σ2 vs1) H' fun σ3 H5 => wipe σ3 vs1 = wipe σ2 vs1 ∧ tt1 σ3 H5 fun b H6 =>
        if b = true then te σ3 H6 fun y H7 => ∃ acc, H7 D = some (.lst acc) ∧ acc.length < sizeLine ∧ Nx1 (upd H7 D (.lst (acc ++ [y]))) else Nx1 H6)
    else Nx H3)) : tLc2 wi g tt wi1 g1 tt1 te vs vs1 σ H Q := q
local macro_rules | `(tactic| walk_at "go2") => `(tactic| repeat (first | walk_at "go1" | with_reducible refine v_lc2 ?_))
def spCheckRoom (K : PySem.W.Frag) : Sp := fun vs H Q _ => ∃ (a : Addr) (b : Bk) (r : Tx), vs = [.ref a, sV r] ∧ HBook K H a b ∧ RoomOk b.fc r ∧ ∀ H', Ex H H' → Q .non H'
/-! check_room: slots book 0 room 1 -/
theorem sc_check_room : FnScope ["book", "room"] ["book", "room"] (defScope (top 37)) := C8.fnScope_by (by decide +kernel)
theorem cal_check_room (T : T w K mg) : Cal P w K mg base 3 "check_room" (spCheckRoom K) := by
  refine calD T.d_check_room T.g_check_room sc_check_room (fun vs H Q E h => ?_) (fun _ _ _ _ _ _ us hl => match us, hl with | [_, _], _ => rfl) (fun cdv A outer s H vs Q E hr h => ?_)
  · obtain ⟨_, _, _, rfl, _⟩ := h; rfl
  obtain ⟨a, b, r, rfl, hb, hrm, k⟩ := h
  refine ⟨_, (pss_one (ps_if (pt_not (pt_val (pe_cl (cal_is_room T) hr (by decide) rfl (pa_cons (pv 1) (pa_cons (pe_fld (pv 0) rfl) pa_nil))))) pss_never pss_nil)), ?_⟩
  walk_at "go"
  refine fld_faces T hb ?_
  walk_at "go"
  refine ⟨r, b.fc, rfl, by rw [hrm.1]; decide, fun H1 e1 => ?_⟩
  rw [roomOk_of hrm]
  walk_at "go"
  exact k _ e1
def spIsStep (K : PySem.W.Frag) : Sp := fun vs H Q _ => ∃ (t a : Addr) (b : Bk) (ad : Tx) (c : Nat), vs = [.ref t, .ref a] ∧ HBook K H a b ∧ H t = some (.tup [sV ad, sV [c]]) ∧ ad.length ≤ 100000 ∧ (∀ x ∈ ad, x = 48 ∨ x = 49) ∧ c ∈ b.ct ∧ ∀ H', Ex H H' → Q (.bl true) H'
/-! is_step: slots value 0 book 1 -/
theorem sc_is_step : FnScope ["value", "book"] ["value", "book"] (defScope (top 38)) := C8.fnScope_by (by decide +kernel)
theorem cal_is_step (T : T w K mg) : Cal P w K mg base 2 "is_step" (spIsStep K) := by
  refine calD T.d_is_step T.g_is_step sc_is_step (fun vs H Q E h => ?_) (fun _ _ _ _ _ _ us hl => match us, hl with | [_, _], _ => rfl) (fun cdv A outer s H vs Q E hr h => ?_)
  · obtain ⟨_, _, _, _, _, rfl, _⟩ := h; rfl
  obtain ⟨t, a, b, ad, c, rfl, hb, ht, hz, had, hc, k⟩ := h
  refine ⟨_, (pss_cons (ps_if (PW.pt (pw_or (pt_not (pt_val (pe_callB call_isi (by rfl) T.f_isinstance (by decide +kernel) (pa_cons (pv 0) (pa_cons (pe_bltn (v := .ty "tuple") rfl T.f_tuple (by decide +kernel) rfl) pa_nil))))) (pw_or1 (pt_cmpR op_ne (pe_callB cl_lenSeq (by rfl) T.f_len (by decide +kernel) (pa_cons (pv 0) pa_nil)) pe_int (nomark _))))) (pss_one (ps_ret pe_bl)) pss_nil)
      (pss_one (ps_ret (pe_and (pe_cl (cal_is_address T) hr (by decide) rfl (pa_cons (pe_ix ix_tup (pv 0) pe_int (fun _ _ => rfl)) pa_nil)) (pe_one (pe_cl (cal_is_one T) hr (by decide) rfl (pa_cons (pe_ix ix_tup (pv 0) pe_int (fun _ _ => rfl)) (pa_cons (pe_fld (pv 1) rfl) pa_nil)))))))), ?_⟩
  walk_at "go"
  refine isi_tt ht ?_
  walk_at "go"
  refine v_lenT (ex_t ht) ?_
  walk_at "go"
  refine itNT rfl ?_
  walk_at "go"
  refine v_ixTT (i := 0) ht rfl ?_
  walk_at "go"
  refine ⟨ad, rfl, hz, had, fun H1 e1 => ?_⟩
  walk_at "go"
  refine v_ixTT (i := 1) (e1 _ _ ht) rfl ?_
  walk_at "go"
  refine fld_cutters T (hb.ex e1) ?_
  walk_at "go"
  refine ⟨c, b.ct, rfl, ?_⟩
  rw [decide_eq_true hc]
  exact k _ e1
def spTurnsOf (K : PySem.W.Frag) : Sp := fun vs H Q _ => ∃ (a l : Addr) (b : Bk) (rs : List Tx), vs = [.ref a, .ref l] ∧ HBook K H a b ∧ BkOk b ∧ H l = some (.lst (rs.map sV)) ∧ rs.length ≤ 10000 ∧ (∀ r ∈ rs, RoomOk b.fc r) ∧
  ∀ d ts H', H d = none → Ex H H' → H' d = some (.lst (ts.map fun r : Addr × Tx × Nat => V.ref r.1)) → HRc H' ts → ts.map (·.2) = turnsL b rs → Q (.ref d) H'
theorem turns1_len (b : Bk) (r : Tx) : (turns1 b r).length ≤ b.ct.length := by
  unfold turns1 turnsC
  rw [List.length_map]
  exact List.length_filter_le _ _
theorem turnsL_len (b : Bk) : ∀ rs : List Tx, (turnsL b rs).length ≤ rs.length * b.ct.length
  | [] => by simp [turnsL]
  | r :: rs => by
    have h1 := turnsL_len b rs
    have h2 := turns1_len b r
    unfold turnsL at h1 ⊢
    rw [List.flatMap_cons, List.length_append, List.length_cons, Nat.succ_mul]
    omega
theorem turnsL_snoc (b : Bk) (rs : List Tx) (r : Tx) : turnsL b (rs ++ [r]) = turnsL b rs ++ turns1 b r := by simp [turnsL]
/-! turns_of: slots book 0 rooms 1 room 2 cutter 3 -/
theorem sc_turns_of : FnScope ["book", "rooms", "room", "cutter"] ["book", "rooms"] (defScope (top 39)) := C8.fnScope_by (by decide +kernel)
theorem cal_turns_of (T : T w K mg) : Cal P w K mg base 5 "turns_of" (spTurnsOf K) := by
  refine calD T.d_turns_of T.g_turns_of sc_turns_of (fun vs H Q E h => ?_) (fun _ _ _ _ _ _ us hl => match us, hl with | [_, _], _ => rfl) (fun cdv A outer s H vs Q E hr h => ?_)
  · obtain ⟨_, _, _, _, rfl, _⟩ := h; rfl
  obtain ⟨a, l, b, rs, rfl, hb, bo, hl, hn, hrm, k⟩ := h
  refine ⟨_, (pss_one (ps_ret (pe_lc2 (own := [("room", 2), ("cutter", 3)]) (vs1 := [3]) (g := gName 2) (g1 := gName 3) (by rfl) sc_turns_of.nd (pi_list (pv 1)) (blkOk_by (own := [("room", 2), ("cutter", 3)]) (N := ["book", "rooms", "room", "cutter"]) (sc := defScope (top 39)) (by decide +kernel)) (by decide) (fun _ _ _ _ _ => (pg_name (i := 2) sc_turns_of.nd rfl (Or.inl rfl))) (fun _ _ _ _ _ => pts_nil) (fun _ _ _ _ _ => (show PI _ _ _ (iStr (tFld K (tVar 0) "cutters")) from pi_str (pe_fld (pv 0) (by rfl)))) (fun _ _ _ _ _ => (pg_name (i := 3) sc_turns_of.nd rfl (Or.inl rfl))) (fun _ _ _ _ _ => (pts_one (pt_cmpR op_ne (pe_mm (met_Book_cut T) hr (by decide) (pv 0) (pa_cons (pv 2) (pa_cons (pv 3) pa_nil))) pe_str (nomark _)))) (fun _ _ _ _ _ => (pe_tup (pa_cons (pv 2) (pa_cons (pv 3) pa_nil))))))), ?_⟩
  walk_at "go2"
  refine ⟨l, rfl, ⟨_, ex_l hl⟩, fun D hD => ?_⟩
  refine lc2_it (walk_list (xs := rs.map sV)) (fun i H2 => Ex H H2 ∧ ∃ ts, H2 D = some (.lst (ts.map fun r : Addr × Tx × Nat => V.ref r.1)) ∧ HRc H2 ts ∧ ts.map (·.2) = turnsL b (rs.take i)) ⟨Ex.nw hD, [], upd_same, (fun r m => nomatch m), rfl⟩ (fun i H2 hi p => ex_l (p.1 _ _ hl)) ?_ ?_
  · rintro i x H2 H3 hi ⟨e2, ts, h1, h2, h3⟩ ⟨rfl, hx⟩
    rw [List.getElem?_map] at hx
    obtain ⟨r, hr', rfl⟩ := Option.map_eq_some_iff.mp hx
    have hro := hrm r (List.mem_of_getElem? hr')
    walk_at "go2"
    refine ⟨rfl, ?_⟩
    walk_at "go2"
    refine fld_cutters T (hb.ex e2) ?_
    walk_at "go2"
    have hil : i < rs.length := by simpa using hi
    have htk : rs.take (i + 1) = rs.take i ++ [r] := by rw [List.take_add_one, hr']; rfl
    refine in_it (walk_str (z := S b.ct)) (fun j H4 => Ex H H4 ∧ ∃ ts, H4 D = some (.lst (ts.map fun r : Addr × Tx × Nat => V.ref r.1)) ∧ HRc H4 ts ∧ ts.map (·.2) = turnsL b (rs.take i) ++ turnsC b r (b.ct.take j)) ⟨e2, ts, h1, h2, by rw [h3]; simp [turnsC]⟩ (fun _ _ _ _ => trivial) ?_ ?_
    · rintro j x H4 H5 hj ⟨e4, ts, h1, h2, h3⟩ ⟨rfl, c, hc, rfl⟩
      have hc' : b.ct[j]? = some c := by rw [← cps_S b.ct, ← hc, Array.getElem?_toList]
      have hcm := List.mem_of_getElem? hc'
      have htc : b.ct.take (j + 1) = b.ct.take j ++ [c] := by rw [List.take_add_one, hc']; rfl
      walk_at "go2"
      refine ⟨rfl, ?_⟩
      walk_at "go2"
      refine mth_book (hb.ex e4) (fun _ _ _ => rfl) ?_
      walk_at "go2"
      refine ⟨a, b, r, c, rfl, hb.ex e4, ln6 bo, hro, hcm, fun H6 e6 => ?_⟩
      have hlen : ts.length < 50000 := by
        have := congrArg List.length h3
        have l1 := turnsL_len b (rs.take i)
        have l2 : (turnsC b r (b.ct.take j)).length ≤ 4 := by
          unfold turnsC
          rw [List.length_map]
          have := bo.ct.len
          exact Nat.le_trans (List.length_filter_le _ _) (by rw [List.length_take]; omega)
        have l3 := Nat.mul_le_mul (show (rs.take i).length ≤ 10000 by rw [List.length_take]; omega) bo.ct.len
        rw [List.length_map, List.length_append] at this
        omega
      walk_at "go2"
      by_cases hcu : b.cut r c = []
      · refine itNT hcu ?_
        rw [htc, turnsC_snoc, if_pos hcu]
        exact ⟨e4.t e6, ts, e6 _ _ h1, h2.ex e6, by simpa using h3⟩
      · refine itNF hcu ?_
        walk_at "go2"
        refine ⟨szl (by simp), fun p hp => ?_⟩
        refine ⟨_, (Ex.nw hp) _ _ (e6 _ _ h1), by rw [List.length_map, sizeLine_eq]; omega, (e4.t (e6.t (Ex.nw hp))).up hD, ts ++ [(p, r, c)], by rw [upd_same]; simp, ?_, ?_⟩
        · intro x hx
          have npD : p ≠ D := fun e => by rw [e, e6 _ _ h1] at hp; cases hp
          rcases List.mem_append.mp hx with hx | hx
          · exact HRc.exB ExB.upd ((Ex.nw hp) _ _ (e6 _ _ h1)) (h2.ex (e6.t (Ex.nw hp))) x hx
          · simp at hx
            subst hx
            rw [upd_ne npD, upd_same]
            rfl
        · rw [htc, turnsC_snoc, if_neg hcu, List.map_append, h3, List.append_assoc]
          rfl
    · rintro H4 ⟨e4, ts, h1, h2, h3⟩
      refine ⟨e4, ts, h1, h2, ?_⟩
      have hz : (S b.ct).cps.size = b.ct.length := by rw [← Array.length_toList, cps_S]
      rw [h3, htk, turnsL_snoc, hz, List.take_length]
      rfl
  · rintro H2 ⟨e2, ts, h1, h2, h3⟩
    rw [List.length_map, List.take_length] at h3
    exact k D ts H2 hD e2 h1 h2 h3
end L2.FW
end
section
set_option maxRecDepth 100000
set_option maxHeartbeats 4000000
/-! The search from a start: origins, turns_to, reached. -/
namespace L2.FW
open PySem PySem.Spec PyProof.Rows Fw
variable {P : Program} {w : World} {K : PySem.W.Frag} {mg : Str → Option Value} {base : Heap}
local macro_rules | `(tactic| walk_at "go1") => `(tactic| first
  | ((with_reducible apply v_var); exact rfl)
  | ((with_reducible apply s_aug); exact rfl)
  | with_reducible first
    | refine v_c ?_ | refine v_cons ?_ | refine v_nil ?_ | refine v_op ?_ | refine v_cb ?_ | refine v_call ?_ | refine v_bl ?_ | refine v_yes ?_
    | refine s_seq ?_ | refine s_ret ?_ | refine s_if ?_ | refine s_asg ?_ | refine g_name ?_ | refine v_test ?_ | refine v_tB ?_
    | refine v_rI0 ?_ | refine v_eqI ?_ | refine v_neI ?_ | refine v_eqS ?_ | refine v_neS ?_ | refine v_int1 ?_ | refine v_bool1 ?_ | refine v_abs ?_ | refine v_isN ?_ | refine v_notN ?_ | refine v_nsign ?_
    | refine v_andV ?_ | refine v_orV ?_ | refine v_notV ?_ | refine v_and ?_ | refine v_or ?_ | refine v_not ?_
    | refine v_if ?_ | refine v_tup ?_ | refine v_lst ?_ | refine v_sl ?_ | refine v_part ?_ | refine v_nopart ?_ | refine v_int ?_ | refine v_dget ?_ | refine v_din ?_ | refine v_dnin ?_
    | refine v_fld ?_ | refine v_meth ?_ | refine v_bm ?_ | refine v_m1 ?_ | refine v_strE ?_ | refine v_un ?_ | refine v_chain ?_ | refine s_next ?_ | refine s_drop ?_ | refine s_retN ?_ | refine s_par ?_ | refine s_par3 ?_
    | refine s_fld ?_ | refine s_dput ?_ | refine s_ddel ?_ | refine g_nil ?_ | refine g_cons ?_ | refine iteT ?_ | refine iteF ?_ | refine iteNT ?_ | refine iteNF ?_
    | refine isi_ss ?_ | refine isi_ii ?_ | refine isi_ib ?_ | refine v_lc ?_ | refine i_str ?_ | refine v_str ?_ | refine i_list ?_ | refine i_zipS ?_ | refine i_zipS3 ?_ | refine i_enumS ?_ | refine i_enum ?_ | refine i_tup ?_ | refine i_rng ?_ | refine s_for ?_ | refine v_star ?_ | refine v_makeR ?_ | refine v_make ?_ | refine v_cval ?_ | refine v_sign ?_)
local macro_rules | `(tactic| walk_at "go") => `(tactic| repeat walk_at "go1")
local macro_rules | `(tactic| walk_at "go2") => `(tactic| repeat (first | walk_at "go1" | with_reducible refine v_lc2 ?_))
set_option pp.maxSteps 1200
theorem hu1 {k : Nat} {A : Around} (h : Room k A) : A.units + 1 < cLine := by have := h.units; omega
def turnV (t : Turn) : List V := [sV t.1, sV [t.2.1], .int (t.2.2 : Nat)]
/-- what stands under a room that is known by the way p -/
def HTv (H : Hp) (v : V) (p : List Turn) : Prop := (p = [] ∧ v = .non) ∨ ∃ (p' : List Turn) (t : Turn) (a : Addr), p = p' ++ [t] ∧ v = .ref a ∧ H a = some (.tup (turnV t))
theorem HTv.exB {H H' : Hp} {v : V} {p : List Turn} {D : Addr} (e : ∀ a xs, H a = some (.tup xs) → H' a = some (.tup xs)) (h : HTv H v p) : HTv H' v p := by
  rcases h with h | ⟨p', t, a, h1, h2, h3⟩
  · exact .inl h
  · exact .inr ⟨p', t, a, h1, h2, e _ _ h3⟩
abbrev Ent := Tx × List Turn × V
def kvD (L : List Ent) : List (Key × V) := L.map fun e => (.inr (S e.1), e.2.2)
def kD (L : List Ent) : List (Tx × List Turn) := L.map fun e => (e.1, e.2.1)
def HEn (H : Hp) (L : List Ent) : Prop := ∀ e ∈ L, HTv H e.2.2 e.2.1
/-- tuples are kept -/
def TExt (H H' : Hp) : Prop := ∀ a xs, H a = some (.tup xs) → H' a = some (.tup xs)
theorem TExt.ex {H H' : Hp} (e : Ex H H') : TExt H H' := fun a xs h => e _ _ h
theorem TExt.t {H H1 H2 : Hp} (a : TExt H H1) (b : TExt H1 H2) : TExt H H2 := fun c o h => b c o (a c o h)
theorem TExt.up {H : Hp} {a : Addr} {o o' : HO} (h : H a = some o) (n : ∀ xs, o ≠ .tup xs) : TExt H (upd H a o') := fun b xs hb => by
  rw [upd_ne (fun e => by rw [e, h] at hb; exact n xs (Option.some.inj hb))]; exact hb
theorem HEn.te {H H' : Hp} {L : List Ent} (e : TExt H H') (h : HEn H L) : HEn H' L := fun x m => HTv.exB (D := 0) e (h x m)
def HOrg (H : Hp) (d : Addr) (K : List (Tx × List Turn)) : Prop := ∃ L, H d = some (.dK (kvD L)) ∧ kD L = K ∧ HEn H L
theorem HOrg.ex {H H' : Hp} {d : Addr} {K : List (Tx × List Turn)} (e : Ex H H') (h : HOrg H d K) : HOrg H' d K := by
  obtain ⟨L, h1, h2, h3⟩ := h
  exact ⟨L, e _ _ h1, h2, h3.te (.ex e)⟩
theorem kvD_val (L : List Ent) (q : Tx) : valV (kvD L) (.inr (S q)) = (L.find? fun e => decide (e.1 = q)).map (·.2.2) := by
  unfold valV kvD
  rw [List.find?_map]
  simp only [Function.comp_def]
  have : (fun e : Ent => decide ((Sum.inr (S e.1) : Key) = .inr (S q))) = fun e => decide (e.1 = q) := by
    funext e
    by_cases h : e.1 = q
    · simp [h]
    · have : ¬ (S e.1 = S q) := fun x => h (SX.S_inj x)
      simp [h, this]
  rw [this]
  cases L.find? _ <;> rfl
theorem kvD_some {L : List Ent} {q : Tx} : (valV (kvD L) (.inr (S q))).isSome = decide (q ∈ (kD L).map (·.1)) := by
  rw [kvD_val, Option.isSome_map, Bool.eq_iff_iff, List.find?_isSome, kD, List.map_map]
  simp [Function.comp_def]
theorem kvD_at {H : Hp} {L : List Ent} {q : Tx} {p : List Turn} (h : HEn H L) (nd : ((kD L).map (·.1)).Nodup) (hm : (q, p) ∈ kD L) : ∃ v, valV (kvD L) (.inr (S q)) = some v ∧ HTv H v p := by
  obtain ⟨e, he, h1⟩ := List.mem_map.mp hm
  cases h1
  have : L.find? (fun x => decide (x.1 = e.1)) = some e := by
    clear hm h
    induction L with
    | nil => cases he
    | cons x L ih =>
      have nd' : x.1 ∉ (kD L).map (·.1) ∧ ((kD L).map (·.1)).Nodup := List.nodup_cons.mp nd
      rcases List.mem_cons.mp he with rfl | he
      · rw [List.find?_cons, decide_eq_true rfl]
      · rw [List.find?_cons, decide_eq_false, ih nd'.2 he]
        intro e1
        apply nd'.1
        rw [e1]
        exact List.mem_map.mpr ⟨(e.1, e.2.1), List.mem_map.mpr ⟨e, he, rfl⟩, rfl⟩
  rw [kvD_val, this]
  exact ⟨_, rfl, h e he⟩
theorem kvD_put {L : List Ent} {q : Tx} {v : V} (p : List Turn) (h : q ∉ (kD L).map (·.1)) : putK (kvD L) (.inr (S q)) v = kvD (L ++ [(q, p, v)]) := by
  unfold putK
  have := kvD_some (L := L) (q := q)
  rw [decide_eq_false h] at this
  rw [valV_any, this, if_neg (by simp)]
  simp [kvD]
/-- the ends of the search: K is known, all of it asked -/
def Fnd (St : Tx → Turn → Tx → Prop) (s : Tx) (K : List (Tx × List Turn)) : Prop := ∃ i, K.length ≤ i ∧ BI St (·.1) s K i
/-! the four letter texts -/
def rooms (f : Tx) : List Tx := f.flatMap fun a => f.flatMap fun b => f.flatMap fun c => f.map fun d => [a, b, c, d]
theorem rooms_mem {f r : Tx} (h : RoomOk f r) : r ∈ rooms f := by
  obtain ⟨n, e, s, w, rfl, h1, h2, h3, h4⟩ := room4 h
  exact List.mem_flatMap.mpr ⟨n, h1, List.mem_flatMap.mpr ⟨e, h2, List.mem_flatMap.mpr ⟨s, h3, List.mem_map.mpr ⟨w, h4, rfl⟩⟩⟩⟩
theorem flat_len {α : Type} {l : Tx} {g : Nat → List α} {n : Nat} (h : ∀ x, (g x).length = n) : (l.flatMap g).length = l.length * n := by
  induction l with
  | nil => simp
  | cons a l ih => rw [List.flatMap_cons, List.length_append, ih, h, List.length_cons, Nat.succ_mul]; omega
theorem rooms_len (f : Tx) : (rooms f).length = f.length * (f.length * (f.length * f.length)) := by
  unfold rooms
  rw [flat_len fun a => flat_len fun b => flat_len fun c => List.length_map _]
theorem rooms_le {f : Tx} (h : f.length ≤ 6) : (rooms f).length ≤ 1296 := by
  rw [rooms_len]
  have h2 := Nat.mul_le_mul h h
  have h3 := Nat.mul_le_mul h h2
  exact Nat.mul_le_mul h h3
theorem step_room {b : Bk} (bo : BkOk b) {r q : Tx} {t : Turn} (hr : RoomOk b.fc r) (h : stepB b r t q) : RoomOk b.fc q := part_room hr (cut_ok bo r _) (List.mem_of_getElem? h.2.2.2)
theorem path_room {b : Bk} (bo : BkOk b) {St : Tx → Turn → Tx → Prop} (hS : ∀ r t q, St r t q → stepB b r t q) {s q : Tx} {p : List Turn} (hs : RoomOk b.fc s) (h : Path St s p q) : RoomOk b.fc q := by
  induction h with
  | nil => exact hs
  | snoc _ y ih => exact step_room bo ih (hS _ _ _ y)
theorem BI.small {b : Bk} (bo : BkOk b) {St : Tx → Turn → Tx → Prop} (hS : ∀ r t q, St r t q → stepB b r t q) {s : Tx} (hs : RoomOk b.fc s) {K : List (Tx × List Turn)} {i : Nat} (h : BI St (·.1) s K i) : K.length ≤ 1296 := by
  have := nodup_le (l := K.map (·.1)) (m := rooms b.fc) h.nd fun q hq => by
    obtain ⟨e, he, rfl⟩ := List.mem_map.mp hq
    exact rooms_mem (path_room bo hS hs (h.path e he))
  rw [List.length_map] at this
  exact Nat.le_trans this (rooms_le bo.fc.len)
/-- the search's state in the heap: the dict, the line -/
def HSt (H : Hp) (d l : Addr) (K : List (Tx × List Turn)) : Prop := HOrg H d K ∧ H l = some (.lst (K.map fun e => sV e.1))
theorem HSt.ex {H H' : Hp} {d l : Addr} {K : List (Tx × List Turn)} (e : Ex H H') (h : HSt H d l K) : HSt H' d l K := ⟨h.1.ex e, e _ _ h.2⟩
def rDisp1 (p : Addr) (x y : V) (H2 : Hp) (Q : VK) : Prop := H2 p = some (.dK []) ∧ ∃ kvs : List (Key × V), [(x, y)] = kvs.map (fun kv => (kV kv.1, kv.2)) ∧ kvs.length ≤ 15 ∧ Q (.ref p) (upd H2 p (.dK (mergeK [] kvs)))
theorem v_disp1 {te tv : TE} {σ : L2.St} {H : Hp} {Q : VK} (q : ∀ p, H p = none → te σ (upd H p (.dK [])) fun x H1 => tv σ H1 fun y H2 => rDisp1 p x y H2 Q) : tDisp [(te, tv)] σ H Q := q
theorem disp1 {p : Addr} {x y : V} {k : Key} {H2 : Hp} {Q : VK} (h : H2 p = some (.dK [])) (e : x = kV k) (q : Q (.ref p) (upd H2 p (.dK [(k, y)]))) : rDisp1 p x y H2 Q := ⟨h, [(k, y)], by rw [e]; rfl, by simp, q⟩
theorem v_ip {g : Int → Int → Int} {i j : Int} {H : Hp} {Q : VK} (q : Q (.int (g i j)) H) : ipI g (.int i) (.int j) H Q := ⟨i, j, rfl, rfl, q⟩
theorem HSt.put {b : Bk} {H H8 H9 H' : Hp} {d l t : Addr} {Le : List Ent} {q : Tx} {p : List Turn} {tn : Turn} (hd : H8 d = some (.dK (kvD Le))) (hl : H8 l = some (.lst ((kD Le).map fun e => sV e.1))) (hLe : HEn H8 Le) (ndl : d ≠ l) (ht : H8 t = none)
    (h9 : H9 = upd (upd (upd H8 t (.tup (turnV tn))) d (.dK (kvD (Le ++ [(q, p ++ [tn], .ref t)])))) l (.lst (((kD Le).map fun e => sV e.1) ++ [sV q]))) : HSt H9 d l (kD Le ++ [(q, p ++ [tn])]) ∧ TExt H8 H9 := by
  have ntd : t ≠ d := fun e => by rw [e, hd] at ht; cases ht
  have ntl : t ≠ l := fun e => by rw [e, hl] at ht; cases ht
  have te : TExt H8 H9 := fun a xs ha => by
    have n1 : a ≠ d := fun e => by rw [e, hd] at ha; cases ha
    have n2 : a ≠ l := fun e => by rw [e, hl] at ha; cases ha
    have n3 : a ≠ t := fun e => by rw [e, ht] at ha; cases ha
    rw [h9, upd_ne n2, upd_ne n1, upd_ne n3]
    exact ha
  refine ⟨⟨⟨Le ++ [(q, p ++ [tn], .ref t)], ?_, by simp [kD], ?_⟩, ?_⟩, te⟩
  · rw [h9, upd_ne ndl, upd_same]
  · intro e he
    rcases List.mem_append.mp he with he | he
    · exact hLe.te te e he
    · simp at he
      subst he
      refine .inr ⟨p, tn, t, rfl, rfl, ?_⟩
      rw [h9, upd_ne ntl, upd_ne ntd, upd_same]
  · rw [h9, upd_same, List.map_append]
    rfl
def spOrigins (K : PySem.W.Frag) : Sp := fun vs H Q _ => ∃ (a : Addr) (b : Bk) (st : Tx), vs = [.ref a, sV st] ∧ HBook K H a b ∧ BkOk b ∧ RoomOk b.fc st ∧
  ∀ d H' Kk, H d = none → Ex H H' → HOrg H' d Kk → Fnd (stepB b) st Kk → Q (.ref d) H'
/-! origins: slots book 0 start 1 found 2 line 3 done 4 room 5 cutter 6 at 7 part 8 -/
theorem sc_origins : FnScope ["book", "start", "found", "line", "done", "room", "cutter", "at", "part"] ["book", "start"] (defScope (top 40)) := C8.fnScope_by (by decide +kernel)
theorem cal_origins (T : T w K mg) : Cal P w K mg base 6 "origins" (spOrigins K) := by
  refine calD T.d_origins T.g_origins sc_origins (fun vs H Q E h => ?_) (fun _ _ _ _ _ _ us hl => match us, hl with | [_, _], _ => rfl) (fun cdv A outer s H vs Q E hr h => ?_)
  · obtain ⟨_, _, _, rfl, _⟩ := h; rfl
  obtain ⟨a, b, st, rfl, hb, bo, hst, k⟩ := h
  refine ⟨_, (pss_cons (ps_par3 (i := 2) (j := 3) (l := 4) (by rfl) sc_origins.nd rfl rfl rfl (by decide) (by decide) (by decide) rfl rfl rfl (pa_cons (pe_disp (pps_cons (pv 1) pe_non pps_nil) (by rfl) (by rfl) (fun z => by cases z) (by decide)) (pa_cons (pe_lst (pa_cons (pv 1) pa_nil)) (pa_cons pe_int pa_nil))) (by rfl))
      (pss_cons (ps_while PassesOwn.never (pt_cmpR op_lt (pv 4) (pe_callB cl_lenSeq (by rfl) T.f_len (by decide +kernel) (pa_cons (pv 3) pa_nil)) (nomark _)) (pss_cons (ps_set (i := 5) sc_origins.nd rfl (Or.inl rfl) (pe_ix ix_list (pv 3) (pv 4) (fun _ _ => rfl)))
      (pss_cons (ps_aug (i := 4) sc_origins.nd rfl (Or.inl rfl) pe_int ip_add)
      (pss_one (ps_for PassesOwn.never rfl (pi_str (pe_fld (pv 0) rfl)) (pg_name (i := 6) sc_origins.nd rfl (Or.inl rfl)) (pss_one (ps_for PassesOwn.never rfl (pi_enum (by rfl) T.f_enumerate (pa_cons (pe_mm (met_Book_parts T) hr (by decide) (pv 0) (pa_cons (pv 5) (pa_cons (pv 6) pa_nil))) pa_nil)) (pg_tup rfl (pgs_cons (pg_name (i := 7) sc_origins.nd rfl (Or.inl rfl)) (pgs_cons (pg_name (i := 8) sc_origins.nd rfl (Or.inl rfl)) pgs_nil))) (pss_one (ps_if (pt_cmp (pc_dnotin (hu1 hr) (pv 8) (pv 2))) (pss_cons (ps_dput (hu1 hr) (pv 2) (pv 8) (pe_tup (pa_cons (pv 5) (pa_cons (pv 6) (pa_cons (pv 7) pa_nil)))) rfl)
      (pss_one (ps_expr (pe_bm PySem.F.plainAttrs_list PySem.F.slot_list_append PySem.F.type_list_append mt_append (pv 3) (pa_cons (pv 8) pa_nil))))) pss_nil)))))))))
      (pss_one (ps_ret (pv 2))))), ?_⟩
  walk_at "go"
  refine v_disp1 fun d hd => ?_
  walk_at "go"
  refine disp1 (k := .inr (S st)) upd_same rfl ?_
  rw [upd_upd]
  generalize hH1 : upd H d _ = H1
  have e1 : Ex H H1 := hH1 ▸ Ex.nw hd
  have hd1 : H1 d = some (.dK (kvD [(st, [], .non)])) := hH1 ▸ upd_same
  walk_at "go"
  refine ⟨szl (by simp), fun l hl => ?_⟩
  generalize hH2 : upd H1 l _ = H2
  have e2 : Ex H1 H2 := hH2 ▸ Ex.nw hl
  have hl2 : H2 l = some (.lst [sV st]) := hH2 ▸ upd_same
  have nl : H l = none := e1.none hl
  have ndl : d ≠ l := fun e => by rw [← e, hd1] at hl; cases hl
  walk_at "go"
  refine ⟨_, _, _, rfl, ?_⟩
  walk_at "go"
  have init : HSt H2 d l [(st, [])] := ⟨⟨[(st, [], .non)], e2 _ _ hd1, rfl, fun e m => by simp at m; subst m; exact .inl ⟨rfl, rfl⟩⟩, hl2⟩
  have hbi : BI (stepB b) (·.1) st [(st, [])] 0 := BI.init
  have stp : ∀ r t q, stepB b r t q → stepB b r t q := fun _ _ _ h => h
  have small : ∀ {Kk : List (Tx × List Turn)} {i : Nat}, BI (stepB b) (·.1) st Kk i → Kk.length ≤ 1296 := fun h => BI.small bo stp hst h
  refine ⟨fun m σ H3 => ∃ (i : Nat) (Kk : List (Tx × List Turn)) (u v x y : Option V), m = 1300 - i ∧ i ≤ Kk.length ∧ σ = [some (.ref a), some (sV st), some (.ref d), some (.ref l), some (.int (i : Nat)), u, v, x, y] ∧ Ex H H3 ∧ HSt H3 d l Kk ∧ BI (stepB b) (·.1) st Kk i, ⟨1300, 0, _, _, _, _, _, rfl, by simp, rfl, e1.t e2, init, hbi⟩, ?_⟩
  rintro m σ H3 ⟨i, Kk, u, v, x, y, rfl, hiK, rfl, e3, hs3, hbi3⟩
  have hsm := small hbi3
  walk_at "go"
  refine v_lenL (ex_l hs3.2) ?_
  rw [List.length_map]
  walk_at "go"
  by_cases hlt : i < Kk.length
  · obtain ⟨⟨r, p⟩, hKi'⟩ : ∃ e, Kk[i]? = some e := ⟨_, List.getElem?_eq_getElem hlt⟩
    refine itT (by omega) ?_
    refine ⟨fun σ' H' => ∃ (Kk : List (Tx × List Turn)) (u v x y : Option V), i + 1 ≤ Kk.length ∧ σ' = [some (.ref a), some (sV st), some (.ref d), some (.ref l), some (.int ((i : Nat) + 1)), u, v, x, y] ∧ Ex H H' ∧ HSt H' d l Kk ∧ BI (stepB b) (·.1) st Kk (i + 1), ?_, ?_⟩
    · rintro σ' H' ⟨Kk', u, v, x, y, h1, h2, h3, h4, h5⟩
      exact ⟨1300 - (i + 1), by omega, i + 1, Kk', u, v, x, y, rfl, h1, by rw [h2]; rfl, h3, h4, h5⟩
    walk_at "go"
    refine v_ixLL (i := i) hs3.2 (by rw [List.getElem?_map, hKi']; rfl) ?_
    walk_at "go"
    refine v_ip ?_
    walk_at "go"
    refine fld_cutters T (hb.ex e3) ?_
    walk_at "go"
    have hro : RoomOk b.fc r := path_room bo stp hst (hbi3.path _ (List.mem_of_getElem? hKi'))
    refine for_it (walk_str (z := S b.ct)) (fun j σ H4 => ∃ (K4 : List (Tx × List Turn)) (L : List Tx) (v x y : Option V), σ = [some (.ref a), some (sV st), some (.ref d), some (.ref l), some (.int ((i : Nat) + 1)), some (sV r), v, x, y] ∧ Ex H H4 ∧ HSt H4 d l K4 ∧ BJ (stepB b) (·.1) st K4 i r p L ∧ ∀ c ∈ b.ct.take j, ∀ q ∈ b.parts r c, q ∈ L)
      ⟨Kk, [], _, _, _, rfl, e3, hs3, hbi3.begin hKi', fun c hc => by simp at hc⟩ (fun _ _ _ _ _ => trivial) ?_ ?_
    · rintro j x σ H4 H5 hj ⟨K4, L, v, x, y, rfl, e4, hs4, bj4, hL⟩ ⟨rfl, c, hc, rfl⟩
      have hc' : b.ct[j]? = some c := by rw [← cps_S b.ct, ← hc, Array.getElem?_toList]
      have hcm := List.mem_of_getElem? hc'
      have htc : b.ct.take (j + 1) = b.ct.take j ++ [c] := by rw [List.take_add_one, hc']; rfl
      walk_at "go"
      refine mth_book (hb.ex e4) (fun _ _ _ => rfl) ?_
      walk_at "go"
      refine ⟨a, b, r, c, rfl, hb.ex e4, bo, hro, hcm, fun pp H6 hpp e6 h6 => ?_⟩
      have npd : pp ≠ d := fun e => by
        obtain ⟨Le, h, _⟩ := hs4.1
        rw [e, h] at hpp; cases hpp
      have npl : pp ≠ l := fun e => by rw [e, hs4.2] at hpp; cases hpp
      walk_at "go"
      refine ⟨pp, _, rfl, ex_l h6, ?_⟩
      refine for_it (walk_enum (K := K) (xs := (b.parts r c).map sV)) (fun k σ H7 => ∃ (K4 : List (Tx × List Turn)) (L : List Tx) (x y : Option V), σ = [some (.ref a), some (sV st), some (.ref d), some (.ref l), some (.int ((i : Nat) + 1)), some (sV r), some (sV [c]), x, y] ∧ Ex H H7 ∧ HSt H7 d l K4 ∧ H7 pp = some (.lst ((b.parts r c).map sV)) ∧ BJ (stepB b) (·.1) st K4 i r p L ∧ (∀ c ∈ b.ct.take j, ∀ q ∈ b.parts r c, q ∈ L) ∧ ∀ q ∈ (b.parts r c).take k, q ∈ L)
        ⟨K4, L, _, _, rfl, e4.t e6, hs4.ex e6, h6, bj4, hL, fun c hc => by simp at hc⟩ (fun _ _ _ _ p => by obtain ⟨_, _, _, _, _, _, _, h, _⟩ := p; exact ex_l h) ?_ ?_
      · rintro k x σ H7 H8 hk ⟨K7, L7, x', y', rfl, e7, hs7, hp7, bj7, hL7, hk7⟩ ⟨TT, i', q', rfl, hT, rfl, h1, h2⟩
        cases h1
        have h2 : ((b.parts r c).map sV)[k]? = some q' := h2
        rw [List.getElem?_map] at h2
        obtain ⟨q, hq, rfl⟩ := Option.map_eq_some_iff.mp h2
        have e8 : Ex H7 (upd H7 TT (.tup [.int (k : Nat), sV q])) := Ex.nw hT
        have hT8 : upd H7 TT (.tup [.int (k : Nat), sV q]) TT = some (.tup [.int (k : Nat), sV q]) := upd_same
        generalize upd H7 TT (.tup [.int (k : Nat), sV q]) = H8 at e8 hT8
        have htq : (b.parts r c).take (k + 1) = (b.parts r c).take k ++ [q] := by rw [List.take_add_one, hq]; rfl
        have hkq : ∀ {L' : List Tx}, (∀ x ∈ L7, x ∈ L') → q ∈ L' → ∀ x ∈ (b.parts r c).take (k + 1), x ∈ L' := fun h1 h2 x hx => by
          rw [htq] at hx
          rcases List.mem_append.mp hx with hx | hx
          · exact h1 _ (hk7 x hx)
          · simp at hx; subst hx; exact h2
        refine g_tup (ex_t hT8) rfl ?_
        walk_at "go"
        obtain ⟨⟨Le, hLd, rfl, hLe⟩, hl8⟩ := hs7.ex e8
        refine ⟨d, _, rfl, DGet.k (k := .inr (S q)) hLd, ?_⟩
        rw [kvD_some]
        by_cases hin : q ∈ (kD Le).map (·.1)
        · rw [decide_eq_true hin]
          walk_at "go"
          exact ⟨_, q :: L7, _, _, rfl, e7.t e8, hs7.ex e8, e8 _ _ hp7, bj7.old hin, fun c hc q' hq' => List.mem_cons_of_mem _ (hL7 c hc q' hq'), hkq (fun x hx => List.mem_cons_of_mem _ hx) List.mem_cons_self⟩
        · rw [decide_eq_false hin]
          have hcu : b.cut r c ≠ [] := fun h => by
            apply hin
            have hps : b.parts r c = [r] := by unfold Bk.parts; rw [h, parts1]
            rw [hps] at hq
            have hqr : q = r := by
              have := List.mem_of_getElem? hq
              simpa using this
            rw [hqr]
            exact List.mem_map.mpr ⟨(r, p), List.mem_of_getElem? bj7.here, rfl⟩
          have hsm7 := small bj7.toBI
          walk_at "go"
          refine ⟨szl (by simp), fun t ht => ?_⟩
          walk_at "go"
          have ntd : t ≠ d := fun e => by rw [e, hLd] at ht; cases ht
          refine ⟨d, _, rfl, DPut.k (k := .inr (S q)) ((Ex.nw ht) _ _ hLd) ?_, ?_⟩
          · rw [sizeLine_eq]
            unfold kvD
            unfold kD at hsm7
            rw [List.length_map] at hsm7 ⊢
            omega
          rw [kvD_put (p ++ [(r, c, k)]) hin]
          walk_at "go"
          have hl9 : (upd (upd H8 t (.tup (turnV (r, c, k)))) d (.dK (kvD (Le ++ [(q, p ++ [(r, c, k)], .ref t)])))) l = some (.lst ((kD Le).map fun e => sV e.1)) := by
            rw [upd_ne ndl.symm, upd_ne (fun e => by rw [← e, hl8] at ht; cases ht)]
            exact hl8
          refine ⟨ty_l hl9, ?_⟩
          walk_at "go"
          refine v_append hl9 (by rw [List.length_map]; omega) ?_
          obtain ⟨hs9, te9⟩ := HSt.put (b := b) (H := H) (H' := H) hLd hl8 hLe ndl ht rfl
          have e89 : Ex H (upd (upd (upd H8 t (.tup (turnV (r, c, k)))) d (.dK (kvD (Le ++ [(q, p ++ [(r, c, k)], .ref t)])))) l (.lst (((kD Le).map fun e => sV e.1) ++ [sV q]))) := (((e7.t e8).t (Ex.nw ht)).up hd).up nl
          refine ⟨_, q :: L7, _, _, rfl, e89, hs9, ?_, bj7.new hin ⟨rfl, hcm, hcu, hq⟩ rfl, fun c hc q' hq' => List.mem_cons_of_mem _ (hL7 c hc q' hq'), hkq (fun x hx => List.mem_cons_of_mem _ hx) List.mem_cons_self⟩
          rw [upd_ne npl, upd_ne npd, upd_ne (fun e => by rw [← e, e8 _ _ hp7] at ht; cases ht)]
          exact e8 _ _ hp7
      · rintro σ H7 ⟨K7, L7, x', y', rfl, e7, hs7, hp7, bj7, hL7, hk7⟩
        rw [List.length_map, List.take_length] at hk7
        refine ⟨K7, L7, _, _, _, rfl, e7, hs7, bj7, fun c' hc' q hq => ?_⟩
        rw [htc] at hc'
        rcases List.mem_append.mp hc' with hc' | hc'
        · exact hL7 c' hc' q hq
        · simp at hc'; subst hc'; exact hk7 q hq
    · rintro σ H4 ⟨K4, L, v, x, y, rfl, e4, hs4, bj4, hL⟩
      have hz : (S b.ct).cps.size = b.ct.length := by rw [← Array.length_toList, cps_S]
      rw [hz, List.take_length] at hL
      have hi4 : i < K4.length := (List.getElem?_eq_some_iff.mp bj4.here).1
      refine ⟨K4, _, _, _, _, hi4, rfl, e4, hs4, bj4.over fun t q hs => hL t.2.1 hs.2.1 q (List.mem_of_getElem? hs.2.2.2)⟩
  · refine itF (by omega) ?_
    walk_at "go"
    exact k d H3 Kk hd e3 hs3.1 ⟨i, by omega, hbi3⟩
theorem v_revL {te : TE} {σ : L2.St} {H : Hp} {Q : VK} (q : te σ H fun x H1 => ∃ a xs, x = .ref a ∧ SqL K H1 a xs ∧ ∀ p, H1 p = none → Q (.ref p) (upd H1 p (.lst xs.reverse))) : tRevL K te σ H Q := q
/-- tuples of turns -/
def HTn (H : Hp) (ts : List (Addr × Turn)) : Prop := ∀ r ∈ ts, H r.1 = some (.tup (turnV r.2))
theorem HTn.te {H H' : Hp} {ts : List (Addr × Turn)} (e : TExt H H') (h : HTn H ts) : HTn H' ts := fun r m => e _ _ (h r m)
theorem BI.len {S : Tx → Turn → Tx → Prop} {st : Tx} {Kk : List (Tx × List Turn)} {i : Nat} (h : BI S (·.1) st Kk i) {e : Tx × List Turn} (he : e ∈ Kk) : e.2.length < Kk.length := by
  have all : ∀ (n : Nat) (e : Tx × List Turn), e ∈ Kk → e.2.length = n → ∀ m, m ≤ n → ∃ f ∈ Kk, f.2.length = m := by
    intro n
    induction n with
    | zero => exact fun e he hl m hm => ⟨e, he, by omega⟩
    | succ n ih =>
      intro e he hl m hm
      by_cases hmn : m = n + 1
      · exact ⟨e, he, by omega⟩
      · obtain ⟨q, p⟩ := e
        have hp : p ≠ [] := fun e => by rw [e] at hl; cases hl
        have hd := List.dropLast_concat_getLast hp
        rw [← hd] at he hl
        refine ih _ (h.closed _ _ _ he) ?_ m (by omega)
        simp at hl ⊢
        omega
  have := nodup_le (l := List.range (e.2.length + 1)) (m := Kk.map fun f => f.2.length) List.nodup_range fun m hm => by
    obtain ⟨f, hf, h2⟩ := all _ e he rfl m (by have := List.mem_range.mp hm; omega)
    exact List.mem_map.mpr ⟨f, hf, h2⟩
  rw [List.length_range, List.length_map] at this
  omega
def spTurnsTo : Sp := fun vs H Q _ => ∃ (d : Addr) (q : Tx) (Kk : List (Tx × List Turn)) (S : Tx → Turn → Tx → Prop) (st : Tx) (i : Nat) (p : List Turn), vs = [.ref d, sV q] ∧ HOrg H d Kk ∧ BI S (·.1) st Kk i ∧ (q, p) ∈ Kk ∧ Kk.length ≤ 100000 ∧
  ∀ l ts H', H l = none → Ex H H' → H' l = some (.lst (ts.map fun r : Addr × Turn => V.ref r.1)) → HTn H' ts → ts.map (·.2) = p → Q (.ref l) H'
/-! turns_to: slots known 0 room 1 found 2 -/
theorem sc_turns_to : FnScope ["known", "room", "found"] ["known", "room"] (defScope (top 41)) := C8.fnScope_by (by decide +kernel)
theorem cal_turns_to (T : T w K mg) : Cal P w K mg base 1 "turns_to" spTurnsTo := by
  refine calD T.d_turns_to T.g_turns_to sc_turns_to (fun vs H Q E h => ?_) (fun _ _ _ _ _ _ us hl => match us, hl with | [_, _], _ => rfl) (fun cdv A outer s H vs Q E hr h => ?_)
  · obtain ⟨_, _, _, _, _, _, _, rfl, _⟩ := h; rfl
  obtain ⟨d, q, Kk, S', st, i, p, rfl, hd, bi, hm, hn, k⟩ := h
  have hpl : p.length < Kk.length := BI.len bi hm
  refine ⟨_, (pss_cons (ps_set (i := 2) sc_turns_to.nd rfl (Or.inl rfl) (pe_lst pa_nil))
      (pss_cons (ps_while PassesOwn.never (pt_cmpR op_notNn (pe_dget (hu1 hr) (pv 0) (pv 1) (fun _ _ => rfl)) pe_non (nomark _)) (pss_cons (ps_expr (pe_bm PySem.F.plainAttrs_list PySem.F.slot_list_append PySem.F.type_list_append mt_append (pv 2) (pa_cons (pe_dget (hu1 hr) (pv 0) (pv 1) (fun _ _ => rfl)) pa_nil)))
      (pss_one (ps_set (i := 1) sc_turns_to.nd rfl (Or.inl rfl) (pe_ix ix_tup (pe_dget (hu1 hr) (pv 0) (pv 1) (fun _ _ => rfl)) pe_int (fun _ _ => rfl))))))
      (pss_one (ps_ret (pe_revL (pv 2)))))), ?_⟩
  walk_at "go"
  refine ⟨szl (by simp), fun l hl => ?_⟩
  generalize hH1 : upd H l _ = H1
  have e1 : Ex H H1 := hH1 ▸ Ex.nw hl
  have hl1 : H1 l = some (.lst []) := hH1 ▸ upd_same
  walk_at "go"
  refine ⟨fun m σ H2 => ∃ (q' : Tx) (p' suf : List Turn) (ts : List (Addr × Turn)), m = p'.length ∧ σ = [some (.ref d), some (sV q'), some (.ref l)] ∧ (q', p') ∈ Kk ∧ p = p' ++ suf ∧ Ex H H2 ∧ H2 l = some (.lst (ts.map fun r : Addr × Turn => V.ref r.1)) ∧ HTn H2 ts ∧ ts.map (·.2) = suf.reverse, ⟨p.length, q, p, [], [], rfl, rfl, hm, by simp, e1, hl1, (fun r m => nomatch m), rfl⟩, ?_⟩
  rintro m σ H2 ⟨q', p', suf, ts, rfl, rfl, hm', hp, e2, hl2, hts, hsuf⟩
  obtain ⟨Le, hLd, rfl, hLe⟩ := hd.ex e2
  obtain ⟨v, hv, ht⟩ := kvD_at hLe bi.nd hm'
  have hget : DGet H2 d (sV q') (some v) := hv ▸ DGet.k (k := .inr (S q')) hLd
  walk_at "go"
  refine ⟨d, v, rfl, hget, ?_⟩
  walk_at "go"
  rcases ht with ⟨rfl, rfl⟩ | ⟨p0, t, a, rfl, rfl, ha⟩
  · refine itNT rfl ?_
    walk_at "go"
    refine v_revL ?_
    walk_at "go"
    refine ⟨l, _, rfl, ex_l hl2, fun l' hl' => ?_⟩
    rw [List.nil_append] at hp
    subst hp
    refine k l' ts.reverse _ (e2.none hl') (e2.t (Ex.nw hl')) (by rw [upd_same, List.map_reverse]) ?_ (by rw [List.map_reverse, hsuf, List.reverse_reverse])
    exact HTn.te (.ex (Ex.nw hl')) fun r m => hts r (by simpa using m)
  · refine itNF (by simp) ?_
    have hplen : p.length = p0.length + 1 + suf.length := by rw [hp]; simp; omega
    have htl : ts.length = suf.length := by
      have := congrArg List.length hsuf
      simpa using this
    refine ⟨fun σ' H' => ∃ (ts : List (Addr × Turn)), σ' = [some (.ref d), some (sV t.1), some (.ref l)] ∧ Ex H H' ∧ H' l = some (.lst (ts.map fun r : Addr × Turn => V.ref r.1)) ∧ HTn H' ts ∧ ts.map (·.2) = (t :: suf).reverse, ?_, ?_⟩
    · rintro σ' H' ⟨ts', h1, h2, h3, h4, h5⟩
      exact ⟨p0.length, by simp, t.1, p0, t :: suf, ts', rfl, h1, bi.closed _ _ _ hm', by rw [hp]; simp, h2, h3, h4, h5⟩
    walk_at "go"
    refine ⟨ty_l hl2, ?_⟩
    walk_at "go"
    refine ⟨d, _, rfl, hget, ?_⟩
    walk_at "go"
    refine v_append hl2 (by rw [List.length_map]; omega) ?_
    generalize hH3 : upd H2 l _ = H3
    have nal : a ≠ l := fun e => by rw [e, hl2] at ha; cases ha
    have te3 : TExt H2 H3 := hH3 ▸ TExt.up hl2 (fun xs e => nomatch e)
    have hl3 : H3 l = some (.lst ((ts ++ [(a, t)]).map fun r : Addr × Turn => V.ref r.1)) := by rw [← hH3, upd_same, List.map_append]; rfl
    have e3 : Ex H H3 := hH3 ▸ e2.up hl
    have hLd3 : H3 d = some (.dK (kvD Le)) := by
      rw [← hH3, upd_ne (fun e => by rw [e, hl2] at hLd; cases hLd)]
      exact hLd
    have hget3 : DGet H3 d (sV q') (some (.ref a)) := hv ▸ DGet.k (k := .inr (S q')) hLd3
    walk_at "go"
    refine ⟨d, _, rfl, hget3, ?_⟩
    walk_at "go"
    refine v_ixTT (i := 0) (te3 _ _ ha) rfl ?_
    walk_at "go"
    refine ⟨ts ++ [(a, t)], rfl, e3, hl3, ?_, by rw [List.map_append, hsuf, List.reverse_cons]; rfl⟩
    intro r m
    rcases List.mem_append.mp m with m | m
    · exact te3 _ _ (hts r m)
    · simp at m
      subst m
      exact te3 _ _ ha
def spReached (K : PySem.W.Frag) : Sp := fun vs H Q _ => ∃ (a : Addr) (b : Bk) (st : Tx), vs = [.ref a, sV st] ∧ HBook K H a b ∧ BkOk b ∧ RoomOk b.fc st ∧
  ∀ l (zs : List Tx) (Kk : List (Tx × List Turn)) H', H l = none → Ex H H' → H' l = some (.lst (zs.map sV)) → zs.Perm (Kk.map (·.1)) → Fnd (stepB b) st Kk → Q (.ref l) H'
/-! reached: slots book 0 start 1 -/
theorem sc_reached : FnScope ["book", "start"] ["book", "start"] (defScope (top 42)) := C8.fnScope_by (by decide +kernel)
theorem cal_reached (T : T w K mg) : Cal P w K mg base 7 "reached" (spReached K) := by
  refine calD T.d_reached T.g_reached sc_reached (fun vs H Q E h => ?_) (fun _ _ _ _ _ _ us hl => match us, hl with | [_, _], _ => rfl) (fun cdv A outer s H vs Q E hr h => ?_)
  · obtain ⟨_, _, _, rfl, _⟩ := h; rfl
  obtain ⟨a, b, st, rfl, hb, bo, hst, k⟩ := h
  refine ⟨_, (pss_cons (ps_expr (pe_cl (cal_check_room T) hr (by decide) rfl (pa_cons (pv 0) (pa_cons (pv 1) pa_nil))))
      (pss_one (ps_ret (pe_callB cr_sortS (by rfl) T.f_sorted (by decide +kernel) (pa_cons (pe_callTy (call_list_dK rfl) (by rfl) T.f_list (by decide +kernel) (pa_cons (pe_cl (cal_origins T) hr (by decide) rfl (pa_cons (pv 0) (pa_cons (pv 1) pa_nil))) pa_nil)) pa_nil))))), ?_⟩
  walk_at "go"
  refine ⟨a, b, st, rfl, hb, hst, fun H1 e1 => ?_⟩
  walk_at "go"
  refine ⟨a, b, st, rfl, hb.ex e1, bo, hst, fun d H2 Kk hd e2 ho hf => ?_⟩
  obtain ⟨L, hd2, rfl, hL⟩ := ho
  walk_at "go"
  refine ⟨d, _, rfl, hd2, fun l hl => ?_⟩
  have hkeys : (kvD L).map (fun kv => kV kv.1) = (((kD L).map (·.1)).map S).map V.str := by simp [kvD, kD, kV]
  rw [hkeys]
  walk_at "go"
  refine ⟨l, _, rfl, ex_l upd_same, fun ys p hp hs hpn => ?_⟩
  have hys : ys = (ys.map fun y => y.cps.toList).map S := by
    rw [List.map_map]
    have : (S ∘ fun y : Str => y.cps.toList) = id := by
      funext y
      show (⟨y.cps.toList.toArray⟩ : Str) = y
      simp
    rw [this, List.map_id]
  have e12 := e1.t (e2.t (Ex.nw (o := .lst ((((kD L).map (·.1)).map S).map V.str)) hl))
  refine k p (ys.map fun y => y.cps.toList) (kD L) _ (e12.none hpn) (e12.t (Ex.nw hpn)) ?_ ?_ hf
  · rw [upd_same]
    conv => lhs; rw [hys]
    rw [List.map_map]
    rfl
  · have := hp.map fun y : Str => y.cps.toList
    rw [List.map_map] at this
    have h2 : ((fun y : Str => y.cps.toList) ∘ S) = id := by funext z; exact cps_S z
    rw [h2, List.map_id] at this
    exact this
end L2.FW
end
section
set_option maxRecDepth 100000
set_option maxHeartbeats 4000000
/-! Views: what a view uses, the search from a room by a view. -/
namespace L2.FW
open PySem PySem.Spec PyProof.Rows Fw
variable {P : Program} {w : World} {K : PySem.W.Frag} {mg : Str → Option Value} {base : Heap}
local macro_rules | `(tactic| walk_at "go1") => `(tactic| first
  | ((with_reducible apply v_var); exact rfl)
  | ((with_reducible apply s_aug); exact rfl)
  | with_reducible first
    | refine v_c ?_ | refine v_cons ?_ | refine v_nil ?_ | refine v_op ?_ | refine v_cb ?_ | refine v_call ?_ | refine v_bl ?_ | refine v_yes ?_
    | refine s_seq ?_ | refine s_ret ?_ | refine s_if ?_ | refine s_asg ?_ | refine g_name ?_ | refine v_test ?_ | refine v_tB ?_
    | refine v_rI0 ?_ | refine v_eqI ?_ | refine v_neI ?_ | refine v_eqS ?_ | refine v_neS ?_ | refine v_int1 ?_ | refine v_bool1 ?_ | refine v_abs ?_ | refine v_isN ?_ | refine v_notN ?_ | refine v_nsign ?_
    | refine v_andV ?_ | refine v_orV ?_ | refine v_notV ?_ | refine v_and ?_ | refine v_or ?_ | refine v_not ?_
    | refine v_if ?_ | refine v_tup ?_ | refine v_lst ?_ | refine v_sl ?_ | refine v_part ?_ | refine v_nopart ?_ | refine v_int ?_ | refine v_dget ?_ | refine v_din ?_ | refine v_dnin ?_
    | refine v_fld ?_ | refine v_meth ?_ | refine v_bm ?_ | refine v_m1 ?_ | refine v_strE ?_ | refine v_un ?_ | refine v_chain ?_ | refine s_next ?_ | refine s_drop ?_ | refine s_retN ?_ | refine s_par ?_ | refine s_par3 ?_
    | refine s_fld ?_ | refine s_dput ?_ | refine s_ddel ?_ | refine g_nil ?_ | refine g_cons ?_ | refine iteT ?_ | refine iteF ?_ | refine iteNT ?_ | refine iteNF ?_
    | refine isi_ss ?_ | refine isi_ii ?_ | refine isi_ib ?_ | refine v_lc ?_ | refine i_str ?_ | refine v_str ?_ | refine i_list ?_ | refine i_zipS ?_ | refine i_zipS3 ?_ | refine i_enumS ?_ | refine i_enum ?_ | refine i_tup ?_ | refine i_rng ?_ | refine s_for ?_ | refine v_star ?_ | refine v_makeR ?_ | refine v_make ?_ | refine v_cval ?_ | refine v_sign ?_)
local macro_rules | `(tactic| walk_at "go") => `(tactic| repeat walk_at "go1")
set_option pp.maxSteps 1200
/-- the four sides: N, E, S, W -/
def V4 (v : Nat) : Prop := v = 78 ∨ v = 69 ∨ v = 83 ∨ v = 87
def G2 (g : Nat) : Prop := g = 124 ∨ g = 45
def spIsView : Sp := fun vs H Q _ => ∃ v : Nat, vs = [sV [v]] ∧ V4 v ∧ Q (.bl true) H
/-! is_view: slots value 0 -/
theorem sc_is_view : FnScope ["value"] ["value"] (defScope (top 55)) := C8.fnScope_by (by decide +kernel)
theorem cal_is_view (T : T w K mg) : Cal P w K mg base 2 "is_view" spIsView := by
  refine calD T.d_is_view T.g_is_view sc_is_view (fun vs H Q E h => ?_) (fun _ _ _ _ _ _ us hl => match us, hl with | [_], _ => rfl) (fun cdv A outer s H vs Q E hr h => ?_)
  · obtain ⟨_, rfl, _⟩ := h; rfl
  obtain ⟨v, rfl, hv, k⟩ := h
  refine ⟨_, (pss_one (ps_ret (pe_cl (cal_is_one T) hr (by decide) rfl (pa_cons (pv 0) (pa_cons (C8.pe_gc rfl T.v_VIEWS) pa_nil))))), ?_⟩
  walk_at "go"
  refine ⟨v, [78, 69, 83, 87, 65, 68], rfl, ?_⟩
  rw [decide_eq_true (show v ∈ [78, 69, 83, 87, 65, 68] by rcases hv with rfl | rfl | rfl | rfl <;> decide)]
  exact k
def spCheckView : Sp := fun vs H Q _ => ∃ v : Nat, vs = [sV [v]] ∧ V4 v ∧ Q .non H
/-! check_view: slots view 0 -/
theorem sc_check_view : FnScope ["view"] ["view"] (defScope (top 56)) := C8.fnScope_by (by decide +kernel)
theorem cal_check_view (T : T w K mg) : Cal P w K mg base 3 "check_view" spCheckView := by
  refine calD T.d_check_view T.g_check_view sc_check_view (fun vs H Q E h => ?_) (fun _ _ _ _ _ _ us hl => match us, hl with | [_], _ => rfl) (fun cdv A outer s H vs Q E hr h => ?_)
  · obtain ⟨_, rfl, _⟩ := h; rfl
  obtain ⟨v, rfl, hv, k⟩ := h
  refine ⟨_, (pss_one (ps_if (pt_not (pt_val (pe_cl (cal_is_view T) hr (by decide) rfl (pa_cons (pv 0) pa_nil)))) pss_never pss_nil)), ?_⟩
  walk_at "go"
  refine ⟨v, rfl, hv, ?_⟩
  walk_at "go"
  exact k
/-- what a view says of a cut: 0 both, 1 first, 2 second -/
def ruleN (v g : Nat) : Nat := if v = 78 then (if g = 124 then 0 else 1) else if v = 69 then (if g = 124 then 2 else 0) else if v = 83 then (if g = 124 then 0 else 2) else (if g = 124 then 1 else 0)
def ruleS : Nat → Str
  | 0 => "both"
  | 1 => "first"
  | _ => "second"
def spRule : Sp := fun vs H Q _ => ∃ v g x y : Nat, vs = [sV [v], sV [g, x, y]] ∧ V4 v ∧ G2 g ∧ Q (.str (ruleS (ruleN v g))) H
theorem dctR (T : T w K mg) {j : Nat} {k : Str} {vs : List V} (h2 : ([("N", [.str "both", .str "first"]), ("E", [.str "second", .str "both"]), ("S", [.str "both", .str "second"]), ("W", [.str "first", .str "both"]), ("A", [.str "both", .str "either"]), ("D", [.str "either", .str "both"])] : List (Str × List V))[j]? = some (k, vs)) :
    KDct K w (He.ga K "RULES") k (.ref (tupAt K "RULES" k)) ∧ ∀ H, SqT K H (tupAt K "RULES" k) vs := by
  have h := T.tab 0 j (d := "RULES") rfl h2
  exact ⟨kdct_of T T.dicR h, (T.row h).2⟩
theorem dctU (T : T w K mg) {j : Nat} {k : Str} {vs : List V} (h2 : ([("both", [.int 0, .int 1]), ("first", [.int 0]), ("second", [.int 1]), ("either", [.int 0, .int 1])] : List (Str × List V))[j]? = some (k, vs)) :
    KDct K w (He.ga K "USED") k (.ref (tupAt K "USED" k)) ∧ ∀ H, SqT K H (tupAt K "USED" k) vs := by
  have h := T.tab 1 j (d := "USED") rfl h2
  exact ⟨kdct_of T T.dicU h, (T.row h).2⟩
theorem dctS (T : T w K mg) {j : Nat} {k : Str} {vs : List V} (h2 : ([("|", [.str "E", .str "W"]), ("-", [.str "S", .str "N"])] : List (Str × List V))[j]? = some (k, vs)) :
    KDct K w (He.ga K "SIDES") k (.ref (tupAt K "SIDES" k)) ∧ ∀ H, SqT K H (tupAt K "SIDES" k) vs := by
  have h := T.tab 2 j (d := "SIDES") rfl h2
  exact ⟨kdct_of T T.dicS h, (T.row h).2⟩
theorem v_kd {H : Hp} {Q : VK} {p : Addr} {z : Str} {v : V} (h : KDct K w p z v) (q : Q v H) : rIxD K w (.ref p) (.str z) H Q := ⟨p, z, v, rfl, rfl, h, q⟩
/-! rule: slots view 0 cut 1 -/
theorem sc_rule : FnScope ["view", "cut"] ["view", "cut"] (defScope (top 57)) := C8.fnScope_by (by decide +kernel)
theorem cal_rule (T : T w K mg) : Cal P w K mg base 4 "rule" spRule := by
  refine calD T.d_rule T.g_rule sc_rule (fun vs H Q E h => ?_) (fun _ _ _ _ _ _ us hl => match us, hl with | [_, _], _ => rfl) (fun cdv A outer s H vs Q E hr h => ?_)
  · obtain ⟨_, _, _, _, rfl, _⟩ := h; rfl
  obtain ⟨v, g, x, y, rfl, hv, hg, k⟩ := h
  refine ⟨_, (pss_cons (ps_expr (pe_cl (cal_check_view T) hr (by decide) rfl (pa_cons (pv 0) pa_nil)))
      (pss_one (ps_ret (pe_ix ix_tup (pe_ix ix_kdict (C8.pe_gc rfl T.v_RULES) (pv 0) (fun _ _ => rfl)) (pe_ifExp (pt_cmpR op_eq (pe_ix ix_str (pv 1) pe_int (fun _ _ => rfl)) (C8.pe_gc rfl T.v_UPRIGHT) (nomark _)) pe_int pe_int) (fun _ _ => rfl))))), ?_⟩
  walk_at "go"
  refine ⟨v, rfl, hv, ?_⟩
  walk_at "go"
  obtain ⟨j, vs, h1, h2⟩ : ∃ (j : Nat) (vs : List V), ([("N", [.str "both", .str "first"]), ("E", [.str "second", .str "both"]), ("S", [.str "both", .str "second"]), ("W", [.str "first", .str "both"]), ("A", [.str "both", .str "either"]), ("D", [.str "either", .str "both"])] : List (Str × List V))[j]? = some (S [v], vs) ∧ vs[if g = 124 then 0 else 1]? = some (.str (ruleS (ruleN v g))) := by
    rcases hv with rfl | rfl | rfl | rfl <;> rcases hg with rfl | rfl
    · exact ⟨0, _, rfl, rfl⟩
    · exact ⟨0, _, rfl, rfl⟩
    · exact ⟨1, _, rfl, rfl⟩
    · exact ⟨1, _, rfl, rfl⟩
    · exact ⟨2, _, rfl, rfl⟩
    · exact ⟨2, _, rfl, rfl⟩
    · exact ⟨3, _, rfl, rfl⟩
    · exact ⟨3, _, rfl, rfl⟩
  obtain ⟨d1, d2⟩ := dctR T h1
  refine v_kd d1 ?_
  walk_at "go"
  refine v_ixSS (by simp) at0 ?_
  walk_at "go"
  rw [show (Str.ofString "|").1.toList = [124] from rfl]
  by_cases h : g = 124
  · refine itT (by rw [h]) ?_
    rw [if_pos h] at h2
    walk_at "go"
    exact v_ixT (d2 _) (atI_nat (j := 0) h2) k
  · refine itF (by simpa using h) ?_
    rw [if_neg h] at h2
    walk_at "go"
    exact v_ixT (d2 _) (atI_nat (j := 1) h2) k
def usedP (v g : Nat) : List Nat := match ruleN v g with
  | 0 => [0, 1]
  | 1 => [0]
  | _ => [1]
def spUsed (K : PySem.W.Frag) : Sp := fun vs H Q _ => ∃ v g x y : Nat, vs = [sV [v], sV [g, x, y]] ∧ V4 v ∧ G2 g ∧ ∀ t, (∀ H, SqT K H t ((usedP v g).map fun i => V.int (i : Nat))) → Q (.ref t) H
/-! used_parts: slots view 0 cut 1 -/
theorem sc_used_parts : FnScope ["view", "cut"] ["view", "cut"] (defScope (top 58)) := C8.fnScope_by (by decide +kernel)
theorem cal_used_parts (T : T w K mg) : Cal P w K mg base 5 "used_parts" (spUsed K) := by
  refine calD T.d_used_parts T.g_used_parts sc_used_parts (fun vs H Q E h => ?_) (fun _ _ _ _ _ _ us hl => match us, hl with | [_, _], _ => rfl) (fun cdv A outer s H vs Q E hr h => ?_)
  · obtain ⟨_, _, _, _, rfl, _⟩ := h; rfl
  obtain ⟨v, g, x, y, rfl, hv, hg, k⟩ := h
  refine ⟨_, (pss_one (ps_ret (pe_ix ix_kdict (C8.pe_gc rfl T.v_USED) (pe_cl (cal_rule T) hr (by decide) rfl (pa_cons (pv 0) (pa_cons (pv 1) pa_nil))) (fun _ _ => rfl)))), ?_⟩
  walk_at "go"
  refine ⟨v, g, x, y, rfl, hv, hg, ?_⟩
  obtain ⟨j, h1⟩ : ∃ j, ([("both", [.int 0, .int 1]), ("first", [.int 0]), ("second", [.int 1]), ("either", [.int 0, .int 1])] : List (Str × List V))[j]? = some (ruleS (ruleN v g), (usedP v g).map fun i => V.int (i : Nat)) := by
    rcases hv with rfl | rfl | rfl | rfl <;> rcases hg with rfl | rfl
    · exact ⟨0, rfl⟩
    · exact ⟨1, rfl⟩
    · exact ⟨2, rfl⟩
    · exact ⟨0, rfl⟩
    · exact ⟨0, rfl⟩
    · exact ⟨2, rfl⟩
    · exact ⟨1, rfl⟩
    · exact ⟨0, rfl⟩
  obtain ⟨d1, d2⟩ := dctU T h1
  exact v_kd d1 (k _ d2)
def stepV (b : Bk) (v : Nat) (r : Tx) (t : Turn) (q : Tx) : Prop := stepB b r t q ∧ t.2.2 ∈ usedP v ((b.cut r t.2.1).headD 0)
def spVOrigins (K : PySem.W.Frag) : Sp := fun vs H Q _ => ∃ (a : Addr) (b : Bk) (st : Tx) (v : Nat), vs = [.ref a, sV st, sV [v]] ∧ HBook K H a b ∧ BkOk b ∧ RoomOk b.fc st ∧ V4 v ∧
  ∀ d H' Kk, H d = none → Ex H H' → HOrg H' d Kk → Fnd (stepV b v) st Kk → Q (.ref d) H'
theorem turns1_mem {b : Bk} {r : Tx} {e : Tx × Nat} (h : e ∈ turns1 b r) : e.1 = r ∧ e.2 ∈ b.ct ∧ b.cut r e.2 ≠ [] := by
  obtain ⟨c, hc, rfl⟩ := List.mem_map.mp h
  obtain ⟨h1, h2⟩ := List.mem_filter.mp hc
  exact ⟨rfl, h1, of_decide_eq_true h2⟩
theorem turns1_of {b : Bk} {r : Tx} {c : Nat} (h1 : c ∈ b.ct) (h2 : b.cut r c ≠ []) : (r, c) ∈ turns1 b r := List.mem_map.mpr ⟨c, List.mem_filter.mpr ⟨h1, decide_eq_true h2⟩, rfl⟩
theorem cut_ne {b : Bk} (bo : BkOk b) {r : Tx} {c : Nat} (h : b.cut r c ≠ []) : ∃ g x y, b.cut r c = [g, x, y] ∧ G2 g := by
  rcases cut_ok bo r c with h' | ⟨g, x, y, e, hg, _⟩
  · exact absurd h' h
  · exact ⟨g, x, y, e, hg⟩
theorem usedP_lt {v g k : Nat} (h : k ∈ usedP v g) : k < 2 := by
  unfold usedP at h
  split at h <;> simp at h <;> omega
/-! view_origins: slots book 0 start 1 view 2 found 3 line 4 done 5 room 6 name 7 cutter 8 parts 9 at 10 -/
theorem sc_view_origins : FnScope ["book", "start", "view", "found", "line", "done", "room", "name", "cutter", "parts", "at"] ["book", "start", "view"] (defScope (top 59)) := C8.fnScope_by (by decide +kernel)
theorem cal_view_origins (T : T w K mg) : Cal P w K mg base 6 "view_origins" (spVOrigins K) := by
  refine calD T.d_view_origins T.g_view_origins sc_view_origins (fun vs H Q E h => ?_) (fun _ _ _ _ _ _ us hl => match us, hl with | [_, _, _], _ => rfl) (fun cdv A outer s H vs Q E hr h => ?_)
  · obtain ⟨_, _, _, _, rfl, _⟩ := h; rfl
  obtain ⟨a, b, st, vw, rfl, hb, bo, hst, hvw, k⟩ := h
  refine ⟨_, (pss_cons (ps_par3 (i := 3) (j := 4) (l := 5) (by rfl) sc_view_origins.nd rfl rfl rfl (by decide) (by decide) (by decide) rfl rfl rfl (pa_cons (pe_disp (pps_cons (pv 1) pe_non pps_nil) (by rfl) (by rfl) (fun z => by cases z) (by decide)) (pa_cons (pe_lst (pa_cons (pv 1) pa_nil)) (pa_cons pe_int pa_nil))) (by rfl))
      (pss_cons (ps_while PassesOwn.never (pt_cmpR op_lt (pv 5) (pe_callB cl_lenSeq (by rfl) T.f_len (by decide +kernel) (pa_cons (pv 4) pa_nil)) (nomark _)) (pss_cons (ps_set (i := 6) sc_view_origins.nd rfl (Or.inl rfl) (pe_ix ix_list (pv 4) (pv 5) (fun _ _ => rfl)))
      (pss_cons (ps_aug (i := 5) sc_view_origins.nd rfl (Or.inl rfl) pe_int ip_add)
      (pss_one (ps_for PassesOwn.never rfl (pi_list (pe_cl (cal_turns_of T) hr (by decide) rfl (pa_cons (pv 0) (pa_cons (pe_lst (pa_cons (pv 6) pa_nil)) pa_nil)))) (pg_tup rfl (pgs_cons (pg_name (i := 7) sc_view_origins.nd rfl (Or.inl rfl)) (pgs_cons (pg_name (i := 8) sc_view_origins.nd rfl (Or.inl rfl)) pgs_nil))) (pss_cons (ps_set (i := 9) sc_view_origins.nd rfl (Or.inl rfl) (pe_mm (met_Book_parts T) hr (by decide) (pv 0) (pa_cons (pv 7) (pa_cons (pv 8) pa_nil))))
      (pss_one (ps_for PassesOwn.never rfl (pi_tup (pe_cl (cal_used_parts T) hr (by decide) rfl (pa_cons (pv 2) (pa_cons (pe_mm (met_Book_cut T) hr (by decide) (pv 0) (pa_cons (pv 7) (pa_cons (pv 8) pa_nil))) pa_nil)))) (pg_name (i := 10) sc_view_origins.nd rfl (Or.inl rfl)) (pss_one (ps_if (pt_cmp (pc_dnotin (hu1 hr) (pe_ix ix_list (pv 9) (pv 10) (fun _ _ => rfl)) (pv 3))) (pss_cons (ps_dput (hu1 hr) (pv 3) (pe_ix ix_list (pv 9) (pv 10) (fun _ _ => rfl)) (pe_tup (pa_cons (pv 7) (pa_cons (pv 8) (pa_cons (pv 10) pa_nil)))) rfl)
      (pss_one (ps_expr (pe_bm PySem.F.plainAttrs_list PySem.F.slot_list_append PySem.F.type_list_append mt_append (pv 4) (pa_cons (pe_ix ix_list (pv 9) (pv 10) (fun _ _ => rfl)) pa_nil))))) pss_nil))))))))))
      (pss_one (ps_ret (pv 3))))), ?_⟩
  walk_at "go"
  refine v_disp1 fun d hd => ?_
  walk_at "go"
  refine disp1 (k := .inr (S st)) upd_same rfl ?_
  rw [upd_upd]
  generalize hH1 : upd H d _ = H1
  have e1 : Ex H H1 := hH1 ▸ Ex.nw hd
  have hd1 : H1 d = some (.dK (kvD [(st, [], .non)])) := hH1 ▸ upd_same
  walk_at "go"
  refine ⟨szl (by simp), fun l hl => ?_⟩
  generalize hH2 : upd H1 l _ = H2
  have e2 : Ex H1 H2 := hH2 ▸ Ex.nw hl
  have hl2 : H2 l = some (.lst [sV st]) := hH2 ▸ upd_same
  have nl : H l = none := e1.none hl
  have ndl : d ≠ l := fun e => by rw [← e, hd1] at hl; cases hl
  walk_at "go"
  refine ⟨_, _, _, rfl, ?_⟩
  walk_at "go"
  have init : HSt H2 d l [(st, [])] := ⟨⟨[(st, [], .non)], e2 _ _ hd1, rfl, fun e m => by simp at m; subst m; exact .inl ⟨rfl, rfl⟩⟩, hl2⟩
  have hbi : BI (stepV b vw) (·.1) st [(st, [])] 0 := BI.init
  have stp : ∀ r t q, stepV b vw r t q → stepB b r t q := fun _ _ _ h => h.1
  have small : ∀ {Kk : List (Tx × List Turn)} {i : Nat}, BI (stepV b vw) (·.1) st Kk i → Kk.length ≤ 1296 := fun h => BI.small bo stp hst h
  refine ⟨fun m σ H3 => ∃ (i : Nat) (Kk : List (Tx × List Turn)) (u v x y z : Option V), m = 1300 - i ∧ i ≤ Kk.length ∧ σ = [some (.ref a), some (sV st), some (sV [vw]), some (.ref d), some (.ref l), some (.int (i : Nat)), u, v, x, y, z] ∧ Ex H H3 ∧ HSt H3 d l Kk ∧ BI (stepV b vw) (·.1) st Kk i, ⟨1300, 0, _, _, _, _, _, _, rfl, by simp, rfl, e1.t e2, init, hbi⟩, ?_⟩
  rintro m σ H3 ⟨i, Kk, u, v, x, y, z, rfl, hiK, rfl, e3, hs3, hbi3⟩
  have hsm := small hbi3
  walk_at "go"
  refine v_lenL (ex_l hs3.2) ?_
  rw [List.length_map]
  walk_at "go"
  by_cases hlt : i < Kk.length
  · obtain ⟨⟨r, p⟩, hKi'⟩ : ∃ e, Kk[i]? = some e := ⟨_, List.getElem?_eq_getElem hlt⟩
    refine itT (by omega) ?_
    refine ⟨fun σ' H' => ∃ (Kk : List (Tx × List Turn)) (u v x y z : Option V), i + 1 ≤ Kk.length ∧ σ' = [some (.ref a), some (sV st), some (sV [vw]), some (.ref d), some (.ref l), some (.int ((i : Nat) + 1)), u, v, x, y, z] ∧ Ex H H' ∧ HSt H' d l Kk ∧ BI (stepV b vw) (·.1) st Kk (i + 1), ?_, ?_⟩
    · rintro σ' H' ⟨Kk', u, v, x, y, z, h1, h2, h3, h4, h5⟩
      exact ⟨1300 - (i + 1), by omega, i + 1, Kk', u, v, x, y, z, rfl, h1, by rw [h2]; rfl, h3, h4, h5⟩
    walk_at "go"
    refine v_ixLL (i := i) hs3.2 (by rw [List.getElem?_map, hKi']; rfl) ?_
    walk_at "go"
    refine v_ip ?_
    walk_at "go"
    have hro : RoomOk b.fc r := path_room bo stp hst (hbi3.path _ (List.mem_of_getElem? hKi'))
    refine ⟨szl (by simp), fun rl hrl => ?_⟩
    generalize hH4 : upd H3 rl _ = H4
    have e4 : Ex H3 H4 := hH4 ▸ Ex.nw hrl
    have hrl4 : H4 rl = some (.lst ([r].map sV)) := hH4 ▸ upd_same
    walk_at "go"
    refine ⟨a, rl, b, [r], rfl, hb.ex (e3.t e4), bo, hrl4, by simp, fun x hx => by simp at hx; subst hx; exact hro, fun tl ts H5 htl e5 htl5 hts hteq => ?_⟩
    have hteq : ts.map (·.2) = turns1 b r := by rw [hteq]; simp [turnsL]
    have e35 := e4.t e5
    have hs5 := hs3.ex e35
    have ntd : tl ≠ d := fun e => by
      obtain ⟨Le, h, _⟩ := (hs3.ex e4).1
      rw [e, h] at htl; cases htl
    have ntl : tl ≠ l := fun e => by rw [e, (hs3.ex e4).2] at htl; cases htl
    walk_at "go"
    refine ⟨tl, rfl, ⟨_, ex_l htl5⟩, ?_⟩
    refine for_it (walk_list (K := K) (xs := ts.map fun r : Addr × Tx × Nat => V.ref r.1)) (fun j σ H6 => ∃ (K4 : List (Tx × List Turn)) (L : List Tx) (v x y z : Option V), σ = [some (.ref a), some (sV st), some (sV [vw]), some (.ref d), some (.ref l), some (.int ((i : Nat) + 1)), some (sV r), v, x, y, z] ∧ Ex H H6 ∧ H6 tl = some (.lst (ts.map fun r : Addr × Tx × Nat => V.ref r.1)) ∧ HRc H6 ts ∧ HSt H6 d l K4 ∧ BJ (stepV b vw) (·.1) st K4 i r p L ∧ ∀ e ∈ (turns1 b r).take j, ∀ m ∈ usedP vw ((b.cut r e.2).headD 0), ∀ q, (b.parts r e.2)[m]? = some q → q ∈ L)
      ⟨Kk, [], _, _, _, _, rfl, e3.t e35, htl5, hts, hs5, hbi3.begin hKi', fun c hc => by simp at hc⟩ (fun _ _ _ _ p => by obtain ⟨_, _, _, _, _, _, _, _, h, _⟩ := p; exact ex_l h) ?_ ?_
    · rintro j x σ H6 H7 hj ⟨K4, L, v, x', y, z, rfl, e6, htl6, hts6, hs6, bj6, hL⟩ ⟨rfl, hx⟩
      rw [List.getElem?_map] at hx
      obtain ⟨⟨ta, r', c⟩, hxe, rfl⟩ := Option.map_eq_some_iff.mp hx
      have hxm := List.mem_of_getElem? hxe
      have hxt : (turns1 b r)[j]? = some (r', c) := by rw [← hteq, List.getElem?_map, hxe]; rfl
      obtain ⟨hr', hcm, hcu⟩ := turns1_mem (List.mem_of_getElem? hxt)
      have hr' : r' = r := hr'
      have hcm : c ∈ b.ct := hcm
      have hcu : b.cut r c ≠ [] := hcu
      subst hr'
      have htk : (turns1 b r').take (j + 1) = (turns1 b r').take j ++ [(r', c)] := by rw [List.take_add_one, hxt]; rfl
      obtain ⟨g, cx, cy, hcut, hg⟩ := cut_ne bo hcu
      refine g_tup (xs := [sV r', sV [c]]) (ex_t (hts6 _ hxm)) rfl ?_
      walk_at "go"
      refine mth_book (hb.ex e6) (fun _ _ _ => rfl) ?_
      walk_at "go"
      refine ⟨a, b, r', c, rfl, hb.ex e6, bo, hro, hcm, fun pp H8 hpp e8 h8 => ?_⟩
      have npd : pp ≠ d := fun e => by
        obtain ⟨Le, h, _⟩ := hs6.1
        rw [e, h] at hpp; cases hpp
      have npl : pp ≠ l := fun e => by rw [e, hs6.2] at hpp; cases hpp
      walk_at "go"

      refine mth_book (hb.ex (e6.t e8)) (fun _ _ _ => rfl) ?_
      walk_at "go"
      refine ⟨a, b, r', c, rfl, hb.ex (e6.t e8), ln6 bo, hro, hcm, fun H9 e9 => ?_⟩
      walk_at "go"
      refine ⟨vw, g, cx, cy, by rw [hcut]; rfl, hvw, hg, fun ut hut => ?_⟩
      have e89 := e8.t e9
      refine ⟨ut, rfl, ⟨_, hut _⟩, ?_⟩
      refine for_it (walk_tup (K := K) (xs := (usedP vw g).map fun i => V.int (i : Nat))) (fun k σ H7 => ∃ (K4 : List (Tx × List Turn)) (L : List Tx) (y : Option V), σ = [some (.ref a), some (sV st), some (sV [vw]), some (.ref d), some (.ref l), some (.int ((i : Nat) + 1)), some (sV r'), some (sV r'), some (sV [c]), some (.ref pp), y] ∧ Ex H H7 ∧ H7 tl = some (.lst (ts.map fun r : Addr × Tx × Nat => V.ref r.1)) ∧ HRc H7 ts ∧ HSt H7 d l K4 ∧ H7 pp = some (.lst ((b.parts r' c).map sV)) ∧ BJ (stepV b vw) (·.1) st K4 i r' p L ∧ (∀ e ∈ (turns1 b r').take j, ∀ m ∈ usedP vw ((b.cut r' e.2).headD 0), ∀ q, (b.parts r' e.2)[m]? = some q → q ∈ L) ∧ ∀ m ∈ (usedP vw g).take k, ∀ q, (b.parts r' c)[m]? = some q → q ∈ L)
        ⟨K4, L, _, rfl, e6.t e89, e89 _ _ htl6, hts6.ex e89, hs6.ex e89, e9 _ _ h8, bj6, hL, fun c hc => by simp at hc⟩ (fun _ _ _ _ _ => hut _) ?_ ?_
      · rintro k x σ H10 H11 hk ⟨K7, L7, y', rfl, e7, htl7, hts7, hs7, hp7, bj7, hL7, hk7⟩ ⟨rfl, hx⟩
        rw [List.getElem?_map] at hx
        obtain ⟨m, hm, rfl⟩ := Option.map_eq_some_iff.mp hx
        have hmm := List.mem_of_getElem? hm
        have hm2 := usedP_lt hmm
        obtain ⟨q, hq⟩ : ∃ q, (b.parts r' c)[m]? = some q := by
          have := parts2 hro (cut_ok bo r' c) hcu
          have e : b.parts r' c = [part0 r' (b.cut r' c), part1 r' (b.cut r' c)] := this
          rw [e]
          rcases m with _ | _ | m
          · exact ⟨_, rfl⟩
          · exact ⟨_, rfl⟩
          · omega
        have hqv : ((b.parts r' c).map sV)[m]? = some (sV q) := by rw [List.getElem?_map, hq]; rfl
        have htq : (usedP vw g).take (k + 1) = (usedP vw g).take k ++ [m] := by rw [List.take_add_one, hm]; rfl
        have hkq : ∀ {L' : List Tx}, (∀ x ∈ L7, x ∈ L') → q ∈ L' → ∀ x ∈ (usedP vw g).take (k + 1), ∀ q, (b.parts r' c)[x]? = some q → q ∈ L' := fun h1 h2 x hx q' hq' => by
          rw [htq] at hx
          rcases List.mem_append.mp hx with hx | hx
          · exact h1 _ (hk7 x hx q' hq')
          · simp at hx; subst hx; rw [hq] at hq'; cases hq'; exact h2
        walk_at "go"
        refine v_ixLL (i := m) hp7 hqv ?_
        walk_at "go"
        obtain ⟨⟨Le, hLd, rfl, hLe⟩, hl8⟩ := id hs7
        refine ⟨d, _, rfl, DGet.k (k := .inr (S q)) hLd, ?_⟩
        rw [kvD_some]
        by_cases hin : q ∈ (kD Le).map (·.1)
        · rw [decide_eq_true hin]
          walk_at "go"
          exact ⟨_, q :: L7, _, rfl, e7, htl7, hts7, hs7, hp7, bj7.old hin, fun e he m hm q' hq' => List.mem_cons_of_mem _ (hL7 e he m hm q' hq'), hkq (fun x hx => List.mem_cons_of_mem _ hx) List.mem_cons_self⟩
        · rw [decide_eq_false hin]
          have hsm7 := small bj7.toBI
          walk_at "go"
          refine ⟨szl (by simp), fun t ht => ?_⟩
          have ntdt : t ≠ d := fun e => by rw [e, hLd] at ht; cases ht
          walk_at "go"
          have e12 := Ex.nw (o := .tup (turnV (r', c, m))) ht
          refine v_ixLL (i := m) (e12 _ _ hp7) hqv ?_
          refine ⟨d, _, rfl, DPut.k (k := .inr (S q)) (e12 _ _ hLd) ?_, ?_⟩
          · rw [sizeLine_eq]
            unfold kvD
            unfold kD at hsm7
            rw [List.length_map] at hsm7 ⊢
            omega
          rw [kvD_put (p ++ [(r', c, m)]) hin]
          have hl9 : (upd (upd H11 t (.tup (turnV (r', c, m)))) d (.dK (kvD (Le ++ [(q, p ++ [(r', c, m)], .ref t)])))) l = some (.lst ((kD Le).map fun e => sV e.1)) := by
            rw [upd_ne ndl.symm]
            exact e12 _ _ hl8
          have hp9 : (upd (upd H11 t (.tup (turnV (r', c, m)))) d (.dK (kvD (Le ++ [(q, p ++ [(r', c, m)], .ref t)])))) pp = some (.lst ((b.parts r' c).map sV)) := by
            rw [upd_ne npd]
            exact e12 _ _ hp7
          walk_at "go"
          refine ⟨ty_l hl9, ?_⟩
          walk_at "go"
          refine v_ixLL (i := m) hp9 hqv ?_
          walk_at "go"
          refine v_append hl9 (by rw [List.length_map]; omega) ?_
          obtain ⟨hs9, te9⟩ := HSt.put (b := b) (H := H) (H' := H) hLd hl8 hLe ndl ht rfl
          have e89' : Ex H (upd (upd (upd H11 t (.tup (turnV (r', c, m)))) d (.dK (kvD (Le ++ [(q, p ++ [(r', c, m)], .ref t)])))) l (.lst (((kD Le).map fun e => sV e.1) ++ [sV q]))) := ((e7.t e12).up hd).up nl
          refine ⟨_, q :: L7, _, rfl, e89', ?_, fun r m => te9 _ _ (hts7 r m), hs9, ?_, bj7.new hin ⟨⟨rfl, hcm, hcu, hq⟩, by rw [show (b.cut r' (r', c, m).2.1) = [g, cx, cy] from hcut]; exact hmm⟩ rfl, fun e he m hm q' hq' => List.mem_cons_of_mem _ (hL7 e he m hm q' hq'), hkq (fun x hx => List.mem_cons_of_mem _ hx) List.mem_cons_self⟩
          · rw [upd_ne ntl, upd_ne ntd]
            exact e12 _ _ htl7
          · rw [upd_ne npl]
            exact hp9
      · rintro σ H7 ⟨K7, L7, y', rfl, e7, htl7, hts7, hs7, hp7, bj7, hL7, hk7⟩
        rw [List.length_map, List.take_length] at hk7
        refine ⟨K7, L7, _, _, _, _, rfl, e7, htl7, hts7, hs7, bj7, fun e' he' m hm q hq => ?_⟩
        rw [htk] at he'
        rcases List.mem_append.mp he' with he' | he'
        · exact hL7 e' he' m hm q hq
        · simp at he'; subst he'; rw [hcut] at hm; exact hk7 m hm q hq
    · rintro σ H4 ⟨K4, L, v, x, y, z, rfl, e4, htl4, hts4, hs4, bj4, hL⟩
      rw [List.length_map, ← List.length_map (f := (·.2)), hteq, List.take_length] at hL
      have hi4 : i < K4.length := (List.getElem?_eq_some_iff.mp bj4.here).1
      refine ⟨K4, _, _, _, _, _, hi4, rfl, e4, hs4, bj4.over fun t q hs => ?_⟩
      obtain ⟨⟨h1, h2, h3, h4⟩, h5⟩ := hs
      exact hL (r, t.2.1) (turns1_of h2 h3) t.2.2 h5 q h4
  · refine itF (by omega) ?_
    walk_at "go"
    exact k d H3 Kk hd e3 hs3.1 ⟨i, by omega, hbi3⟩
end L2.FW
end
section
set_option maxRecDepth 100000
set_option maxHeartbeats 4000000
/-! Boxes: split, overlap, the sign between two. -/
namespace L2.FW
open PySem PySem.Spec PyProof.Rows Fw
variable {P : Program} {w : World} {K : PySem.W.Frag} {mg : Str → Option Value} {base : Heap}
local macro_rules | `(tactic| walk_at "go1") => `(tactic| first
  | ((with_reducible apply v_var); exact rfl)
  | ((with_reducible apply s_aug); exact rfl)
  | with_reducible first
    | refine v_c ?_ | refine v_cons ?_ | refine v_nil ?_ | refine v_op ?_ | refine v_cb ?_ | refine v_call ?_ | refine v_bl ?_ | refine v_yes ?_
    | refine s_seq ?_ | refine s_ret ?_ | refine s_if ?_ | refine s_asg ?_ | refine g_name ?_ | refine v_test ?_ | refine v_tB ?_
    | refine v_rI0 ?_ | refine v_eqI ?_ | refine v_neI ?_ | refine v_eqS ?_ | refine v_neS ?_ | refine v_int1 ?_ | refine v_bool1 ?_ | refine v_abs ?_ | refine v_isN ?_ | refine v_notN ?_ | refine v_nsign ?_
    | refine v_andV ?_ | refine v_orV ?_ | refine v_notV ?_ | refine v_and ?_ | refine v_or ?_ | refine v_not ?_
    | refine v_if ?_ | refine v_tup ?_ | refine v_lst ?_ | refine v_sl ?_ | refine v_part ?_ | refine v_nopart ?_ | refine v_int ?_ | refine v_dget ?_ | refine v_din ?_ | refine v_dnin ?_
    | refine v_fld ?_ | refine v_meth ?_ | refine v_bm ?_ | refine v_m1 ?_ | refine v_strE ?_ | refine v_un ?_ | refine v_chain ?_ | refine s_next ?_ | refine s_drop ?_ | refine s_retN ?_ | refine s_par ?_ | refine s_par3 ?_
    | refine s_fld ?_ | refine s_dput ?_ | refine s_ddel ?_ | refine g_nil ?_ | refine g_cons ?_ | refine iteT ?_ | refine iteF ?_ | refine iteNT ?_ | refine iteNF ?_
    | refine isi_ss ?_ | refine isi_ii ?_ | refine isi_ib ?_ | refine v_lc ?_ | refine i_str ?_ | refine v_str ?_ | refine i_list ?_ | refine i_zipS ?_ | refine i_zipS3 ?_ | refine i_enumS ?_ | refine i_enum ?_ | refine i_tup ?_ | refine i_rng ?_ | refine s_for ?_ | refine v_star ?_ | refine v_makeR ?_ | refine v_make ?_ | refine v_cval ?_ | refine v_sign ?_)
local macro_rules | `(tactic| walk_at "go") => `(tactic| repeat walk_at "go1")
set_option pp.maxSteps 1200
/-- a box: west, north, east, south -/
structure Bx where
  w : Rat
  n : Rat
  e : Rat
  s : Rat
structure Bx.Bd (m : Nat) (x : Bx) : Prop where
  w : FW.Bd m x.w
  n : FW.Bd m x.n
  e : FW.Bd m x.e
  s : FW.Bd m x.s
def HBox (K : PySem.W.Frag) (H : Hp) (t : Addr) (x : Bx) : Prop := ∃ a0 a1 a2 a3, H t = some (.tup [.ref a0, .ref a1, .ref a2, .ref a3]) ∧ HRat K H a0 x.w ∧ HRat K H a1 x.n ∧ HRat K H a2 x.e ∧ HRat K H a3 x.s
theorem HBox.ex {H H' : Hp} {t : Addr} {x : Bx} (e : Ex H H') (h : HBox K H t x) : HBox K H' t x := by
  obtain ⟨a0, a1, a2, a3, h1, h2, h3, h4, h5⟩ := h
  exact ⟨a0, a1, a2, a3, e _ _ h1, h2.ex e, h3.ex e, h4.ex e, h5.ex e⟩
def splitB (x : Bx) (g : Nat) (t b : Int) : Bx × Bx :=
  if g = 124 then (let m := onWay x.w x.e t b; (⟨x.w, x.n, m, x.s⟩, ⟨m, x.n, x.e, x.s⟩))
  else (let m := onWay x.n x.s t b; (⟨x.w, x.n, x.e, m⟩, ⟨x.w, m, x.e, x.s⟩))
def spSplit (K : PySem.W.Frag) : Sp := fun vs H Q _ => ∃ (a : Addr) (x : Bx) (g : Nat) (t b : Int), vs = [.ref a, sV [g], .int t, .int b] ∧ HBox K H a x ∧ x.Bd 1000 ∧ 0 < b ∧ b.natAbs < 2 ^ 200 ∧ t.natAbs < 2 ^ 200 ∧
  ∀ l b0 b1 H', H l = none → Ex H H' → H' l = some (.lst [.ref b0, .ref b1]) → HBox K H' b0 (splitB x g t b).1 → HBox K H' b1 (splitB x g t b).2 → Q (.ref l) H'
/-! split_box: slots box 0 sign 1 top 2 bottom 3 west 4 north 5 east 6 south 7 at 8 -/
theorem sc_split_box : FnScope ["box", "sign", "top", "bottom", "west", "north", "east", "south", "at"] ["box", "sign", "top", "bottom"] (defScope (top 45)) := C8.fnScope_by (by decide +kernel)
theorem cal_split_box (T : T w K mg) : Cal P w K mg base 6 "split_box" (spSplit K) := by
  refine calD T.d_split_box T.g_split_box sc_split_box (fun vs H Q E h => ?_) (fun _ _ _ _ _ _ us hl => match us, hl with | [_, _, _, _], _ => rfl) (fun cdv A outer s H vs Q E hr h => ?_)
  · obtain ⟨_, _, _, _, _, rfl, _⟩ := h; rfl
  obtain ⟨a, x, g, t, b, rfl, ha, hx, hb, hbs, hts, k⟩ := h
  obtain ⟨a0, a1, a2, a3, h0, h1, h2, h3, h4⟩ := ha
  refine ⟨_, (pss_cons (ps_asg (pv 0) (pg_tup rfl (pgs_cons (pg_name (i := 4) sc_split_box.nd rfl (Or.inl rfl)) (pgs_cons (pg_name (i := 5) sc_split_box.nd rfl (Or.inl rfl)) (pgs_cons (pg_name (i := 6) sc_split_box.nd rfl (Or.inl rfl)) (pgs_cons (pg_name (i := 7) sc_split_box.nd rfl (Or.inl rfl)) pgs_nil))))))
      (pss_cons (ps_if (pt_cmpR op_eq (pv 1) (C8.pe_gc rfl T.v_UPRIGHT) (nomark _)) (pss_cons (ps_set (i := 8) sc_split_box.nd rfl (Or.inl rfl) (pe_cl (cal_part_way T) hr (by decide) rfl (pa_cons (pv 4) (pa_cons (pv 6) (pa_cons (pv 2) (pa_cons (pv 3) pa_nil))))))
      (pss_one (ps_ret (pe_lst (pa_cons (pe_tup (pa_cons (pv 4) (pa_cons (pv 5) (pa_cons (pv 8) (pa_cons (pv 7) pa_nil))))) (pa_cons (pe_tup (pa_cons (pv 8) (pa_cons (pv 5) (pa_cons (pv 6) (pa_cons (pv 7) pa_nil))))) pa_nil)))))) pss_nil)
      (pss_cons (ps_set (i := 8) sc_split_box.nd rfl (Or.inl rfl) (pe_cl (cal_part_way T) hr (by decide) rfl (pa_cons (pv 5) (pa_cons (pv 7) (pa_cons (pv 2) (pa_cons (pv 3) pa_nil))))))
      (pss_one (ps_ret (pe_lst (pa_cons (pe_tup (pa_cons (pv 4) (pa_cons (pv 5) (pa_cons (pv 6) (pa_cons (pv 8) pa_nil))))) (pa_cons (pe_tup (pa_cons (pv 4) (pa_cons (pv 8) (pa_cons (pv 6) (pa_cons (pv 7) pa_nil))))) pa_nil)))))))), ?_⟩
  walk_at "go"
  refine g_tup (ex_t h0) rfl ?_
  walk_at "go"
  rw [show (Str.ofString "|").1.toList = [124] from rfl]
  by_cases hg : g = 124
  · refine itT (by rw [hg]) ?_
    unfold splitB at k
    rw [if_pos hg] at k
    walk_at "go"
    refine ⟨a0, a2, _, _, t, b, rfl, h1, h3, hx.w, hx.e, hb, hbs, hts, fun m H1 hm e1 hm1 => ?_⟩
    walk_at "go"
    refine ⟨szl (by simp), fun p hp => ?_⟩
    generalize hH2 : upd H1 p _ = H2
    have e2 : Ex H1 H2 := hH2 ▸ Ex.nw hp
    have hp2 : H2 p = some (.tup [.ref a0, .ref a1, .ref m, .ref a3]) := hH2 ▸ upd_same
    walk_at "go"
    refine ⟨szl (by simp), fun q hq => ?_⟩
    generalize hH3 : upd H2 q _ = H3
    have e3 : Ex H2 H3 := hH3 ▸ Ex.nw hq
    have hq3 : H3 q = some (.tup [.ref m, .ref a1, .ref a2, .ref a3]) := hH3 ▸ upd_same
    walk_at "go"
    refine ⟨szl (by simp), fun l hl => ?_⟩
    have e4 := e3.t (Ex.nw (o := .lst [V.ref p, V.ref q]) hl)
    have e5 := e1.t (e2.t e4)
    exact k l p q _ (e1.none (e2.none (e3.none hl))) e5 upd_same ⟨a0, a1, m, a3, (e4 _ _ hp2), h1.ex e5, h2.ex e5, hm1.ex (e2.t e4), h4.ex e5⟩ ⟨m, a1, a2, a3, (Ex.nw hl) _ _ hq3, hm1.ex (e2.t e4), h2.ex e5, h3.ex e5, h4.ex e5⟩
  · refine itF (by simpa using hg) ?_
    unfold splitB at k
    rw [if_neg hg] at k
    walk_at "go"
    refine ⟨a1, a3, _, _, t, b, rfl, h2, h4, hx.n, hx.s, hb, hbs, hts, fun m H1 hm e1 hm1 => ?_⟩
    walk_at "go"
    refine ⟨szl (by simp), fun p hp => ?_⟩
    generalize hH2 : upd H1 p _ = H2
    have e2 : Ex H1 H2 := hH2 ▸ Ex.nw hp
    have hp2 : H2 p = some (.tup [.ref a0, .ref a1, .ref a2, .ref m]) := hH2 ▸ upd_same
    walk_at "go"
    refine ⟨szl (by simp), fun q hq => ?_⟩
    generalize hH3 : upd H2 q _ = H3
    have e3 : Ex H2 H3 := hH3 ▸ Ex.nw hq
    have hq3 : H3 q = some (.tup [.ref a0, .ref m, .ref a2, .ref a3]) := hH3 ▸ upd_same
    walk_at "go"
    refine ⟨szl (by simp), fun l hl => ?_⟩
    have e4 := e3.t (Ex.nw (o := .lst [V.ref p, V.ref q]) hl)
    have e5 := e1.t (e2.t e4)
    exact k l p q _ (e1.none (e2.none (e3.none hl))) e5 upd_same ⟨a0, a1, a2, m, (e4 _ _ hp2), h1.ex e5, h2.ex e5, h3.ex e5, hm1.ex (e2.t e4)⟩ ⟨a0, m, a2, a3, (Ex.nw hl) _ _ hq3, h1.ex e5, hm1.ex (e2.t e4), h3.ex e5, h4.ex e5⟩
def spOverlap (K : PySem.W.Frag) : Sp := fun vs H Q _ => ∃ (a b c d : Addr) (p q r s : Rat), vs = [.ref a, .ref b, .ref c, .ref d] ∧ HRat K H a p ∧ HRat K H b q ∧ HRat K H c r ∧ HRat K H d s ∧ Bd 1000 p ∧ Bd 1000 q ∧ Bd 1000 r ∧ Bd 1000 s ∧ Q (.bl (decide (p < s) && decide (r < q))) H
theorem mth_rat {m : Str} {R : Prop} {H : Hp} {a : Addr} {q : Rat} (h : HRat K H a q) (hm : ∀ x y : V, [(("top" : Str), x), ("bottom", y)].lookup m = none) (k : R) : rMth (He.ga K "Ratio") m (.ref a) H R := by
  obtain ⟨dx, h1⟩ := h
  exact ⟨a, dx, _, rfl, h1, hm _ _, k⟩
/-! overlap: slots low 0 high 1 first 2 last 3 -/
theorem sc_overlap : FnScope ["low", "high", "first", "last"] ["low", "high", "first", "last"] (defScope (top 47)) := C8.fnScope_by (by decide +kernel)
theorem cal_overlap (T : T w K mg) : Cal P w K mg base 2 "overlap" (spOverlap K) := by
  refine calD T.d_overlap T.g_overlap sc_overlap (fun vs H Q E h => ?_) (fun _ _ _ _ _ _ us hl => match us, hl with | [_, _, _, _], _ => rfl) (fun cdv A outer s H vs Q E hr h => ?_)
  · obtain ⟨_, _, _, _, _, _, _, _, rfl, _⟩ := h; rfl
  obtain ⟨a, b, c, d, p, q, r, s, rfl, ha, hb, hc, hd, bp, bq, br, bs, k⟩ := h
  refine ⟨_, (pss_one (ps_ret (pe_and (pe_mm (met_Ratio_is_below T) hr (by decide) (pv 0) (pa_cons (pv 3) pa_nil)) (pe_one (pe_mm (met_Ratio_is_below T) hr (by decide) (pv 2) (pa_cons (pv 1) pa_nil)))))), ?_⟩
  walk_at "go"
  refine mth_rat ha (fun _ _ => rfl) ?_
  walk_at "go"
  refine ⟨a, d, p, s, rfl, ha, hd, bp.mono (by decide), bs.mono (by decide), ?_⟩
  cases h1 : decide (p < s)
  · rw [h1] at k
    walk_at "go"
    exact k
  · rw [h1] at k
    walk_at "go"
    refine mth_rat hc (fun _ _ => rfl) ?_
    walk_at "go"
    refine ⟨c, b, r, q, rfl, hc, hb, br.mono (by decide), bq.mono (by decide), ?_⟩
    exact k
/-- the sign between two boxes -/
def signB (x y : Bx) : Tx := if x.e = y.w ∧ x.n < y.s ∧ y.n < x.s then [124] else if x.s = y.n ∧ x.w < y.e ∧ y.w < x.e then [45] else []
def spSign (K : PySem.W.Frag) : Sp := fun vs H Q _ => ∃ (a b : Addr) (x y : Bx), vs = [.ref a, .ref b] ∧ HBox K H a x ∧ HBox K H b y ∧ x.Bd 1000 ∧ y.Bd 1000 ∧ Q (sV (signB x y)) H
/-! sign_between: slots one 0 other 1 -/
theorem sc_sign_between : FnScope ["one", "other"] ["one", "other"] (defScope (top 48)) := C8.fnScope_by (by decide +kernel)
theorem cal_sign_between (T : T w K mg) : Cal P w K mg base 3 "sign_between" (spSign K) := by
  refine calD T.d_sign_between T.g_sign_between sc_sign_between (fun vs H Q E h => ?_) (fun _ _ _ _ _ _ us hl => match us, hl with | [_, _], _ => rfl) (fun cdv A outer s H vs Q E hr h => ?_)
  · obtain ⟨_, _, _, _, rfl, _⟩ := h; rfl
  obtain ⟨a, b, x, y, rfl, ha, hb, hx, hy, k⟩ := h
  obtain ⟨a0, a1, a2, a3, g0, g1, g2, g3, g4⟩ := ha
  obtain ⟨b0, b1, b2, b3, h0, h1, h2, h3, h4⟩ := hb
  refine ⟨_, (pss_cons (ps_if (PW.pt (pw_and (pt_cmpR (own_eq T hr) (pe_ix ix_tup (pv 0) pe_int (fun _ _ => rfl)) (pe_ix ix_tup (pv 1) pe_int (fun _ _ => rfl)) (nomark _)) (pw_and1 (pt_val (pe_cl (cal_overlap T) hr (by decide) rfl (pa_cons (pe_ix ix_tup (pv 0) pe_int (fun _ _ => rfl)) (pa_cons (pe_ix ix_tup (pv 0) pe_int (fun _ _ => rfl)) (pa_cons (pe_ix ix_tup (pv 1) pe_int (fun _ _ => rfl)) (pa_cons (pe_ix ix_tup (pv 1) pe_int (fun _ _ => rfl)) pa_nil))))))))) (pss_one (ps_ret (C8.pe_gc rfl T.v_UPRIGHT))) pss_nil)
      (pss_cons (ps_if (PW.pt (pw_and (pt_cmpR (own_eq T hr) (pe_ix ix_tup (pv 0) pe_int (fun _ _ => rfl)) (pe_ix ix_tup (pv 1) pe_int (fun _ _ => rfl)) (nomark _)) (pw_and1 (pt_val (pe_cl (cal_overlap T) hr (by decide) rfl (pa_cons (pe_ix ix_tup (pv 0) pe_int (fun _ _ => rfl)) (pa_cons (pe_ix ix_tup (pv 0) pe_int (fun _ _ => rfl)) (pa_cons (pe_ix ix_tup (pv 1) pe_int (fun _ _ => rfl)) (pa_cons (pe_ix ix_tup (pv 1) pe_int (fun _ _ => rfl)) pa_nil))))))))) (pss_one (ps_ret (C8.pe_gc rfl T.v_LEVEL))) pss_nil)
      (pss_one (ps_ret pe_str)))), ?_⟩
  walk_at "go"
  refine v_ixTT (i := 2) g0 rfl ?_
  walk_at "go"
  refine v_ixTT (i := 0) h0 rfl ?_
  refine v_ownEq g3 h1 ?_
  by_cases c1 : x.e = y.w
  · rw [decide_eq_true c1]
    walk_at "go"
    refine v_ixTT (i := 1) g0 rfl ?_
    walk_at "go"
    refine v_ixTT (i := 3) g0 rfl ?_
    walk_at "go"
    refine v_ixTT (i := 1) h0 rfl ?_
    walk_at "go"
    refine v_ixTT (i := 3) h0 rfl ?_
    walk_at "go"
    refine ⟨a1, a3, b1, b3, _, _, _, _, rfl, g2, g4, h2, h4, hx.n, hx.s, hy.n, hy.s, ?_⟩
    walk_at "go"
    unfold signB at k
    by_cases c3 : x.n < y.s ∧ y.n < x.s
    · rw [if_pos ⟨c1, c3⟩] at k
      rw [decide_eq_true c3.1, decide_eq_true c3.2]
      walk_at "go"
      exact k
    · rw [show (decide (x.n < y.s) && decide (y.n < x.s)) = false from by rw [← Bool.decide_and]; exact decide_eq_false c3]
      walk_at "go"
      rw [if_neg (fun h => c3 h.2)] at k
      refine v_ixTT (i := 3) g0 rfl ?_
      walk_at "go"
      refine v_ixTT (i := 1) h0 rfl ?_
      refine v_ownEq g4 h2 ?_
      by_cases c2 : x.s = y.n
      · rw [decide_eq_true c2]
        walk_at "go"
        refine v_ixTT (i := 0) g0 rfl ?_
        walk_at "go"
        refine v_ixTT (i := 2) g0 rfl ?_
        walk_at "go"
        refine v_ixTT (i := 0) h0 rfl ?_
        walk_at "go"
        refine v_ixTT (i := 2) h0 rfl ?_
        walk_at "go"
        refine ⟨a0, a2, b0, b2, _, _, _, _, rfl, g1, g3, h1, h3, hx.w, hx.e, hy.w, hy.e, ?_⟩
        walk_at "go"
        by_cases c3 : x.w < y.e ∧ y.w < x.e
        · rw [if_pos ⟨c2, c3⟩] at k
          rw [decide_eq_true c3.1, decide_eq_true c3.2]
          walk_at "go"
          exact k
        · rw [if_neg fun h => c3 h.2] at k
          rw [show (decide (x.w < y.e) && decide (y.w < x.e)) = false from by rw [← Bool.decide_and]; exact decide_eq_false c3]
          walk_at "go"
          exact k
      · rw [decide_eq_false c2]
        rw [if_neg fun h => c2 h.1] at k
        walk_at "go"
        exact k
  · rw [decide_eq_false c1]
    unfold signB at k
    walk_at "go"
    rw [if_neg (fun h => c1 h.1)] at k
    refine v_ixTT (i := 3) g0 rfl ?_
    walk_at "go"
    refine v_ixTT (i := 1) h0 rfl ?_
    refine v_ownEq g4 h2 ?_
    by_cases c2 : x.s = y.n
    · rw [decide_eq_true c2]
      walk_at "go"
      refine v_ixTT (i := 0) g0 rfl ?_
      walk_at "go"
      refine v_ixTT (i := 2) g0 rfl ?_
      walk_at "go"
      refine v_ixTT (i := 0) h0 rfl ?_
      walk_at "go"
      refine v_ixTT (i := 2) h0 rfl ?_
      walk_at "go"
      refine ⟨a0, a2, b0, b2, _, _, _, _, rfl, g1, g3, h1, h3, hx.w, hx.e, hy.w, hy.e, ?_⟩
      walk_at "go"
      by_cases c3 : x.w < y.e ∧ y.w < x.e
      · rw [if_pos ⟨c2, c3⟩] at k
        rw [decide_eq_true c3.1, decide_eq_true c3.2]
        walk_at "go"
        exact k
      · rw [if_neg fun h => c3 h.2] at k
        rw [show (decide (x.w < y.e) && decide (y.w < x.e)) = false from by rw [← Bool.decide_and]; exact decide_eq_false c3]
        walk_at "go"
        exact k
    · rw [decide_eq_false c2]
      rw [if_neg fun h => c2 h.1] at k
      walk_at "go"
      exact k
end L2.FW
end
section
set_option maxRecDepth 100000
/-! Floors in plain Lean: what a step makes of a floor; each address once, none ahead of another; coordinates over one common bottom. -/
namespace L2.FW
open Fw
abbrev Fl := List (Tx × Tx × Bx)
/-- a step: address, cutter, top, bottom -/
abbrev Stp := Tx × Nat × Int × Int
def newF (b : Bk) (s : Stp) (r : Tx) (x : Bx) : Fl := [(s.1 ++ [48], part0 r (b.cut r s.2.1), (splitB x ((b.cut r s.2.1).headD 0) s.2.2.1 s.2.2.2).1), (s.1 ++ [49], part1 r (b.cut r s.2.1), (splitB x ((b.cut r s.2.1).headD 0) s.2.2.1 s.2.2.2).2)]
def stepF (b : Bk) (F : Fl) (s : Stp) : Fl := match F.find? fun e => decide (e.1 = s.1) with
  | none => F
  | some (_, r, x) => if b.cut r s.2.1 = [] then F else (F.filter fun e => decide (e.1 ≠ s.1)) ++ newF b s r x
/-- k over D, between 0 and 1 -/
def On (D : Nat) (q : Rat) : Prop := ∃ k : Nat, k ≤ D ∧ q = Rat.divInt k D
structure BxOn (D : Nat) (x : Bx) : Prop where
  w : On D x.w
  n : On D x.n
  e : On D x.e
  s : On D x.s
theorem On.mul {D m : Nat} {q : Rat} (h : On D q) (hm : 0 < m) : On (D * m) q := by
  obtain ⟨k, h1, rfl⟩ := h
  refine ⟨k * m, Nat.mul_le_mul_right m h1, ?_⟩
  have := Rat.divInt_mul_right (n := (k : Int)) (d := (D : Int)) (a := (m : Int)) (by omega)
  rw [← this]
  simp
theorem BxOn.mul {D m : Nat} {x : Bx} (h : BxOn D x) (hm : 0 < m) : BxOn (D * m) x := ⟨h.w.mul hm, h.n.mul hm, h.e.mul hm, h.s.mul hm⟩
theorem On.way {D : Nat} {p q : Rat} {t b : Int} (hD : 0 < D) (hp : On D p) (hq : On D q) (h0 : 0 < t) (h1 : t < b) : On (D * b.toNat) (onWay p q t b) := by
  obtain ⟨i, hi, rfl⟩ := hp
  obtain ⟨j, hj, rfl⟩ := hq
  obtain ⟨m, rfl⟩ : ∃ m : Nat, b = m := ⟨b.toNat, by omega⟩
  obtain ⟨u, rfl⟩ : ∃ u : Nat, t = u := ⟨t.toNat, by omega⟩
  have hum : u < m := by omega
  have hm : 0 < m := by omega
  refine ⟨i * (m - u) + j * u, ?_, ?_⟩
  · have e1 : m - u + u = m := by omega
    calc i * (m - u) + j * u ≤ D * (m - u) + D * u := Nat.add_le_add (Nat.mul_le_mul_right _ hi) (Nat.mul_le_mul_right _ hj)
      _ = D * m := by rw [← Nat.mul_add, e1]
      _ = D * (m : Int).toNat := by simp
  · unfold onWay
    rw [Rat.divInt_eq_div, Rat.divInt_eq_div, Rat.divInt_eq_div, Rat.divInt_eq_div]
    have hD' : ((D : Int) : Rat) ≠ 0 := by
      intro h
      have := Rat.intCast_eq_zero_iff.mp h
      omega
    have hm' : ((m : Int) : Rat) ≠ 0 := by
      intro h
      have := Rat.intCast_eq_zero_iff.mp h
      omega
    have e1 : ((i * (m - u) + j * u : Nat) : Int) = (i : Int) * ((m : Int) - (u : Int)) + (j : Int) * (u : Int) := by
      rw [Int.natCast_add, Int.natCast_mul, Int.natCast_mul, Int.ofNat_sub (by omega)]
    have e2 : ((D * (m : Int).toNat : Nat) : Int) = (D : Int) * (m : Int) := by simp
    rw [e1, e2]
    simp only [Rat.intCast_add, Rat.intCast_mul, Rat.intCast_sub]
    generalize ((D : Int) : Rat) = d at hD' ⊢
    generalize ((m : Int) : Rat) = m' at hm' ⊢
    generalize ((i : Int) : Rat) = i'
    generalize ((j : Int) : Rat) = j'
    generalize ((u : Int) : Rat) = u'
    grind
theorem On.bd {D n : Nat} {q : Rat} (h : On D q) (hD : 0 < D) (hn : D < 2 ^ n) : Bd n q := by
  obtain ⟨k, h1, rfl⟩ := h
  refine divInt_bd (by omega) ?_ ?_
  · rw [Int.natAbs_natCast]; omega
  · rw [Int.natAbs_natCast]; exact hn
theorem BxOn.bd {D n : Nat} {x : Bx} (h : BxOn D x) (hD : 0 < D) (hn : D < 2 ^ n) : x.Bd n := ⟨h.w.bd hD hn, h.n.bd hD hn, h.e.bd hD hn, h.s.bd hD hn⟩
theorem BxOn.split {D : Nat} {x : Bx} {t b : Int} {g : Nat} (hD : 0 < D) (h : BxOn D x) (h0 : 0 < t) (h1 : t < b) : BxOn (D * b.toNat) (splitB x g t b).1 ∧ BxOn (D * b.toNat) (splitB x g t b).2 := by
  have hb : 0 < b.toNat := by omega
  unfold splitB
  split
  · exact ⟨⟨h.w.mul hb, h.n.mul hb, h.w.way hD h.e h0 h1, h.s.mul hb⟩, ⟨h.w.way hD h.e h0 h1, h.n.mul hb, h.e.mul hb, h.s.mul hb⟩⟩
  · exact ⟨⟨h.w.mul hb, h.n.mul hb, h.e.mul hb, h.n.way hD h.s h0 h1⟩, ⟨h.w.mul hb, h.n.way hD h.s h0 h1, h.e.mul hb, h.s.mul hb⟩⟩
structure FlOk (b : Bk) (F : Fl) (n D : Nat) : Prop where
  pf : ∀ x ∈ F, ∀ y ∈ F, x.1 <+: y.1 → x.1 = y.1
  nd : (F.map (·.1)).Nodup
  room : ∀ e ∈ F, RoomOk b.fc e.2.1
  adr : ∀ e ∈ F, e.1.length ≤ n ∧ ∀ c ∈ e.1, c = 48 ∨ c = 49
  bx : ∀ e ∈ F, BxOn D e.2.2
  len : F.length ≤ n + 1
  pos : 0 < D
def floor0 (st : Tx) : Fl := [([], st, ⟨0, 0, 1, 1⟩)]
theorem FlOk.init {b : Bk} {st : Tx} (h : RoomOk b.fc st) : FlOk b (floor0 st) 0 1 where
  pf := fun x hx y hy _ => by simp [floor0] at hx hy; subst hx hy; rfl
  nd := by simp [floor0]
  room := fun e he => by simp [floor0] at he; subst he; exact h
  adr := fun e he => by simp [floor0] at he; subst he; simp
  bx := fun e he => by
    simp [floor0] at he
    subst he
    have h0 : On 1 (0 : Rat) := ⟨0, by omega, by rfl⟩
    have h1 : On 1 (1 : Rat) := ⟨1, by omega, by rfl⟩
    exact ⟨h0, h0, h1, h1⟩
  len := by simp [floor0]
  pos := by omega
theorem pre_snoc {a b : Tx} {c d : Nat} (h : a ++ [c] <+: b ++ [d]) : a ++ [c] <+: b ∨ (a = b ∧ c = d) := by
  rcases List.prefix_concat_iff.mp h with h | h
  · right
    have := List.append_inj' h rfl
    exact ⟨this.1, by simpa using this.2⟩
  · exact .inl h
theorem FlOk.new {b : Bk} {F : Fl} {n D : Nat} (h : FlOk b F n D) {a : Tx} (ha : a ∈ F.map (·.1)) (c : Nat) : a ++ [c] ∉ F.map (·.1) := by
  intro hc
  obtain ⟨x, hx, rfl⟩ := List.mem_map.mp ha
  obtain ⟨y, hy, e⟩ := List.mem_map.mp hc
  have := h.pf x hx y hy (by rw [e]; exact List.prefix_append _ _)
  rw [← this] at e
  have := congrArg List.length e
  simp at this
theorem stepF_cases {b : Bk} {F : Fl} {s : Stp} (ha : s.1 ∈ F.map (·.1)) : ∃ r x, (s.1, r, x) ∈ F ∧ F.find? (fun e => decide (e.1 = s.1)) = some (s.1, r, x) ∧ ((b.cut r s.2.1 = [] ∧ stepF b F s = F) ∨ (b.cut r s.2.1 ≠ [] ∧ stepF b F s = (F.filter fun e => decide (e.1 ≠ s.1)) ++ newF b s r x)) := by
  cases hf : F.find? (fun e => decide (e.1 = s.1)) with
  | none =>
    obtain ⟨x, hx, e⟩ := List.mem_map.mp ha
    have := List.find?_eq_none.mp hf x hx
    simp [e] at this
  | some e =>
    obtain ⟨a, r, x⟩ := e
    have h1 := List.mem_of_find?_eq_some hf
    have h2 := List.find?_some hf
    have h2 : a = s.1 := of_decide_eq_true h2
    subst h2
    refine ⟨r, x, h1, rfl, ?_⟩
    unfold stepF
    rw [hf]
    by_cases hc : b.cut r s.2.1 = []
    · exact .inl ⟨hc, if_pos hc⟩
    · exact .inr ⟨hc, if_neg hc⟩
theorem FlOk.step {b : Bk} (bo : BkOk b) {F : Fl} {n D : Nat} (h : FlOk b F n D) {s : Stp} (ha : s.1 ∈ F.map (·.1)) (h0 : 0 < s.2.2.1) (h1 : s.2.2.1 < s.2.2.2) : FlOk b (stepF b F s) (n + 1) (D * s.2.2.2.toNat) := by
  have hb : 0 < s.2.2.2.toNat := by omega
  have base : FlOk b F (n + 1) (D * s.2.2.2.toNat) := ⟨h.pf, h.nd, h.room, fun e he => ⟨by have := (h.adr e he).1; omega, (h.adr e he).2⟩, fun e he => (h.bx e he).mul hb, by have := h.len; omega, Nat.mul_pos h.pos hb⟩
  obtain ⟨r, x, hm, hf, ⟨hc, e⟩ | ⟨hc, e⟩⟩ := stepF_cases (b := b) ha
  · rw [e]; exact base
  rw [e]
  have hro : RoomOk b.fc r := h.room _ hm
  have hps := parts2 hro (cut_ok bo r s.2.1) hc
  have hp0 : RoomOk b.fc (part0 r (b.cut r s.2.1)) := part_room hro (cut_ok bo r s.2.1) (by rw [hps]; simp)
  have hp1 : RoomOk b.fc (part1 r (b.cut r s.2.1)) := part_room hro (cut_ok bo r s.2.1) (by rw [hps]; simp)
  obtain ⟨hx0, hx1⟩ := (h.bx _ hm).split (g := (b.cut r s.2.1).headD 0) h.pos h0 h1
  have hadr := h.adr _ hm
  have mem : ∀ y ∈ (F.filter fun e => decide (e.1 ≠ s.1)) ++ newF b s r x, (y ∈ F ∧ y.1 ≠ s.1) ∨ (∃ c, (c = 48 ∨ c = 49) ∧ y.1 = s.1 ++ [c] ∧ RoomOk b.fc y.2.1 ∧ BxOn (D * s.2.2.2.toNat) y.2.2) := by
    intro y hy
    rcases List.mem_append.mp hy with hy | hy
    · obtain ⟨h1, h2⟩ := List.mem_filter.mp hy
      exact .inl ⟨h1, of_decide_eq_true h2⟩
    · simp only [newF, List.mem_cons, List.not_mem_nil, or_false] at hy
      rcases hy with rfl | rfl
      · exact .inr ⟨48, .inl rfl, rfl, hp0, hx0⟩
      · exact .inr ⟨49, .inr rfl, rfl, hp1, hx1⟩
  refine ⟨?_, ?_, ?_, ?_, ?_, ?_, base.pos⟩
  · intro y hy z hz hpre
    rcases mem y hy with ⟨y1, y2⟩ | ⟨c, hc, ey, _⟩ <;> rcases mem z hz with ⟨z1, z2⟩ | ⟨c', hc', ez, _⟩
    · exact h.pf y y1 z z1 hpre
    · rw [ez] at hpre ⊢
      rcases List.prefix_concat_iff.mp hpre with e | e
      · exact e
      · exact absurd (h.pf y y1 _ hm e) y2
    · rw [ey] at hpre
      have := h.pf _ hm z z1 ((List.prefix_append _ _).trans hpre)
      exact absurd this.symm z2
    · rw [ey, ez] at hpre ⊢
      rcases pre_snoc hpre with e | ⟨_, e⟩
      · have := e.length_le
        simp at this
        omega
      · rw [e]
  · rw [List.map_append]
    refine List.nodup_append.mpr ⟨?_, by simp [newF], ?_⟩
    · exact h.nd.sublist (List.Sublist.map _ List.filter_sublist)
    · intro y hy z hz e
      obtain ⟨y', hy', rfl⟩ := List.mem_map.mp hy
      have hy2 := (List.mem_filter.mp hy').1
      have hz : z = s.1 ++ [48] ∨ z = s.1 ++ [49] := by simpa [newF] using hz
      have : ∃ c, y'.1 = s.1 ++ [c] := by
        rcases hz with hz | hz
        · exact ⟨48, e.trans hz⟩
        · exact ⟨49, e.trans hz⟩
      obtain ⟨c, hc⟩ := this
      exact h.new ha c (hc ▸ List.mem_map.mpr ⟨y', hy2, rfl⟩)
  · intro y hy
    rcases mem y hy with ⟨y1, y2⟩ | ⟨c, hc, ey, h3, h4⟩
    · exact h.room y y1
    · exact h3
  · intro y hy
    rcases mem y hy with ⟨y1, y2⟩ | ⟨c, hc, ey, h3, h4⟩
    · exact base.adr y y1
    · rw [ey]
      refine ⟨by have h1 : s.1.length ≤ n := hadr.1; simp; omega, fun d hd => ?_⟩
      rcases List.mem_append.mp hd with hd | hd
      · exact hadr.2 d hd
      · simp at hd; subst hd; exact hc
  · intro y hy
    rcases mem y hy with ⟨y1, y2⟩ | ⟨c, hc, ey, h3, h4⟩
    · exact base.bx y y1
    · exact h4
  · have h1 : (F.filter fun e => decide (e.1 ≠ s.1)).length < F.length := by
      refine List.length_filter_lt_length_iff_exists.mpr ⟨_, hm, by simp⟩
    have := h.len
    rw [List.length_append]
    have : (newF b s r x).length = 2 := rfl
    omega
end L2.FW
end
section
set_option maxRecDepth 100000
set_option maxHeartbeats 4000000
/-! boxes_of: the floor that the steps make. -/
namespace L2.FW
open PySem PySem.Spec PyProof.Rows Fw
variable {P : Program} {w : World} {K : PySem.W.Frag} {mg : Str → Option Value} {base : Heap}
local macro_rules | `(tactic| walk_at "go1") => `(tactic| first
  | ((with_reducible apply v_var); exact rfl)
  | ((with_reducible apply s_aug); exact rfl)
  | with_reducible first
    | refine v_c ?_ | refine v_cons ?_ | refine v_nil ?_ | refine v_op ?_ | refine v_cb ?_ | refine v_call ?_ | refine v_bl ?_ | refine v_yes ?_
    | refine s_seq ?_ | refine s_ret ?_ | refine s_if ?_ | refine s_asg ?_ | refine g_name ?_ | refine v_test ?_ | refine v_tB ?_
    | refine v_rI0 ?_ | refine v_eqI ?_ | refine v_neI ?_ | refine v_eqS ?_ | refine v_neS ?_ | refine v_int1 ?_ | refine v_bool1 ?_ | refine v_abs ?_ | refine v_isN ?_ | refine v_notN ?_ | refine v_nsign ?_
    | refine v_andV ?_ | refine v_orV ?_ | refine v_notV ?_ | refine v_and ?_ | refine v_or ?_ | refine v_not ?_
    | refine v_if ?_ | refine v_tup ?_ | refine v_lst ?_ | refine v_sl ?_ | refine v_part ?_ | refine v_nopart ?_ | refine v_int ?_ | refine v_dget ?_ | refine v_din ?_ | refine v_dnin ?_
    | refine v_fld ?_ | refine v_meth ?_ | refine v_bm ?_ | refine v_m1 ?_ | refine v_strE ?_ | refine v_un ?_ | refine v_chain ?_ | refine s_next ?_ | refine s_drop ?_ | refine s_retN ?_ | refine s_par ?_ | refine s_par3 ?_
    | refine s_fld ?_ | refine s_dput ?_ | refine s_ddel ?_ | refine g_nil ?_ | refine g_cons ?_ | refine iteT ?_ | refine iteF ?_ | refine iteNT ?_ | refine iteNF ?_
    | refine isi_ss ?_ | refine isi_ii ?_ | refine isi_ib ?_ | refine v_lc ?_ | refine i_str ?_ | refine v_str ?_ | refine i_list ?_ | refine i_zipS ?_ | refine i_zipS3 ?_ | refine i_enumS ?_ | refine i_enum ?_ | refine i_tup ?_ | refine i_rng ?_ | refine s_for ?_ | refine v_star ?_ | refine v_makeR ?_ | refine v_make ?_ | refine v_cval ?_ | refine v_sign ?_)
local macro_rules | `(tactic| walk_at "go") => `(tactic| repeat walk_at "go1")
set_option pp.maxSteps 1200
set_option exponentiation.threshold 9000
abbrev E4 := Tx × Tx × Bx × Addr
def kvF (L : List E4) : List (Key × V) := L.map fun e => (.inr (S e.1), .ref e.2.2.2)
def flF (L : List E4) : Fl := L.map fun e => (e.1, e.2.1, e.2.2.1)
/-- a room with its box -/
def HRb (K : PySem.W.Frag) (H : Hp) (a : Addr) (r : Tx) (x : Bx) : Prop := ∃ bt, H a = some (.tup [sV r, .ref bt]) ∧ HBox K H bt x
theorem HRb.ex {H H' : Hp} {a : Addr} {r : Tx} {x : Bx} (e : Ex H H') (h : HRb K H a r x) : HRb K H' a r x := by
  obtain ⟨bt, h1, h2⟩ := h
  exact ⟨bt, e _ _ h1, h2.ex e⟩
def HFe (K : PySem.W.Frag) (H : Hp) (L : List E4) : Prop := ∀ e ∈ L, HRb K H e.2.2.2 e.2.1 e.2.2.1
theorem HFe.ex {H H' : Hp} {L : List E4} (e : Ex H H') (h : HFe K H L) : HFe K H' L := fun x m => (h x m).ex e
def HFl (K : PySem.W.Frag) (H : Hp) (d : Addr) (F : Fl) : Prop := ∃ L, H d = some (.dK (kvF L)) ∧ flF L = F ∧ HFe K H L
theorem HFl.ex {H H' : Hp} {d : Addr} {F : Fl} (e : Ex H H') (h : HFl K H d F) : HFl K H' d F := by
  obtain ⟨L, h1, h2, h3⟩ := h
  exact ⟨L, e _ _ h1, h2, h3.ex e⟩
/-- what a dict's change keeps -/
theorem HRat.exB {H H' : Hp} {a d : Addr} {q : Rat} {o : HO} (e : ExB d H H') (hd : H d = some o) (n : ∀ C dx fs, o ≠ .ins C dx fs) (h : HRat K H a q) : HRat K H' a q := by
  obtain ⟨dx, h⟩ := h
  exact ⟨dx, e _ _ (fun e => by rw [e, hd] at h; exact n _ _ _ (Option.some.inj h)) h⟩
theorem HBox.exB {H H' : Hp} {t d : Addr} {x : Bx} {kvs : List (Key × V)} (e : ExB d H H') (hd : H d = some (.dK kvs)) (h : HBox K H t x) : HBox K H' t x := by
  obtain ⟨a0, a1, a2, a3, h1, h2, h3, h4, h5⟩ := h
  have n : ∀ C dx fs, (HO.dK kvs) ≠ .ins C dx fs := fun _ _ _ h => nomatch h
  exact ⟨a0, a1, a2, a3, e _ _ (fun e => by rw [e, hd] at h1; cases h1) h1, h2.exB e hd n, h3.exB e hd n, h4.exB e hd n, h5.exB e hd n⟩
theorem HRb.exB {H H' : Hp} {a d : Addr} {r : Tx} {x : Bx} {kvs : List (Key × V)} (e : ExB d H H') (hd : H d = some (.dK kvs)) (h : HRb K H a r x) : HRb K H' a r x := by
  obtain ⟨bt, h1, h2⟩ := h
  exact ⟨bt, e _ _ (fun e => by rw [e, hd] at h1; cases h1) h1, h2.exB e hd⟩
theorem kvF_find (L : List E4) (q : Tx) : valV (kvF L) (.inr (S q)) = (L.find? fun e => decide (e.1 = q)).map fun e => V.ref e.2.2.2 := by
  unfold valV kvF
  rw [List.find?_map]
  simp only [Function.comp_def]
  have : (fun e : E4 => decide ((Sum.inr (S e.1) : Key) = .inr (S q))) = fun e => decide (e.1 = q) := by
    funext e
    by_cases h : e.1 = q
    · simp [h]
    · have : ¬ (S e.1 = S q) := fun x => h (SX.S_inj x)
      simp [h, this]
  rw [this]
  cases L.find? _ <;> rfl
theorem kvF_some {L : List E4} {q : Tx} : (valV (kvF L) (.inr (S q))).isSome = decide (q ∈ (flF L).map (·.1)) := by
  rw [kvF_find, Option.isSome_map, Bool.eq_iff_iff, List.find?_isSome, flF, List.map_map]
  simp [Function.comp_def]
theorem kvF_get {H : Hp} {L : List E4} {q : Tx} {r : Tx} {x : Bx} (h : HFe K H L) (nd : ((flF L).map (·.1)).Nodup) (hm : (q, r, x) ∈ flF L) : ∃ a, valV (kvF L) (.inr (S q)) = some (.ref a) ∧ HRb K H a r x := by
  obtain ⟨e, he, h1⟩ := List.mem_map.mp hm
  cases h1
  have : L.find? (fun x => decide (x.1 = e.1)) = some e := by
    clear hm h
    induction L with
    | nil => cases he
    | cons x L ih =>
      have nd' : x.1 ∉ (flF L).map (·.1) ∧ ((flF L).map (·.1)).Nodup := List.nodup_cons.mp nd
      rcases List.mem_cons.mp he with rfl | he
      · rw [List.find?_cons, decide_eq_true rfl]
      · rw [List.find?_cons, decide_eq_false, ih nd'.2 he]
        intro e1
        apply nd'.1
        rw [e1]
        exact List.mem_map.mpr ⟨(e.1, e.2.1, e.2.2.1), List.mem_map.mpr ⟨e, he, rfl⟩, rfl⟩
  rw [kvF_find, this]
  exact ⟨_, rfl, h e he⟩
theorem kvF_put {L : List E4} {q : Tx} (r : Tx) (x : Bx) (a : Addr) (h : q ∉ (flF L).map (·.1)) : putK (kvF L) (.inr (S q)) (.ref a) = kvF (L ++ [(q, r, x, a)]) := by
  unfold putK
  have := kvF_some (L := L) (q := q)
  rw [decide_eq_false h] at this
  rw [valV_any, this, if_neg (by simp)]
  simp [kvF]
theorem kvF_drop (L : List E4) (q : Tx) : dropK (kvF L) (.inr (S q)) = kvF (L.filter fun e => decide (e.1 ≠ q)) := by
  unfold dropK kvF
  rw [List.filter_map]
  congr 1
  apply List.filter_congr
  intro e _
  simp only [Function.comp]
  by_cases h : e.1 = q
  · simp [h]
  · have : ¬ (S e.1 = S q) := fun x => h (SX.S_inj x)
    simp [h, this]
theorem flF_filter (L : List E4) (q : Tx) : flF (L.filter fun e => decide (e.1 ≠ q)) = (flF L).filter fun e => decide (e.1 ≠ q) := by
  unfold flF
  rw [List.filter_map]
  rfl
def stV (s : Stp) : List V := [sV s.1, sV [s.2.1], .int s.2.2.1, .int s.2.2.2]
/-- tuples of steps -/
def HSp (H : Hp) (ts : List (Addr × Stp)) : Prop := ∀ r ∈ ts, H r.1 = some (.tup (stV r.2))
theorem HSp.ex {H H' : Hp} {ts : List (Addr × Stp)} (e : Ex H H') (h : HSp H ts) : HSp H' ts := fun r m => e _ _ (h r m)
/-- the floor behind i steps -/
def floorAt (b : Bk) (st : Tx) (ss : List Stp) : Fl := ss.foldl (stepF b) (floor0 st)
theorem floorAt_snoc (b : Bk) (st : Tx) (ss : List Stp) (s : Stp) : floorAt b st (ss ++ [s]) = stepF b (floorAt b st ss) s := by simp [floorAt]
/-- each step's address is known, its cutter the book's, its place between 0 and 1 -/
def StepsOk (b : Bk) (st : Tx) (ss : List Stp) : Prop := ∀ (i : Nat) (s : Stp), ss[i]? = some s → s.1 ∈ (floorAt b st (ss.take i)).map (·.1) ∧ s.2.1 ∈ b.ct ∧ 0 < s.2.2.1 ∧ s.2.2.1 < s.2.2.2 ∧ s.2.2.2 ≤ 2 ^ 20
def bots (ss : List Stp) : Nat := ss.foldl (fun d s => d * s.2.2.2.toNat) 1
theorem bots_snoc (ss : List Stp) (s : Stp) : bots (ss ++ [s]) = bots ss * s.2.2.2.toNat := by simp [bots]
theorem StepsOk.floor {b : Bk} (bo : BkOk b) {st : Tx} (hst : RoomOk b.fc st) {ss : List Stp} (h : StepsOk b st ss) : ∀ i, i ≤ ss.length → FlOk b (floorAt b st (ss.take i)) i (bots (ss.take i)) ∧ bots (ss.take i) ≤ 2 ^ (20 * i)
  | 0, _ => ⟨by rw [List.take_zero]; exact FlOk.init hst, by rw [List.take_zero]; exact Nat.le_refl _⟩
  | i + 1, hi => by
    obtain ⟨h1, h2⟩ := StepsOk.floor bo hst h i (by omega)
    have hs : ss[i]? = some ss[i] := List.getElem?_eq_getElem (by omega)
    obtain ⟨a1, a2, a3, a4, a5⟩ := h i _ hs
    have e : ss.take (i + 1) = ss.take i ++ [ss[i]] := by rw [List.take_add_one, hs]; rfl
    rw [e, floorAt_snoc, bots_snoc]
    refine ⟨h1.step bo a1 a3 a4, ?_⟩
    have h3 : (ss[i]).2.2.2.toNat ≤ 2 ^ 20 := by omega
    calc bots (ss.take i) * (ss[i]).2.2.2.toNat ≤ 2 ^ (20 * i) * 2 ^ 20 := Nat.mul_le_mul h2 h3
      _ = 2 ^ (20 * (i + 1)) := by rw [← Nat.pow_add]; rfl
def spBoxes (K : PySem.W.Frag) : Sp := fun vs H Q _ => ∃ (a l : Addr) (b : Bk) (st : Tx) (ts : List (Addr × Stp)), vs = [.ref a, sV st, .ref l] ∧ HBook K H a b ∧ BkOk b ∧ RoomOk b.fc st ∧ H l = some (.lst (ts.map fun r => V.ref r.1)) ∧ HSp H ts ∧ ts.length ≤ 40 ∧ StepsOk b st (ts.map (·.2)) ∧
  ∀ d H', H d = none → Ex H H' → HFl K H' d (floorAt b st (ts.map (·.2))) → Q (.ref d) H'
/-! boxes_of: slots book 0 start 1 steps 2 found 3 at 4 step 5 address 6 cutter 7 room 8 box 9 cut 10 boxes 11 index 12 part 13 -/
theorem sc_boxes_of : FnScope ["book", "start", "steps", "found", "at", "step", "address", "cutter", "room", "box", "cut", "boxes", "index", "part"] ["book", "start", "steps"] (defScope (top 46)) := C8.fnScope_by (by decide +kernel)
theorem cal_boxes_of (T : T w K mg) : Cal P w K mg base 7 "boxes_of" (spBoxes K) := by
  refine calD T.d_boxes_of T.g_boxes_of sc_boxes_of (fun vs H Q E h => ?_) (fun _ _ _ _ _ _ us hl => match us, hl with | [_, _, _], _ => rfl) (fun cdv A outer s H vs Q E hr h => ?_)
  · obtain ⟨_, _, _, _, _, rfl, _⟩ := h; rfl
  obtain ⟨a, l, b, st, ts, rfl, hb, bo, hst, hl, hts, hn, hok, k⟩ := h
  refine ⟨_, (pss_cons (ps_expr (pe_cl (cal_check_room T) hr (by decide) rfl (pa_cons (pv 0) (pa_cons (pv 1) pa_nil))))
      (pss_cons (ps_if (pt_not (pt_val (pe_callB call_isiT (by rfl) T.f_isinstance (by decide +kernel) (pa_cons (pv 2) (pa_cons (pe_tup (pa_cons (pe_bltn (v := .ty "list") rfl T.f_list (by decide +kernel) rfl) (pa_cons (pe_bltn (v := .ty "tuple") rfl T.f_tuple (by decide +kernel) rfl) pa_nil))) pa_nil))))) pss_never pss_nil)
      (pss_cons (ps_set (i := 3) sc_boxes_of.nd rfl (Or.inl rfl) (pe_disp (pps_cons pe_str (pe_tup (pa_cons (pv 1) (pa_cons (pe_tup (pa_cons (pe_mk_Ratio1 T hr rfl (pa_cons pe_int pa_nil)) (pa_cons (pe_mk_Ratio1 T hr rfl (pa_cons pe_int pa_nil)) (pa_cons (pe_mk_Ratio1 T hr rfl (pa_cons pe_int pa_nil)) (pa_cons (pe_mk_Ratio1 T hr rfl (pa_cons pe_int pa_nil)) pa_nil))))) pa_nil))) pps_nil) (by rfl) (by rfl) (fun z => by cases z) (by decide)))
      (pss_cons (ps_for PassesOwn.never rfl (pi_enum (by rfl) T.f_enumerate (pa_cons (pv 2) pa_nil)) (pg_tup rfl (pgs_cons (pg_name (i := 4) sc_boxes_of.nd rfl (Or.inl rfl)) (pgs_cons (pg_name (i := 5) sc_boxes_of.nd rfl (Or.inl rfl)) pgs_nil))) (pss_cons (ps_if (PW.pt (pw_or (pt_not (pt_val (pe_callB call_isi (by rfl) T.f_isinstance (by decide +kernel) (pa_cons (pv 5) (pa_cons (pe_bltn (v := .ty "tuple") rfl T.f_tuple (by decide +kernel) rfl) pa_nil))))) (pw_or (pt_cmpR op_ne (pe_callB cl_lenSeq (by rfl) T.f_len (by decide +kernel) (pa_cons (pv 5) pa_nil)) pe_int (nomark _)) (pw_or (pt_not (pt_val (pe_cl (cal_is_step T) hr (by decide) rfl (pa_cons (pe_slice sl_tup (pv 5) po_none (po_some pe_int)) (pa_cons (pv 0) pa_nil))))) (pw_or1 (pt_cmp (pc_dnotin (hu1 hr) (pe_ix ix_tup (pv 5) pe_int (fun _ _ => rfl)) (pv 3)))))))) pss_never pss_nil)
      (pss_cons (ps_if (pt_not (pt_val (pe_cl (cal_is_place T) hr (by decide) rfl (pa_cons (pe_ix ix_tup (pv 5) pe_int (fun _ _ => rfl)) (pa_cons (pe_ix ix_tup (pv 5) pe_int (fun _ _ => rfl)) pa_nil))))) pss_never pss_nil)
      (pss_cons (ps_asg (pe_slice sl_tup (pv 5) po_none (po_some pe_int)) (pg_tup rfl (pgs_cons (pg_name (i := 6) sc_boxes_of.nd rfl (Or.inl rfl)) (pgs_cons (pg_name (i := 7) sc_boxes_of.nd rfl (Or.inl rfl)) pgs_nil))))
      (pss_cons (ps_asg (pe_dget (hu1 hr) (pv 3) (pv 6) (fun _ _ => rfl)) (pg_tup rfl (pgs_cons (pg_name (i := 8) sc_boxes_of.nd rfl (Or.inl rfl)) (pgs_cons (pg_name (i := 9) sc_boxes_of.nd rfl (Or.inl rfl)) pgs_nil))))
      (pss_cons (ps_set (i := 10) sc_boxes_of.nd rfl (Or.inl rfl) (pe_mm (met_Book_cut T) hr (by decide) (pv 0) (pa_cons (pv 8) (pa_cons (pv 7) pa_nil))))
      (pss_one (ps_if (pt_cmpR op_ne (pv 10) pe_str (nomark _)) (pss_cons (ps_set (i := 11) sc_boxes_of.nd rfl (Or.inl rfl) (pe_cl (cal_split_box T) hr (by decide) rfl (pa_cons (pv 9) (pa_cons (pe_ix ix_str (pv 10) pe_int (fun _ _ => rfl)) (pa_cons (pe_ix ix_tup (pv 5) pe_int (fun _ _ => rfl)) (pa_cons (pe_ix ix_tup (pv 5) pe_int (fun _ _ => rfl)) pa_nil))))))
      (pss_cons (ps_for PassesOwn.never rfl (pi_enum (by rfl) T.f_enumerate (pa_cons (pe_mm (met_Book_parts T) hr (by decide) (pv 0) (pa_cons (pv 8) (pa_cons (pv 7) pa_nil))) pa_nil)) (pg_tup rfl (pgs_cons (pg_name (i := 12) sc_boxes_of.nd rfl (Or.inl rfl)) (pgs_cons (pg_name (i := 13) sc_boxes_of.nd rfl (Or.inl rfl)) pgs_nil))) (pss_one (ps_dput (hu1 hr) (pv 3) (pe_op op_catS (pv 6) (pe_callTy cl_strI (by rfl) T.f_str (by decide +kernel) (pa_cons (pv 12) pa_nil))) (pe_tup (pa_cons (pv 13) (pa_cons (pe_ix ix_list (pv 11) (pv 12) (fun _ _ => rfl)) pa_nil))) rfl)))
      (pss_one (ps_ddel (pv 3) (pv 6))))) pss_nil))))))))
      (pss_one (ps_ret (pv 3))))))), ?_⟩
  walk_at "go"
  refine ⟨a, b, st, rfl, hb, hst, fun H1 e1 => ?_⟩
  walk_at "go"
  refine ⟨szl (by simp), fun p hp => ?_⟩
  walk_at "go"
  refine isiT_l ((Ex.nw hp) _ _ (e1 _ _ hl)) upd_same ?_
  generalize hH2 : upd H1 p _ = H2
  have e2 : Ex H1 H2 := hH2 ▸ Ex.nw hp
  have e12 := e1.t e2
  walk_at "go"
  refine v_disp1 fun d hd => ?_
  generalize hH3 : upd H2 d _ = H3
  have e3 : Ex H2 H3 := hH3 ▸ Ex.nw hd
  have hd3 : H3 d = some (.dK []) := hH3 ▸ upd_same
  walk_at "go"
  refine mk_rat rfl (by decide) (by decide) fun x0 H4 hx0 e4 g0 => ?_
  walk_at "go"
  refine mk_rat rfl (by decide) (by decide) fun x1 H5 hx1 e5 g1 => ?_
  walk_at "go"
  refine mk_rat rfl (by decide) (by decide) fun x2 H6 hx2 e6 g2 => ?_
  walk_at "go"
  refine mk_rat rfl (by decide) (by decide) fun x3 H7 hx3 e7 g3 => ?_
  walk_at "go"
  refine ⟨szl (by simp), fun bt hbt => ?_⟩
  generalize hH8 : upd H7 bt _ = H8
  have e8 : Ex H7 H8 := hH8 ▸ Ex.nw hbt
  have hbt8 : H8 bt = some (.tup [.ref x0, .ref x1, .ref x2, .ref x3]) := hH8 ▸ upd_same
  walk_at "go"
  refine ⟨szl (by simp), fun rb hrb => ?_⟩
  generalize hH9 : upd H8 rb _ = H9
  have e9 : Ex H8 H9 := hH9 ▸ Ex.nw hrb
  have hrb9 : H9 rb = some (.tup [sV st, .ref bt]) := hH9 ▸ upd_same
  have e49 := e4.t (e5.t (e6.t (e7.t (e8.t e9))))
  refine disp1 (k := .inr (S [])) (e49 _ _ hd3) rfl ?_
  generalize hH10 : upd H9 d _ = H10
  have b10 : ExB d H9 H10 := hH10 ▸ ExB.upd
  have hd10 : H10 d = some (.dK (kvF [([], st, ⟨0, 0, 1, 1⟩, rb)])) := hH10 ▸ upd_same
  have nd : H d = none := e12.none hd
  have e10 : Ex H H10 := (e12.t (e3.t e49)).mut nd b10
  have box9 : HRb K H9 rb st ⟨0, 0, 1, 1⟩ := ⟨bt, hrb9, x0, x1, x2, x3, e9 _ _ hbt8, g0.ex (e5.t (e6.t (e7.t (e8.t e9)))), g1.ex (e6.t (e7.t (e8.t e9))), g2.ex (e7.t (e8.t e9)), g3.ex (e8.t e9)⟩
  have box10 : HRb K H10 rb st ⟨0, 0, 1, 1⟩ := box9.exB b10 (e49 _ _ hd3)
  have fl0 : HFl K H10 d (floor0 st) := ⟨_, hd10, rfl, fun e m => by simp at m; subst m; exact box10⟩
  walk_at "go"
  refine ⟨l, _, rfl, ex_l (e10 _ _ hl), ?_⟩
  refine for_it (walk_enum (K := K) (xs := ts.map fun r : Addr × Stp => V.ref r.1)) (fun i σ H11 => (∃ v5 v6 v7 v8 v9 v10 v11 v12 v13 v14, σ = [some (.ref a), some (sV st), some (.ref l), some (.ref d), v5, v6, v7, v8, v9, v10, v11, v12, v13, v14]) ∧ Ex H H11 ∧ HFl K H11 d (floorAt b st ((ts.map (·.2)).take i))) ⟨⟨_, _, _, _, _, _, _, _, _, _, rfl⟩, e10, fl0⟩ (fun i σ H11 hi q => ex_l (q.2.1 _ _ hl)) ?_ ?_
  · rintro i x σ H11 H12 hi ⟨⟨v5, v6, v7, v8, v9, v10, v11, v12, v13, v14, rfl⟩, e11, hf11⟩ ⟨TT, x', y, rfl, hT, rfl, h1, h2⟩
    cases h1
    have h2 : (ts.map fun r : Addr × Stp => V.ref r.1)[i]? = some y := h2
    rw [List.getElem?_map] at h2
    obtain ⟨⟨ta, s⟩, hti, rfl⟩ := Option.map_eq_some_iff.mp h2
    have hsi : (ts.map (·.2))[i]? = some s := by rw [List.getElem?_map, hti]; rfl
    have htk : (ts.map (·.2)).take (i + 1) = (ts.map (·.2)).take i ++ [s] := by rw [List.take_add_one, hsi]; rfl
    obtain ⟨o1, o2, o3, o4, o5⟩ := hok i s hsi
    have hil : i < ts.length := by simpa using hi
    obtain ⟨fok, fbd⟩ := hok.floor bo hst i (by rw [List.length_map]; omega)
    generalize hF : floorAt b st ((ts.map (·.2)).take i) = F at *
    generalize hD : bots ((ts.map (·.2)).take i) = D at *
    obtain ⟨ad, c, t, bb⟩ := s
    have hta := hts _ (List.mem_of_getElem? hti)
    have e13 : Ex H11 (upd H11 TT (.tup [.int (i : Nat), .ref ta])) := Ex.nw hT
    have hT13 : upd H11 TT (.tup [.int (i : Nat), .ref ta]) TT = some (.tup [.int (i : Nat), .ref ta]) := upd_same
    generalize upd H11 TT (.tup [.int (i : Nat), .ref ta]) = H13 at e13 hT13
    have hta13 : H13 ta = some (.tup [sV ad, sV [c], .int t, .int bb]) := (e11.t e13) _ _ hta
    refine g_tup (ex_t hT13) rfl ?_
    walk_at "go"
    refine isi_tt hta13 ?_
    walk_at "go"
    refine v_lenT (ex_t hta13) ?_
    walk_at "go"
    refine itNT rfl ?_
    walk_at "go"
    refine v_slT hta13 (by simp [HT.sIx]) fun p2 hp2 => ?_
    generalize hH14 : upd H13 p2 _ = H14
    have e14 : Ex H13 H14 := hH14 ▸ Ex.nw hp2
    have hp14 : H14 p2 = some (.tup [sV ad, sV [c]]) := hH14 ▸ upd_same
    have o1 : ad ∈ F.map (·.1) := o1
    have o2 : c ∈ b.ct := o2
    have o3 : 0 < t := o3
    have o4 : t < bb := o4
    have o5 : bb ≤ 2 ^ 20 := o5
    have alen : ad.length ≤ i ∧ ∀ c ∈ ad, c = 48 ∨ c = 49 := by
      obtain ⟨e, he, h1⟩ := List.mem_map.mp o1
      rw [← h1]
      exact fok.adr e he
    have e114 := e13.t e14
    walk_at "go"
    refine ⟨p2, a, b, ad, c, rfl, hb.ex (e11.t e114), hp14, by omega, alen.2, o2, fun H15 e15 => ?_⟩
    have e115 := e114.t e15
    have hta15 : H15 ta = some (.tup [sV ad, sV [c], .int t, .int bb]) := (e14.t e15) _ _ hta13
    walk_at "go"
    refine v_ixTT (i := 0) hta15 rfl ?_
    walk_at "go"
    obtain ⟨L, hLd, rfl, hLe⟩ := hf11.ex e115
    refine ⟨d, _, rfl, DGet.k (k := .inr (S ad)) hLd, ?_⟩
    rw [kvF_some, decide_eq_true o1]
    walk_at "go"
    refine v_ixTT (i := 2) hta15 rfl ?_
    walk_at "go"
    refine v_ixTT (i := 3) hta15 rfl ?_
    walk_at "go"
    refine ⟨t, bb, rfl, o3, o4, ?_⟩
    walk_at "go"
    refine v_slT hta15 (by simp [HT.sIx]) fun p3 hp3 => ?_
    generalize hH16 : upd H15 p3 _ = H16
    have e16 : Ex H15 H16 := hH16 ▸ Ex.nw hp3
    have hp16 : H16 p3 = some (.tup [sV ad, sV [c]]) := hH16 ▸ upd_same
    refine g_tup (ex_t hp16) rfl ?_
    walk_at "go"
    obtain ⟨r, x, hm, hfi, hcase⟩ := stepF_cases (b := b) (s := (ad, c, t, bb)) o1
    obtain ⟨ra, hra, hrb⟩ := kvF_get hLe fok.nd hm
    have hget : DGet H16 d (sV ad) (some (.ref ra)) := hra ▸ DGet.k (k := .inr (S ad)) (e16 _ _ hLd)
    refine ⟨d, _, rfl, hget, ?_⟩
    obtain ⟨bt', hrt, hbox⟩ := hrb.ex e16
    refine g_tup (ex_t hrt) rfl ?_
    walk_at "go"
    have e116 := e115.t e16
    refine mth_book (hb.ex (e11.t e116)) (fun _ _ _ => rfl) ?_
    walk_at "go"
    have hro : RoomOk b.fc r := fok.room _ hm
    refine ⟨a, b, r, c, rfl, hb.ex (e11.t e116), ln6 bo, hro, o2, fun H17 e17 => ?_⟩
    walk_at "go"
    have e117 := e116.t e17
    rw [htk, floorAt_snoc, hF]
    rw [show (Str.ofString "").1.toList = [] from rfl]
    rcases hcase with ⟨hcu, hst'⟩ | ⟨hcu, hst'⟩
    · have hcu : b.cut r c = [] := hcu
      refine itNT hcu ?_
      walk_at "go"
      rw [hst']
      exact ⟨⟨_, _, _, _, _, _, _, _, _, _, rfl⟩, e11.t e117, L, (e16.t e17) _ _ hLd, rfl, hLe.ex (e16.t e17)⟩
    · have hcu : b.cut r c ≠ [] := hcu
      obtain ⟨g, cx, cy, hcut, hg⟩ := cut_ne bo hcu
      refine itNF hcu ?_
      walk_at "go"
      refine v_ixSS (l := b.cut r c) (by rw [hcut]; simp) (by rw [hcut]; exact at0) ?_
      have hta17 := (e16.t e17) _ _ hta15
      walk_at "go"
      refine v_ixTT (i := 2) hta17 rfl ?_
      walk_at "go"
      refine v_ixTT (i := 3) hta17 rfl ?_
      walk_at "go"
      have hDp := fok.pos
      have hDb : D < 2 ^ 1000 := Nat.lt_of_le_of_lt fbd (Nat.pow_lt_pow_right (by decide) (by omega))
      refine ⟨bt', x, g, t, bb, rfl, hbox.ex e17, (fok.bx _ hm).bd hDp hDb, by omega, by omega, by omega, fun bl b0 b1 H18 hbl e18 h18 hx0 hx1 => ?_⟩
      have e118 := e117.t e18
      walk_at "go"
      refine mth_book (hb.ex (e11.t e118)) (fun _ _ _ => rfl) ?_
      walk_at "go"
      refine ⟨a, b, r, c, rfl, hb.ex (e11.t e118), bo, hro, o2, fun pp H19 hpp e19 h19 => ?_⟩
      have e119 := e118.t e19
      have hps : b.parts r c = [part0 r (b.cut r c), part1 r (b.cut r c)] := parts2 hro (cut_ok bo r c) hcu
      rw [hps] at h19
      have hLd19 : H19 d = some (.dK (kvF L)) := (e16.t (e17.t (e18.t e19))) _ _ hLd
      have npd : pp ≠ d := fun e => by
        have := (e16.t (e17.t e18)) _ _ hLd
        rw [← e, hpp] at this; cases this
      have nbd : bl ≠ d := fun e => by
        have := (e16.t e17) _ _ hLd
        rw [← e, hbl] at this; cases this
      walk_at "go"
      refine ⟨pp, _, rfl, ex_l h19, ?_⟩
      have hnew : newF b (ad, c, t, bb) r x = [(ad ++ [48], part0 r (b.cut r c), (splitB x g t bb).1), (ad ++ [49], part1 r (b.cut r c), (splitB x g t bb).2)] := by
        unfold newF
        simp only [hcut]
        rfl
      refine for_it (walk_enum (K := K) (xs := [part0 r (b.cut r c), part1 r (b.cut r c)].map sV)) (fun k σ H20 => (∃ i1 i2, σ = [some (.ref a), some (sV st), some (.ref l), some (.ref d), some (.int (i : Nat)), some (.ref ta), some (sV ad), some (sV [c]), some (sV r), some (.ref bt'), some (sV (b.cut r c)), some (.ref bl), i1, i2]) ∧ Ex H H20 ∧ HFl K H20 d (flF L ++ (newF b (ad, c, t, bb) r x).take k) ∧ H20 bl = some (.lst [.ref b0, .ref b1]) ∧ HBox K H20 b0 (splitB x g t bb).1 ∧ HBox K H20 b1 (splitB x g t bb).2 ∧ H20 pp = some (.lst ([part0 r (b.cut r c), part1 r (b.cut r c)].map sV)))
        ⟨⟨_, _, rfl⟩, e11.t e119, ⟨L, hLd19, by simp, hLe.ex (e16.t (e17.t (e18.t e19)))⟩, e19 _ _ h18, hx0.ex e19, hx1.ex e19, h19⟩ (fun k σ H20 hk q => ex_l q.2.2.2.2.2.2) ?_ ?_
      · rintro k' xx σ H20 H21 hk ⟨⟨i1, i2, rfl⟩, e20, hf20, hbl20, hx020, hx120, hpp20⟩ ⟨TT2, x2', y2, rfl, hT2, rfl, h12, h22⟩
        cases h12
        have h22 : ([part0 r (b.cut r c), part1 r (b.cut r c)].map sV)[k']? = some y2 := h22
        have hk2 : k' < 2 := hk
        obtain ⟨q, xk, bk, hq, hN, hbk, hxk, hstr⟩ : ∃ (q : Tx) (xk : Bx) (bk : Addr), y2 = sV q ∧ (newF b (ad, c, t, bb) r x)[k']? = some (ad ++ [48 + k'], q, xk) ∧ ([V.ref b0, V.ref b1] : List V)[k']? = some (.ref bk) ∧ HBox K H20 bk xk ∧ (V.str (toString ((k' : Nat) : Int))) = sV [48 + k'] := by
          rw [hnew]
          rcases k' with _ | _ | k'
          · cases h22
            exact ⟨_, _, b0, rfl, rfl, rfl, hx020, rfl⟩
          · cases h22
            exact ⟨_, _, b1, rfl, rfl, rfl, hx120, rfl⟩
          · omega
        subst hq
        have e21 : Ex H20 (upd H20 TT2 (.tup [.int (k' : Nat), sV q])) := Ex.nw hT2
        have hT21 : upd H20 TT2 (.tup [.int (k' : Nat), sV q]) TT2 = some (.tup [.int (k' : Nat), sV q]) := upd_same
        generalize upd H20 TT2 (.tup [.int (k' : Nat), sV q]) = H22 at e21 hT21
        refine g_tup (ex_t hT21) rfl ?_
        walk_at "go"
        refine v_ixLL (i := k') (e21 _ _ hbl20) hbk ?_
        walk_at "go"
        refine ⟨szl (by simp), fun tt htt => ?_⟩
        generalize hH23 : upd H22 tt _ = H23
        have e23 : Ex H22 H23 := hH23 ▸ Ex.nw htt
        have htt23 : H23 tt = some (.tup [sV q, .ref bk]) := hH23 ▸ upd_same
        have e223 := e21.t e23
        walk_at "go"
        refine ⟨(k' : Nat), rfl, by rcases k' with _ | _ | k' <;> first | decide | omega, ?_⟩
        rw [hstr]
        refine v_catS (by simp; omega) ?_
        obtain ⟨L20, hLd20, hLF20, hLe20⟩ := hf20
        have hnot : ad ++ [48 + k'] ∉ (flF L20).map (·.1) := by
          rw [hLF20, List.map_append]
          intro hmem
          rcases List.mem_append.mp hmem with hmem | hmem
          · exact fok.new o1 _ hmem
          · rw [hnew] at hmem
            rcases k' with _ | _ | k'
            · simp at hmem
            · simp at hmem
            · omega
        have hl20 : L20.length < 10000000 := by
          have h1 := congrArg List.length hLF20
          have h2 : ((newF b (ad, c, t, bb) r x).take k').length ≤ 2 := by rw [List.length_take, hnew]; simp; omega
          have h3 := fok.len
          unfold flF at h1 h3
          rw [List.length_append, List.length_map] at h1
          omega
        refine ⟨d, _, rfl, DPut.k (k := .inr (S (ad ++ [48 + k']))) (e223 _ _ hLd20) (by rw [sizeLine_eq]; unfold kvF; rw [List.length_map]; omega), ?_⟩
        rw [kvF_put q xk tt hnot]
        generalize hH24 : upd H23 d _ = H24
        have b24 : ExB d H23 H24 := hH24 ▸ ExB.upd
        have hLd24 : H24 d = some (.dK (kvF (L20 ++ [(ad ++ [48 + k'], q, xk, tt)]))) := hH24 ▸ upd_same
        have e24 : Ex H H24 := (e20.t e223).mut nd b24
        have hd23 := e223 _ _ hLd20
        refine ⟨⟨_, _, rfl⟩, e24, ⟨_, hLd24, ?_, ?_⟩, b24 _ _ nbd (e223 _ _ hbl20), (hx020.ex e223).exB b24 hd23, (hx120.ex e223).exB b24 hd23, b24 _ _ npd (e223 _ _ hpp20)⟩
        · rw [List.take_add_one, hN, ← List.append_assoc, ← hLF20]
          simp [flF]
        · intro e he
          rcases List.mem_append.mp he with he | he
          · exact ((hLe20 e he).ex e223).exB b24 hd23
          · simp at he
            subst he
            exact HRb.exB b24 hd23 ⟨bk, htt23, hxk.ex e223⟩
      · rintro σ H20 ⟨⟨i1, i2, rfl⟩, e20, ⟨L20, hLd20, hLF20, hLe20⟩, _⟩
        have hLF20 : flF L20 = flF L ++ newF b (ad, c, t, bb) r x := hLF20
        walk_at "go"
        refine ⟨d, _, .inr (S ad), rfl, hLd20, rfl, ?_, ?_⟩
        · rw [kvF_some, hLF20, List.map_append, decide_eq_true (List.mem_append_left _ o1)]
        · rw [kvF_drop]
          generalize hH24 : upd H20 d _ = H24
          have b24 : ExB d H20 H24 := hH24 ▸ ExB.upd
          have hLd24 : H24 d = some (.dK (kvF (L20.filter fun e => decide (e.1 ≠ ad)))) := hH24 ▸ upd_same
          refine ⟨⟨_, _, _, _, _, _, _, _, _, _, rfl⟩, e20.mut nd b24, _, hLd24, ?_, fun e he => (hLe20 e (List.mem_filter.mp he).1).exB b24 hLd20⟩
          rw [hst', flF_filter, hLF20, List.filter_append]
          congr 1
          rw [hnew]
          simp
  · rintro σ H11 ⟨⟨v5, v6, v7, v8, v9, v10, v11, v12, v13, v14, rfl⟩, e11, hf11⟩
    rw [List.length_map, ← List.length_map (f := (·.2)), List.take_length] at hf11
    walk_at "go"
    exact k d H11 nd e11 hf11
end L2.FW
end
section
set_option maxRecDepth 100000
set_option maxHeartbeats 4000000
/-! meetings, meeting. -/
namespace L2.FW
open PySem PySem.Spec PyProof.Rows Fw
variable {P : Program} {w : World} {K : PySem.W.Frag} {mg : Str → Option Value} {base : Heap}
local macro_rules | `(tactic| walk_at "go1") => `(tactic| first
  | ((with_reducible apply v_var); exact rfl)
  | ((with_reducible apply s_aug); exact rfl)
  | with_reducible first
    | refine v_c ?_ | refine v_cons ?_ | refine v_nil ?_ | refine v_op ?_ | refine v_cb ?_ | refine v_call ?_ | refine v_bl ?_ | refine v_yes ?_
    | refine s_seq ?_ | refine s_ret ?_ | refine s_if ?_ | refine s_asg ?_ | refine g_name ?_ | refine v_test ?_ | refine v_tB ?_
    | refine v_rI0 ?_ | refine v_eqI ?_ | refine v_neI ?_ | refine v_eqS ?_ | refine v_neS ?_ | refine v_int1 ?_ | refine v_bool1 ?_ | refine v_abs ?_ | refine v_isN ?_ | refine v_notN ?_ | refine v_nsign ?_
    | refine v_andV ?_ | refine v_orV ?_ | refine v_notV ?_ | refine v_and ?_ | refine v_or ?_ | refine v_not ?_
    | refine v_if ?_ | refine v_tup ?_ | refine v_lst ?_ | refine v_sl ?_ | refine v_part ?_ | refine v_nopart ?_ | refine v_int ?_ | refine v_dget ?_ | refine v_din ?_ | refine v_dnin ?_
    | refine v_fld ?_ | refine v_meth ?_ | refine v_bm ?_ | refine v_m1 ?_ | refine v_strE ?_ | refine v_un ?_ | refine v_chain ?_ | refine s_next ?_ | refine s_drop ?_ | refine s_retN ?_ | refine s_par ?_ | refine s_par3 ?_
    | refine s_fld ?_ | refine s_dput ?_ | refine s_ddel ?_ | refine g_nil ?_ | refine g_cons ?_ | refine iteT ?_ | refine iteF ?_ | refine iteNT ?_ | refine iteNF ?_
    | refine isi_ss ?_ | refine isi_ii ?_ | refine isi_ib ?_ | refine v_lc ?_ | refine i_str ?_ | refine v_str ?_ | refine i_list ?_ | refine i_zipS ?_ | refine i_zipS3 ?_ | refine i_enumS ?_ | refine i_enum ?_ | refine i_tup ?_ | refine i_rng ?_ | refine s_for ?_ | refine v_star ?_ | refine v_makeR ?_ | refine v_make ?_ | refine v_cval ?_ | refine v_sign ?_)
local macro_rules | `(tactic| walk_at "go") => `(tactic| repeat walk_at "go1")
set_option pp.maxSteps 1200
/-- boxes by address -/
abbrev E3 := Tx × Bx × Addr
def kvB (L : List E3) : List (Key × V) := L.map fun e => (.inr (S e.1), .ref e.2.2)
def bxB (L : List E3) : List (Tx × Bx) := L.map fun e => (e.1, e.2.1)
def HBe (K : PySem.W.Frag) (H : Hp) (L : List E3) : Prop := ∀ e ∈ L, HBox K H e.2.2 e.2.1
theorem HBe.ex {H H' : Hp} {L : List E3} (e : Ex H H') (h : HBe K H L) : HBe K H' L := fun x m => (h x m).ex e
theorem kvB_get {H : Hp} {L : List E3} {q : Tx} (h : HBe K H L) (hm : q ∈ (bxB L).map (·.1)) : ∃ a x, valV (kvB L) (.inr (S q)) = some (.ref a) ∧ (q, x) ∈ bxB L ∧ HBox K H a x := by
  have hv : valV (kvB L) (.inr (S q)) = (L.find? fun e => decide (e.1 = q)).map fun e => V.ref e.2.2 := by
    unfold valV kvB
    rw [List.find?_map]
    simp only [Function.comp_def]
    have : (fun e : E3 => decide ((Sum.inr (S e.1) : Key) = .inr (S q))) = fun e => decide (e.1 = q) := by
      funext e
      by_cases h : e.1 = q
      · simp [h]
      · have : ¬ (S e.1 = S q) := fun x => h (SX.S_inj x)
        simp [h, this]
    rw [this]
    cases L.find? _ <;> rfl
  cases hf : L.find? (fun e => decide (e.1 = q)) with
  | none =>
    obtain ⟨e, he, rfl⟩ := List.mem_map.mp hm
    obtain ⟨e', he', rfl⟩ := List.mem_map.mp he
    have := List.find?_eq_none.mp hf e' he'
    simp at this
  | some e =>
    have h1 := List.mem_of_find?_eq_some hf
    have h2 : e.1 = q := of_decide_eq_true (List.find?_some (p := fun e : E3 => decide (e.1 = q)) hf)
    subst h2
    rw [hv, hf]
    exact ⟨_, _, rfl, List.mem_map.mpr ⟨e, h1, rfl⟩, h e h1⟩
/-- a triple that is told: the sign between the boxes of its two addresses -/
def Meets (B : List (Tx × Bx)) (z : Tri) : Prop := ∃ x y, (z.2.1, x) ∈ B ∧ (z.2.2, y) ∈ B ∧ z.1 = signB x y ∧ z.1 ≠ []
theorem tris_of {H : Hp} {R : Tri → Prop} : ∀ {ys : List V}, (∀ y ∈ ys, ∃ t z, y = .ref t ∧ H t = some (.tup (triV z)) ∧ R z) → ∃ rs : List (Addr × Tri), ys = rs.map (fun r => V.ref r.1) ∧ HTri H rs ∧ ∀ r ∈ rs, R r.2
  | [], _ => ⟨[], rfl, (fun r m => nomatch m), (fun r m => nomatch m)⟩
  | y :: ys, h => by
    obtain ⟨t, z, rfl, h1, h2⟩ := h y List.mem_cons_self
    obtain ⟨rs, rfl, h3, h4⟩ := tris_of (ys := ys) fun y m => h y (List.mem_cons_of_mem _ m)
    refine ⟨(t, z) :: rs, rfl, fun r m => ?_, fun r m => ?_⟩
    · rcases List.mem_cons.mp m with rfl | m
      · exact h1
      · exact h3 r m
    · rcases List.mem_cons.mp m with rfl | m
      · exact h2
      · exact h4 r m
def triK (H : Hp) : V → Str × Str × Str
  | .ref t => match H t with
    | some (.tup [.str a, .str b, .str c]) => (a, b, c)
    | _ => ("", "", "")
  | _ => ("", "", "")
/-- sorted(keys), as in reached -/
theorem keys_sorted {kvs : List Tx} {ys : List Str} (hp : ys.Perm (kvs.map S)) : ∃ zs : List Tx, ys = zs.map S ∧ zs.Perm kvs := by
  have hys : ys = (ys.map fun y => y.cps.toList).map S := by
    rw [List.map_map]
    have : (S ∘ fun y : Str => y.cps.toList) = id := by
      funext y
      show (⟨y.cps.toList.toArray⟩ : Str) = y
      simp
    rw [this, List.map_id]
  refine ⟨_, hys, ?_⟩
  have := hp.map fun y : Str => y.cps.toList
  rw [List.map_map] at this
  have h2 : ((fun y : Str => y.cps.toList) ∘ S) = id := by funext z; exact cps_S z
  rw [h2, List.map_id] at this
  exact this
def spMeetings (K : PySem.W.Frag) : Sp := fun vs H Q _ => ∃ (d : Addr) (L : List E3), vs = [.ref d] ∧ H d = some (.dK (kvB L)) ∧ HBe K H L ∧ (∀ e ∈ L, e.2.1.Bd 1000) ∧ L.length ≤ 100 ∧
  ∀ l rs H', H l = none → Ex H H' → H' l = some (.lst (rs.map fun r : Addr × Tri => V.ref r.1)) → HTri H' rs → (∀ r ∈ rs, Meets (bxB L) r.2) → rs.length ≤ 10000 → Q (.ref l) H'
/-! meetings: slots boxes 0 found 1 one 2 other 3 sign 4 -/
theorem sc_meetings : FnScope ["boxes", "found", "one", "other", "sign"] ["boxes"] (defScope (top 49)) := C8.fnScope_by (by decide +kernel)
theorem cal_meetings (T : T w K mg) : Cal P w K mg base 4 "meetings" (spMeetings K) := by
  refine calD T.d_meetings T.g_meetings sc_meetings (fun vs H Q E h => ?_) (fun _ _ _ _ _ _ us hl => match us, hl with | [_], _ => rfl) (fun cdv A outer s H vs Q E hr h => ?_)
  · obtain ⟨_, _, rfl, _⟩ := h; rfl
  obtain ⟨d, L, rfl, hd, hL, hbd, hn, k⟩ := h
  refine ⟨_, (pss_cons (ps_set (i := 1) sc_meetings.nd rfl (Or.inl rfl) (pe_lst pa_nil))
      (pss_cons (ps_for PassesOwn.never rfl (pi_list (pe_callB cr_sortS (by rfl) T.f_sorted (by decide +kernel) (pa_cons (pe_callTy (call_list_dK rfl) (by rfl) T.f_list (by decide +kernel) (pa_cons (pv 0) pa_nil)) pa_nil))) (pg_name (i := 2) sc_meetings.nd rfl (Or.inl rfl)) (pss_one (ps_for PassesOwn.never rfl (pi_list (pe_callB cr_sortS (by rfl) T.f_sorted (by decide +kernel) (pa_cons (pe_callTy (call_list_dK rfl) (by rfl) T.f_list (by decide +kernel) (pa_cons (pv 0) pa_nil)) pa_nil))) (pg_name (i := 3) sc_meetings.nd rfl (Or.inl rfl)) (pss_cons (ps_set (i := 4) sc_meetings.nd rfl (Or.inl rfl) (pe_cl (cal_sign_between T) hr (by decide) rfl (pa_cons (pe_dget (hu1 hr) (pv 0) (pv 2) (fun _ _ => rfl)) (pa_cons (pe_dget (hu1 hr) (pv 0) (pv 3) (fun _ _ => rfl)) pa_nil))))
      (pss_one (ps_if (pt_cmpR op_ne (pv 4) pe_str (nomark _)) (pss_one (ps_expr (pe_bm PySem.F.plainAttrs_list PySem.F.slot_list_append PySem.F.type_list_append mt_append (pv 1) (pa_cons (pe_tup (pa_cons (pv 4) (pa_cons (pv 2) (pa_cons (pv 3) pa_nil)))) pa_nil)))) pss_nil))))))
      (pss_one (ps_ret (pe_callB cr_sortT3 (by rfl) T.f_sorted (by decide +kernel) (pa_cons (pv 1) pa_nil)))))), ?_⟩
  walk_at "go"
  refine ⟨szl (by simp), fun f hf => ?_⟩
  generalize hH1 : upd H f _ = H1
  have e1 : Ex H H1 := hH1 ▸ Ex.nw hf
  have hf1 : H1 f = some (.lst []) := hH1 ▸ upd_same
  have hkeys : (kvB L).map (fun kv => kV kv.1) = (((bxB L).map (·.1)).map S).map V.str := by simp [kvB, bxB, kV]
  have hbl : ((bxB L).map (·.1)).length = L.length := by simp [bxB]
  walk_at "go"
  refine ⟨d, _, rfl, e1 _ _ hd, fun l1 hl1 => ?_⟩
  rw [hkeys]
  walk_at "go"
  refine ⟨l1, _, rfl, ex_l upd_same, fun ys p hp _ hpn => ?_⟩
  obtain ⟨zs, rfl, hz⟩ := keys_sorted hp
  generalize hH2 : upd (upd H1 l1 _) p _ = H2
  have e2 : Ex H1 H2 := hH2 ▸ (Ex.nw hl1).t (Ex.nw hpn)
  have hp2 : H2 p = some (.lst (zs.map sV)) := by rw [← hH2, upd_same, List.map_map]; rfl
  have hzl : zs.length ≤ 100 := by rw [hz.length_eq, hbl]; exact hn
  refine ⟨p, rfl, ⟨_, ex_l hp2⟩, ?_⟩
  have inB : ∀ z ∈ zs, z ∈ (bxB L).map (·.1) := fun z m => hz.mem_iff.mp m
  let Iv : Nat → Hp → Prop := fun n H3 => Ex H H3 ∧ H3 p = some (.lst (zs.map sV)) ∧ ∃ rs : List (Addr × Tri), H3 f = some (.lst (rs.map fun r => V.ref r.1)) ∧ HTri H3 rs ∧ (∀ r ∈ rs, Meets (bxB L) r.2) ∧ rs.length ≤ n
  have npf : p ≠ f := fun e => by
    have := (Ex.nw (o := .lst ((((bxB L).map (·.1)).map S).map V.str)) hl1) _ _ hf1
    rw [← e, hpn] at this; cases this
  refine for_it (walk_list (K := K) (xs := zs.map sV)) (fun i σ H3 => (∃ u v x, σ = [some (.ref d), some (.ref f), u, v, x]) ∧ Iv (100 * i) H3) ⟨⟨_, _, _, rfl⟩, e1.t e2, hp2, [], e2 _ _ hf1, (fun r m => nomatch m), (fun r m => nomatch m), Nat.zero_le _⟩ (fun i σ H3 hi q => ex_l q.2.2.1) ?_ ?_
  · rintro i x σ H3 H4 hi ⟨⟨u, v, y, rfl⟩, e3, hp3, rs, hf3, hrs3, hme, hrl⟩ ⟨rfl, hx⟩
    rw [List.getElem?_map] at hx
    obtain ⟨one, hone, rfl⟩ := Option.map_eq_some_iff.mp hx
    have hil : i < zs.length := (List.getElem?_eq_some_iff.mp hone).1
    walk_at "go"
    refine ⟨d, _, rfl, e3 _ _ hd, fun l2 hl2 => ?_⟩
    rw [hkeys]
    walk_at "go"
    refine ⟨l2, _, rfl, ex_l upd_same, fun ys p2 hp' _ hpn2 => ?_⟩
    obtain ⟨zs2, rfl, hz2⟩ := keys_sorted hp'
    generalize hH5 : upd (upd H4 l2 _) p2 _ = H5
    have e5 : Ex H4 H5 := hH5 ▸ (Ex.nw hl2).t (Ex.nw hpn2)
    have hp5 : H5 p2 = some (.lst (zs2.map sV)) := by rw [← hH5, upd_same, List.map_map]; rfl
    have hzl2 : zs2.length ≤ 100 := by rw [hz2.length_eq, hbl]; exact hn
    have np2f : p2 ≠ f := fun e => by
      have := (Ex.nw (o := .lst ((((bxB L).map (·.1)).map S).map V.str)) hl2) _ _ hf3
      rw [← e, hpn2] at this; cases this
    have inB2 : ∀ z ∈ zs2, z ∈ (bxB L).map (·.1) := fun z m => hz2.mem_iff.mp m
    refine ⟨p2, rfl, ⟨_, ex_l hp5⟩, ?_⟩
    refine for_it (walk_list (K := K) (xs := zs2.map sV)) (fun j σ H6 => (∃ v x, σ = [some (.ref d), some (.ref f), some (sV one), v, x]) ∧ H6 p2 = some (.lst (zs2.map sV)) ∧ Iv (100 * i + j) H6) ⟨⟨_, _, rfl⟩, hp5, e3.t e5, e5 _ _ hp3, rs, e5 _ _ hf3, hrs3.ex e5, hme, hrl⟩ (fun j σ H6 hj q => ex_l q.2.1) ?_ ?_
    · rintro j x σ H6 H7 hj ⟨⟨v, y, rfl⟩, hp6, e6, hp36, rs, hf6, hrs6, hme, hrl⟩ ⟨rfl, hx⟩
      rw [List.getElem?_map] at hx
      obtain ⟨other, hother, rfl⟩ := Option.map_eq_some_iff.mp hx
      have hjl : j < zs2.length := (List.getElem?_eq_some_iff.mp hother).1
      obtain ⟨a1, x1, hv1, hm1, hb1⟩ := kvB_get (hL.ex e6) (inB one (List.mem_of_getElem? hone))
      obtain ⟨a2, x2, hv2, hm2, hb2⟩ := kvB_get (hL.ex e6) (inB2 other (List.mem_of_getElem? hother))
      have bd : ∀ {q : Tx} {x : Bx}, (q, x) ∈ bxB L → x.Bd 1000 := fun {q x} hm => by
        obtain ⟨e, he, h⟩ := List.mem_map.mp hm
        cases h
        exact hbd e he
      walk_at "go"
      refine ⟨d, .ref a1, rfl, hv1 ▸ DGet.k (k := .inr (S one)) (e6 _ _ hd), ?_⟩
      walk_at "go"
      refine ⟨d, .ref a2, rfl, hv2 ▸ DGet.k (k := .inr (S other)) (e6 _ _ hd), ?_⟩
      walk_at "go"
      refine ⟨a1, a2, x1, x2, rfl, hb1, hb2, bd hm1, bd hm2, ?_⟩
      walk_at "go"
      rw [show (Str.ofString "").1.toList = [] from rfl]
      by_cases hs : signB x1 x2 = []
      · refine itNT hs ?_
        walk_at "go"
        exact ⟨⟨_, _, rfl⟩, hp6, e6, hp36, rs, hf6, hrs6, hme, by omega⟩
      · refine itNF hs ?_
        walk_at "go"
        refine ⟨ty_l hf6, ?_⟩
        walk_at "go"
        refine ⟨szl (by simp), fun t ht => ?_⟩
        generalize hH8 : upd H7 t _ = H8
        have e8 : Ex H7 H8 := hH8 ▸ Ex.nw ht
        have ht8 : H8 t = some (.tup (triV (signB x1 x2, one, other))) := hH8 ▸ upd_same
        walk_at "go"
        refine v_append (e8 _ _ hf6) (by rw [List.length_map]; omega) ?_
        generalize hH9 : upd H8 f _ = H9
        have b9 : ExB f H8 H9 := hH9 ▸ ExB.upd
        have hf9 : H9 f = some (.lst ((rs ++ [(t, (signB x1 x2, one, other))]).map fun r : Addr × Tri => V.ref r.1)) := by rw [← hH9, upd_same, List.map_append]; rfl
        have keep : ∀ (r : Addr) xs, H8 r = some (.tup xs) → H9 r = some (.tup xs) := fun r xs h => b9 _ _ (fun e => by rw [e, e8 _ _ hf6] at h; cases h) h
        refine ⟨⟨_, _, rfl⟩, b9 _ _ np2f (e8 _ _ hp6), (e6.t e8).mut hf b9, b9 _ _ npf (e8 _ _ hp36), _, hf9, ?_, ?_, ?_⟩
        · intro r m
          rcases List.mem_append.mp m with m | m
          · exact keep _ _ (e8 _ _ (hrs6 r m))
          · simp at m; subst m; exact keep _ _ ht8
        · intro r m
          rcases List.mem_append.mp m with m | m
          · exact hme r m
          · simp at m; subst m; exact ⟨x1, x2, hm1, hm2, rfl, hs⟩
        · rw [List.length_append]
          show rs.length + 1 ≤ _
          omega
    · rintro σ H6 ⟨⟨v, y, rfl⟩, hp6, e6, hp36, rs, hf6, hrs6, hme, hrl⟩
      rw [List.length_map] at hrl
      exact ⟨⟨_, _, _, rfl⟩, e6, hp36, rs, hf6, hrs6, hme, by omega⟩
  · rintro σ H3 ⟨⟨u, v, y, rfl⟩, e3, hp3, rs, hf3, hrs3, hme, hrl⟩
    rw [List.length_map] at hrl
    walk_at "go"
    refine ⟨f, _, triK H3, rfl, ex_l hf3, fun x hx => ?_, fun ys l hp hl => ?_⟩
    · obtain ⟨r, hr', rfl⟩ := List.mem_map.mp hx
      have h1 := hrs3 r hr'
      refine ⟨r.1, rfl, ?_⟩
      have : triK H3 (.ref r.1) = (S r.2.1, S r.2.2.1, S r.2.2.2) := by
        unfold triK
        show (match H3 r.1 with
          | some (HO.tup [V.str a, V.str b, V.str c]) => (a, b, c)
          | x => (Str.ofString "", Str.ofString "", Str.ofString "")) = _
        rw [h1]
        rfl
      rw [this]
      exact h1
    · have hys : ∀ y ∈ ys, ∃ t z, y = V.ref t ∧ (upd H3 l (.lst ys)) t = some (.tup (triV z)) ∧ Meets (bxB L) z := fun y hy => by
        obtain ⟨r, hr', rfl⟩ := List.mem_map.mp (hp.mem_iff.mp hy)
        exact ⟨r.1, r.2, rfl, (Ex.nw hl) _ _ (hrs3 r hr'), hme r hr'⟩
      obtain ⟨rs', h1, h2, h3⟩ := tris_of hys
      refine k l rs' _ (e3.none hl) (e3.t (Ex.nw hl)) (by rw [upd_same, h1]) h2 h3 ?_
      have := hp.length_eq
      rw [h1, List.length_map, List.length_map] at this
      omega
def bxF (F : Fl) : List (Tx × Bx) := F.map fun e => (e.1, e.2.2)
def spMeeting (K : PySem.W.Frag) : Sp := fun vs H Q _ => ∃ (a l : Addr) (b : Bk) (st : Tx) (ts : List (Addr × Stp)), vs = [.ref a, sV st, .ref l] ∧ HBook K H a b ∧ BkOk b ∧ RoomOk b.fc st ∧ H l = some (.lst (ts.map fun r => V.ref r.1)) ∧ HSp H ts ∧ ts.length ≤ 40 ∧ StepsOk b st (ts.map (·.2)) ∧
  ∀ l rs H', H l = none → Ex H H' → H' l = some (.lst (rs.map fun r : Addr × Tri => V.ref r.1)) → HTri H' rs → (∀ r ∈ rs, Meets (bxF (floorAt b st (ts.map (·.2)))) r.2) → rs.length ≤ 10000 → Q (.ref l) H'
theorem v_dc {σ : L2.St} {H : Hp} {Q : VK} {wi : TI} {g : TG} {tt : TT} {tk tv : TE} {vs : List Nat} (q : wi σ H fun J H1 => ∀ D, H1 D = none → ∃ W : Nat → Nat → Hp → Prop, (∃ m, W 0 m (upd H1 D (.dK []))) ∧ ∀ i m H, W i m H →
  (J.stop i H ∧ Q (.ref D) H) ∨ (J.go i H ∧ ∃ Nx : Hp → Prop, (∀ H', Nx H' → ∃ m', m' < m ∧ W (i + 1) m' H') ∧ ∀ x H', J.yld i H x H' → g x (wipe σ vs) H' fun σ2 H2 => wipe σ2 vs = wipe σ vs ∧ tt σ2 H2 fun b H3 =>
    if b = true then tk σ2 H3 fun y H4 => tv σ2 H4 fun z H5 => ∃ kvs k, y = kV k ∧ H5 D = some (.dK kvs) ∧ kvs.length < sizeLine ∧ Nx (upd H5 D (.dK (putK kvs k z))) else Nx H3)) : tDc wi g tt tk tv vs σ H Q := q
theorem HRat.exO {H H' : Hp} {a d : Addr} {q : Rat} {o : HO} (e : ExB d H H') (hd : H d = some o) (n2 : ∀ C dx fs, o ≠ .ins C dx fs) (h : HRat K H a q) : HRat K H' a q := h.exB e hd n2
theorem HBox.exO {H H' : Hp} {t d : Addr} {x : Bx} {o : HO} (e : ExB d H H') (hd : H d = some o) (n1 : ∀ xs, o ≠ .tup xs) (n2 : ∀ C dx fs, o ≠ .ins C dx fs) (h : HBox K H t x) : HBox K H' t x := by
  obtain ⟨a0, a1, a2, a3, h1, h2, h3, h4, h5⟩ := h
  exact ⟨a0, a1, a2, a3, e _ _ (fun e => by rw [e, hd] at h1; exact n1 _ (Option.some.inj h1)) h1, h2.exB e hd n2, h3.exB e hd n2, h4.exB e hd n2, h5.exB e hd n2⟩
theorem kvB_put {L : List E3} {q : Tx} (x : Bx) (a : Addr) (h : q ∉ (bxB L).map (·.1)) : putK (kvB L) (.inr (S q)) (.ref a) = kvB (L ++ [(q, x, a)]) := by
  unfold putK
  have : ((kvB L).any fun kv => decide (kv.1 = .inr (S q))) = false := by
    rw [List.any_eq_false]
    intro kv hkv e
    obtain ⟨e', he', rfl⟩ := List.mem_map.mp hkv
    have e := of_decide_eq_true e
    have e2 : S e'.1 = S q := by
      have e : (Sum.inr (S e'.1) : Key) = .inr (S q) := e
      injection e
    apply h
    rw [← SX.S_inj e2]
    exact List.mem_map.mpr ⟨_, List.mem_map.mpr ⟨e', he', rfl⟩, rfl⟩
  rw [this, if_neg (by simp)]
  simp [kvB]
theorem dc_it {J : It} {n : Nat} {G : Hp → Prop} {Y : Nat → Hp → V → Hp → Prop} (w : Walk J n G Y) {g : TG} {tt : TT} {tk tv : TE} {vs : List Nat} {σ : L2.St} {H1 : Hp} {D : Addr} {Qd : Hp → Prop} (Pv : Nat → Hp → Prop) (h0 : Pv 0 (upd H1 D (.dK []))) (hG : ∀ i H, i ≤ n → Pv i H → G H)
    (hs : ∀ i x H H', i < n → Pv i H → Y i H x H' → g x (wipe σ vs) H' fun σ2 H2 => wipe σ2 vs = wipe σ vs ∧ tt σ2 H2 fun b H3 =>
      if b = true then tk σ2 H3 fun y H4 => tv σ2 H4 fun z H5 => ∃ kvs k, y = kV k ∧ H5 D = some (.dK kvs) ∧ kvs.length < sizeLine ∧ Pv (i + 1) (upd H5 D (.dK (putK kvs k z))) else Pv (i + 1) H3) (hd : ∀ H, Pv n H → Qd H) :
    ∃ W : Nat → Nat → Hp → Prop, (∃ m, W 0 m (upd H1 D (.dK []))) ∧ ∀ i m H, W i m H →
      (J.stop i H ∧ Qd H) ∨ (J.go i H ∧ ∃ Nx : Hp → Prop, (∀ H', Nx H' → ∃ m', m' < m ∧ W (i + 1) m' H') ∧ ∀ x H', J.yld i H x H' → g x (wipe σ vs) H' fun σ2 H2 => wipe σ2 vs = wipe σ vs ∧ tt σ2 H2 fun b H3 =>
        if b = true then tk σ2 H3 fun y H4 => tv σ2 H4 fun z H5 => ∃ kvs k, y = kV k ∧ H5 D = some (.dK kvs) ∧ kvs.length < sizeLine ∧ Nx (upd H5 D (.dK (putK kvs k z))) else Nx H3) := by
  refine ⟨fun i m H => m = n - i ∧ i ≤ n ∧ Pv i H, ⟨n, by simp, Nat.zero_le _, h0⟩, ?_⟩
  rintro i m H ⟨rfl, hi, p⟩
  have q := hG i H hi p
  by_cases hlt : i < n
  · exact .inr ⟨w.goes i H hlt q, Pv (i + 1), fun H' p' => ⟨n - (i + 1), by omega, rfl, hlt, p'⟩, fun x H' y => hs i x H H' hlt p (w.yields i H x H' hlt q y)⟩
  · have e : i = n := by omega
    subst e
    exact .inl ⟨w.stops H q, hd H p⟩
/-! meeting: slots book 0 start 1 steps 2 found 3 address 4 -/
theorem sc_meeting : FnScope ["book", "start", "steps", "found", "address"] ["book", "start", "steps"] (defScope (top 50)) := C8.fnScope_by (by decide +kernel)
theorem cal_meeting (T : T w K mg) : Cal P w K mg base 8 "meeting" (spMeeting K) := by
  refine calD T.d_meeting T.g_meeting sc_meeting (fun vs H Q E h => ?_) (fun _ _ _ _ _ _ us hl => match us, hl with | [_, _, _], _ => rfl) (fun cdv A outer s H vs Q E hr h => ?_)
  · obtain ⟨_, _, _, _, _, rfl, _⟩ := h; rfl
  obtain ⟨a, l, b, st, ts, rfl, hb, bo, hst, hl, hts, hn, hok, k⟩ := h
  refine ⟨_, (pss_cons (ps_set (i := 3) sc_meeting.nd rfl (Or.inr rfl) (pe_cl (cal_boxes_of T) hr (by decide) rfl (pa_cons (pv 0) (pa_cons (pv 1) (pa_cons (pv 2) pa_nil)))))
      (pss_one (ps_ret (pe_cl (cal_meetings T) hr (by decide) rfl (pa_cons (pe_lock (pe_dc (own := [("address", 4)]) (g := gName 4) (by rfl) sc_meeting.nd (pi_keys (pv 3)) (blkOk_by (own := [("address", 4)]) (N := ["book", "start", "steps", "found", "address"]) (sc := defScope (top 50)) (by decide +kernel)) (fun _ _ _ _ _ => (pg_name (i := 4) sc_meeting.nd rfl (Or.inl rfl))) (fun _ _ _ _ _ => pts_nil) (fun _ _ _ _ _ => (pv 4)) (fun _ _ _ _ _ => (show PE _ _ (tOp (rIxT K) (tDGet (tVar 3) (tVar 4)) (tC (.int 1))) from pe_ix ix_tup (pe_dget (hu1 hr) (pv 3) (pv 4) (fun _ _ => rfl)) pe_int (fun _ _ => rfl))))) pa_nil))))), ?_⟩
  walk_at "go"
  refine ⟨a, l, b, st, ts, rfl, hb, bo, hst, hl, hts, hn, hok, fun d H1 hd e1 hf => ?_⟩
  obtain ⟨L, hLd, hLF, hLe⟩ := hf
  walk_at "go"
  refine ⟨d, .dK (kvF L), hLd, trivial, fun od => ?_⟩
  generalize hHf : upd H1 d _ = Hf
  have bf : ExB d H1 Hf := hHf ▸ ExB.upd
  have hdf : Hf d = some (.frz od (.dK (kvF L))) := hHf ▸ upd_same
  have hLf : HFe K Hf L := fun e he => (hLe e he).exB bf hLd
  refine v_dc ?_
  walk_at "go"
  refine i_keys ?_
  walk_at "go"
  refine ⟨d, od, rfl, .inl ⟨kvF L, hdf, fun D hD => ?_⟩⟩
  have ndD : d ≠ D := fun e => by rw [← e, hdf] at hD; cases hD
  have fok := (hok.floor bo hst (ts.map (·.2)).length (Nat.le_refl _)).1
  have fbd := (hok.floor bo hst (ts.map (·.2)).length (Nat.le_refl _)).2
  rw [List.take_length, ← hLF] at fok
  rw [List.take_length] at fbd
  refine dc_it walk_keys (fun i H2 => Ex Hf H2 ∧ ∃ M : List E3, H2 D = some (.dK (kvB M)) ∧ bxB M = (bxF (flF L)).take i ∧ HBe K H2 M) ⟨Ex.nw hD, [], upd_same, rfl, fun r m => nomatch m⟩ (fun i H2 hi q => q.1 _ _ hdf) ?_ ?_
  · rintro i x H2 H3 hi ⟨e2, M, hM, hMb, hMe⟩ ⟨rfl, kk, v, hkv, rfl⟩
    have hkv : (kvF L)[i]? = some (kk, v) := hkv
    unfold kvF at hkv
    rw [List.getElem?_map] at hkv
    obtain ⟨⟨q, r, bx, ra⟩, hLi, hkv⟩ := Option.map_eq_some_iff.mp hkv
    cases hkv
    have hm := List.mem_of_getElem? hLi
    obtain ⟨bt, hra, hbt⟩ := hLf _ hm
    have hil : i < L.length := (List.getElem?_eq_some_iff.mp hLi).1
    obtain ⟨ra', hv', hrb'⟩ := kvF_get hLf fok.nd (q := q) (r := r) (x := bx) (List.mem_map.mpr ⟨_, hm, rfl⟩)
    obtain ⟨bt', hra', hbt'⟩ := hrb'
    walk_at "go"
    refine ⟨rfl, ?_⟩
    walk_at "go"
    refine ⟨d, .ref ra', rfl, .inl ⟨kvF L, .inr (S q), .inr ⟨od, e2 _ _ hdf⟩, rfl, hv'.symm⟩, ?_⟩
    walk_at "go"
    refine v_ixTT (i := 1) (e2 _ _ hra') rfl ?_
    have hbF : (bxF (flF L))[i]? = some (q, bx) := by
      unfold bxF flF
      rw [List.map_map, List.getElem?_map, hLi]
      rfl
    have hnd : ((bxF (flF L)).map (·.1)).Nodup := by
      have := fok.nd
      unfold bxF
      rw [List.map_map]
      exact this
    have hnot : q ∉ (bxB M).map (·.1) := by
      rw [hMb]
      intro hmem
      obtain ⟨e, he, h1⟩ := List.mem_map.mp hmem
      obtain ⟨j, hj⟩ := List.mem_iff_getElem?.mp he
      have hj' := (List.getElem?_eq_some_iff.mp hj).1
      rw [List.length_take] at hj'
      rw [List.getElem?_take_of_lt (by omega)] at hj
      have a1 : ((bxF (flF L)).map (·.1))[i]? = some q := by rw [List.getElem?_map, hbF]; rfl
      have a2 : ((bxF (flF L)).map (·.1))[j]? = some q := by rw [List.getElem?_map, hj]; exact congrArg some h1
      obtain ⟨b1, c1⟩ := List.getElem?_eq_some_iff.mp a1
      obtain ⟨b2, c2⟩ := List.getElem?_eq_some_iff.mp a2
      have := (List.getElem_inj hnd).mp (c1.trans c2.symm)
      omega
    have hMl : M.length < 10000000 := by
      have h1 := congrArg List.length hMb
      unfold bxB at h1
      rw [List.length_map, List.length_take] at h1
      have h3 := fok.len
      unfold flF at h3
      rw [List.length_map, List.length_map] at h3
      omega
    refine ⟨kvB M, .inr (S q), rfl, hM, by unfold kvB; rw [List.length_map, sizeLine_eq]; omega, ?_⟩
    rw [kvB_put bx bt' hnot]
    refine ⟨e2.up hD, _, upd_same, ?_, ?_⟩
    · rw [List.take_add_one, hbF, ← hMb]
      simp [bxB]
    · intro e he
      rcases List.mem_append.mp he with he | he
      · exact (hMe e he).exB ExB.upd hM
      · simp at he
        subst he
        exact (hbt'.ex e2).exB ExB.upd hM
  · rintro H2 ⟨e2, M, hM, hMb, hMe⟩
    have hlen : (kvF L).length = (bxF (flF L)).length := by simp [kvF, bxF, flF]
    rw [hlen, List.take_length] at hMb
    have hd2 := e2 _ _ hdf
    refine ⟨hd2, ?_⟩
    generalize hH3 : upd H2 d _ = H3
    have b3 : ExB d H2 H3 := hH3 ▸ ExB.upd
    have hd3 : H3 d = some (.dK (kvF L)) := hH3 ▸ upd_same
    have e3 : Ex H1 H3 := fun c o h => by
      by_cases hc : c = d
      · rw [hc, hLd] at h
        rw [hc, hd3]
        exact h
      · exact b3 _ _ hc (e2 _ _ (bf _ _ hc h))
    have hM3 : H3 D = some (.dK (kvB M)) := b3 _ _ ndD.symm hM
    have hMe3 : HBe K H3 M := fun e he => (hMe e he).exO b3 hd2 (fun _ h => nomatch h) (fun _ _ _ h => nomatch h)
    walk_at "go"
    refine ⟨D, M, rfl, hM3, hMe3, fun e he => ?_, ?_, fun l' rs H' h1 h2 h3 h4 h5 h6 => ?_⟩
    · have : (e.1, e.2.1) ∈ bxF (flF L) := by rw [← hMb]; exact List.mem_map.mpr ⟨e, he, rfl⟩
      obtain ⟨e', he', h⟩ := List.mem_map.mp this
      have := fok.bx e' he'
      injection h with ha hb
      rw [← hb]
      refine this.bd fok.pos (Nat.lt_of_le_of_lt fbd (Nat.pow_lt_pow_right (by decide) ?_))
      rw [List.length_map]
      omega
    · have h1 := congrArg List.length hMb
      unfold bxB at h1
      rw [List.length_map] at h1
      have h3 := fok.len
      unfold bxF at h1
      rw [List.length_map] at h1 h3
      omega
    · rw [hMb, hLF] at h5
      exact k l' rs H' (e1.none (e3.none h1)) (e1.t (e3.t h2)) h3 h4 h5 h6
end L2.FW
end
section
set_option maxRecDepth 100000
set_option maxHeartbeats 4000000
/-! half_steps, held_steps. -/
namespace L2.FW
open PySem PySem.Spec PyProof.Rows Fw
variable {P : Program} {w : World} {K : PySem.W.Frag} {mg : Str → Option Value} {base : Heap}
local macro_rules | `(tactic| walk_at "go1") => `(tactic| first
  | ((with_reducible apply v_var); exact rfl)
  | ((with_reducible apply s_aug); exact rfl)
  | with_reducible first
    | refine v_c ?_ | refine v_cons ?_ | refine v_nil ?_ | refine v_op ?_ | refine v_cb ?_ | refine v_call ?_ | refine v_bl ?_ | refine v_yes ?_
    | refine s_seq ?_ | refine s_ret ?_ | refine s_if ?_ | refine s_asg ?_ | refine g_name ?_ | refine v_test ?_ | refine v_tB ?_
    | refine v_rI0 ?_ | refine v_eqI ?_ | refine v_neI ?_ | refine v_eqS ?_ | refine v_neS ?_ | refine v_int1 ?_ | refine v_bool1 ?_ | refine v_abs ?_ | refine v_isN ?_ | refine v_notN ?_ | refine v_nsign ?_
    | refine v_andV ?_ | refine v_orV ?_ | refine v_notV ?_ | refine v_and ?_ | refine v_or ?_ | refine v_not ?_
    | refine v_if ?_ | refine v_tup ?_ | refine v_lst ?_ | refine v_sl ?_ | refine v_part ?_ | refine v_nopart ?_ | refine v_int ?_ | refine v_dget ?_ | refine v_din ?_ | refine v_dnin ?_
    | refine v_fld ?_ | refine v_meth ?_ | refine v_bm ?_ | refine v_m1 ?_ | refine v_strE ?_ | refine v_un ?_ | refine v_chain ?_ | refine s_next ?_ | refine s_drop ?_ | refine s_retN ?_ | refine s_par ?_ | refine s_par3 ?_
    | refine s_fld ?_ | refine s_dput ?_ | refine s_ddel ?_ | refine g_nil ?_ | refine g_cons ?_ | refine iteT ?_ | refine iteF ?_ | refine iteNT ?_ | refine iteNF ?_
    | refine isi_ss ?_ | refine isi_ii ?_ | refine isi_ib ?_ | refine v_lc ?_ | refine i_str ?_ | refine v_str ?_ | refine i_list ?_ | refine i_zipS ?_ | refine i_zipS3 ?_ | refine i_enumS ?_ | refine i_enum ?_ | refine i_tup ?_ | refine i_rng ?_ | refine s_for ?_ | refine v_star ?_ | refine v_makeR ?_ | refine v_make ?_ | refine v_cval ?_ | refine v_sign ?_)
local macro_rules | `(tactic| walk_at "go") => `(tactic| repeat walk_at "go1")
set_option pp.maxSteps 1200
set_option exponentiation.threshold 9000
def endA (p : List Turn) : Tx := p.map fun t => 48 + t.2.2
def halfS : List Turn → Tx → List Stp
  | [], _ => []
  | t :: ts, a => (a, t.2.1, 1, 2) :: halfS ts (a ++ [48 + t.2.2])
theorem halfS_snoc (t : Turn) : ∀ (p : List Turn) (a : Tx), halfS (p ++ [t]) a = halfS p a ++ [(a ++ endA p, t.2.1, 1, 2)]
  | [], a => by simp [halfS, endA]
  | u :: p, a => by
    rw [List.cons_append, halfS, halfS, halfS_snoc t p]
    simp [endA]
theorem endA_snoc (t : Turn) (p : List Turn) : endA (p ++ [t]) = endA p ++ [48 + t.2.2] := by simp [endA]
theorem strAt {k : Nat} (h : k < 2) : (V.str (toString ((k : Nat) : Int))) = sV [48 + k] := by
  rcases k with _ | _ | k
  · rfl
  · rfl
  · omega
theorem logAt {k : Nat} (h : k < 2) : ((k : Nat) : Int).natAbs.log2 < 1920 := by
  rcases k with _ | _ | k
  · decide
  · decide
  · omega
def spHalf : Sp := fun vs H Q _ => ∃ (l : Addr) (ts : List (Addr × Turn)), vs = [.ref l] ∧ H l = some (.lst (ts.map fun r => V.ref r.1)) ∧ HTn H ts ∧ ts.length ≤ 1000 ∧ (∀ r ∈ ts, r.2.2.2 < 2) ∧
  ∀ p f ss H', H p = none → H f = none → Ex H H' → H' p = some (.tup [.ref f, sV (endA (ts.map (·.2)))]) → H' f = some (.lst (ss.map fun r : Addr × Stp => V.ref r.1)) → HSp H' ss → ss.map (·.2) = halfS (ts.map (·.2)) [] → Q (.ref p) H'
/-! half_steps: slots turns 0 found 1 address 2 room 3 cutter 4 at 5 -/
theorem sc_half_steps : FnScope ["turns", "found", "address", "room", "cutter", "at"] ["turns"] (defScope (top 66)) := C8.fnScope_by (by decide +kernel)
theorem cal_half_steps (T : T w K mg) : Cal P w K mg base 1 "half_steps" spHalf := by
  refine calD T.d_half_steps T.g_half_steps sc_half_steps (fun vs H Q E h => ?_) (fun _ _ _ _ _ _ us hl => match us, hl with | [_], _ => rfl) (fun cdv A outer s H vs Q E hr h => ?_)
  · obtain ⟨_, _, rfl, _⟩ := h; rfl
  obtain ⟨l, ts, rfl, hl, hts, hn, hat, k⟩ := h
  refine ⟨_, (pss_cons (ps_par (i := 1) (j := 2) (by rfl) sc_half_steps.nd rfl rfl (by decide) rfl rfl (pa_cons (pe_lst pa_nil) (pa_cons pe_str pa_nil)) (by rfl))
      (pss_cons (ps_for PassesOwn.never rfl (pi_list (pv 0)) (pg_tup rfl (pgs_cons (pg_name (i := 3) sc_half_steps.nd rfl (Or.inl rfl)) (pgs_cons (pg_name (i := 4) sc_half_steps.nd rfl (Or.inl rfl)) (pgs_cons (pg_name (i := 5) sc_half_steps.nd rfl (Or.inl rfl)) pgs_nil)))) (pss_cons (ps_expr (pe_bm PySem.F.plainAttrs_list PySem.F.slot_list_append PySem.F.type_list_append mt_append (pv 1) (pa_cons (pe_tup (pa_cons (pv 2) (pa_cons (pv 4) (pa_cons pe_int (pa_cons pe_int pa_nil))))) pa_nil)))
      (pss_one (ps_set (i := 2) sc_half_steps.nd rfl (Or.inl rfl) (pe_op op_catS (pv 2) (pe_callTy cl_strI (by rfl) T.f_str (by decide +kernel) (pa_cons (pv 5) pa_nil)))))))
      (pss_one (ps_ret (pe_tup (pa_cons (pv 1) (pa_cons (pv 2) pa_nil))))))), ?_⟩
  walk_at "go"
  refine ⟨szl (by simp), fun f hf => ?_⟩
  generalize hH1 : upd H f _ = H1
  have e1 : Ex H H1 := hH1 ▸ Ex.nw hf
  have hf1 : H1 f = some (.lst []) := hH1 ▸ upd_same
  walk_at "go"
  refine ⟨_, _, rfl, ?_⟩
  walk_at "go"
  refine ⟨l, rfl, ⟨_, ex_l (e1 _ _ hl)⟩, ?_⟩
  refine for_it (walk_list (K := K) (xs := ts.map fun r : Addr × Turn => V.ref r.1)) (fun i σ H2 => (∃ u v x, σ = [some (.ref l), some (.ref f), some (sV (endA ((ts.map (·.2)).take i))), u, v, x]) ∧ Ex H H2 ∧ ∃ ss : List (Addr × Stp), H2 f = some (.lst (ss.map fun r => V.ref r.1)) ∧ HSp H2 ss ∧ ss.map (·.2) = halfS ((ts.map (·.2)).take i) []) ⟨⟨_, _, _, rfl⟩, e1, [], hf1, (fun r m => nomatch m), rfl⟩ (fun i σ H2 hi q => ex_l (q.2.1 _ _ hl)) ?_ ?_
  · rintro i x σ H2 H3 hi ⟨⟨u, v, y, rfl⟩, e2, ss, hf2, hss, hsm⟩ ⟨rfl, hx⟩
    rw [List.getElem?_map] at hx
    obtain ⟨⟨ta, t⟩, hti, rfl⟩ := Option.map_eq_some_iff.mp hx
    have hm := List.mem_of_getElem? hti
    have htk : (ts.map (·.2)).take (i + 1) = (ts.map (·.2)).take i ++ [t] := by rw [List.take_add_one, List.getElem?_map, hti]; rfl
    have ht2 : t.2.2 < 2 := hat _ hm
    have hil : i < ts.length := (List.getElem?_eq_some_iff.mp hti).1
    have hsl : ss.length ≤ 1000 := by
      have h1 := congrArg List.length hsm
      have h2 : ∀ (p : List Turn) (a : Tx), (halfS p a).length = p.length := by
        intro p
        induction p with
        | nil => intro a; rfl
        | cons t p ih => intro a; simp [halfS, ih]
      rw [h2, List.length_map, List.length_take, List.length_map] at h1
      omega
    refine g_tup (xs := [sV t.1, sV [t.2.1], .int (t.2.2 : Nat)]) (ex_t (e2 _ _ (hts _ hm))) rfl ?_
    walk_at "go"
    refine ⟨ty_l hf2, ?_⟩
    walk_at "go"
    refine ⟨szl (by simp), fun p hp => ?_⟩
    generalize hH4 : upd H3 p _ = H4
    have e4 : Ex H3 H4 := hH4 ▸ Ex.nw hp
    have hp4 : H4 p = some (.tup (stV (endA ((ts.map (·.2)).take i), t.2.1, 1, 2))) := hH4 ▸ upd_same
    walk_at "go"
    refine v_append (e4 _ _ hf2) (by rw [List.length_map]; omega) ?_
    generalize hH5 : upd H4 f _ = H5
    have b5 : ExB f H4 H5 := hH5 ▸ ExB.upd
    have hf5 : H5 f = some (.lst ((ss ++ [((p, (endA ((ts.map fun r : Addr × Turn => r.2).take i), t.2.1, 1, 2)) : Addr × Stp)]).map fun r : Addr × Stp => V.ref r.1)) := by rw [← hH5, upd_same, List.map_append]; rfl
    have keep : ∀ (r : Addr) xs, H4 r = some (.tup xs) → H5 r = some (.tup xs) := fun r xs h => b5 _ _ (fun e => by rw [e, e4 _ _ hf2] at h; cases h) h
    walk_at "go"
    refine ⟨(t.2.2 : Nat), rfl, logAt ht2, ?_⟩
    rw [strAt ht2]
    have hel : (endA ((ts.map (·.2)).take i)).length ≤ 1000 := by
      unfold endA
      rw [List.length_map, List.length_take, List.length_map]
      omega
    refine v_catS (by simp; omega) ?_
    refine ⟨⟨_, _, _, by rw [htk, endA_snoc]; rfl⟩, (e2.t e4).mut hf b5, _, hf5, ?_, ?_⟩
    · intro r m
      rcases List.mem_append.mp m with m | m
      · exact keep _ _ (e4 _ _ (hss r m))
      · simp at m; subst m; exact keep _ _ hp4
    · rw [List.map_append, hsm, htk, halfS_snoc]
      simp
  · rintro σ H2 ⟨⟨u, v, y, rfl⟩, e2, ss, hf2, hss, hsm⟩
    rw [List.length_map, ← List.length_map (f := (·.2)), List.take_length] at hsm
    walk_at "go"
    refine ⟨szl (by simp), fun p hp => ?_⟩
    have hend : (ts.map (·.2)).take (ts.map fun r : Addr × Turn => V.ref r.1).length = ts.map (·.2) := by rw [List.length_map, ← List.length_map (f := (·.2)), List.take_length]
    refine k p f ss _ (e2.none hp) hf (e2.t (Ex.nw hp)) ?_ ((Ex.nw hp) _ _ hf2) (hss.ex (Ex.nw hp)) hsm
    rw [upd_same, hend]
end L2.FW
end
section
set_option maxRecDepth 100000
/-! held_steps in plain Lean: low < 1/2 < high, over a power of two. -/
namespace L2.FW
open Fw
def half : Rat := Rat.divInt 1 2
def spotOf (lo hi : Rat) (at_ : Nat) : Rat := if at_ = 0 then ratMul half (ratAdd half hi) else ratMul half (ratAdd lo half)
def placeOf (lo hi spot : Rat) : Rat := (spot - lo) / (hi - lo)
def signOf (b : Bk) (t : Turn) : Nat := (b.cut t.1 t.2.1).headD 0
def heldNext (b : Bk) (g : Nat) (t : Turn) (s : Rat × Rat) : Rat × Rat :=
  if signOf b t = g then s else if t.2.2 = 0 then (s.1, spotOf s.1 s.2 t.2.2) else (spotOf s.1 s.2 t.2.2, s.2)
def heldStep (b : Bk) (g : Nat) (t : Turn) (a : Tx) (s : Rat × Rat) : Stp :=
  if signOf b t = g then (a, t.2.1, 1, 2) else (a, t.2.1, (placeOf s.1 s.2 (spotOf s.1 s.2 t.2.2)).num, ((placeOf s.1 s.2 (spotOf s.1 s.2 t.2.2)).den : Int))
def heldS (b : Bk) (g : Nat) : List Turn → Tx → Rat × Rat → List Stp
  | [], _, _ => []
  | t :: ts, a, s => heldStep b g t a s :: heldS b g ts (a ++ [48 + t.2.2]) (heldNext b g t s)
def heldSt (b : Bk) (g : Nat) (p : List Turn) (s : Rat × Rat) : Rat × Rat := p.foldl (fun s t => heldNext b g t s) s
theorem heldSt_snoc (b : Bk) (g : Nat) (p : List Turn) (t : Turn) (s : Rat × Rat) : heldSt b g (p ++ [t]) s = heldNext b g t (heldSt b g p s) := by simp [heldSt]
theorem heldS_snoc (b : Bk) (g : Nat) (t : Turn) : ∀ (p : List Turn) (a : Tx) (s : Rat × Rat), heldS b g (p ++ [t]) a s = heldS b g p a s ++ [heldStep b g t (a ++ endA p) (heldSt b g p s)]
  | [], a, s => by simp [heldS, endA, heldSt]
  | u :: p, a, s => by
    rw [List.cons_append, heldS, heldS, heldS_snoc b g t p]
    simp [endA, heldSt]
theorem heldS_len (b : Bk) (g : Nat) : ∀ (p : List Turn) (a : Tx) (s : Rat × Rat), (heldS b g p a s).length = p.length
  | [], _, _ => rfl
  | t :: p, a, s => by simp [heldS, heldS_len b g p]
structure HIn (k : Nat) (s : Rat × Rat) : Prop where
  lo : On (2 ^ (k + 1)) s.1
  hi : On (2 ^ (k + 1)) s.2
  l1 : s.1 < half
  h1 : half < s.2
theorem half_eq : half = 1 / 2 := by unfold half; rw [Rat.divInt_eq_div]; rfl
theorem HIn.init : HIn 0 (0, 1) := ⟨⟨0, by decide, by rfl⟩, ⟨2, by decide, by rfl⟩, by decide +kernel, by decide +kernel⟩
theorem HIn.mono {k : Nat} {s : Rat × Rat} (h : HIn k s) : HIn (k + 1) s := ⟨by have := h.lo.mul (m := 2) (by decide); rwa [← Nat.pow_succ] at this, by have := h.hi.mul (m := 2) (by decide); rwa [← Nat.pow_succ] at this, h.l1, h.h1⟩
theorem On.half {k : Nat} {q : Rat} (h : On (2 ^ (k + 1)) q) : On (2 ^ (k + 2)) (ratMul half (ratAdd half q)) := by
  obtain ⟨j, hj, rfl⟩ := h
  have e1 : 2 ^ (k + 1) = 2 * 2 ^ k := by rw [Nat.pow_succ]; omega
  have e2 : 2 ^ (k + 2) = 4 * 2 ^ k := by rw [Nat.pow_succ, Nat.pow_succ]; omega
  refine ⟨2 ^ k + j, by omega, ?_⟩
  unfold ratMul ratAdd FW.half
  rw [e1, e2, Rat.divInt_eq_div, Rat.divInt_eq_div, Rat.divInt_eq_div]
  have hD : ((2 ^ k : Nat) : Int) ≠ 0 := by
    have := Nat.two_pow_pos k
    omega
  have hD' : (((2 ^ k : Nat) : Int) : Rat) ≠ 0 := fun h => hD (Rat.intCast_eq_zero_iff.mp h)
  have c1 : ((2 * 2 ^ k : Nat) : Int) = 2 * ((2 ^ k : Nat) : Int) := by rw [Int.natCast_mul]; rfl
  have c2 : ((4 * 2 ^ k : Nat) : Int) = 4 * ((2 ^ k : Nat) : Int) := by rw [Int.natCast_mul]; rfl
  have c3 : ((2 ^ k + j : Nat) : Int) = ((2 ^ k : Nat) : Int) + (j : Int) := Int.natCast_add _ _
  rw [c1, c2, c3]
  simp only [Rat.intCast_add, Rat.intCast_mul]
  generalize (((2 ^ k : Nat) : Int) : Rat) = d at hD' ⊢
  generalize ((j : Int) : Rat) = j'
  have k1 : ((1 : Int) : Rat) = 1 := rfl
  have k2 : ((2 : Int) : Rat) = 2 := rfl
  have k4 : ((4 : Int) : Rat) = 4 := rfl
  rw [k1, k2, k4]
  grind
theorem add_comm' (p q : Rat) : ratAdd p q = ratAdd q p := Rat.add_comm p q
theorem HIn.spot {k : Nat} {s : Rat × Rat} (h : HIn k s) (a : Nat) : On (2 ^ (k + 2)) (spotOf s.1 s.2 a) ∧ s.1 < spotOf s.1 s.2 a ∧ spotOf s.1 s.2 a < s.2 ∧ (a = 0 → half < spotOf s.1 s.2 a) ∧ (a ≠ 0 → spotOf s.1 s.2 a < half) := by
  have h1 := h.l1
  have h2 := h.h1
  rw [half_eq] at h1 h2 ⊢
  unfold spotOf
  by_cases ha : a = 0
  · rw [if_pos ha]
    refine ⟨h.hi.half, ?_, ?_, fun _ => ?_, fun n => absurd ha n⟩ <;> unfold ratMul ratAdd <;> rw [half_eq] <;> grind
  · rw [if_neg ha, add_comm']
    refine ⟨h.lo.half, ?_, ?_, fun n => absurd n ha, fun _ => ?_⟩ <;> unfold ratMul ratAdd <;> rw [half_eq] <;> grind
theorem HIn.next {b : Bk} {g k : Nat} {t : Turn} {s : Rat × Rat} (h : HIn k s) : HIn (k + 1) (heldNext b g t s) := by
  obtain ⟨h1, h2, h3, h4, h5⟩ := h.spot t.2.2
  unfold heldNext
  split
  · exact h.mono
  · split
    · rename_i ha
      exact ⟨h.mono.lo, h1, h.l1, h4 ha⟩
    · rename_i ha
      exact ⟨h1, h.mono.hi, h5 ha, h.h1⟩
theorem rat_pos {q : Rat} (h : 0 < q) : 0 < q.num := by
  have h := (Rat.lt_iff 0 q).mp h
  rw [Rat.zero_num, Rat.zero_den] at h
  omega
theorem rat_lt1 {q : Rat} (h : q < 1) : q.num < q.den := by
  have h := (Rat.lt_iff q 1).mp h
  rw [Rat.one_num, Rat.one_den] at h
  omega
theorem HIn.place {k : Nat} {s : Rat × Rat} (h : HIn k s) (a : Nat) : 0 < placeOf s.1 s.2 (spotOf s.1 s.2 a) ∧ placeOf s.1 s.2 (spotOf s.1 s.2 a) < 1 ∧ (placeOf s.1 s.2 (spotOf s.1 s.2 a)).den ≤ 2 ^ (k + 2) := by
  obtain ⟨h1, h2, h3, _, _⟩ := h.spot a
  have hl := h.mono.lo
  have hh := h.mono.hi
  generalize spotOf s.1 s.2 a = q at h1 h2 h3
  obtain ⟨lo, hi⟩ := s
  have h2 : lo < q := h2
  have h3 : q < hi := h3
  have hl : On (2 ^ (k + 2)) lo := hl
  have hh : On (2 ^ (k + 2)) hi := hh
  show 0 < placeOf lo hi q ∧ placeOf lo hi q < 1 ∧ (placeOf lo hi q).den ≤ 2 ^ (k + 2)
  unfold placeOf
  have d1 : 0 < hi - lo := by grind
  refine ⟨?_, ?_, ?_⟩
  · rw [Rat.lt_div_iff d1]; grind
  · rw [Rat.div_lt_iff d1]; grind
  · obtain ⟨i, hi', rfl⟩ := hl
    obtain ⟨j, hj, rfl⟩ := hh
    obtain ⟨m, hm, rfl⟩ := h1
    have hD : 0 < 2 ^ (k + 2) := Nat.two_pow_pos _
    generalize 2 ^ (k + 2) = D at *
    have hD' : ((D : Int) : Rat) ≠ 0 := fun h => by
      have := Rat.intCast_eq_zero_iff.mp h
      omega
    have hd : 0 < ((D : Int) : Rat) := Rat.intCast_pos.mpr (by omega)
    rw [Rat.divInt_eq_div, Rat.divInt_eq_div] at d1
    have hij : (i : Int) < j := by
      have h0 : ((i : Int) : Rat) / ((D : Int) : Rat) < ((j : Int) : Rat) / ((D : Int) : Rat) := by grind
      rw [Rat.div_lt_iff hd, Rat.div_mul_cancel hD'] at h0
      exact Rat.intCast_lt_intCast.mp h0
    have e : (Rat.divInt m D - Rat.divInt i D) / (Rat.divInt j D - Rat.divInt i D) = Rat.divInt ((m : Int) - i) ((j : Int) - i) := by
      rw [Rat.divInt_eq_div, Rat.divInt_eq_div, Rat.divInt_eq_div, Rat.divInt_eq_div, Rat.intCast_sub, Rat.intCast_sub]
      have hne : ((j : Int) : Rat) - ((i : Int) : Rat) ≠ 0 := fun h => by
        rw [← Rat.intCast_sub] at h
        have := Rat.intCast_eq_zero_iff.mp h
        omega
      generalize ((D : Int) : Rat) = d at *
      generalize ((i : Int) : Rat) = i' at *
      generalize ((j : Int) : Rat) = j' at *
      generalize ((m : Int) : Rat) = m' at *
      have e1 : j' / d - i' / d = (j' - i') / d := by grind
      have e2 : m' / d - i' / d = (m' - i') / d := by grind
      rw [e1, e2]
      grind
    rw [e, Rat.den_divInt, if_neg (by omega)]
    exact Nat.le_trans (Nat.div_le_self _ _) (by omega)
theorem heldSt_in {b : Bk} {g : Nat} : ∀ (p : List Turn) {k : Nat} {s : Rat × Rat}, HIn k s → HIn (k + p.length) (heldSt b g p s)
  | [], _, _, h => h
  | t :: p, k, s, h => by
    have := heldSt_in (b := b) (g := g) p (h.next (b := b) (g := g) (t := t))
    rw [List.length_cons, Nat.add_comm p.length 1, ← Nat.add_assoc]
    exact this
end L2.FW
end
section
set_option maxRecDepth 100000
set_option maxHeartbeats 4000000
/-! held_steps. -/
namespace L2.FW
open PySem PySem.Spec PyProof.Rows Fw
variable {P : Program} {w : World} {K : PySem.W.Frag} {mg : Str → Option Value} {base : Heap}
local macro_rules | `(tactic| walk_at "go1") => `(tactic| first
  | ((with_reducible apply v_var); exact rfl)
  | ((with_reducible apply s_aug); exact rfl)
  | with_reducible first
    | refine v_c ?_ | refine v_cons ?_ | refine v_nil ?_ | refine v_op ?_ | refine v_cb ?_ | refine v_call ?_ | refine v_bl ?_ | refine v_yes ?_
    | refine s_seq ?_ | refine s_ret ?_ | refine s_if ?_ | refine s_asg ?_ | refine g_name ?_ | refine v_test ?_ | refine v_tB ?_
    | refine v_rI0 ?_ | refine v_eqI ?_ | refine v_neI ?_ | refine v_eqS ?_ | refine v_neS ?_ | refine v_int1 ?_ | refine v_bool1 ?_ | refine v_abs ?_ | refine v_isN ?_ | refine v_notN ?_ | refine v_nsign ?_
    | refine v_andV ?_ | refine v_orV ?_ | refine v_notV ?_ | refine v_and ?_ | refine v_or ?_ | refine v_not ?_
    | refine v_if ?_ | refine v_tup ?_ | refine v_lst ?_ | refine v_sl ?_ | refine v_part ?_ | refine v_nopart ?_ | refine v_int ?_ | refine v_dget ?_ | refine v_din ?_ | refine v_dnin ?_
    | refine v_fld ?_ | refine v_meth ?_ | refine v_bm ?_ | refine v_m1 ?_ | refine v_strE ?_ | refine v_un ?_ | refine v_chain ?_ | refine s_next ?_ | refine s_drop ?_ | refine s_retN ?_ | refine s_par ?_ | refine s_par3 ?_
    | refine s_fld ?_ | refine s_dput ?_ | refine s_ddel ?_ | refine g_nil ?_ | refine g_cons ?_ | refine iteT ?_ | refine iteF ?_ | refine iteNT ?_ | refine iteNF ?_
    | refine isi_ss ?_ | refine isi_ii ?_ | refine isi_ib ?_ | refine v_lc ?_ | refine i_str ?_ | refine v_str ?_ | refine i_list ?_ | refine i_zipS ?_ | refine i_zipS3 ?_ | refine i_enumS ?_ | refine i_enum ?_ | refine i_tup ?_ | refine i_rng ?_ | refine s_for ?_ | refine v_star ?_ | refine v_makeR ?_ | refine v_make ?_ | refine v_cval ?_ | refine v_sign ?_)
local macro_rules | `(tactic| walk_at "go") => `(tactic| repeat walk_at "go1")
set_option pp.maxSteps 1200
set_option exponentiation.threshold 9000
/-- a turn that a search may tell -/
def TurnOk (b : Bk) (t : Turn) : Prop := RoomOk b.fc t.1 ∧ t.2.1 ∈ b.ct ∧ b.cut t.1 t.2.1 ≠ [] ∧ t.2.2 < 2
theorem HIn.bds {k : Nat} {s : Rat × Rat} (h : HIn k s) (hk : k ≤ 100) : Bd 200 s.1 ∧ Bd 200 s.2 := by
  have hD : 2 ^ (k + 1) < 2 ^ 200 := Nat.pow_lt_pow_right (by decide) (by omega)
  exact ⟨h.lo.bd (Nat.two_pow_pos _) hD, h.hi.bd (Nat.two_pow_pos _) hD⟩
theorem bd_half : Bd 200 half := ⟨by decide +kernel, by decide +kernel⟩
def spHeld (K : PySem.W.Frag) : Sp := fun vs H Q _ => ∃ (a l : Addr) (b : Bk) (g : Nat) (ts : List (Addr × Turn)) (ad : Tx), vs = [.ref a, sV [g], .ref l, sV ad] ∧ HBook K H a b ∧ BkOk b ∧ H l = some (.lst (ts.map fun r => V.ref r.1)) ∧ HTn H ts ∧ ts.length ≤ 15 ∧ ad.length ≤ 1000 ∧ (∀ r ∈ ts, TurnOk b r.2) ∧
  ∀ p f ss H', H p = none → H f = none → Ex H H' → H' p = some (.tup [.ref f, sV (ad ++ endA (ts.map (·.2)))]) → H' f = some (.lst (ss.map fun r : Addr × Stp => V.ref r.1)) → HSp H' ss → ss.map (·.2) = heldS b g (ts.map (·.2)) ad (0, 1) → Q (.ref p) H'
/-! held_steps: slots book 0 sign 1 turns 2 address 3 low 4 high 5 half 6 found 7 room 8 cutter 9 at 10 spot 11 place 12 -/
theorem sc_held_steps : FnScope ["book", "sign", "turns", "address", "low", "high", "half", "found", "room", "cutter", "at", "spot", "place"] ["book", "sign", "turns", "address"] (defScope (top 67)) := C8.fnScope_by (by decide +kernel)
theorem cal_held_steps (T : T w K mg) : Cal P w K mg base 6 "held_steps" (spHeld K) := by
  refine calD T.d_held_steps T.g_held_steps sc_held_steps (fun vs H Q E h => ?_) (fun _ _ _ _ _ _ us hl => match us, hl with | [_, _, _, _], _ => rfl) (fun cdv A outer s H vs Q E hr h => ?_)
  · obtain ⟨_, _, _, _, _, _, rfl, _⟩ := h; rfl
  obtain ⟨a, l, b, g, ts, ad, rfl, hb, bo, hl, hts, hn, had, hok, k⟩ := h
  refine ⟨_, (pss_cons (ps_asg (pe_tup (pa_cons (pe_mk_Ratio1 T hr rfl (pa_cons pe_int pa_nil)) (pa_cons (pe_mk_Ratio1 T hr rfl (pa_cons pe_int pa_nil)) (pa_cons (pe_mk_Ratio2 T hr rfl (pa_cons pe_int (pa_cons pe_int pa_nil))) (pa_cons (pe_lst pa_nil) pa_nil))))) (pg_tup rfl (pgs_cons (pg_name (i := 4) sc_held_steps.nd rfl (Or.inl rfl)) (pgs_cons (pg_name (i := 5) sc_held_steps.nd rfl (Or.inl rfl)) (pgs_cons (pg_name (i := 6) sc_held_steps.nd rfl (Or.inl rfl)) (pgs_cons (pg_name (i := 7) sc_held_steps.nd rfl (Or.inl rfl)) pgs_nil))))))
      (pss_cons (ps_for PassesOwn.never rfl (pi_list (pv 2)) (pg_tup rfl (pgs_cons (pg_name (i := 8) sc_held_steps.nd rfl (Or.inl rfl)) (pgs_cons (pg_name (i := 9) sc_held_steps.nd rfl (Or.inl rfl)) (pgs_cons (pg_name (i := 10) sc_held_steps.nd rfl (Or.inl rfl)) pgs_nil)))) (pss_cons (ps_if (pt_cmpR op_eq (pe_ix ix_str (pe_mm (met_Book_cut T) hr (by decide) (pv 0) (pa_cons (pv 8) (pa_cons (pv 9) pa_nil))) pe_int (fun _ _ => rfl)) (pv 1) (nomark _)) (pss_one (ps_expr (pe_bm PySem.F.plainAttrs_list PySem.F.slot_list_append PySem.F.type_list_append mt_append (pv 7) (pa_cons (pe_tup (pa_cons (pv 3) (pa_cons (pv 9) (pa_cons pe_int (pa_cons pe_int pa_nil))))) pa_nil)))) (pss_cons (ps_set (i := 11) sc_held_steps.nd rfl (Or.inl rfl) (pe_ifExp (pt_cmpR op_eq (pv 10) pe_int (nomark _)) (pe_op (own_mul T hr) (pv 6) (pe_op (own_add T hr) (pv 6) (pv 5))) (pe_op (own_mul T hr) (pv 6) (pe_op (own_add T hr) (pv 4) (pv 6)))))
      (pss_cons (ps_set (i := 12) sc_held_steps.nd rfl (Or.inl rfl) (pe_cl (cal_ratio_over T) hr (by decide) rfl (pa_cons (pe_op (own_sub T hr) (pv 11) (pv 4)) (pa_cons (pe_op (own_sub T hr) (pv 5) (pv 4)) pa_nil))))
      (pss_cons (ps_expr (pe_bm PySem.F.plainAttrs_list PySem.F.slot_list_append PySem.F.type_list_append mt_append (pv 7) (pa_cons (pe_tup (pa_cons (pv 3) (pa_cons (pv 9) (pa_cons (pe_fld (pv 12) rfl) (pa_cons (pe_fld (pv 12) rfl) pa_nil))))) pa_nil)))
      (pss_one (ps_asg (pe_ifExp (pt_cmpR op_eq (pv 10) pe_int (nomark _)) (pe_tup (pa_cons (pv 4) (pa_cons (pv 11) pa_nil))) (pe_tup (pa_cons (pv 11) (pa_cons (pv 5) pa_nil)))) (pg_tup rfl (pgs_cons (pg_name (i := 4) sc_held_steps.nd rfl (Or.inl rfl)) (pgs_cons (pg_name (i := 5) sc_held_steps.nd rfl (Or.inl rfl)) pgs_nil)))))))))
      (pss_one (ps_set (i := 3) sc_held_steps.nd rfl (Or.inl rfl) (pe_op op_catS (pv 3) (pe_callTy cl_strI (by rfl) T.f_str (by decide +kernel) (pa_cons (pv 10) pa_nil)))))))
      (pss_one (ps_ret (pe_tup (pa_cons (pv 7) (pa_cons (pv 3) pa_nil))))))), ?_⟩
  walk_at "go"
  refine mk_rat rfl (by decide) (by decide) fun x0 H1 hx0 e1 g0 => ?_
  walk_at "go"
  refine mk_rat rfl (by decide) (by decide) fun x1 H2 hx1 e2 g1 => ?_
  walk_at "go"
  refine mk_rat rfl (by decide) (by decide) fun xh H3 hxh e3 gh => ?_
  walk_at "go"
  refine ⟨szl (by simp), fun f hf => ?_⟩
  generalize hH4 : upd H3 f _ = H4
  have e4 : Ex H3 H4 := hH4 ▸ Ex.nw hf
  have hf4 : H4 f = some (.lst []) := hH4 ▸ upd_same
  have e14 := e1.t (e2.t (e3.t e4))
  have nf : H f = none := e1.none (e2.none (e3.none hf))
  walk_at "go"
  refine ⟨szl (by simp), fun p0 hp0 => ?_⟩
  generalize hH5 : upd H4 p0 _ = H5
  have e5 : Ex H4 H5 := hH5 ▸ Ex.nw hp0
  have hp05 : H5 p0 = some (.tup [.ref x0, .ref x1, .ref xh, .ref f]) := hH5 ▸ upd_same
  have e15 := e14.t e5
  refine g_tup (ex_t hp05) rfl ?_
  walk_at "go"
  refine ⟨l, rfl, ⟨_, ex_l (e15 _ _ hl)⟩, ?_⟩
  have z0 : Rat.divInt 0 1 = 0 := by rfl
  have z1 : Rat.divInt 1 1 = 1 := by rfl
  rw [z0] at g0
  rw [z1] at g1
  refine for_it (walk_list (K := K) (xs := ts.map fun r : Addr × Turn => V.ref r.1)) (fun i σ H6 => (∃ xl xr u v y z w' aa, aa = ad ++ endA ((ts.map (·.2)).take i) ∧ σ = [some (.ref a), some (sV [g]), some (.ref l), some (sV aa), some (.ref xl), some (.ref xr), some (.ref xh), some (.ref f), u, v, y, z, w'] ∧ HRat K H6 xl (heldSt b g ((ts.map (·.2)).take i) (0, 1)).1 ∧ HRat K H6 xr (heldSt b g ((ts.map (·.2)).take i) (0, 1)).2 ∧ HRat K H6 xh half) ∧ Ex H H6 ∧ ∃ ss : List (Addr × Stp), H6 f = some (.lst (ss.map fun r => V.ref r.1)) ∧ HSp H6 ss ∧ ss.map (·.2) = heldS b g ((ts.map (·.2)).take i) ad (0, 1))
    ⟨⟨x0, x1, _, _, _, _, _, ad, by simp [endA], rfl, g0.ex (e2.t (e3.t (e4.t e5))), g1.ex (e3.t (e4.t e5)), gh.ex (e4.t e5)⟩, e15, [], e5 _ _ hf4, (fun r m => nomatch m), rfl⟩ (fun i σ H6 hi q => ex_l (q.2.1 _ _ hl)) ?_ ?_
  · rintro i x σ H6 H7 hi ⟨⟨xl, xr, u, v, y, z, w', aa, haa, rfl, rl, rr, rh⟩, e6, ss, hf6, hss, hsm⟩ ⟨rfl, hx⟩
    subst haa
    rw [List.getElem?_map] at hx
    obtain ⟨⟨ta, t⟩, hti, rfl⟩ := Option.map_eq_some_iff.mp hx
    have hm := List.mem_of_getElem? hti
    have htk : (ts.map fun r : Addr × Turn => r.2).take (i + 1) = (ts.map fun r : Addr × Turn => r.2).take i ++ [t] := by rw [List.take_add_one, List.getElem?_map, hti]; rfl
    have hil : i < ts.length := (List.getElem?_eq_some_iff.mp hti).1
    obtain ⟨t1, t2, t3, t4⟩ := hok _ hm
    have t1 : RoomOk b.fc t.1 := t1
    have t2 : t.2.1 ∈ b.ct := t2
    have t3 : b.cut t.1 t.2.1 ≠ [] := t3
    have t4 : t.2.2 < 2 := t4
    obtain ⟨g', cx, cy, hcut, hg'⟩ := cut_ne bo t3
    have hsg : signOf b t = g' := by unfold signOf; rw [hcut]; rfl
    have hin : HIn (0 + ((ts.map fun r : Addr × Turn => r.2).take i).length) (heldSt b g ((ts.map fun r : Addr × Turn => r.2).take i) (0, 1)) := heldSt_in _ HIn.init
    have hkl : 0 + ((ts.map fun r : Addr × Turn => r.2).take i).length ≤ 15 := by rw [List.length_take, List.length_map]; omega
    have hsl : ss.length ≤ 15 := by
      have h1 := congrArg List.length hsm
      rw [heldS_len, List.length_map] at h1
      omega
    have hel : (ad ++ endA ((ts.map fun r : Addr × Turn => r.2).take i)).length ≤ 2000 := by
      unfold endA
      rw [List.length_append, List.length_map]
      omega
    rw [htk, endA_snoc, heldSt_snoc, heldS_snoc]
    generalize hpre : (ts.map fun r : Addr × Turn => r.2).take i = pre at *
    generalize hst : heldSt b g pre (0, 1) = st at *
    obtain ⟨lo, hi2⟩ := st
    obtain ⟨bl, bh⟩ := hin.bds (by omega)
    have bl : Bd 200 lo := bl
    have bh : Bd 200 hi2 := bh
    have rl : HRat K H7 xl lo := rl
    have rr : HRat K H7 xr hi2 := rr
    refine g_tup (xs := [sV t.1, sV [t.2.1], .int (t.2.2 : Nat)]) (ex_t (e6 _ _ (hts _ hm))) rfl ?_
    walk_at "go"
    refine mth_book (hb.ex e6) (fun _ _ _ => rfl) ?_
    walk_at "go"
    refine ⟨a, b, t.1, t.2.1, rfl, hb.ex e6, ln6 bo, t1, t2, fun H8 e8 => ?_⟩
    rw [hcut]
    walk_at "go"
    refine v_ixSS (l := [g', cx, cy]) (by simp) at0 ?_
    walk_at "go"
    have e68 := e6.t e8
    have hAd : ∀ q : Tx, q = [48 + t.2.2] → (ad ++ endA pre) ++ q = ad ++ (endA pre ++ [48 + t.2.2]) := fun q h => by rw [h, List.append_assoc]
    have grow : ∀ {H9 : Hp} {p : Addr} {st : Stp}, Ex H8 H9 → H9 p = none → HSp (upd (upd H9 p (.tup (stV st))) f (.lst ((ss.map fun r : Addr × Stp => V.ref r.1) ++ [.ref p]))) (ss ++ [(p, st)]) := fun {H9 p st} e9 hp r m => by
      have hf9 : H9 f = some (.lst (ss.map fun r : Addr × Stp => V.ref r.1)) := (e8.t e9) _ _ hf6
      have npf : p ≠ f := fun e => by rw [e, hf9] at hp; cases hp
      rcases List.mem_append.mp m with m | m
      · have h1 := (e8.t e9) _ _ (hss r m)
        rw [upd_ne (fun e => by rw [e, hf9] at h1; cases h1), upd_ne (fun e => by rw [e, hp] at h1; cases h1)]
        exact h1
      · simp at m; subst m
        rw [upd_ne npf, upd_same]
    by_cases hgg : g' = g
    · refine itT (by rw [hgg]) ?_
      rw [show heldNext b g t (lo, hi2) = (lo, hi2) from if_pos (hsg.trans hgg)]
      rw [show heldStep b g t (ad ++ endA pre) (lo, hi2) = (ad ++ endA pre, t.2.1, 1, 2) from if_pos (hsg.trans hgg)]
      walk_at "go"
      refine ⟨ty_l (e8 _ _ hf6), ?_⟩
      walk_at "go"
      refine ⟨szl (by simp), fun p hp => ?_⟩
      walk_at "go"
      have e9 : Ex H8 (upd H8 p (.tup [sV (ad ++ endA pre), sV [t.2.1], .int 1, .int 2])) := Ex.nw hp
      refine v_append (e9 _ _ (e8 _ _ hf6)) (by rw [List.length_map]; omega) ?_
      have hsp := grow (st := (ad ++ endA pre, t.2.1, 1, 2)) Ex.rfl' hp
      generalize hH10 : upd (upd H8 p _) f _ = H10
      have hsp : HSp H10 (ss ++ [(p, (ad ++ endA pre, t.2.1, 1, 2))]) := hH10 ▸ hsp
      have e10 : Ex H H10 := hH10 ▸ (e68.t e9).up nf
      have b10 : ExB f H8 H10 := hH10 ▸ (ExB.of e9).t ExB.upd
      have hf10 : H10 f = some (.lst ((ss ++ [((p, (ad ++ endA pre, t.2.1, 1, 2)) : Addr × Stp)]).map fun r => V.ref r.1)) := by rw [← hH10, upd_same, List.map_append]; rfl
      have hfl := e8 _ _ hf6
      have n : ∀ C dx fs, (HO.lst (ss.map fun r : Addr × Stp => V.ref r.1)) ≠ .ins C dx fs := fun _ _ _ h => nomatch h
      walk_at "go"
      refine ⟨(t.2.2 : Nat), rfl, logAt t4, ?_⟩
      rw [strAt t4]
      refine v_catS (by simp at hel ⊢; omega) ?_
      exact ⟨⟨xl, xr, _, _, _, _, _, _, hAd _ rfl, rfl, (rl.ex e8).exB b10 hfl n, (rr.ex e8).exB b10 hfl n, (rh.ex e8).exB b10 hfl n⟩, e10, _, hf10, hsp, by rw [List.map_append, hsm]; rfl⟩
    · refine itF (by simpa using hgg) ?_
      obtain ⟨s1, s2, s3, s4, s5⟩ := hin.spot t.2.2
      obtain ⟨q1, q2, q3⟩ := hin.place t.2.2
      have s2 : lo < spotOf lo hi2 t.2.2 := s2
      have s3 : spotOf lo hi2 t.2.2 < hi2 := s3
      have bs : Bd 200 (spotOf lo hi2 t.2.2) := s1.bd (Nat.two_pow_pos _) (Nat.pow_lt_pow_right (by decide) (by omega))
      have hng : ¬ signOf b t = g := fun h => hgg (hsg.symm.trans h)
      rw [show heldStep b g t (ad ++ endA pre) (lo, hi2) = (ad ++ endA pre, t.2.1, (placeOf lo hi2 (spotOf lo hi2 t.2.2)).num, ((placeOf lo hi2 (spotOf lo hi2 t.2.2)).den : Int)) from if_neg hng]
      walk_at "go"
      clear s1 s4 s5 q1 q2 q3
      by_cases hz : t.2.2 = 0
      · have hzI : ((t.2.2 : Nat) : Int) = 0 := by omega
        have esp : spotOf lo hi2 t.2.2 = ratMul half (ratAdd half hi2) := if_pos hz
        rw [show heldNext b g t (lo, hi2) = (lo, spotOf lo hi2 t.2.2) from by unfold heldNext; rw [if_neg hng, if_pos hz]]
        refine itT hzI ?_
        walk_at "go"
        refine v_own2 (rh.ex e8) (rr.ex e8) (bd_half.mono (by decide)) (bh.mono (by decide)) fun y1 H9 hy1 e9 g1' => ?_
        have bad : Bd 401 (ratAdd half hi2) := add_bdR bd_half bh
        refine v_own2 ((rh.ex e8).ex e9) g1' (bd_half.mono (by decide)) (bad.mono (by decide)) fun sp H10 hsp e10 gsp => ?_
        rw [← esp] at gsp
        generalize spotOf lo hi2 t.2.2 = spt at *
        have e810 := e9.t e10
        walk_at "go"
        refine v_own2 gsp (rl.ex (e8.t e810)) (bs.mono (by decide)) (bl.mono (by decide)) fun d1 H11 hd1 e11 gd1 => ?_
        walk_at "go"
        refine v_own2 (rr.ex (e8.t (e810.t e11))) (rl.ex (e8.t (e810.t e11))) (bh.mono (by decide)) (bl.mono (by decide)) fun d2 H12 hd2 e12 gd2 => ?_
        walk_at "go"
        refine ⟨d1, d2, ratSub spt lo, ratSub hi2 lo, rfl, gd1.ex e12, gd2, (sub_bdR bs bl).mono (by decide), (sub_bdR bh bl).mono (by decide), by unfold ratSub; grind, fun pl H13 hpl e13 gpl => ?_⟩
        have gpl : HRat K H13 pl (placeOf lo hi2 spt) := gpl
        have e813 := e810.t (e11.t (e12.t e13))
        walk_at "go"
        refine ⟨ty_l (e813 _ _ (e8 _ _ hf6)), ?_⟩
        walk_at "go"
        refine fld_top T gpl ?_
        walk_at "go"
        refine fld_bottom T gpl ?_
        walk_at "go"
        refine ⟨szl (by simp), fun p hp => ?_⟩
        walk_at "go"
        have e14 : Ex H13 (upd H13 p (.tup [sV (ad ++ endA pre), sV [t.2.1], .int (placeOf lo hi2 spt).num, .int ((placeOf lo hi2 spt).den : Int)])) := Ex.nw hp
        refine v_append (e14 _ _ (e813 _ _ (e8 _ _ hf6))) (by rw [List.length_map]; omega) ?_
        have hsp := grow (st := (ad ++ endA pre, t.2.1, (placeOf lo hi2 spt).num, ((placeOf lo hi2 spt).den : Int))) e813 hp
        generalize hH15 : upd (upd H13 p _) f _ = H15
        have hsp : HSp H15 (ss ++ [(p, (ad ++ endA pre, t.2.1, (placeOf lo hi2 spt).num, ((placeOf lo hi2 spt).den : Int)))]) := hH15 ▸ hsp
        have e15 : Ex H H15 := hH15 ▸ (e68.t (e813.t e14)).up nf
        have b15 : ExB f H13 H15 := hH15 ▸ (ExB.of e14).t ExB.upd
        have hf15 : H15 f = some (.lst ((ss ++ [((p, (ad ++ endA pre, t.2.1, (placeOf lo hi2 spt).num, ((placeOf lo hi2 spt).den : Int))) : Addr × Stp)]).map fun r => V.ref r.1)) := by rw [← hH15, upd_same, List.map_append]; rfl
        have hfl := e813 _ _ (e8 _ _ hf6)
        have n : ∀ C dx fs, (HO.lst (ss.map fun r : Addr × Stp => V.ref r.1)) ≠ .ins C dx fs := fun _ _ _ h => nomatch h
        walk_at "go"
        refine itT hzI ?_
        walk_at "go"
        refine ⟨szl (by simp), fun p2 hp2 => ?_⟩
        generalize hH16 : upd H15 p2 _ = H16
        have e16 : Ex H15 H16 := hH16 ▸ Ex.nw hp2
        have hp16 : H16 p2 = some (.tup [.ref xl, .ref sp]) := hH16 ▸ upd_same
        refine g_tup (ex_t hp16) rfl ?_
        walk_at "go"
        refine ⟨(t.2.2 : Nat), rfl, logAt t4, ?_⟩
        rw [strAt t4]
        refine v_catS (by simp at hel ⊢; omega) ?_
        exact ⟨⟨xl, sp, _, _, _, _, _, _, hAd _ rfl, rfl, ((rl.ex (e8.t e813)).exB b15 hfl n).ex e16, ((gsp.ex (e11.t (e12.t e13))).exB b15 hfl n).ex e16, ((rh.ex (e8.t e813)).exB b15 hfl n).ex e16⟩, e15.t e16, _, e16 _ _ hf15, hsp.ex e16, by rw [List.map_append, hsm]; rfl⟩
      · have hzI : ¬ ((t.2.2 : Nat) : Int) = 0 := by omega
        have esp : spotOf lo hi2 t.2.2 = ratMul half (ratAdd lo half) := if_neg hz
        rw [show heldNext b g t (lo, hi2) = (spotOf lo hi2 t.2.2, hi2) from by unfold heldNext; rw [if_neg hng, if_neg hz]]
        refine itF hzI ?_
        walk_at "go"
        refine v_own2 (rl.ex e8) (rh.ex e8) (bl.mono (by decide)) (bd_half.mono (by decide)) fun y1 H9 hy1 e9 g1' => ?_
        have bad : Bd 401 (ratAdd lo half) := add_bdR bl bd_half
        refine v_own2 ((rh.ex e8).ex e9) g1' (bd_half.mono (by decide)) (bad.mono (by decide)) fun sp H10 hsp e10 gsp => ?_
        rw [← esp] at gsp
        generalize spotOf lo hi2 t.2.2 = spt at *
        have e810 := e9.t e10
        walk_at "go"
        refine v_own2 gsp (rl.ex (e8.t e810)) (bs.mono (by decide)) (bl.mono (by decide)) fun d1 H11 hd1 e11 gd1 => ?_
        walk_at "go"
        refine v_own2 (rr.ex (e8.t (e810.t e11))) (rl.ex (e8.t (e810.t e11))) (bh.mono (by decide)) (bl.mono (by decide)) fun d2 H12 hd2 e12 gd2 => ?_
        walk_at "go"
        refine ⟨d1, d2, ratSub spt lo, ratSub hi2 lo, rfl, gd1.ex e12, gd2, (sub_bdR bs bl).mono (by decide), (sub_bdR bh bl).mono (by decide), by unfold ratSub; grind, fun pl H13 hpl e13 gpl => ?_⟩
        have gpl : HRat K H13 pl (placeOf lo hi2 spt) := gpl
        have e813 := e810.t (e11.t (e12.t e13))
        walk_at "go"
        refine ⟨ty_l (e813 _ _ (e8 _ _ hf6)), ?_⟩
        walk_at "go"
        refine fld_top T gpl ?_
        walk_at "go"
        refine fld_bottom T gpl ?_
        walk_at "go"
        refine ⟨szl (by simp), fun p hp => ?_⟩
        walk_at "go"
        have e14 : Ex H13 (upd H13 p (.tup [sV (ad ++ endA pre), sV [t.2.1], .int (placeOf lo hi2 spt).num, .int ((placeOf lo hi2 spt).den : Int)])) := Ex.nw hp
        refine v_append (e14 _ _ (e813 _ _ (e8 _ _ hf6))) (by rw [List.length_map]; omega) ?_
        have hsp := grow (st := (ad ++ endA pre, t.2.1, (placeOf lo hi2 spt).num, ((placeOf lo hi2 spt).den : Int))) e813 hp
        generalize hH15 : upd (upd H13 p _) f _ = H15
        have hsp : HSp H15 (ss ++ [(p, (ad ++ endA pre, t.2.1, (placeOf lo hi2 spt).num, ((placeOf lo hi2 spt).den : Int)))]) := hH15 ▸ hsp
        have e15 : Ex H H15 := hH15 ▸ (e68.t (e813.t e14)).up nf
        have b15 : ExB f H13 H15 := hH15 ▸ (ExB.of e14).t ExB.upd
        have hf15 : H15 f = some (.lst ((ss ++ [((p, (ad ++ endA pre, t.2.1, (placeOf lo hi2 spt).num, ((placeOf lo hi2 spt).den : Int))) : Addr × Stp)]).map fun r => V.ref r.1)) := by rw [← hH15, upd_same, List.map_append]; rfl
        have hfl := e813 _ _ (e8 _ _ hf6)
        have n : ∀ C dx fs, (HO.lst (ss.map fun r : Addr × Stp => V.ref r.1)) ≠ .ins C dx fs := fun _ _ _ h => nomatch h
        walk_at "go"
        refine itF hzI ?_
        walk_at "go"
        refine ⟨szl (by simp), fun p2 hp2 => ?_⟩
        generalize hH16 : upd H15 p2 _ = H16
        have e16 : Ex H15 H16 := hH16 ▸ Ex.nw hp2
        have hp16 : H16 p2 = some (.tup [.ref sp, .ref xr]) := hH16 ▸ upd_same
        refine g_tup (ex_t hp16) rfl ?_
        walk_at "go"
        refine ⟨(t.2.2 : Nat), rfl, logAt t4, ?_⟩
        rw [strAt t4]
        refine v_catS (by simp at hel ⊢; omega) ?_
        exact ⟨⟨sp, xr, _, _, _, _, _, _, hAd _ rfl, rfl, ((gsp.ex (e11.t (e12.t e13))).exB b15 hfl n).ex e16, ((rr.ex (e8.t e813)).exB b15 hfl n).ex e16, ((rh.ex (e8.t e813)).exB b15 hfl n).ex e16⟩, e15.t e16, _, e16 _ _ hf15, hsp.ex e16, by rw [List.map_append, hsm]; rfl⟩
  · rintro σ H6 ⟨⟨xl, xr, u, v, y, z, w', aa, haa, rfl, rl, rr, rh⟩, e6, ss, hf6, hss, hsm⟩
    subst haa
    have hend : (ts.map fun r : Addr × Turn => r.2).take (ts.map fun r : Addr × Turn => V.ref r.1).length = ts.map (·.2) := by rw [List.length_map, ← List.length_map (f := (·.2)), List.take_length]
    rw [hend] at hsm
    walk_at "go"
    refine ⟨szl (by simp), fun p hp => ?_⟩
    refine k p f ss _ (e6.none hp) nf (e6.t (Ex.nw hp)) ?_ ((Ex.nw hp) _ _ hf6) (hss.ex (Ex.nw hp)) hsm
    rw [upd_same, hend]
end L2.FW
end
section
set_option maxRecDepth 100000
set_option maxHeartbeats 4000000
/-! Paper, Touch made. -/
namespace L2.FW
open PySem PySem.Spec PyProof.Rows Fw NdefX
variable {P : Program} {w : World} {K : PySem.W.Frag} {mg : Str → Option Value} {base : Heap}
local macro_rules | `(tactic| walk_at "go1") => `(tactic| first
  | ((with_reducible apply v_var); exact rfl)
  | ((with_reducible apply s_aug); exact rfl)
  | with_reducible first
    | refine v_c ?_ | refine v_cons ?_ | refine v_nil ?_ | refine v_op ?_ | refine v_cb ?_ | refine v_call ?_ | refine v_bl ?_ | refine v_yes ?_
    | refine s_seq ?_ | refine s_ret ?_ | refine s_if ?_ | refine s_asg ?_ | refine g_name ?_ | refine v_test ?_ | refine v_tB ?_
    | refine v_rI0 ?_ | refine v_eqI ?_ | refine v_neI ?_ | refine v_eqS ?_ | refine v_neS ?_ | refine v_int1 ?_ | refine v_bool1 ?_ | refine v_abs ?_ | refine v_isN ?_ | refine v_notN ?_ | refine v_nsign ?_
    | refine v_andV ?_ | refine v_orV ?_ | refine v_notV ?_ | refine v_and ?_ | refine v_or ?_ | refine v_not ?_
    | refine v_if ?_ | refine v_tup ?_ | refine v_lst ?_ | refine v_sl ?_ | refine v_part ?_ | refine v_nopart ?_ | refine v_int ?_ | refine v_dget ?_ | refine v_din ?_ | refine v_dnin ?_
    | refine v_fld ?_ | refine v_meth ?_ | refine v_bm ?_ | refine v_m1 ?_ | refine v_strE ?_ | refine v_un ?_ | refine v_chain ?_ | refine s_next ?_ | refine s_drop ?_ | refine s_retN ?_ | refine s_par ?_ | refine s_par3 ?_
    | refine s_fld ?_ | refine s_dput ?_ | refine s_ddel ?_ | refine g_nil ?_ | refine g_cons ?_ | refine iteT ?_ | refine iteF ?_ | refine iteNT ?_ | refine iteNF ?_
    | refine isi_ss ?_ | refine isi_ii ?_ | refine isi_ib ?_ | refine v_lc ?_ | refine i_str ?_ | refine v_str ?_ | refine i_list ?_ | refine i_zipS ?_ | refine i_zipS3 ?_ | refine i_enumS ?_ | refine i_enum ?_ | refine i_tup ?_ | refine i_rng ?_ | refine s_for ?_ | refine v_star ?_ | refine v_makeR ?_ | refine v_make ?_ | refine v_cval ?_ | refine v_sign ?_)
local macro_rules | `(tactic| walk_at "go") => `(tactic| repeat walk_at "go1")
set_option pp.maxSteps 1200
def spPaperI (K : PySem.W.Frag) : Sp := fun vs H Q _ => ∃ (a dx : Addr) (x y : V), vs = [.ref a, x, y] ∧ H a = some (.ins (He.ga K "Touch") dx []) ∧ ∀ H', ExB a H H' → H' a = some (.ins (He.ga K "Touch") dx [("book", x), ("start", y)]) → Q .non H'
/-! Paper.__init__: slots self 0 book 1 start 2 -/
theorem sc_Paper___init__ : FnScope ["self", "book", "start"] ["self", "book", "start"] (defScope (inClass (top 31) 1)) := C8.fnScope_by (by decide +kernel)
theorem init_Paper (T : T w K mg) : ∃ fd, FnOk P w K mg base CX0 1 (He.ma K (He.ga K "Paper") "__init__") fd ["self", "book", "start"] (spPaperI K) ∧ Binds K fd ["self", "book", "start"] [] ∧ PySem.W.keepIn K (.ref (He.ma K (He.ga K "Paper") "__init__")) = true := by
  obtain ⟨fd, F⟩ := T.d_Paper_init
  refine ⟨fd, fnD F sc_Paper___init__ (fun vs H Q E h => ?_) (fun cdv A outer s H vs Q E hr h => ?_), F.bindsN (fun _ _ _ _ _ _ us hl => match us, hl with | [_, _, _], _ => rfl), F.kp⟩
  · obtain ⟨_, _, _, _, rfl, _⟩ := h; rfl
  obtain ⟨a, dx, x, y, rfl, ha, k⟩ := h
  refine ⟨_, (pss_cons (ps_fld (pv 0) (pv 1) rfl)
      (pss_one (ps_fld (pv 0) (pv 2) rfl))), ?_⟩
  walk_at "go"
  refine ⟨a, _, dx, [], rfl, ha, T.c_Touch, T.n_Touch_book, by show 0 < 1000; decide, ?_⟩
  walk_at "go"
  refine ⟨a, _, dx, _, rfl, upd_same, T.c_Touch, T.n_Touch_start, by show 1 < 1000; decide, ?_⟩
  rw [upd_upd]
  exact k _ ExB.upd upd_same
/-- a paper's room: the start's -/
def spIsPlaced (K : PySem.W.Frag) : Sp := fun vs H Q _ => ∃ (t dx a : Addr) (b : Bk) (st : Tx) (fs : List (Str × V)), vs = [.ref t] ∧ H t = some (.ins (He.ga K "Touch") dx (("book", .ref a) :: ("start", sV st) :: fs)) ∧ HBook K H a b ∧ RoomOk b.fc st ∧ ∀ H', Ex H H' → Q (.bl true) H'
theorem T.touchPlaced (T : T w K mg) : PySem.W.findIn K (.ref (He.ga K "Touch")) "is_placed" = some (some (.ref (He.ma K (He.ga K "Paper") "is_placed"))) ∧ PySem.W.isFn K (.ref (He.ma K (He.ga K "Paper") "is_placed")) = true := by
  have a := He.ba (He.ba (He.ba (He.ba (He.ba T.insP).2).2).2).2
  exact ⟨He.eqO_ok a.1, a.2⟩
/-! Paper.is_placed: slots self 0 -/
theorem sc_Paper_is_placed : FnScope ["self"] ["self"] (defScope (inClass (top 31) 4)) := C8.fnScope_by (by decide +kernel)
theorem met_Touch_is_placed (T : T w K mg) : Met P w K mg base 3 (He.ga K "Touch") "is_placed" (spIsPlaced K) := by
  obtain ⟨fd, F⟩ := T.d_Paper_is_placed
  obtain ⟨m1, m2⟩ := T.touchPlaced
  refine ⟨_, fd, ["self"], T.c_Touch, ⟨m1, m2, F.kp⟩, fnD F sc_Paper_is_placed (fun vs H Q E h => ?_) (fun cdv A outer s H vs Q E hr h => ?_), F.bindsN (fun _ _ _ _ _ _ us hl => match us, hl with | [_], _ => rfl)⟩
  · obtain ⟨_, _, _, _, _, _, rfl, _⟩ := h; rfl
  obtain ⟨t, dx, a, b, st, fs, rfl, ht, hb, hst, k⟩ := h
  refine ⟨_, (pss_one (ps_ret (pe_cl (cal_is_room T) hr (by decide) rfl (pa_cons (pe_fld (pv 0) rfl) (pa_cons (pe_fld (pe_fld (pv 0) rfl) rfl) pa_nil))))), ?_⟩
  walk_at "go"
  refine fld_any ht T.c_Touch T.n_Touch_start rfl ?_
  walk_at "go"
  refine fld_any ht T.c_Touch T.n_Touch_book rfl ?_
  walk_at "go"
  refine fld_faces T hb ?_
  walk_at "go"
  refine ⟨st, b.fc, rfl, by rw [hst.1]; decide, fun H1 e1 => ?_⟩
  rw [roomOk_of hst]
  exact k _ e1
/-! ### Touch's own __init__: a closure over __class__ -/
/-- the def: its object, its closure's cell, its code -/
theorem T.touchI (T : T w K mg) : ∃ (oc : Value) (od : Option Addr) (fd : FuncData) (osl : Array (Option Value)) (c cc : Addr), K.lookup (tiAd K) = some ⟨oc, od, .func fd, osl⟩ ∧ fd.name = "__init__" ∧ fd.qualname = "Touch.__init__" ∧ fd.params = defArgs (inClass (top 62) 1) ∧ fd.body = .stmts (defBody (inClass (top 62) 1)) ∧ fd.scope = defScope (inClass (top 62) 1) ∧
    fd.globals = mainGlobals ∧ fd.closure = [(("__class__" : Str), cc)] ∧ fd.builtins = builtinsNs ∧ fd.defaults = .none ∧ fd.code = .ref c ∧ PySem.W.codeIn K (.ref c) "Touch.__init__" = true ∧ (∃ cl cld csl, K.lookup cc = some ⟨cl, cld, .cell (some (.ref (He.ga K "Touch"))), csl⟩) ∧
    (∃ ccl cdd vs ccs tf, K.lookup c = some ⟨ccl, cdd, .fields vs, ccs⟩ ∧ vs[2]? = some (.str "/claim/cut.py" tf)) ∧ PySem.W.keepIn K (.ref (tiAd K)) = true := by
  have a := (He.ba (He.ba (He.ba (He.ba T.exB).2).2).2).2
  obtain ⟨a1, a2⟩ := He.ba a
  have s5 := (He.ba (He.ba (He.ba (He.ba (He.ba T.sup).2).2).2).2).1
  have hx := congrArg (fun l : List FnX => l[1]?) T.fx
  have hx : some (fnX K (tiAd K)) = some (some _) := hx
  have hx := Option.some.inj hx
  unfold fnXok at a1
  have b := He.ba a1
  unfold fnX at hx
  unfold cellOk at a2
  cases hl : K.lookup (tiAd K) with
  | none => rw [hl] at hx; cases hx
  | some o =>
    obtain ⟨oc, od, data, osl⟩ := o
    rw [hl] at hx b a2 s5
    cases data with
    | func fd =>
      obtain ⟨nm, qn, pa, bo, sc, gl, cl, dV, kV, dc, pm, an, cd, ct, bn⟩ := fd
      have e2 : (some (nm, qn, pa, bo, sc, gl, cl.map (·.1), bn) : FnX) = (some (("__init__" : Str), ("Touch.__init__" : Str), defArgs (inClass (top 62) 1), FuncBody.stmts (defBody (inClass (top 62) 1)), defScope (inClass (top 62) 1), mainGlobals, ["__class__"], builtinsNs) : FnX) := hx
      simp only [Option.some.injEq, Prod.mk.injEq] at e2
      obtain ⟨h1, h2, h3, h4, h5, h6, h7, h8⟩ := e2
      obtain ⟨cc, rfl⟩ : ∃ cc, cl = [(("__class__" : Str), cc)] := by
        match cl, h7 with
        | [(x, cc)], h7 =>
          have : x = "__class__" := by simpa using h7
          subst this
          exact ⟨cc, rfl⟩
      have c3 := b.2
      dsimp only at c3 a2 s5
      obtain ⟨k1, k2⟩ := He.ba c3
      have hd : dV = .none := by
        clear hl hx b c3
        cases dV <;> first | rfl | cases k2
      obtain ⟨c, rfl⟩ : ∃ c, cd = .ref c := by
        clear hl hx b c3 k2
        cases cd <;> first | exact ⟨_, rfl⟩ | cases s5
      dsimp only at s5
      have hcell : ∃ cl cld csl, K.lookup cc = some ⟨cl, cld, .cell (some (.ref (He.ga K "Touch"))), csl⟩ := by
        clear hl hx b c3 k2 s5 k1
        cases hc : K.lookup cc with
        | none => rw [hc] at a2; cases a2
        | some o =>
          obtain ⟨oc, od, data, osl⟩ := o
          rw [hc] at a2
          cases data with
          | cell v =>
            cases v with
            | none => cases a2
            | some v =>
              cases v <;> first | (cases a2; done) | skip
              have := of_decide_eq_true a2
              subst this
              exact ⟨_, _, _, rfl⟩
          | _ => cases a2
      have hcode : ∃ ccl cdd vs ccs tf, K.lookup c = some ⟨ccl, cdd, .fields vs, ccs⟩ ∧ vs[2]? = some (.str "/claim/cut.py" tf) := by
        clear hl hx b c3 k2 a2 k1 hcell
        cases hc : K.lookup c with
        | none => rw [hc] at s5; cases s5
        | some o =>
          obtain ⟨oc, od, data, osl⟩ := o
          rw [hc] at s5
          cases data with
          | fields vs =>
            have s5 : (match vs.toList with | _ :: _ :: .str f _ :: _ => decide (f = ("/claim/cut.py" : Str)) | _ => false) = true := s5
            split at s5
            · rename_i x0 x1 f tf r hvs
              have := of_decide_eq_true s5
              subst this
              refine ⟨_, _, vs, _, tf, rfl, ?_⟩
              rw [← Array.getElem?_toList, hvs]
              rfl
            · cases s5
          | _ => cases s5
      exact ⟨oc, od, _, osl, c, cc, rfl, h1, h2, h3, h4, h5, h6, rfl, h8, hd, rfl, k1, hcell, hcode, b.1⟩
    | _ => cases hx
theorem T.supT (T : T w K mg) : (∃ cd, PySem.W.clsIn K (He.ga K "Touch") = some cd ∧ cd.mro = [.ref (He.ga K "Touch"), .ref (He.ga K "Paper"), .type "object"]) ∧ PySem.W.alongIn K "__init__" [.ref (He.ga K "Paper"), .type "object"] = some (some (.ref (He.ma K (He.ga K "Paper") "__init__"))) ∧
    PySem.W.nsIn K PySem.cStatics "thirdparty.any" = some none ∧ PySem.W.subIn K (.ref (He.ga K "Touch")) (.ref (He.ga K "Touch")) = some true ∧ PySem.W.isFn K (.ref (He.ma K (He.ga K "Paper") "__init__")) = true := by
  obtain ⟨a, b⟩ := He.ba T.sup
  obtain ⟨b1, b2⟩ := He.ba b
  obtain ⟨c1, c2⟩ := He.ba b2
  obtain ⟨d1, d2⟩ := He.ba c2
  obtain ⟨f1, f2⟩ := He.ba d2
  obtain ⟨g1, g2⟩ := He.ba f2
  refine ⟨?_, He.eqO_ok b1, He.eqO_ok c1, of_decide_eq_true d1, g1⟩
  split at a
  · rename_i cd h
    exact ⟨cd, h, of_decide_eq_true a⟩
  · cases a
def spTouchI (K : PySem.W.Frag) : Sp := fun vs H Q _ => ∃ (a dx bk l : Addr) (st one other : Tx) (sg : Nat) (rs : List (Addr × List V)), vs = [.ref a, .ref bk, sV st, sV [sg], .ref l, sV one, sV other] ∧ H a = some (.ins (He.ga K "Touch") dx []) ∧
  H l = some (.lst (rs.map fun r : Addr × List V => V.ref r.1)) ∧ HRow H rs ∧ rs.length ≤ 1000 ∧ (∀ r ∈ rs, r.2.length ≤ 1000 ∧ ∀ x ∈ r.2, Scl x) ∧
  ∀ l' rs' H', ExB a H H' → H' a = some (.ins (He.ga K "Touch") dx [("book", .ref bk), ("start", sV st), ("sign", sV [sg]), ("one", sV one), ("other", sV other), ("own_steps", .ref l')]) → H' l' = some (.lst (rs'.map fun r : Addr × List V => V.ref r.1)) → HRow H' rs' → rs'.map (·.2) = rs.map (·.2) → Q .non H'
abbrev touchN : List Str := ["self", "book", "start", "sign", "steps", "one", "other", "__class__"]
abbrev touchP : List Str := ["self", "book", "start", "sign", "steps", "one", "other"]
theorem sc_TouchI : NScope touchN touchP ["__class__"] (defScope (inClass (top 62) 1)) := nscope_by (by decide +kernel)
theorem init_Touch (T : T w K mg) (hP : SupP P) : ∃ fd, FnOk P w K mg base CX0 6 (tiAd K) fd touchP (spTouchI K) ∧ Binds K fd touchP [] := by
  obtain ⟨oc, od, fd, osl, c, cc, lk, h1, h2, h3, h4, h5, h6, h7, h8, h9, h10, hcd, ⟨cl, cld, csl, hcell⟩, ⟨ccl, cdd, vs, ccs, tf, hcode, hvs⟩, hkp⟩ := T.touchI
  obtain ⟨nm, qn, pa, bo, sc, gl, cl', dV, kV, dc, pm, an, cd, ct, bn⟩ := fd
  dsimp only at h1 h2 h3 h4 h5 h6 h7 h8 h9 h10
  subst h1 h2 h3 h4 h5 h6 h7 h8 h9 h10
  obtain ⟨fdP, FP, hbP, hkP⟩ := init_Paper (P := P) (base := base) T
  obtain ⟨⟨cdT, hclT, hmro⟩, halong, hopq, hsub, hfn⟩ := T.supT
  refine ⟨{ name := "__init__", qualname := "Touch.__init__", params := defArgs (inClass (top 62) 1), body := .stmts (defBody (inClass (top 62) 1)), scope := defScope (inClass (top 62) 1), globals := mainGlobals, closure := [(("__class__" : Str), cc)], defaults := .none, kwdefaults := kV, doc := dc, pyModule := pm, annotations := an, code := .ref c, closureTuple := ct, builtins := builtinsNs },
    ⟨fun vs H Q E h => ?_, fun A outer s H args us vs Q E hr e0 hb r hsp => ?_⟩, .all fun us hl => ?_⟩
  · obtain ⟨_, _, _, _, _, _, _, _, _, rfl, _⟩ := h; rfl
  · obtain ⟨a, dx, bk, l, st, one, other, sg, rs, rfl, ha, hl, hrs, hrn, hsc, k⟩ := hsp
    have KX : K.In s.heap := e0.mod.kin.keeps fun b o e => (e0.bs b o e).1
    have lim : s.heap.NoLimit := e0.mod.nolimit.keeps fun b o e => (e0.bs b o e).1
    let F : NF := ⟨"__init__", "Touch.__init__", defArgs (inClass (top 62) 1), defBody (inClass (top 62) 1), defScope (inClass (top 62) 1), [(("__class__" : Str), cc)], c⟩
    have C : CellsAt F.cl ["__class__"] [none] s.heap H := by
      have hb0 := e0.bs cc _ (e0.mod.kin _ _ hcell)
      have one : ∀ {y : Str} {q : Addr}, F.cl.lookup y = some q → y = "__class__" ∧ q = cc := fun {y q} h => by
        have h : (if y == ("__class__" : Str) then some cc else none) = some q := by
          have h : ([(("__class__" : Str), cc)] : List (Str × Addr)).lookup y = some q := h
          rw [List.lookup_cons] at h
          cases hy : (y == ("__class__" : Str)) with
          | true => rw [hy] at h; simpa using h
          | false => rw [hy] at h; simp at h
        split at h
        · rename_i hy
          exact ⟨beq_iff_eq.mp hy, (Option.some.inj h).symm⟩
        · cases h
      refine ⟨rfl, fun y q h => ?_, fun x y q h1 h2 => ?_, fun i y h => ?_⟩
      · obtain ⟨rfl, rfl⟩ := one h
        exact ⟨hb0.2, _, _, hb0.1, rfl⟩
      · exact (one h1).1.trans (one h2).1.symm
      · have : y = "__class__" := by
          have := List.mem_of_getElem? h
          simpa using this
        subst this
        refine ⟨cc, rfl, fun v hv => ?_⟩
        cases i with
        | zero => cases hv
        | succ i => cases hv
    refine codeAny_call_function hr.depth (KX _ _ lk) rfl sc_TouchI.co sc_TouchI.gen rfl (PySem.W.codeRec_of KX hcd) (hb _ _ _ _ ?_)
    refine wpAny_newFunctionEnv sc_TouchI.nocell (fun ⟨n, _⟩ hy => sc_TouchI.par n (List.of_mem_zip hy).1) (fun h₁ hns hsb => ⟨lim.fresh _ hsb, ?_⟩) sc_TouchI.kind
    show codeAny _ _ (.func F.body (envF F (tiAd K) s.heap.objs.size)) _ _
    refine ks_codeAny_funcAt ?_
    have kp : ∀ b o, s.heap.get? b = some o → h₁.get? b = some o := fun b o e => hsb.extBut b o (Nat.ne_of_lt (Heap.lt_size e)) (Heap.get?_push_of_some _ e)
    have I : Inv (ncx CX0 P w K mg base touchN F (tiAd K) A outer s H E) [] (startF touchN _ [none]) H { s with heap := h₁, toks := s.toks + (touchP.zip us).length } := inv_startN (N := touchN) (ps := touchP) (fr := ["__class__"]) (F := F) sc_TouchI hr.hd e0 rfl r C hns kp
    have hr : Room 5 (ncx CX0 P w K mg base touchN F (tiAd K) A outer s H E).A := hr.deeper _
    have S : ∃ ar, SupX (ncx CX0 P w K mg base touchN F (tiAd K) A outer s H E) (He.ga K "Touch") (He.ma K (He.ga K "Paper") "__init__") cc "__init__" ar := by
      refine ⟨_, hP, rfl, rfl, ⟨_, _, _, _, _, rfl, lk, rfl⟩, ⟨c, _, _, vs, _, tf, rfl, hcode, hvs⟩, rfl, ⟨_, _, _, hcell⟩, ⟨_, hclT⟩, hsub, hopq, ?_, beq_iff_eq.mp hfn, ?_, ?_, rfl, rfl, rfl, .inl rfl⟩
      · unfold PySem.W.ks_superIn
        rw [show (ncx CX0 P w K mg base touchN F (tiAd K) A outer s H E).K = K from rfl, hclT]
        show PySem.W.alongIn K "__init__" ((cdT.mro.dropWhile (· != .ref (He.ga K "Touch"))).drop 1) = _
        rw [hmro]
        have e : ([Value.ref (He.ga K "Touch"), .ref (He.ga K "Paper"), .type "object"].dropWhile (· != .ref (He.ga K "Touch"))) = [Value.ref (He.ga K "Touch"), .ref (He.ga K "Paper"), .type "object"] := by
          rw [List.dropWhile_cons, if_neg (by simp)]
        rw [e]
        exact halong
      · obtain ⟨_, _, _, _, _, _, _, _, _, _, hfd, hlk, _, _⟩ := T.d_Paper_init.choose_spec.ex
        unfold PySem.W.fnIn
        rw [show (ncx CX0 P w K mg base touchN F (tiAd K) A outer s H E).K.lookup (He.ma K (He.ga K "Paper") "__init__") = _ from hlk]
      · exact T.f_super
    obtain ⟨ar, S⟩ := S
    have F2 := FP.raw hbP .nil
    refine ks_wpAt_execs_cons (ks_wpAt_mono (sup_first (k := 1) (sp2 := fun vs H Q E => spPaperI K (vs ++ []) H Q E) (Nx := fun H1 => ExB a H H1 ∧ H1 a = some (.ins (He.ga K "Touch") dx [("book", .ref bk), ("start", sV st)])) S F2 (hr.mono (by decide)) (pa_cons (pv 1) (pa_cons (pv 2) pa_nil)) I (by rfl) ha ?_ rfl (fun _ => rfl) rfl rfl rfl) (fun fl s' q => ?_) fun _ _ e => e)
    · walk_at "go"
      exact ⟨a, dx, _, _, rfl, ha, fun H1 b1 h1 => ⟨b1, h1⟩⟩
    obtain ⟨rfl, H1, I1, b1, ha1⟩ := q
    refine wpAt_of_wpAny ?_
    have body : ∃ t, PSs (ncx CX0 P w K mg base touchN F (tiAd K) A outer s H E) ((defBody (inClass (top 62) 1)).drop 1) t ∧ t { nx := fun _ H' => Q .non H', rt := Q } (startF touchN [.ref a, .ref bk, sV st, sV [sg], .ref l, sV one, sV other] [none]) H1 := by
      refine ⟨_, (pss_cons (ps_fld (pv 0) (pv 3) rfl)
      (pss_cons (ps_fld (pv 0) (pv 5) rfl)
      (pss_cons (ps_fld (pv 0) (pv 6) rfl)
      (pss_one (ps_fld (pv 0) (pe_cl (cal_kept_list T) hr (by decide) rfl (pa_cons (pv 4) pa_nil)) rfl))))), ?_⟩
      walk_at "go"
      refine ⟨a, _, dx, _, rfl, ha1, T.c_Touch, T.n_Touch_sign, by show 2 < 1000; decide, ?_⟩
      walk_at "go"
      refine ⟨a, _, dx, _, rfl, upd_same, T.c_Touch, T.n_Touch_one, by show 3 < 1000; decide, ?_⟩
      rw [upd_upd]
      walk_at "go"
      refine ⟨a, _, dx, _, rfl, upd_same, T.c_Touch, T.n_Touch_other, by show 4 < 1000; decide, ?_⟩
      rw [upd_upd]
      generalize hH2 : upd H1 a _ = H2
      have b2 : ExB a H H2 := hH2 ▸ b1.t ExB.upd
      have ha2 : H2 a = some (.ins (He.ga K "Touch") dx [("book", .ref bk), ("start", sV st), ("sign", sV [sg]), ("one", sV one), ("other", sV other)]) := hH2 ▸ upd_same
      walk_at "go"
      have nla : l ≠ a := fun e => by rw [e, ha] at hl; cases hl
      refine ⟨l, rs, rfl, b2 _ _ nla hl, fun r m => b2 _ _ (fun e => by have := hrs r m; rw [e, ha] at this; cases this) (hrs r m), hrn, hsc, fun l' rs' H3 hl' e3 hl3 hrs3 hrr => ?_⟩
      walk_at "go"
      refine ⟨a, _, dx, _, rfl, e3 _ _ ha2, T.c_Touch, T.n_Touch_own_steps, by show 5 < 1000; decide, ?_⟩
      generalize hH4 : upd H3 a _ = H4
      have b4 : ExB a H3 H4 := hH4 ▸ ExB.upd
      have ha4 : H4 a = some (.ins (He.ga K "Touch") dx [("book", .ref bk), ("start", sV st), ("sign", sV [sg]), ("one", sV one), ("other", sV other), ("own_steps", .ref l')]) := hH4 ▸ upd_same
      have ha3 := e3 _ _ ha2
      exact k l' rs' H4 (b2.t ((ExB.of e3).t b4)) ha4 (b4 _ _ (fun e => by rw [e, ha3] at hl3; cases hl3) hl3) (fun r m => b4 _ _ (fun e => by have := hrs3 r m; rw [e, ha3] at this; cases this) (hrs3 r m)) hrr
    obtain ⟨t, ht, hq⟩ := body
    refine wpAny_mono (ht.run [] _ _ H1 _ I1 hq) (fun fl s' hs => ?_) fun e s' hs => hs
    have fin : ∀ {σ' : L2.St} {H' : Hp} {v : V} {u : Value}, Inv (ncx CX0 P w K mg base touchN F (tiAd K) A outer s H E) [] σ' H' s' → L2.RelV v u → Q v H' → CE outer P w H s Q u s' :=
      fun {σ' H' v u} J rv q => ⟨v, H', J.os, J.bare, J.base, J.hok, rv, q⟩
    cases fl with
    | ret u =>
      obtain ⟨v, σ', H', J, rv, q⟩ := hs
      exact fin J rv q
    | next =>
      obtain ⟨σ', H', J, q⟩ := hs
      exact fin (v := V.non) (u := Value.none) J rfl q
    | brk =>
      obtain ⟨_, _, _, q⟩ := hs
      exact False.elim q
    | cont =>
      obtain ⟨_, _, _, q⟩ := hs
      exact False.elim q
  · match us, hl with
    | [_, _, _, _, _, _, _], _ => rfl
section
variable {X : Cx} {j : Nat} {p pos : Pos} {e : Expr} {es : List Expr} {t : TA}
theorem pe_mk_Touch6 (T : T X.w X.K X.mg) (hP : SupP X.prog) (hr : Room j X.A) (hg : Gl X "Touch") (ha : PA X (e :: es) t) (hk : 7 ≤ j := by decide)
    (he : starEach (e :: es) X.env = (false, eval e X.env) :: starEach es X.env := by rfl) (hpl : (backTo pos (starEach es X.env)).any (·.1) = false := by rfl) :
    PE X (.Call (.Name "Touch" p) (e :: es) [] pos) (tMake (He.ga X.K "Touch") (spTouchI X.K) [] E0 t) := by
  obtain ⟨fd, F, h2⟩ := init_Touch (P := X.prog) (base := X.base) T hP
  exact pe_make T.mk_Touch F (hr.mono hk) hg T.g_Touch h2 .nil pass0 ha (by decide) he hpl
end
/-- a Touch in the heap -/
def HTouch (K : PySem.W.Frag) (H : Hp) (t bk : Addr) (st : Tx) (sg : Nat) (one other : Tx) (rows : List (List V)) : Prop := ∃ dx l rs, H t = some (.ins (He.ga K "Touch") dx [("book", .ref bk), ("start", sV st), ("sign", sV [sg]), ("one", sV one), ("other", sV other), ("own_steps", .ref l)]) ∧
  H l = some (.lst (rs.map fun r : Addr × List V => V.ref r.1)) ∧ HRow H rs ∧ rs.map (·.2) = rows
theorem HTouch.ex {H H' : Hp} {t bk : Addr} {st : Tx} {sg : Nat} {one other : Tx} {rows : List (List V)} (e : Ex H H') (h : HTouch K H t bk st sg one other rows) : HTouch K H' t bk st sg one other rows := by
  obtain ⟨dx, l, rs, h1, h2, h3, h4⟩ := h
  exact ⟨dx, l, rs, e _ _ h1, e _ _ h2, h3.ex e, h4⟩
theorem mk_touch {H : Hp} {Q : VK} {E : XK} {bk l : Addr} {st one other : Tx} {sg : Nat} {rs : List (Addr × List V)} (hl : H l = some (.lst (rs.map fun r : Addr × List V => V.ref r.1))) (hrs : HRow H rs) (hn : rs.length ≤ 1000) (hsc : ∀ r ∈ rs, r.2.length ≤ 1000 ∧ ∀ x ∈ r.2, Scl x)
    (q : ∀ x H', H x = none → Ex H H' → HTouch K H' x bk st sg one other (rs.map (·.2)) → Q (.ref x) H') : rMk (He.ga K "Touch") (spTouchI K) [] E [.ref bk, sV st, sV [sg], .ref l, sV one, sV other] H Q := by
  intro x dx hx hd hne
  have e1 := made_ (C := He.ga K "Touch") hx hd hne
  exact ⟨x, dx, bk, l, st, one, other, sg, rs, rfl, upd_same, e1 _ _ hl, hrs.ex e1, hn, hsc, fun l' rs' H' b' h1 h2 h3 h4 => ⟨rfl, q x H' hx (e1.mut hx b') ⟨dx, l', rs', h1, h2, h3, h4⟩⟩⟩
end L2.FW
end
section
set_option maxRecDepth 100000
/-! Which rooms meet on a placed floor: each meeting pair comes of one cut, with no more steps than the floor had. -/
namespace L2.FW
open Fw
def MeetG (g : Nat) (x y : Bx) : Prop := if g = 124 then x.e = y.w ∧ x.n < y.s ∧ y.n < x.s else x.s = y.n ∧ x.w < y.e ∧ y.w < x.e
/-- the view along the stretch of a cut, from the part k -/
def viewG (g k : Nat) : Nat := if g = 124 then (if k = 0 then 69 else 87) else (if k = 0 then 83 else 78)
theorem viewG_V4 (g k : Nat) : V4 (viewG g k) := by
  unfold viewG V4
  split <;> split <;> simp
theorem signB_M {x y : Bx} {g : Nat} (h : signB x y = [g]) : G2 g ∧ MeetG g x y := by
  unfold signB at h
  split at h
  · rename_i c
    cases h
    exact ⟨.inl rfl, by unfold MeetG; rw [if_pos rfl]; exact c⟩
  · split at h
    · rename_i c
      cases h
      exact ⟨.inr rfl, by unfold MeetG; rw [if_neg (by decide)]; exact c⟩
    · cases h
theorem signB_one {x y : Bx} (h : signB x y ≠ []) : ∃ g, signB x y = [g] := by
  unfold signB at h ⊢
  split
  · exact ⟨_, rfl⟩
  · split
    · exact ⟨_, rfl⟩
    · rename_i h1 h2
      rw [if_neg h1, if_neg h2] at h
      exact absurd rfl h
/-- a pair that meets by g comes of one cut -/
def Wit (b : Bk) (st : Tx) (g : Nat) (r1 r2 : Tx) (n : Nat) : Prop := ∃ (R : Tx) (p : List Turn) (c : Nat) (q1 q2 : List Turn), Path (stepB b) st p R ∧ c ∈ b.ct ∧ b.cut R c ≠ [] ∧ (b.cut R c).headD 0 = g ∧
  Path (stepV b (viewG g 0)) (part0 R (b.cut R c)) q1 r1 ∧ Path (stepV b (viewG g 1)) (part1 R (b.cut R c)) q2 r2 ∧ p.length + 1 + q1.length + q2.length ≤ n
theorem Wit.mono {b : Bk} {st : Tx} {g : Nat} {r1 r2 : Tx} {n m : Nat} (h : Wit b st g r1 r2 n) (l : n ≤ m) : Wit b st g r1 r2 m := by
  obtain ⟨R, p, c, q1, q2, h1, h2, h3, h4, h5, h6, h7⟩ := h
  exact ⟨R, p, c, q1, q2, h1, h2, h3, h4, h5, h6, Nat.le_trans h7 l⟩
structure Nz (x : Bx) : Prop where
  h : x.w < x.e
  v : x.n < x.s
def Dj (x y : Bx) : Prop := x.e ≤ y.w ∨ y.e ≤ x.w ∨ x.s ≤ y.n ∨ y.s ≤ x.n
theorem Dj.symm {x y : Bx} (h : Dj x y) : Dj y x := by
  rcases h with h | h | h | h
  · exact .inr (.inl h)
  · exact .inl h
  · exact .inr (.inr (.inr h))
  · exact .inr (.inr (.inl h))
theorem onWay_in {p q : Rat} {t b : Int} (h : p < q) (h0 : 0 < t) (h1 : t < b) : p < onWay p q t b ∧ onWay p q t b < q := by
  unfold onWay
  rw [Rat.divInt_eq_div]
  have hb : (0 : Rat) < (b : Rat) := Rat.intCast_pos.mpr (by omega)
  have ht : (0 : Rat) < (t : Rat) := Rat.intCast_pos.mpr h0
  have htb : (t : Rat) < (b : Rat) := Rat.intCast_lt_intCast.mpr h1
  have f0 : (0 : Rat) < (t : Rat) / (b : Rat) := by rw [Rat.lt_div_iff hb]; grind
  have f1 : (t : Rat) / (b : Rat) < 1 := by rw [Rat.div_lt_iff hb]; grind
  generalize (t : Rat) / (b : Rat) = f at f0 f1
  have hd : 0 < q - p := by grind
  have a1 : 0 < (q - p) * f := Rat.mul_pos hd f0
  have a2 : 0 < (q - p) * (1 - f) := Rat.mul_pos hd (by grind)
  constructor
  · grind
  · grind
def bxk (p : Bx × Bx) (k : Nat) : Bx := if k = 0 then p.1 else p.2
/-- within -/
structure Wn (x y : Bx) : Prop where
  w : y.w ≤ x.w
  n : y.n ≤ x.n
  e : x.e ≤ y.e
  s : x.s ≤ y.s
theorem Dj.wn {x x' y : Bx} (h : Dj x y) (hw : Wn x' x) : Dj x' y := by
  obtain ⟨h1, h2, h3, h4⟩ := hw
  rcases h with h | h | h | h
  · exact .inl (by grind)
  · exact .inr (.inl (by grind))
  · exact .inr (.inr (.inl (by grind)))
  · exact .inr (.inr (.inr (by grind)))
section
variable {x y : Bx} {g g' : Nat} {t b : Int}
theorem split_nz (hx : Nz x) (h0 : 0 < t) (h1 : t < b) (k : Nat) : Nz (bxk (splitB x g t b) k) ∧ Wn (bxk (splitB x g t b) k) x := by
  obtain ⟨a1, a2⟩ := onWay_in hx.h h0 h1
  obtain ⟨b1, b2⟩ := onWay_in hx.v h0 h1
  obtain ⟨c1, c2⟩ := hx
  unfold splitB bxk
  split <;> split <;> dsimp only <;> refine ⟨⟨?_, ?_⟩, ⟨?_, ?_, ?_, ?_⟩⟩ <;> dsimp only <;> grind
theorem split_dj (hx : Nz x) : Dj (splitB x g t b).1 (splitB x g t b).2 := by
  unfold splitB Dj
  split <;> dsimp only <;> grind
theorem split_M (hx : Nz x) (hg : G2 g) : MeetG g (splitB x g t b).1 (splitB x g t b).2 := by
  obtain ⟨c1, c2⟩ := hx
  unfold splitB MeetG
  rcases hg with rfl | rfl
  · rw [if_pos rfl, if_pos rfl]; exact ⟨rfl, c2, c2⟩
  · rw [if_neg (by decide), if_neg (by decide)]; exact ⟨rfl, c1, c1⟩
theorem M_dj_g (hx : Nz x) (hy : Nz y) (h : MeetG g' x y) (hg : G2 g) (hg' : G2 g') (hm : MeetG g x y) : g = g' := by
  obtain ⟨a1, a2⟩ := hx
  obtain ⟨b1, b2⟩ := hy
  unfold MeetG at h hm
  rcases hg with rfl | rfl <;> rcases hg' with rfl | rfl <;> simp at h hm ⊢ <;> grind
theorem used_all : usedP (viewG 124 0) 124 = [1] ∧ usedP (viewG 124 0) 45 = [0, 1] ∧ usedP (viewG 124 1) 124 = [0] ∧ usedP (viewG 124 1) 45 = [0, 1] ∧
    usedP (viewG 45 0) 124 = [0, 1] ∧ usedP (viewG 45 0) 45 = [1] ∧ usedP (viewG 45 1) 124 = [0, 1] ∧ usedP (viewG 45 1) 45 = [0] := by decide
theorem split_first {k : Nat} (hk : k < 2) (hx : Nz x) (hy : Nz y) (hd : Dj x y) (hg : G2 g) (hg' : G2 g') (h0 : 0 < t) (h1 : t < b) (h : MeetG g (bxk (splitB x g' t b) k) y) : MeetG g x y ∧ k ∈ usedP (viewG g 0) g' := by
  obtain ⟨a1, a2⟩ := onWay_in hx.h h0 h1
  obtain ⟨b1, b2⟩ := onWay_in hx.v h0 h1
  obtain ⟨c1, c2⟩ := hx
  obtain ⟨d1, d2⟩ := hy
  obtain ⟨u1, u2, u3, u4, u5, u6, u7, u8⟩ := used_all
  unfold MeetG bxk splitB at h
  unfold MeetG
  unfold Dj at hd
  rcases hg with rfl | rfl <;> rcases hg' with rfl | rfl <;> (first | rw [u1] | rw [u2] | rw [u5] | rw [u6]) <;> (obtain rfl | rfl : k = 0 ∨ k = 1 := by omega) <;> simp at h ⊢ <;> grind
theorem split_second {k : Nat} (hk : k < 2) (hx : Nz x) (hy : Nz y) (hd : Dj x y) (hg : G2 g) (hg' : G2 g') (h0 : 0 < t) (h1 : t < b) (h : MeetG g y (bxk (splitB x g' t b) k)) : MeetG g y x ∧ k ∈ usedP (viewG g 1) g' := by
  obtain ⟨a1, a2⟩ := onWay_in hx.h h0 h1
  obtain ⟨b1, b2⟩ := onWay_in hx.v h0 h1
  obtain ⟨c1, c2⟩ := hx
  obtain ⟨d1, d2⟩ := hy
  obtain ⟨u1, u2, u3, u4, u5, u6, u7, u8⟩ := used_all
  unfold MeetG bxk splitB at h
  unfold MeetG
  unfold Dj at hd
  rcases hg with rfl | rfl <;> rcases hg' with rfl | rfl <;> (first | rw [u3] | rw [u4] | rw [u7] | rw [u8]) <;> (obtain rfl | rfl : k = 0 ∨ k = 1 := by omega) <;> simp at h ⊢ <;> grind
theorem split_no (hx : Nz x) (h0 : 0 < t) (h1 : t < b) (hg : G2 g) (hg' : G2 g') : ¬ MeetG g (bxk (splitB x g' t b) 1) (bxk (splitB x g' t b) 0) := by
  obtain ⟨a1, a2⟩ := onWay_in hx.h h0 h1
  obtain ⟨b1, b2⟩ := onWay_in hx.v h0 h1
  obtain ⟨c1, c2⟩ := hx
  unfold MeetG bxk splitB
  rcases hg with rfl | rfl <;> rcases hg' with rfl | rfl <;> simp <;> grind
end
structure FInv (b : Bk) (st : Tx) (F : Fl) (n : Nat) : Prop where
  nz : ∀ e ∈ F, Nz e.2.2
  path : ∀ e ∈ F, ∃ p, Path (stepB b) st p e.2.1 ∧ p.length ≤ n
  dj : ∀ e ∈ F, ∀ f ∈ F, e.1 ≠ f.1 → Dj e.2.2 f.2.2
  wit : ∀ e ∈ F, ∀ f ∈ F, e.1 ≠ f.1 → ∀ g, G2 g → MeetG g e.2.2 f.2.2 → Wit b st g e.2.1 f.2.1 n
theorem FInv.init (b : Bk) (st : Tx) : FInv b st (floor0 st) 0 where
  nz := fun e he => by simp [floor0] at he; subst he; exact ⟨by show (0 : Rat) < 1; decide +kernel, by show (0 : Rat) < 1; decide +kernel⟩
  path := fun e he => by simp [floor0] at he; subst he; exact ⟨[], .nil, Nat.le_refl _⟩
  dj := fun e he f hf h => by simp [floor0] at he hf; subst he hf; exact absurd rfl h
  wit := fun e he f hf h => by simp [floor0] at he hf; subst he hf; exact absurd rfl h
theorem newF_mem {b : Bk} {s : Stp} {r : Tx} {x : Bx} (hps : b.parts r s.2.1 = [part0 r (b.cut r s.2.1), part1 r (b.cut r s.2.1)]) {y : Tx × Tx × Bx} (h : y ∈ newF b s r x) :
    ∃ k, k < 2 ∧ y.1 = s.1 ++ [48 + k] ∧ (b.parts r s.2.1)[k]? = some y.2.1 ∧ y.2.2 = bxk (splitB x ((b.cut r s.2.1).headD 0) s.2.2.1 s.2.2.2) k := by
  simp only [newF, List.mem_cons, List.not_mem_nil, or_false] at h
  rcases h with rfl | rfl
  · exact ⟨0, by omega, rfl, by rw [hps]; rfl, rfl⟩
  · exact ⟨1, by omega, rfl, by rw [hps]; rfl, rfl⟩
theorem FInv.step {b : Bk} (bo : BkOk b) {st : Tx} {F : Fl} {n D : Nat} (fo : FlOk b F n D) (h : FInv b st F n) {s : Stp} (ha : s.1 ∈ F.map (·.1)) (hc : s.2.1 ∈ b.ct) (h0 : 0 < s.2.2.1) (h1 : s.2.2.1 < s.2.2.2) : FInv b st (stepF b F s) (n + 1) := by
  obtain ⟨r, x, hm, hf, ⟨hcu, e⟩ | ⟨hcu, e⟩⟩ := stepF_cases (b := b) ha
  · rw [e]
    exact ⟨h.nz, fun e he => by obtain ⟨p, h1, h2⟩ := h.path e he; exact ⟨p, h1, by omega⟩, h.dj, fun e he f hf hn g hg hM => (h.wit e he f hf hn g hg hM).mono (Nat.le_succ n)⟩
  rw [e]
  have hro : RoomOk b.fc r := fo.room _ hm
  have hps : b.parts r s.2.1 = [part0 r (b.cut r s.2.1), part1 r (b.cut r s.2.1)] := parts2 hro (cut_ok bo r s.2.1) hcu
  obtain ⟨g', cx, cy, hcut, hg'⟩ := cut_ne bo hcu
  have hgh : (b.cut r s.2.1).headD 0 = g' := by rw [hcut]; rfl
  have nzx := h.nz _ hm
  have mem : ∀ y ∈ (F.filter fun e => decide (e.1 ≠ s.1)) ++ newF b s r x, (y ∈ F ∧ y.1 ≠ s.1) ∨ ∃ k, k < 2 ∧ y.1 = s.1 ++ [48 + k] ∧ (b.parts r s.2.1)[k]? = some y.2.1 ∧ y.2.2 = bxk (splitB x g' s.2.2.1 s.2.2.2) k := by
    intro y hy
    rcases List.mem_append.mp hy with hy | hy
    · obtain ⟨h1, h2⟩ := List.mem_filter.mp hy
      exact .inl ⟨h1, of_decide_eq_true h2⟩
    · exact .inr (hgh ▸ newF_mem hps hy)
  have stp : ∀ {k : Nat} {q : Tx}, (b.parts r s.2.1)[k]? = some q → stepB b r (r, s.2.1, k) q := fun {k q} h => ⟨rfl, hc, hcu, h⟩
  refine ⟨fun y hy => ?_, fun y hy => ?_, fun y hy z hz hne => ?_, fun y hy z hz hne g hg hM => ?_⟩
  · rcases mem y hy with ⟨y1, y2⟩ | ⟨k, hk, e1, e2, e3⟩
    · exact h.nz y y1
    · rw [e3]; exact (split_nz nzx h0 h1 k).1
  · rcases mem y hy with ⟨y1, y2⟩ | ⟨k, hk, e1, e2, e3⟩
    · obtain ⟨p, h1, h2⟩ := h.path y y1
      exact ⟨p, h1, by omega⟩
    · obtain ⟨p, h1, h2⟩ := h.path _ hm
      exact ⟨p ++ [(r, s.2.1, k)], h1.snoc (stp e2), by simpa using h2⟩
  · rcases mem y hy with ⟨y1, y2⟩ | ⟨k, hk, e1, e2, e3⟩ <;> rcases mem z hz with ⟨z1, z2⟩ | ⟨k', hk', e1', e2', e3'⟩
    · exact h.dj y y1 z z1 hne
    · rw [e3']
      exact ((h.dj _ hm y y1 (fun e => y2 e.symm)).wn (split_nz nzx h0 h1 k').2).symm
    · rw [e3]
      exact (h.dj _ hm z z1 (fun e => z2 e.symm)).wn (split_nz nzx h0 h1 k).2
    · rw [e3, e3']
      have hd : Dj (splitB x g' s.2.2.1 s.2.2.2).1 (splitB x g' s.2.2.1 s.2.2.2).2 := split_dj nzx
      have hkk : k ≠ k' := fun e => hne (by rw [e1, e1', e])
      obtain ⟨rfl, rfl⟩ | ⟨rfl, rfl⟩ : (k = 0 ∧ k' = 1) ∨ (k = 1 ∧ k' = 0) := by omega
      · exact hd
      · exact hd.symm
  · rcases mem y hy with ⟨y1, y2⟩ | ⟨k, hk, e1, e2, e3⟩ <;> rcases mem z hz with ⟨z1, z2⟩ | ⟨k', hk', e1', e2', e3'⟩
    · exact (h.wit y y1 z z1 hne g hg hM).mono (Nat.le_succ n)
    · rw [e3'] at hM
      obtain ⟨m1, m2⟩ := split_second hk' nzx (h.nz y y1) (h.dj _ hm y y1 (fun e => y2 e.symm)) hg hg' h0 h1 hM
      obtain ⟨R, p, c, q1, q2, w1, w2, w3, w4, w5, w6, w7⟩ := h.wit y y1 _ hm y2 g hg m1
      exact ⟨R, p, c, q1, q2 ++ [(r, s.2.1, k')], w1, w2, w3, w4, w5, w6.snoc ⟨stp e2', by rw [hgh]; exact m2⟩, by simp; omega⟩
    · rw [e3] at hM
      obtain ⟨m1, m2⟩ := split_first hk nzx (h.nz z z1) (h.dj _ hm z z1 (fun e => z2 e.symm)) hg hg' h0 h1 hM
      obtain ⟨R, p, c, q1, q2, w1, w2, w3, w4, w5, w6, w7⟩ := h.wit _ hm z z1 (fun e => z2 e.symm) g hg m1
      exact ⟨R, p, c, q1 ++ [(r, s.2.1, k)], q2, w1, w2, w3, w4, w5.snoc ⟨stp e2, by rw [hgh]; exact m2⟩, w6, by simp; omega⟩
    · rw [e3, e3'] at hM
      have hkk : k ≠ k' := fun e => hne (by rw [e1, e1', e])
      have hn := split_nz (g := g') nzx h0 h1
      have hs := split_M (t := s.2.2.1) (b := s.2.2.2) nzx hg'
      obtain ⟨p, hp1, hp2⟩ := h.path _ hm
      obtain ⟨rfl, rfl⟩ | ⟨rfl, rfl⟩ : (k = 0 ∧ k' = 1) ∨ (k = 1 ∧ k' = 0) := by omega
      · have eg := M_dj_g (hn 0).1 (hn 1).1 hs hg hg' hM
        subst eg
        rw [hps] at e2 e2'
        have e2 := Option.some.inj e2
        have e2' := Option.some.inj e2'
        rw [← e2, ← e2']
        exact ⟨r, p, s.2.1, [], [], hp1, hc, hcu, hgh, .nil, .nil, by simp; omega⟩
      · exact absurd hM (split_no nzx h0 h1 hg hg')
theorem StepsOk.inv {b : Bk} (bo : BkOk b) {st : Tx} (hst : RoomOk b.fc st) {ss : List Stp} (h : StepsOk b st ss) : ∀ i, i ≤ ss.length → FInv b st (floorAt b st (ss.take i)) i
  | 0, _ => by rw [List.take_zero]; exact FInv.init b st
  | i + 1, hi => by
    have h1 := StepsOk.inv bo hst h i (by omega)
    obtain ⟨h2, _⟩ := StepsOk.floor bo hst h i (by omega)
    have hs : ss[i]? = some ss[i] := List.getElem?_eq_getElem (by omega)
    obtain ⟨a1, a2, a3, a4, a5⟩ := h i _ hs
    have e : ss.take (i + 1) = ss.take i ++ [ss[i]] := by rw [List.take_add_one, hs]; rfl
    rw [e, floorAt_snoc]
    exact h1.step bo h2 a1 a2 a3 a4
/-- each pair that meets on a floor of n steps comes of one cut, with no more than n steps -/
theorem meet_wit {b : Bk} (bo : BkOk b) {st : Tx} (hst : RoomOk b.fc st) {ss : List Stp} (h : StepsOk b st ss) {a1 a2 r1 r2 : Tx} {x y : Bx} {g : Nat} (h1 : (a1, r1, x) ∈ floorAt b st ss) (h2 : (a2, r2, y) ∈ floorAt b st ss) (hg : signB x y = [g]) : G2 g ∧ Wit b st g r1 r2 ss.length := by
  obtain ⟨g2, hM⟩ := signB_M hg
  have iv := h.inv bo hst ss.length (Nat.le_refl _)
  have fo := (h.floor bo hst ss.length (Nat.le_refl _)).1
  rw [List.take_length] at iv fo
  refine ⟨g2, iv.wit _ h1 _ h2 (fun e => ?_) g g2 hM⟩
  have e : a1 = a2 := e
  subst e
  obtain ⟨i, hi⟩ := List.mem_iff_getElem?.mp h1
  obtain ⟨j, hj⟩ := List.mem_iff_getElem?.mp h2
  have e1 : ((floorAt b st ss).map (·.1))[i]? = some a1 := by rw [List.getElem?_map, hi]; rfl
  have e2 : ((floorAt b st ss).map (·.1))[j]? = some a1 := by rw [List.getElem?_map, hj]; rfl
  obtain ⟨b1, c1⟩ := List.getElem?_eq_some_iff.mp e1
  obtain ⟨b2, c2⟩ := List.getElem?_eq_some_iff.mp e2
  have ij : i = j := (List.getElem_inj fo.nd).mp (c1.trans c2.symm)
  subst ij
  rw [hi] at hj
  cases hj
  obtain ⟨n1, n2⟩ := iv.nz _ h1
  unfold MeetG at hM
  have n1 : x.w < x.e := n1
  have n2 : x.n < x.s := n2
  split at hM <;> grind
end L2.FW
end
section
set_option maxRecDepth 100000
/-! The steps that a Touch tells: a placed history whose two ends meet. -/
namespace L2.FW
open Fw
def CondS (b : Bk) (F : Fl) (s : Stp) : Prop := s.1 ∈ F.map (·.1) ∧ s.2.1 ∈ b.ct ∧ 0 < s.2.2.1 ∧ s.2.2.1 < s.2.2.2 ∧ s.2.2.2 ≤ 2 ^ 20
def OkR (b : Bk) : Fl → List Stp → Prop
  | _, [] => True
  | F, s :: ss => CondS b F s ∧ OkR b (stepF b F s) ss
theorem OkR.at {b : Bk} : ∀ {ss : List Stp} {F : Fl}, OkR b F ss → ∀ (i : Nat) s, ss[i]? = some s → CondS b ((ss.take i).foldl (stepF b) F) s
  | [], _, _, _, _, h => by simp at h
  | s :: ss, F, h, 0, s', e => by
    have e : s = s' := by simpa using e
    subst e
    exact h.1
  | s :: ss, F, h, i + 1, s', e => by
    have := OkR.at h.2 i s' (by simpa using e)
    simpa using this
theorem OkR.steps {b : Bk} {st : Tx} {ss : List Stp} (h : OkR b (floor0 st) ss) : StepsOk b st ss := fun i s e => h.at i s e
theorem OkR.app {b : Bk} : ∀ {s1 s2 : List Stp} {F : Fl}, OkR b F s1 → OkR b (s1.foldl (stepF b) F) s2 → OkR b F (s1 ++ s2)
  | [], _, _, _, h => h
  | s :: s1, s2, F, h1, h2 => ⟨h1.1, OkR.app h1.2 h2⟩
def Good (b : Bk) (F : Fl) : Prop := ∃ n D, FlOk b F n D
theorem Good.step {b : Bk} (bo : BkOk b) {F : Fl} (h : Good b F) {s : Stp} (c : CondS b F s) : Good b (stepF b F s) := by
  obtain ⟨n, D, h⟩ := h
  exact ⟨_, _, h.step bo c.1 c.2.2.1 c.2.2.2.1⟩
theorem Good.run {b : Bk} (bo : BkOk b) : ∀ {ss : List Stp} {F : Fl}, Good b F → OkR b F ss → Good b (ss.foldl (stepF b) F)
  | [], _, h, _ => h
  | s :: ss, F, h, c => Good.run (ss := ss) bo (Good.step bo h c.1) c.2
theorem Good.uniq {b : Bk} {F : Fl} (h : Good b F) {a r r' : Tx} {x x' : Bx} (h1 : (a, r, x) ∈ F) (h2 : (a, r', x') ∈ F) : r = r' ∧ x = x' := by
  obtain ⟨n, D, h⟩ := h
  obtain ⟨i, hi⟩ := List.mem_iff_getElem?.mp h1
  obtain ⟨j, hj⟩ := List.mem_iff_getElem?.mp h2
  have e1 : (F.map (·.1))[i]? = some a := by rw [List.getElem?_map, hi]; rfl
  have e2 : (F.map (·.1))[j]? = some a := by rw [List.getElem?_map, hj]; rfl
  obtain ⟨b1, c1⟩ := List.getElem?_eq_some_iff.mp e1
  obtain ⟨b2, c2⟩ := List.getElem?_eq_some_iff.mp e2
  have ij : i = j := (List.getElem_inj h.nd).mp (c1.trans c2.symm)
  subst ij
  rw [hi] at hj
  cases hj
  exact ⟨rfl, rfl⟩
theorem Good.room {b : Bk} {F : Fl} (h : Good b F) {a r : Tx} {x : Bx} (h1 : (a, r, x) ∈ F) : RoomOk b.fc r := by
  obtain ⟨n, D, h⟩ := h
  exact h.room _ h1
theorem Good.one {b : Bk} (bo : BkOk b) {F : Fl} (h : Good b F) {a r : Tx} {x : Bx} {c : Nat} {t bt : Int} (h1 : (a, r, x) ∈ F) (hcu : b.cut r c ≠ []) :
    (∀ k q, k < 2 → (b.parts r c)[k]? = some q → (a ++ [48 + k], q, bxk (splitB x ((b.cut r c).headD 0) t bt) k) ∈ stepF b F (a, c, t, bt)) ∧ ∀ e ∈ F, e.1 ≠ a → e ∈ stepF b F (a, c, t, bt) := by
  have ha : a ∈ F.map (·.1) := List.mem_map.mpr ⟨_, h1, rfl⟩
  obtain ⟨r', x', hm, _, ⟨hc, e⟩ | ⟨hc, e⟩⟩ := stepF_cases (b := b) (s := (a, c, t, bt)) ha
  · obtain ⟨rfl, rfl⟩ := h.uniq h1 hm
    exact absurd hc hcu
  · obtain ⟨rfl, rfl⟩ := h.uniq h1 hm
    rw [e]
    have hps : b.parts r c = [part0 r (b.cut r c), part1 r (b.cut r c)] := parts2 (h.room h1) (cut_ok bo r c) hcu
    refine ⟨fun k q hk hq => List.mem_append_right _ ?_, fun e he hn => List.mem_append_left _ (List.mem_filter.mpr ⟨he, decide_eq_true hn⟩)⟩
    rw [hps] at hq
    obtain rfl | rfl : k = 0 ∨ k = 1 := by omega
    · have hq := Option.some.inj hq
      rw [← hq]
      simp [newF, bxk]
    · have hq := Option.some.inj hq
      rw [← hq]
      simp [newF, bxk]
theorem step_lt {b : Bk} (bo : BkOk b) {r q : Tx} {t : Turn} (hr : RoomOk b.fc r) (h : stepB b r t q) : t.2.2 < 2 := by
  have hps : b.parts r t.2.1 = [part0 r (b.cut r t.2.1), part1 r (b.cut r t.2.1)] := parts2 hr (cut_ok bo r _) h.2.2.1
  have := (List.getElem?_eq_some_iff.mp h.2.2.2).1
  rw [hps] at this
  exact this
theorem half_run {b : Bk} (bo : BkOk b) : ∀ (p : List Turn) {F : Fl} {a r R : Tx} {x : Bx}, Good b F → (a, r, x) ∈ F → Nz x → Path (stepB b) r p R →
    OkR b F (halfS p a) ∧ ∃ X, Nz X ∧ (a ++ endA p, R, X) ∈ (halfS p a).foldl (stepF b) F
  | [], F, a, r, R, x, h, hm, nz, hp => by
    have := hp.of_nil
    subst this
    exact ⟨trivial, x, nz, by simpa [endA, halfS] using hm⟩
  | t :: p, F, a, r, R, x, h, hm, nz, hp => by
    obtain ⟨q, hs, hp'⟩ := hp.uncons
    have hk := step_lt bo (h.room hm) hs
    have c : CondS b F (a, t.2.1, 1, 2) := ⟨List.mem_map.mpr ⟨_, hm, rfl⟩, hs.2.1, by show (0 : Int) < 1; decide, by show (1 : Int) < 2; decide, by show (2 : Int) ≤ 2 ^ 20; decide⟩
    have hn := (h.one bo (t := 1) (bt := 2) hm hs.2.2.1).1 _ _ hk hs.2.2.2
    obtain ⟨h1, X, h2, h3⟩ := half_run bo p (h.step bo c) hn (split_nz nz (by decide) (by decide) _).1 hp'
    refine ⟨⟨c, h1⟩, X, h2, ?_⟩
    have : a ++ endA (t :: p) = a ++ [48 + t.2.2] ++ endA p := by simp [endA]
    rw [this]
    exact h3
/-! along a stretch -/
def sideG (g i : Nat) (x : Bx) : Rat := if g = 124 then (if i = 0 then x.e else x.w) else (if i = 0 then x.s else x.n)
def lowG (g : Nat) (x : Bx) : Rat := if g = 124 then x.n else x.w
def hiG (g : Nat) (x : Bx) : Rat := if g = 124 then x.s else x.e
structure Rel (g i : Nat) (ed L W : Rat) (s : Rat × Rat) (x : Bx) : Prop where
  side : sideG g i x = ed
  low : lowG g x = L + W * s.1
  hi : hiG g x = L + W * s.2
theorem splitB_up {x : Bx} {t b : Int} : splitB x 124 t b = (⟨x.w, x.n, onWay x.w x.e t b, x.s⟩, ⟨onWay x.w x.e t b, x.n, x.e, x.s⟩) := rfl
theorem splitB_lv {x : Bx} {t b : Int} : splitB x 45 t b = (⟨x.w, x.n, x.e, onWay x.n x.s t b⟩, ⟨x.w, onWay x.n x.s t b, x.e, x.s⟩) := rfl
theorem onWay_place {p q : Rat} {f : Rat} : onWay p q f.num f.den = p + (q - p) * f := by unfold onWay; rw [Rat.num_divInt_den]
theorem Rel.same {g i : Nat} {ed L W : Rat} {s : Rat × Rat} {x : Bx} (h : Rel g i ed L W s x) (hg : G2 g) (hi : i < 2) {k : Nat} (hk : k ∈ usedP (viewG g i) g) {t bt : Int} : Rel g i ed L W s (bxk (splitB x g t bt) k) := by
  obtain ⟨h1, h2, h3⟩ := h
  obtain ⟨u1, u2, u3, u4, u5, u6, u7, u8⟩ := used_all
  obtain rfl | rfl : i = 0 ∨ i = 1 := by omega
  · rcases hg with rfl | rfl
    · rw [u1] at hk; simp at hk; subst hk
      exact ⟨h1, h2, h3⟩
    · rw [u6] at hk; simp at hk; subst hk
      exact ⟨h1, h2, h3⟩
  · rcases hg with rfl | rfl
    · rw [u3] at hk; simp at hk; subst hk
      exact ⟨h1, h2, h3⟩
    · rw [u8] at hk; simp at hk; subst hk
      exact ⟨h1, h2, h3⟩
theorem Rel.other {g g' i : Nat} {ed L W lo hi : Rat} {x : Bx} (h : Rel g i ed L W (lo, hi) x) (hg : G2 g) (hg' : G2 g') (hn : g' ≠ g) (hlt : lo < hi) {k : Nat} {sp : Rat} :
    Rel g i ed L W (if k = 0 then (lo, sp) else (sp, hi)) (bxk (splitB x g' (placeOf lo hi sp).num (placeOf lo hi sp).den) k) := by
  obtain ⟨h1, h2, h3⟩ := h
  have key : L + W * lo + (L + W * hi - (L + W * lo)) * placeOf lo hi sp = L + W * sp := by
    unfold placeOf
    have hd : hi - lo ≠ 0 := by grind
    have : (hi - lo) * ((sp - lo) / (hi - lo)) = sp - lo := by
      rw [Rat.mul_comm, Rat.div_mul_cancel hd]
    have e : (L + W * hi - (L + W * lo)) = W * (hi - lo) := by grind
    rw [e, Rat.mul_assoc, this]
    grind
  have h2 : lowG g x = L + W * lo := h2
  have h3 : hiG g x = L + W * hi := h3
  rcases hg with rfl | rfl <;> rcases hg' with rfl | rfl
  · exact absurd rfl hn
  · have h2 : x.n = L + W * lo := h2
    have h3 : x.s = L + W * hi := h3
    rw [splitB_lv, onWay_place, h2, h3, key]
    by_cases hk : k = 0
    · subst hk
      exact ⟨h1, rfl, rfl⟩
    · rw [if_neg hk, show ∀ p : Bx × Bx, bxk p k = p.2 from fun p => if_neg hk]
      exact ⟨h1, rfl, rfl⟩
  · have h2 : x.w = L + W * lo := h2
    have h3 : x.e = L + W * hi := h3
    rw [splitB_up, onWay_place, h2, h3, key]
    by_cases hk : k = 0
    · subst hk
      exact ⟨h1, rfl, rfl⟩
    · rw [if_neg hk, show ∀ p : Bx × Bx, bxk p k = p.2 from fun p => if_neg hk]
      exact ⟨h1, rfl, rfl⟩
  · exact absurd rfl hn
theorem held_run {b : Bk} (bo : BkOk b) {g i : Nat} (hg : G2 g) (hi : i < 2) {ed L W : Rat} : ∀ (q : List Turn) {F : Fl} {a r R : Tx} {x : Bx} {s : Rat × Rat} {kk : Nat}, Good b F → (a, r, x) ∈ F → Rel g i ed L W s x → HIn kk s → kk + q.length ≤ 16 → Path (stepV b (viewG g i)) r q R →
    OkR b F (heldS b g q a s) ∧ (∃ X, Rel g i ed L W (heldSt b g q s) X ∧ (a ++ endA q, R, X) ∈ (heldS b g q a s).foldl (stepF b) F) ∧ ∀ e ∈ F, ¬ a <+: e.1 → e ∈ (heldS b g q a s).foldl (stepF b) F
  | [], F, a, r, R, x, s, kk, h, hm, hr, hin, hl, hp => by
    have := hp.of_nil
    subst this
    exact ⟨trivial, ⟨x, hr, by simpa [endA, heldS] using hm⟩, fun e he _ => he⟩
  | t :: q, F, a, r, R, x, s, kk, h, hm, hr, hin, hl, hp => by
    obtain ⟨r', ⟨hs, hu⟩, hp'⟩ := hp.uncons
    have hk := step_lt bo (h.room hm) hs
    have ht1 : t.1 = r := hs.1
    obtain ⟨g', cx, cy, hcut, hg'⟩ := cut_ne bo hs.2.2.1
    have hhd : (b.cut r t.2.1).headD 0 = g' := by rw [hcut]; rfl
    have hsig : signOf b t = g' := by unfold signOf; rw [ht1]; exact hhd
    rw [List.length_cons] at hl
    rw [hhd] at hu
    have ende : a ++ endA (t :: q) = a ++ [48 + t.2.2] ++ endA q := by simp [endA]
    have main : ∀ (tt bb : Int) (s' : Rat × Rat), heldStep b g t a s = (a, t.2.1, tt, bb) → heldNext b g t s = s' → 0 < tt → tt < bb → bb ≤ 2 ^ 20 → Rel g i ed L W s' (bxk (splitB x g' tt bb) t.2.2) →
        OkR b F (heldS b g (t :: q) a s) ∧ (∃ X, Rel g i ed L W (heldSt b g (t :: q) s) X ∧ (a ++ endA (t :: q), R, X) ∈ (heldS b g (t :: q) a s).foldl (stepF b) F) ∧ ∀ e ∈ F, ¬ a <+: e.1 → e ∈ (heldS b g (t :: q) a s).foldl (stepF b) F := by
      intro tt bb s' e1 e2 p1 p2 p3 hrel
      have c : CondS b F (a, t.2.1, tt, bb) := ⟨List.mem_map.mpr ⟨_, hm, rfl⟩, hs.2.1, p1, p2, p3⟩
      obtain ⟨o1, o2⟩ := h.one bo (t := tt) (bt := bb) hm hs.2.2.1
      have hn := o1 _ _ hk hs.2.2.2
      rw [hhd] at hn
      have hin' : HIn (kk + 1) s' := e2 ▸ hin.next
      obtain ⟨k1, ⟨X, k2, k3⟩, k4⟩ := held_run bo hg hi q (h.step bo c) hn hrel hin' (by omega) hp'
      have hst : heldSt b g (t :: q) s = heldSt b g q s' := by rw [← e2]; rfl
      have hhs : heldS b g (t :: q) a s = (a, t.2.1, tt, bb) :: heldS b g q (a ++ [48 + t.2.2]) s' := by rw [← e1, ← e2]; rfl
      rw [hst, hhs, ende]
      refine ⟨⟨c, k1⟩, ⟨X, k2, k3⟩, fun e he hne => k4 e (o2 e he fun e' => hne (e' ▸ List.prefix_refl _)) fun hpre => hne ((List.prefix_append _ _).trans hpre)⟩
    by_cases hgg : g' = g
    · subst hgg
      exact main 1 2 s (if_pos hsig) (if_pos hsig) (by decide) (by decide) (by decide) (hr.same hg hi hu)
    · have hng : ¬ signOf b t = g := fun e => hgg (hsig.symm.trans e)
      obtain ⟨q1, q2, q3⟩ := hin.place t.2.2
      obtain ⟨lo, hi'⟩ := s
      have hlt : lo < hi' := by have h1 := hin.l1; have h2 := hin.h1; grind
      refine main _ _ (if t.2.2 = 0 then (lo, spotOf lo hi' t.2.2) else (spotOf lo hi' t.2.2, hi')) (if_neg hng) (by unfold heldNext; rw [if_neg hng]) (rat_pos q1) (rat_lt1 q2) ?_ (hr.other hg hg' hgg hlt)
      have h20 : 2 ^ (kk + 2) ≤ 2 ^ 18 := Nat.pow_le_pow_right (by decide) (by omega)
      have : (placeOf lo hi' (spotOf lo hi' t.2.2)).den ≤ 2 ^ 20 := by
        refine Nat.le_trans q3 (Nat.le_trans h20 (by decide))
      show ((placeOf lo hi' (spotOf lo hi' t.2.2)).den : Int) ≤ 2 ^ 20
      exact_mod_cast this
/-- the steps of a Touch -/
def touchS (b : Bk) (g : Nat) (p : List Turn) (c : Nat) (q1 q2 : List Turn) : List Stp := halfS p [] ++ ([(endA p, c, 1, 2)] ++ (heldS b g q1 (endA p ++ [48]) (0, 1) ++ heldS b g q2 (endA p ++ [49]) (0, 1)))
theorem touchS_len (b : Bk) (g : Nat) (p : List Turn) (c : Nat) (q1 q2 : List Turn) : (touchS b g p c q1 q2).length = p.length + 1 + q1.length + q2.length := by
  have hl : ∀ (p : List Turn) (a : Tx), (halfS p a).length = p.length := by
    intro p
    induction p with
    | nil => intro a; rfl
    | cons t p ih => intro a; simp [halfS, ih]
  unfold touchS
  simp only [List.length_append, hl, heldS_len, List.length_cons, List.length_nil]
  omega
theorem signB_of {x y : Bx} {g : Nat} (hg : G2 g) (h : MeetG g x y) : signB x y = [g] := by
  unfold MeetG at h
  unfold signB
  rcases hg with rfl | rfl
  · rw [if_pos rfl] at h
    rw [if_pos h]
  · rw [if_neg (by decide)] at h
    rw [if_neg (fun c => by obtain ⟨h1, h2, h3⟩ := h; obtain ⟨c1, _⟩ := c; grind), if_pos h]
theorem touch_holds {b : Bk} (bo : BkOk b) {st R r1 r2 : Tx} {p q1 q2 : List Turn} {c g : Nat} (hst : RoomOk b.fc st) (hp : Path (stepB b) st p R) (hc : c ∈ b.ct) (hcu : b.cut R c ≠ []) (hg : (b.cut R c).headD 0 = g)
    (h1 : Path (stepV b (viewG g 0)) (part0 R (b.cut R c)) q1 r1) (h2 : Path (stepV b (viewG g 1)) (part1 R (b.cut R c)) q2 r2) (l1 : q1.length ≤ 16) (l2 : q2.length ≤ 16) :
    StepsOk b st (touchS b g p c q1 q2) ∧ ∃ x y, (endA p ++ [48] ++ endA q1, r1, x) ∈ floorAt b st (touchS b g p c q1 q2) ∧ (endA p ++ [49] ++ endA q2, r2, y) ∈ floorAt b st (touchS b g p c q1 q2) ∧ signB x y = [g] := by
  have hg2 : G2 g := by
    obtain ⟨g', cx, cy, hcut, hg'⟩ := cut_ne bo hcu
    rw [hcut] at hg
    exact hg ▸ hg'
  have g0 : Good b (floor0 st) := ⟨_, _, FlOk.init hst⟩
  have nz0 : Nz (⟨0, 0, 1, 1⟩ : Bx) := ⟨by show (0 : Rat) < 1; decide +kernel, by show (0 : Rat) < 1; decide +kernel⟩
  obtain ⟨ok1, X, nzX, hX⟩ := half_run bo p (a := []) g0 (by simp [floor0]) nz0 hp
  rw [List.nil_append] at hX
  have good1 := g0.run bo ok1
  generalize hF1 : (halfS p []).foldl (stepF b) (floor0 st) = F1 at *
  have c1 : CondS b F1 (endA p, c, 1, 2) := ⟨List.mem_map.mpr ⟨_, hX, rfl⟩, hc, by show (0 : Int) < 1; decide, by show (1 : Int) < 2; decide, by show (2 : Int) ≤ 2 ^ 20; decide⟩
  obtain ⟨o1, _⟩ := good1.one bo (t := 1) (bt := 2) hX hcu
  have hps : b.parts R c = [part0 R (b.cut R c), part1 R (b.cut R c)] := parts2 (good1.room hX) (cut_ok bo R c) hcu
  have m0 := o1 0 _ (by omega) (by rw [hps]; rfl)
  have m1 := o1 1 _ (by omega) (by rw [hps]; rfl)
  rw [hg] at m0 m1
  have good2 := good1.step bo c1
  generalize hF2 : stepF b F1 (endA p, c, 1, 2) = F2 at *
  have rel : ∀ i, i < 2 → Rel g i (sideG g i (bxk (splitB X g 1 2) i)) (lowG g X) (hiG g X - lowG g X) (0, 1) (bxk (splitB X g 1 2) i) := by
    intro i hi
    refine ⟨rfl, ?_, ?_⟩
    · rcases hg2 with rfl | rfl <;> (obtain rfl | rfl : i = 0 ∨ i = 1 := by omega) <;> simp [lowG, bxk, splitB] <;> grind
    · rcases hg2 with rfl | rfl <;> (obtain rfl | rfl : i = 0 ∨ i = 1 := by omega) <;> simp [lowG, hiG, bxk, splitB] <;> grind
  obtain ⟨ok3, ⟨Y1, rel1, mY1⟩, keep3⟩ := held_run bo hg2 (i := 0) (by omega) q1 good2 m0 (rel 0 (by omega)) HIn.init (by omega) h1
  have m1' := keep3 _ m1 (fun hpre => by
    have := List.prefix_append_right_inj (endA p) |>.mp hpre
    rw [List.cons_prefix_cons] at this
    exact absurd this.1 (by decide))
  have good3 := good2.run bo ok3
  generalize hF3 : (heldS b g q1 (endA p ++ [48 + 0]) (0, 1)).foldl (stepF b) F2 = F3 at *
  obtain ⟨ok4, ⟨Y2, rel2, mY2⟩, keep4⟩ := held_run bo hg2 (i := 1) (by omega) q2 good3 m1' (rel 1 (by omega)) HIn.init (by omega) h2
  have mY1' := keep4 _ mY1 (fun hpre => by
    have hpre : endA p ++ [48 + 1] <+: endA p ++ [48 + 0] ++ endA q1 := hpre
    rw [List.append_assoc] at hpre
    have := List.prefix_append_right_inj (endA p) |>.mp hpre
    rw [List.cons_append, List.cons_prefix_cons] at this
    exact absurd this.1 (by decide))
  have fin : floorAt b st (touchS b g p c q1 q2) = (heldS b g q2 (endA p ++ [48 + 1]) (0, 1)).foldl (stepF b) F3 := by
    unfold floorAt touchS
    rw [List.foldl_append, hF1, List.foldl_append, List.foldl_append]
    show (heldS b g q2 (endA p ++ [49]) (0, 1)).foldl (stepF b) ((heldS b g q1 (endA p ++ [48]) (0, 1)).foldl (stepF b) (stepF b F1 (endA p, c, 1, 2))) = _
    rw [hF2, ← hF3]
  refine ⟨OkR.steps (OkR.app ok1 ?_), Y1, Y2, ?_, ?_, ?_⟩
  · rw [hF1]
    refine OkR.app ⟨c1, trivial⟩ ?_
    show OkR b (stepF b F1 (endA p, c, 1, 2)) _
    rw [hF2]
    refine OkR.app ok3 ?_
    rw [hF3]
    exact ok4
  · rw [fin]; exact mY1'
  · rw [fin]; exact mY2
  · refine signB_of hg2 ?_
    have i1 : HIn (0 + q1.length) (heldSt b g q1 (0, 1)) := heldSt_in q1 HIn.init
    have i2 : HIn (0 + q2.length) (heldSt b g q2 (0, 1)) := heldSt_in q2 HIn.init
    obtain ⟨s1, lo1, hi1⟩ := rel1
    obtain ⟨s2, lo2, hi2⟩ := rel2
    have a1 := i1.l1
    have a2 := i1.h1
    have b1 := i2.l1
    have b2 := i2.h1
    have hW : 0 < hiG g X - lowG g X := by
      obtain ⟨n1, n2⟩ := nzX
      unfold hiG lowG
      split <;> grind
    generalize heldSt b g q1 (0, 1) = t1 at *
    generalize heldSt b g q2 (0, 1) = t2 at *
    obtain ⟨l1, u1⟩ := t1
    obtain ⟨l2, u2⟩ := t2
    have lt1 : (hiG g X - lowG g X) * l1 < (hiG g X - lowG g X) * u2 := by
      have : l1 < u2 := by have a1 : l1 < half := a1; have b2 : half < u2 := b2; grind
      exact (Rat.mul_lt_mul_left hW).mpr this
    have lt2 : (hiG g X - lowG g X) * l2 < (hiG g X - lowG g X) * u1 := by
      have : l2 < u1 := by have b1 : l2 < half := b1; have a2 : half < u1 := a2; grind
      exact (Rat.mul_lt_mul_left hW).mpr this
    have lo1 : lowG g Y1 = lowG g X + (hiG g X - lowG g X) * l1 := lo1
    have hi1 : hiG g Y1 = lowG g X + (hiG g X - lowG g X) * u1 := hi1
    have lo2 : lowG g Y2 = lowG g X + (hiG g X - lowG g X) * l2 := lo2
    have hi2 : hiG g Y2 = lowG g X + (hiG g X - lowG g X) * u2 := hi2
    have x1 : lowG g Y1 < hiG g Y2 := by rw [lo1, hi2]; grind
    have x2 : lowG g Y2 < hiG g Y1 := by rw [lo2, hi1]; grind
    unfold MeetG
    rcases hg2 with rfl | rfl
    · rw [if_pos rfl]
      exact ⟨s1.trans s2.symm, x1, x2⟩
    · rw [if_neg (by decide)]
      exact ⟨s1.trans s2.symm, x1, x2⟩
end L2.FW
end
section
set_option maxRecDepth 100000
set_option maxHeartbeats 4000000
/-! Touch: steps, rooms, holds. -/
namespace L2.FW
open PySem PySem.Spec PyProof.Rows Fw
variable {P : Program} {w : World} {K : PySem.W.Frag} {mg : Str → Option Value} {base : Heap}
local macro_rules | `(tactic| walk_at "go1") => `(tactic| first
  | ((with_reducible apply v_var); exact rfl)
  | ((with_reducible apply s_aug); exact rfl)
  | with_reducible first
    | refine v_c ?_ | refine v_cons ?_ | refine v_nil ?_ | refine v_op ?_ | refine v_cb ?_ | refine v_call ?_ | refine v_bl ?_ | refine v_yes ?_
    | refine s_seq ?_ | refine s_ret ?_ | refine s_if ?_ | refine s_asg ?_ | refine g_name ?_ | refine v_test ?_ | refine v_tB ?_
    | refine v_rI0 ?_ | refine v_eqI ?_ | refine v_neI ?_ | refine v_eqS ?_ | refine v_neS ?_ | refine v_int1 ?_ | refine v_bool1 ?_ | refine v_abs ?_ | refine v_isN ?_ | refine v_notN ?_ | refine v_nsign ?_
    | refine v_andV ?_ | refine v_orV ?_ | refine v_notV ?_ | refine v_and ?_ | refine v_or ?_ | refine v_not ?_
    | refine v_if ?_ | refine v_tup ?_ | refine v_lst ?_ | refine v_sl ?_ | refine v_part ?_ | refine v_nopart ?_ | refine v_int ?_ | refine v_dget ?_ | refine v_din ?_ | refine v_dnin ?_
    | refine v_fld ?_ | refine v_meth ?_ | refine v_bm ?_ | refine v_m1 ?_ | refine v_strE ?_ | refine v_un ?_ | refine v_chain ?_ | refine s_next ?_ | refine s_drop ?_ | refine s_retN ?_ | refine s_par ?_ | refine s_par3 ?_
    | refine s_fld ?_ | refine s_dput ?_ | refine s_ddel ?_ | refine g_nil ?_ | refine g_cons ?_ | refine iteT ?_ | refine iteF ?_ | refine iteNT ?_ | refine iteNF ?_
    | refine isi_ss ?_ | refine isi_ii ?_ | refine isi_ib ?_ | refine v_lc ?_ | refine i_str ?_ | refine v_str ?_ | refine i_list ?_ | refine i_zipS ?_ | refine i_zipS3 ?_ | refine i_enumS ?_ | refine i_enum ?_ | refine i_tup ?_ | refine i_rng ?_ | refine s_for ?_ | refine v_star ?_ | refine v_makeR ?_ | refine v_make ?_ | refine v_cval ?_ | refine v_sign ?_)
local macro_rules | `(tactic| walk_at "go") => `(tactic| repeat walk_at "go1")
set_option pp.maxSteps 1200
section
variable {H : Hp} {Q : VK} {t bk : Addr} {st : Tx} {sg : Nat} {one other : Tx} {rows : List (List V)}
theorem HTouch.f_book (T : T w K mg) (h : HTouch K H t bk st sg one other rows) (q : Q (.ref bk) H) : rFld K "book" (.ref t) H Q := by
  obtain ⟨dx, l, rs, h1, _⟩ := h
  exact fld_any h1 T.c_Touch T.n_Touch_book rfl q
theorem HTouch.f_start (T : T w K mg) (h : HTouch K H t bk st sg one other rows) (q : Q (sV st) H) : rFld K "start" (.ref t) H Q := by
  obtain ⟨dx, l, rs, h1, _⟩ := h
  exact fld_any h1 T.c_Touch T.n_Touch_start rfl q
theorem HTouch.f_sign (T : T w K mg) (h : HTouch K H t bk st sg one other rows) (q : Q (sV [sg]) H) : rFld K "sign" (.ref t) H Q := by
  obtain ⟨dx, l, rs, h1, _⟩ := h
  exact fld_any h1 T.c_Touch T.n_Touch_sign rfl q
theorem HTouch.f_one (T : T w K mg) (h : HTouch K H t bk st sg one other rows) (q : Q (sV one) H) : rFld K "one" (.ref t) H Q := by
  obtain ⟨dx, l, rs, h1, _⟩ := h
  exact fld_any h1 T.c_Touch T.n_Touch_one rfl q
theorem HTouch.f_other (T : T w K mg) (h : HTouch K H t bk st sg one other rows) (q : Q (sV other) H) : rFld K "other" (.ref t) H Q := by
  obtain ⟨dx, l, rs, h1, _⟩ := h
  exact fld_any h1 T.c_Touch T.n_Touch_other rfl q
theorem HTouch.f_steps (T : T w K mg) (h : HTouch K H t bk st sg one other rows) (q : ∀ l rs, H l = some (.lst (rs.map fun r : Addr × List V => V.ref r.1)) → HRow H rs → rs.map (·.2) = rows → Q (.ref l) H) : rFld K "own_steps" (.ref t) H Q := by
  obtain ⟨dx, l, rs, h1, h2, h3, h4⟩ := h
  exact fld_any h1 T.c_Touch T.n_Touch_own_steps rfl (q l rs h2 h3 h4)
theorem HTouch.mth {m : Str} {R : Prop} (h : HTouch K H t bk st sg one other rows) (hm : ∀ x0 x1 x2 x3 x4 x5 : V, [(("book" : Str), x0), ("start", x1), ("sign", x2), ("one", x3), ("other", x4), ("own_steps", x5)].lookup m = none) (k : R) : rMth (He.ga K "Touch") m (.ref t) H R := by
  obtain ⟨dx, l, rs, h1, _⟩ := h
  exact ⟨t, dx, _, rfl, h1, hm _ _ _ _ _ _, k⟩
end
def spTSteps (K : PySem.W.Frag) : Sp := fun vs H Q _ => ∃ (t bk : Addr) (st : Tx) (sg : Nat) (one other : Tx) (rows : List (List V)), vs = [.ref t] ∧ HTouch K H t bk st sg one other rows ∧ rows.length ≤ 1000 ∧ (∀ r ∈ rows, r.length ≤ 1000 ∧ ∀ x ∈ r, Scl x) ∧
  ∀ l' rs' H', H l' = none → Ex H H' → H' l' = some (.lst (rs'.map fun r : Addr × List V => V.ref r.1)) → HRow H' rs' → rs'.map (·.2) = rows → Q (.ref l') H'
/-! Touch.steps: slots self 0 -/
theorem sc_Touch_steps : FnScope ["self"] ["self"] (defScope (inClass (top 62) 2)) := C8.fnScope_by (by decide +kernel)
theorem met_Touch_steps (T : T w K mg) : Met P w K mg base 4 (He.ga K "Touch") "steps" (spTSteps K) := by
  refine metD T.c_Touch T.m_Touch_steps T.d_Touch_steps sc_Touch_steps (fun vs H Q E h => ?_) (fun _ _ _ _ _ _ us hl => match us, hl with | [_], _ => rfl) (fun cdv A outer s H vs Q E hr h => ?_)
  · obtain ⟨_, _, _, _, _, _, _, rfl, _⟩ := h; rfl
  obtain ⟨t, bk, st, sg, one, other, rows, rfl, ht, hn, hsc, k⟩ := h
  refine ⟨_, (pss_one (ps_ret (pe_cl (cal_copied2 T) hr (by decide) rfl (pa_cons (pe_fld (pv 0) rfl) pa_nil)))), ?_⟩
  walk_at "go"
  refine ht.f_steps T fun l rs hl hrs hrr => ?_
  walk_at "go"
  subst hrr
  rw [List.length_map] at hn
  exact ⟨l, rs, rfl, hl, hrs, hn, fun r m => hsc r.2 (List.mem_map.mpr ⟨r, m, rfl⟩), k⟩
theorem rows_steps {H : Hp} : ∀ {rs : List (Addr × List V)} {ss : List Stp}, rs.map (·.2) = ss.map stV → HRow H rs → ∃ ts : List (Addr × Stp), ts.map (fun r => V.ref r.1) = rs.map (fun r => V.ref r.1) ∧ ts.map (·.2) = ss ∧ HSp H ts
  | [], [], _, _ => ⟨[], rfl, rfl, fun r m => nomatch m⟩
  | [], _ :: _, h, _ => by simp at h
  | _ :: _, [], h, _ => by simp at h
  | r :: rs, s :: ss, h, hr => by
    rw [List.map_cons, List.map_cons, List.cons.injEq] at h
    obtain ⟨ts, h1, h2, h3⟩ := rows_steps h.2 fun x m => hr x (List.mem_cons_of_mem _ m)
    refine ⟨(r.1, s) :: ts, by rw [List.map_cons, List.map_cons, h1], by rw [List.map_cons, h2], fun x m => ?_⟩
    rcases List.mem_cons.mp m with rfl | m
    · rw [hr r List.mem_cons_self, h.1]
    · exact h3 x m
def spTRooms (K : PySem.W.Frag) : Sp := fun vs H Q _ => ∃ (t bk : Addr) (b : Bk) (st : Tx) (sg : Nat) (one other : Tx) (ss : List Stp) (r1 r2 : Tx) (x y : Bx), vs = [.ref t] ∧ HTouch K H t bk st sg one other (ss.map stV) ∧ HBook K H bk b ∧ BkOk b ∧ RoomOk b.fc st ∧ StepsOk b st ss ∧ ss.length ≤ 40 ∧
  (one, r1, x) ∈ floorAt b st ss ∧ (other, r2, y) ∈ floorAt b st ss ∧ signB x y = [sg] ∧ ∀ l H', H l = none → Ex H H' → H' l = some (.lst [sV r1, sV r2]) → Q (.ref l) H'
/-! Touch.rooms: slots self 0 found 1 address 2 -/
theorem sc_Touch_rooms : FnScope ["self", "found", "address"] ["self"] (defScope (inClass (top 62) 3)) := C8.fnScope_by (by decide +kernel)
theorem met_Touch_rooms (T : T w K mg) : Met P w K mg base 8 (He.ga K "Touch") "rooms" (spTRooms K) := by
  refine metD T.c_Touch T.m_Touch_rooms T.d_Touch_rooms sc_Touch_rooms (fun vs H Q E h => ?_) (fun _ _ _ _ _ _ us hl => match us, hl with | [_], _ => rfl) (fun cdv A outer s H vs Q E hr h => ?_)
  · obtain ⟨_, _, _, _, _, _, _, _, _, _, _, _, rfl, _⟩ := h; rfl
  obtain ⟨t, bk, b, st, sg, one, other, ss, r1, r2, x, y, rfl, ht, hb, bo, hst, hok, hn, m1, m2, hsig, k⟩ := h
  refine ⟨_, (pss_cons (ps_if (PW.pt (pw_or (pt_not (pt_val (pe_mm0 (met_Touch_is_placed T) hr (by decide) (pv 0)))) (pw_or1 (pt_not (pt_val (pe_callB call_isi (by rfl) T.f_isinstance (by decide +kernel) (pa_cons (pe_fld (pv 0) rfl) (pa_cons (pe_bltn (v := .ty "list") rfl T.f_list (by decide +kernel) rfl) pa_nil)))))))) (pss_one (ps_ret pe_non)) pss_nil)
      (pss_cons (ps_try_only (tb := fun _ => tAsg (tCall (spBoxes K) [] E0 (tCons (tFld K (tVar 0) "book") (tCons (tFld K (tVar 0) "start") (tCons (tFld K (tVar 0) "own_steps") tNil)))) (gName 1)) (ts := fun _ _ _ => tRet (tC .non)) rfl rfl ⟨rfl, by decide, .inl T.g_InvalidStep⟩ takes0 (fun _ _ _ _ _ => (pss_one (ps_set (i := 1) sc_Touch_rooms.nd rfl (Or.inl rfl) (pe_cl (cal_boxes_of T) hr (by decide) rfl (pa_cons (pe_fld (pv 0) rfl) (pa_cons (pe_fld (pv 0) rfl) (pa_cons (pe_fld (pv 0) rfl) pa_nil))))))) (fun _ _ _ _ _ _ _ => (pss_one (ps_ret pe_non))))
      (pss_cons (ps_for PassesOwn.never rfl (pi_tup (pe_tup (pa_cons (pe_fld (pv 0) rfl) (pa_cons (pe_fld (pv 0) rfl) pa_nil)))) (pg_name (i := 2) sc_Touch_rooms.nd rfl (Or.inl rfl)) (pss_one (ps_if (PW.pt (pw_or (pt_not (pt_val (pe_callB call_isi (by rfl) T.f_isinstance (by decide +kernel) (pa_cons (pv 2) (pa_cons (pe_bltn (v := .ty "str") rfl T.f_str (by decide +kernel) rfl) pa_nil))))) (pw_or1 (pt_cmp (pc_dnotin (hu1 hr) (pv 2) (pv 1)))))) (pss_one (ps_ret pe_non)) pss_nil)))
      (pss_cons (ps_if (pt_not (pt_val (pe_cl (cal_is_one T) hr (by decide) rfl (pa_cons (pe_fld (pv 0) rfl) (pa_cons (pe_op op_catS (C8.pe_gc rfl T.v_UPRIGHT) (C8.pe_gc rfl T.v_LEVEL)) pa_nil))))) (pss_one (ps_ret pe_non)) pss_nil)
      (pss_cons (ps_if (pt_cmpR op_ne (pe_cl (cal_sign_between T) hr (by decide) rfl (pa_cons (pe_ix ix_tup (pe_dget (hu1 hr) (pv 1) (pe_fld (pv 0) rfl) (fun _ _ => rfl)) pe_int (fun _ _ => rfl)) (pa_cons (pe_ix ix_tup (pe_dget (hu1 hr) (pv 1) (pe_fld (pv 0) rfl) (fun _ _ => rfl)) pe_int (fun _ _ => rfl)) pa_nil))) (pe_fld (pv 0) rfl) (nomark _)) (pss_one (ps_ret pe_non)) pss_nil)
      (pss_one (ps_ret (pe_lst (pa_cons (pe_ix ix_tup (pe_dget (hu1 hr) (pv 1) (pe_fld (pv 0) rfl) (fun _ _ => rfl)) pe_int (fun _ _ => rfl)) (pa_cons (pe_ix ix_tup (pe_dget (hu1 hr) (pv 1) (pe_fld (pv 0) rfl) (fun _ _ => rfl)) pe_int (fun _ _ => rfl)) pa_nil)))))))))), ?_⟩
  walk_at "go"
  obtain ⟨dxt, lt, rst, g1, g2, g3, g4⟩ := id ht
  refine ht.mth (fun _ _ _ _ _ _ => rfl) ?_
  walk_at "go"
  refine ⟨t, dxt, bk, b, st, _, rfl, g1, hb, hst, fun H1 e1 => ?_⟩
  walk_at "go"
  refine (ht.ex e1).f_steps T fun l rs hl hrs hrr => ?_
  walk_at "go"
  refine isi_ll hl ?_
  walk_at "go"
  refine (ht.ex e1).f_book T ?_
  walk_at "go"
  refine (ht.ex e1).f_start T ?_
  walk_at "go"
  refine (ht.ex e1).f_steps T fun l rs hl hrs hrr => ?_
  walk_at "go"
  obtain ⟨ts, hts1, hts2, hts3⟩ := rows_steps hrr hrs
  subst hts2
  rw [List.length_map] at hn
  refine ⟨bk, l, b, st, ts, rfl, hb.ex e1, bo, hst, by rw [hts1]; exact hl, hts3, hn, hok, fun d H2 hd e2 hf => ?_⟩
  walk_at "go"
  have e12 := e1.t e2
  refine (ht.ex e12).f_one T ?_
  walk_at "go"
  refine (ht.ex e12).f_other T ?_
  walk_at "go"
  refine ⟨szl (by simp), fun p hp => ?_⟩
  generalize hH3 : upd H2 p _ = H3
  have e3 : Ex H2 H3 := hH3 ▸ Ex.nw hp
  have hp3 : H3 p = some (.tup [sV one, sV other]) := hH3 ▸ upd_same
  have e13 := e12.t e3
  have fok := (hok.floor bo hst (ts.map (·.2)).length (Nat.le_refl _)).1
  have fbd := (hok.floor bo hst (ts.map (·.2)).length (Nat.le_refl _)).2
  rw [List.take_length] at fok fbd
  obtain ⟨L, hLd, hLF, hLe⟩ := hf.ex e3
  rw [← hLF] at fok m1 m2
  have inF : ∀ {q r : Tx} {z : Bx}, (q, r, z) ∈ flF L → (valV (kvF L) (.inr (S q))).isSome = true := fun {q r z} h => by
    rw [kvF_some]
    exact decide_eq_true (List.mem_map.mpr ⟨_, h, rfl⟩)
  refine ⟨p, rfl, ⟨_, ex_t hp3⟩, ?_⟩
  refine for_it (walk_tup (K := K) (xs := [sV one, sV other])) (fun i σ H4 => (∃ u, σ = [some (.ref t), some (.ref d), u]) ∧ Ex H3 H4) ⟨⟨_, rfl⟩, Ex.rfl'⟩ (fun i σ H4 hi q => ex_t (q.2 _ _ hp3)) ?_ ?_
  · rintro i x' σ H4 H5 hi ⟨⟨u, rfl⟩, e4⟩ ⟨rfl, hx⟩
    obtain ⟨q, rfl, hq⟩ : ∃ q, x' = sV q ∧ (valV (kvF L) (.inr (S q))).isSome = true := by
      rcases i with _ | _ | i
      · cases hx; exact ⟨_, rfl, inF m1⟩
      · cases hx; exact ⟨_, rfl, inF m2⟩
      · simp at hx
    walk_at "go"
    refine ⟨d, _, rfl, DGet.k (k := .inr (S q)) (e4 _ _ hLd), ?_⟩
    rw [hq]
    walk_at "go"
    exact ⟨⟨_, rfl⟩, e4⟩
  · rintro σ H4 ⟨⟨u, rfl⟩, e4⟩
    have e14 := e13.t e4
    walk_at "go"
    refine (ht.ex e14).f_sign T ?_
    walk_at "go"
    refine v_catS (a := [124]) (b := [45]) (by simp) ?_
    walk_at "go"
    have hg2 : G2 sg := (signB_M hsig).1
    refine ⟨sg, [124, 45], rfl, ?_⟩
    rw [decide_eq_true (show sg ∈ [124, 45] by rcases hg2 with rfl | rfl <;> simp)]
    walk_at "go"
    obtain ⟨a1, v1, b1⟩ := kvF_get hLe fok.nd m1
    obtain ⟨a2, v2, b2⟩ := kvF_get hLe fok.nd m2
    obtain ⟨c1, b1, hbx1⟩ := b1.ex e4
    obtain ⟨c2, b2, hbx2⟩ := b2.ex e4
    refine (ht.ex e14).f_one T ?_
    refine ⟨d, _, rfl, v1 ▸ DGet.k (k := .inr (S one)) (e4 _ _ hLd), ?_⟩
    walk_at "go"
    refine v_ixTT (i := 1) b1 rfl ?_
    walk_at "go"
    refine (ht.ex e14).f_other T ?_
    refine ⟨d, _, rfl, v2 ▸ DGet.k (k := .inr (S other)) (e4 _ _ hLd), ?_⟩
    walk_at "go"
    refine v_ixTT (i := 1) b2 rfl ?_
    walk_at "go"
    have hDb : bots (ts.map (·.2)) < 2 ^ 1000 := Nat.lt_of_le_of_lt fbd (Nat.pow_lt_pow_right (by decide) (by rw [List.length_map]; omega))
    refine ⟨c1, c2, x, y, rfl, hbx1, hbx2, (fok.bx _ m1).bd fok.pos hDb, (fok.bx _ m2).bd fok.pos hDb, ?_⟩
    rw [hsig]
    walk_at "go"
    refine (ht.ex e14).f_sign T ?_
    refine v_neS ?_
    walk_at "go"
    refine itNT rfl ?_
    walk_at "go"
    refine (ht.ex e14).f_one T ?_
    refine ⟨d, _, rfl, v1 ▸ DGet.k (k := .inr (S one)) (e4 _ _ hLd), ?_⟩
    walk_at "go"
    refine v_ixTT (i := 0) b1 rfl ?_
    walk_at "go"
    refine (ht.ex e14).f_other T ?_
    refine ⟨d, _, rfl, v2 ▸ DGet.k (k := .inr (S other)) (e4 _ _ hLd), ?_⟩
    walk_at "go"
    refine v_ixTT (i := 0) b2 rfl ?_
    walk_at "go"
    refine ⟨szl (by simp), fun l' hl' => ?_⟩
    exact k l' _ (e14.none hl') (e14.t (Ex.nw hl')) upd_same
def spTHolds (K : PySem.W.Frag) : Sp := fun vs H Q _ => ∃ (t bk : Addr) (b : Bk) (st : Tx) (sg : Nat) (one other : Tx) (ss : List Stp) (r1 r2 : Tx) (x y : Bx), vs = [.ref t] ∧ HTouch K H t bk st sg one other (ss.map stV) ∧ HBook K H bk b ∧ BkOk b ∧ RoomOk b.fc st ∧ StepsOk b st ss ∧ ss.length ≤ 40 ∧
  (one, r1, x) ∈ floorAt b st ss ∧ (other, r2, y) ∈ floorAt b st ss ∧ signB x y = [sg] ∧ ∀ H', Ex H H' → Q (.bl true) H'
/-! Touch.holds: slots self 0 -/
theorem sc_Touch_holds : FnScope ["self"] ["self"] (defScope (inClass (top 62) 5)) := C8.fnScope_by (by decide +kernel)
theorem met_Touch_holds (T : T w K mg) : Met P w K mg base 9 (He.ga K "Touch") "holds" (spTHolds K) := by
  refine metD T.c_Touch T.m_Touch_holds T.d_Touch_holds sc_Touch_holds (fun vs H Q E h => ?_) (fun _ _ _ _ _ _ us hl => match us, hl with | [_], _ => rfl) (fun cdv A outer s H vs Q E hr h => ?_)
  · obtain ⟨_, _, _, _, _, _, _, _, _, _, _, _, rfl, _⟩ := h; rfl
  obtain ⟨t, bk, b, st, sg, one, other, ss, r1, r2, x, y, rfl, ht, hb, bo, hst, hok, hn, m1, m2, hsig, k⟩ := h
  refine ⟨_, (pss_one (ps_ret (pe_cmpR op_notNn (pe_mm0 (met_Touch_rooms T) hr (by decide) (pv 0)) pe_non (nomark _)))), ?_⟩
  walk_at "go"
  refine ht.mth (fun _ _ _ _ _ _ => rfl) ?_
  walk_at "go"
  refine ⟨t, bk, b, st, sg, one, other, ss, r1, r2, x, y, rfl, ht, hb, bo, hst, hok, hn, m1, m2, hsig, fun l H' hl e1 h1 => ?_⟩
  walk_at "go"
  rw [show (!decide (V.ref l = V.non)) = true from by simp]
  exact k _ e1
end L2.FW
end
section
set_option maxRecDepth 100000
set_option maxHeartbeats 4000000
/-! touching. -/
namespace L2.FW
open PySem PySem.Spec PyProof.Rows Fw
variable {P : Program} {w : World} {K : PySem.W.Frag} {mg : Str → Option Value} {base : Heap}
local macro_rules | `(tactic| walk_at "go1") => `(tactic| first
  | ((with_reducible apply v_var); exact rfl)
  | ((with_reducible apply s_aug); exact rfl)
  | with_reducible first
    | refine v_c ?_ | refine v_cons ?_ | refine v_nil ?_ | refine v_op ?_ | refine v_cb ?_ | refine v_call ?_ | refine v_bl ?_ | refine v_yes ?_
    | refine s_seq ?_ | refine s_ret ?_ | refine s_if ?_ | refine s_asg ?_ | refine g_name ?_ | refine v_test ?_ | refine v_tB ?_
    | refine v_rI0 ?_ | refine v_eqI ?_ | refine v_neI ?_ | refine v_eqS ?_ | refine v_neS ?_ | refine v_int1 ?_ | refine v_bool1 ?_ | refine v_abs ?_ | refine v_isN ?_ | refine v_notN ?_ | refine v_nsign ?_
    | refine v_andV ?_ | refine v_orV ?_ | refine v_notV ?_ | refine v_and ?_ | refine v_or ?_ | refine v_not ?_
    | refine v_if ?_ | refine v_tup ?_ | refine v_lst ?_ | refine v_sl ?_ | refine v_part ?_ | refine v_nopart ?_ | refine v_int ?_ | refine v_dget ?_ | refine v_din ?_ | refine v_dnin ?_
    | refine v_fld ?_ | refine v_meth ?_ | refine v_bm ?_ | refine v_m1 ?_ | refine v_strE ?_ | refine v_un ?_ | refine v_chain ?_ | refine s_next ?_ | refine s_drop ?_ | refine s_retN ?_ | refine s_par ?_ | refine s_par3 ?_
    | refine s_fld ?_ | refine s_dput ?_ | refine s_ddel ?_ | refine g_nil ?_ | refine g_cons ?_ | refine iteT ?_ | refine iteF ?_ | refine iteNT ?_ | refine iteNF ?_
    | refine isi_ss ?_ | refine isi_ii ?_ | refine isi_ib ?_ | refine v_lc ?_ | refine i_str ?_ | refine v_str ?_ | refine i_list ?_ | refine i_zipS ?_ | refine i_zipS3 ?_ | refine i_enumS ?_ | refine i_enum ?_ | refine i_tup ?_ | refine i_rng ?_ | refine s_for ?_ | refine v_star ?_ | refine v_makeR ?_ | refine v_make ?_ | refine v_cval ?_ | refine v_sign ?_)
local macro_rules | `(tactic| walk_at "go") => `(tactic| repeat walk_at "go1")
set_option pp.maxSteps 1200
/-- all but those of s are kept -/
def ExS (s : List Addr) (H H' : Hp) : Prop := ∀ a o, a ∉ s → H a = some o → H' a = some o
theorem ExS.rfl' {s : List Addr} {H : Hp} : ExS s H H := fun _ _ _ h => h
theorem ExS.of {s : List Addr} {H H' : Hp} (e : Ex H H') : ExS s H H' := fun a o _ h => e a o h
theorem ExS.t {s : List Addr} {H H1 H2 : Hp} (a : ExS s H H1) (b : ExS s H1 H2) : ExS s H H2 := fun c o n h => b c o n (a c o n h)
theorem ExS.up {s : List Addr} {H : Hp} {l : Addr} {o : HO} (h : l ∈ s) : ExS s H (upd H l o) := fun b u n e => by
  have hn : b ≠ l := fun e' => n (by rw [e']; exact h)
  rw [upd_ne hn]; exact e
theorem ExS.mono {s s' : List Addr} {H H' : Hp} (h : ExS s H H') (m : ∀ a ∈ s, a ∈ s') : ExS s' H H' := fun a o n e => h a o (fun x => n (m a x)) e
theorem Ex.mutS {s : List Addr} {H0 H H' : Hp} (e : Ex H0 H) (n : ∀ a ∈ s, H0 a = .none) (b : ExS s H H') : Ex H0 H' := fun a o h => b a o (fun m => by rw [n a m] at h; cases h) (e a o h)
theorem ExS.unlock {s : List Addr} {H H' : Hp} {d : Addr} {u v : HO} (h : ExS s (upd H d v) H') (hd : H d = some u) : ExS s H (upd H' d u) := fun a o n e => by
  by_cases ha : a = d
  · subst ha
    rw [hd] at e
    rw [upd_same]
    exact e
  · rw [upd_ne ha]
    exact h a o n (by rw [upd_ne ha]; exact e)
theorem kvD_at_i {L : List Ent} {i : Nat} {kk : Key} {v : V} (h : (kvD L)[i]? = some (kk, v)) : ∃ e, (kD L)[i]? = some e ∧ kk = .inr (S e.1) := by
  unfold kvD at h
  rw [List.getElem?_map] at h
  obtain ⟨e, he, h1⟩ := Option.map_eq_some_iff.mp h
  cases h1
  exact ⟨(e.1, e.2.1), by unfold kD; rw [List.getElem?_map, he]; rfl, rfl⟩
/-! dicts whose keys are triples of texts, their values True -/
def triK3 (z : Tri) : List Key := [.inr (S z.1), .inr (S z.2.1), .inr (S z.2.2)]
def kvT (L : List Tri) : List (List Key × V) := L.map fun z => (triK3 z, .bl true)
theorem triK3_inj {z w : Tri} (h : triK3 z = triK3 w) : z = w := by
  obtain ⟨a, b, c⟩ := z
  obtain ⟨a', b', c'⟩ := w
  simp only [triK3, List.cons.injEq, and_true, Sum.inr.injEq] at h
  obtain ⟨h1, h2, h3⟩ := h
  rw [SX.S_inj h1, SX.S_inj h2, SX.S_inj h3]
theorem triK3_dec (z w : Tri) : decide (triK3 z = triK3 w) = decide (z = w) := by
  by_cases h : z = w
  · subst h; simp
  · rw [decide_eq_false h, decide_eq_false (fun e => h (triK3_inj e))]
theorem triV_k (z : Tri) : (triK3 z).map kV = triV z := rfl
theorem kvT_val (L : List Tri) (z : Tri) : valV (kvT L) (triK3 z) = if z ∈ L then some (.bl true) else none := by
  unfold valV kvT
  rw [List.find?_map]
  simp only [Function.comp_def, triK3_dec]
  by_cases h : z ∈ L
  · rw [if_pos h]
    cases hf : L.find? (fun x => decide (x = z)) with
    | none =>
      have := List.find?_eq_none.mp hf z h
      simp at this
    | some x => rfl
  · rw [if_neg h]
    have : L.find? (fun x => decide (x = z)) = none := List.find?_eq_none.mpr fun x hx => by
      simp only [decide_eq_true_eq]
      intro e; subst e; exact h hx
    rw [this]
    rfl
def addT (L : List Tri) (z : Tri) : List Tri := if z ∈ L then L else L ++ [z]
theorem mem_addT {L : List Tri} {z x : Tri} : x ∈ addT L z ↔ x ∈ L ∨ x = z := by
  unfold addT
  split
  · rename_i h
    exact ⟨.inl, fun h' => h'.elim id fun e => e ▸ h⟩
  · simp
theorem addT_nd {L : List Tri} {z : Tri} (h : L.Nodup) : (addT L z).Nodup := by
  unfold addT
  split
  · exact h
  · rename_i hn
    refine List.nodup_append.mpr ⟨h, by simp, fun a ha c hc e => ?_⟩
    simp at hc
    subst hc e
    exact hn ha
theorem addT_len {L : List Tri} {z : Tri} : (addT L z).length ≤ L.length + 1 := by
  unfold addT
  split <;> simp
theorem kvT_put (L : List Tri) (z : Tri) : putK (kvT L) (triK3 z) (.bl true) = kvT (addT L z) := by
  unfold putK addT
  by_cases h : z ∈ L
  · rw [if_pos h]
    have : ((kvT L).any fun kv => decide (kv.1 = triK3 z)) = true := by
      rw [List.any_eq_true]
      exact ⟨(triK3 z, .bl true), List.mem_map.mpr ⟨z, h, rfl⟩, by simp⟩
    rw [this, if_pos rfl]
    unfold kvT
    rw [List.map_map]
    apply List.map_congr_left
    intro x hx
    simp only [Function.comp]
    split
    · rename_i e
      rw [e]
    · rfl
  · rw [if_neg h]
    have : ((kvT L).any fun kv => decide (kv.1 = triK3 z)) = false := by
      rw [List.any_eq_false]
      intro kv hkv e
      obtain ⟨x, hx, rfl⟩ := List.mem_map.mp hkv
      have := triK3_inj (of_decide_eq_true e)
      exact h (this ▸ hx)
    rw [this, if_neg (by simp)]
    simp [kvT]
theorem triV_inj {z w : Tri} (h : triV z = triV w) : z = w := by
  obtain ⟨a, b, c⟩ := z
  obtain ⟨a', b', c'⟩ := w
  simp only [triV, List.cons.injEq, and_true, V.str.injEq] at h
  obtain ⟨h1, h2, h3⟩ := h
  rw [SX.S_inj h1, SX.S_inj h2, SX.S_inj h3]
theorem keys_rs {H : Hp} : ∀ {L : List Tri} {bs : List Addr}, IsKeys H (kvT L) bs → ∃ rs : List (Addr × Tri), bs = rs.map (·.1) ∧ rs.map (·.2) = L ∧ HTri H rs
  | [], _, h => by
    cases h
    exact ⟨[], rfl, rfl, fun r m => nomatch m⟩
  | z :: L, _, h => by
    cases h with
    | cons h1 h2 =>
      obtain ⟨rs, rfl, h3, h4⟩ := keys_rs (L := L) h2
      refine ⟨(_, z) :: rs, rfl, by rw [List.map_cons, h3], fun r m => ?_⟩
      rcases List.mem_cons.mp m with rfl | m
      · exact h1
      · exact h4 r m
def TriOk (f : Tx) (z : Tri) : Prop := (z.1 = [124] ∨ z.1 = [45]) ∧ RoomOk f z.2.1 ∧ RoomOk f z.2.2
def allT (f : Tx) : List Tri := [[124], [45]].flatMap fun s => (rooms f).flatMap fun a => (rooms f).map fun c => (s, a, c)
theorem flat_lenA {α β : Type} {l : List α} {g : α → List β} {n : Nat} (h : ∀ x, (g x).length = n) : (l.flatMap g).length = l.length * n := by
  induction l with
  | nil => simp
  | cons a l ih => rw [List.flatMap_cons, List.length_append, ih, h, List.length_cons, Nat.succ_mul]; omega
theorem allT_len {f : Tx} (h : f.length ≤ 6) : (allT f).length ≤ 4000000 := by
  have h1 := rooms_le h
  unfold allT
  rw [flat_lenA fun s => flat_lenA fun a => List.length_map _]
  have := Nat.mul_le_mul h1 h1
  simp only [List.length_cons, List.length_nil]
  omega
theorem tri_len {f : Tx} (hf : f.length ≤ 6) {L : List Tri} (nd : L.Nodup) (h : ∀ z ∈ L, TriOk f z) : L.length ≤ 4000000 := by
  refine Nat.le_trans (nodup_le nd fun z hz => ?_) (allT_len hf)
  obtain ⟨h1, h2, h3⟩ := h z hz
  obtain ⟨s, a, c⟩ := z
  refine List.mem_flatMap.mpr ⟨s, ?_, List.mem_flatMap.mpr ⟨a, rooms_mem h2, List.mem_map.mpr ⟨c, rooms_mem h3, rfl⟩⟩⟩
  rcases h1 with h1 | h1
  · have h1 : s = [124] := h1
    rw [h1]; simp
  · have h1 : s = [45] := h1
    rw [h1]; simp
theorem asc_room {f r : Tx} (bo : Rise 97 26 6 f) (h : RoomOk f r) : Asc r := fun c hc => by
  have := bo.all c (h.2 c hc)
  omega
theorem TriOk.asc {f : Tx} (bo : Rise 97 26 6 f) {z : Tri} (h : TriOk f z) : AscT z := by
  refine ⟨?_, asc_room bo h.2.1, asc_room bo h.2.2⟩
  rcases h.1 with e | e <;> rw [e] <;> intro c hc <;> simp at hc <;> omega
theorem HOrg.exB {H H' : Hp} {d D : Addr} {xs : List V} {K : List (Tx × List Turn)} (e : ExB D H H') (hD : H D = some (.lst xs)) (h : HOrg H d K) : HOrg H' d K := by
  obtain ⟨L, h1, h2, h3⟩ := h
  exact ⟨L, e _ _ (fun e => by rw [e, hD] at h1; cases h1) h1, h2, h3.te fun a ys h => e _ _ (fun e => by rw [e, hD] at h; cases h) h⟩
/-- all that two parts' views see along the stretch is in L -/
def Done (b : Bk) (L : List Tri) (z : Tri) : Prop := ∀ (g : Nat) (q1 q2 : List Turn) (r1 r2 : Tx), z.1 = [g] → Path (stepV b (viewG g 0)) z.2.1 q1 r1 → Path (stepV b (viewG g 1)) z.2.2 q2 r2 → ([g], r1, r2) ∈ L
theorem Done.mono {b : Bk} {L L' : List Tri} {z : Tri} (h : Done b L z) (m : ∀ x ∈ L, x ∈ L') : Done b L' z := fun g q1 q2 r1 r2 a p1 p2 => m _ (h g q1 q2 r1 r2 a p1 p2)
def spTouching (K : PySem.W.Frag) : Sp := fun vs H Q _ => ∃ (a : Addr) (b : Bk) (st : Tx), vs = [.ref a, sV st] ∧ HBook K H a b ∧ BkOk b ∧ RoomOk b.fc st ∧
  ∀ l rs H', H l = none → Ex H H' → H' l = some (.lst (rs.map fun r : Addr × Tri => V.ref r.1)) → HTri H' rs → (∀ r ∈ rs, AscT r.2) → (∀ g r1 r2 n, Wit b st g r1 r2 n → ([g], r1, r2) ∈ rs.map (·.2)) → Q (.ref l) H'
/-! touching: slots book 0 start 1 known 2 found 3 room 4 cutter 5 sign 6 parts 7 key 8 lots 9 part 10 side 11 one 12 other 13 -/
theorem sc_touching : FnScope ["book", "start", "known", "found", "room", "cutter", "sign", "parts", "key", "lots", "part", "side", "one", "other"] ["book", "start"] (defScope (top 63)) := C8.fnScope_by (by decide +kernel)
theorem cal_touching (T : T w K mg) : Cal P w K mg base 8 "touching" (spTouching K) := by
  refine calD T.d_touching T.g_touching sc_touching (fun vs H Q E h => ?_) (fun _ _ _ _ _ _ us hl => match us, hl with | [_, _], _ => rfl) (fun cdv A outer s H vs Q E hr h => ?_)
  · obtain ⟨_, _, _, rfl, _⟩ := h; rfl
  obtain ⟨a, b, st, rfl, hb, bo, hst, k⟩ := h
  refine ⟨_, (pss_cons (ps_par (i := 2) (j := 3) (by rfl) sc_touching.nd rfl rfl (by decide) rfl rfl (pa_cons pe_dnewT (pa_cons pe_dnewT pa_nil)) (by rfl))
      (pss_cons (ps_for PassesOwn.never rfl (pi_list (pe_cl (cal_turns_of T) hr (by decide) rfl (pa_cons (pv 0) (pa_cons (pe_cl (cal_reached T) hr (by decide) rfl (pa_cons (pv 0) (pa_cons (pv 1) pa_nil))) pa_nil)))) (pg_tup rfl (pgs_cons (pg_name (i := 4) sc_touching.nd rfl (Or.inl rfl)) (pgs_cons (pg_name (i := 5) sc_touching.nd rfl (Or.inl rfl)) pgs_nil))) (pss_cons (ps_par (i := 6) (j := 7) (by rfl) sc_touching.nd rfl rfl (by decide) rfl rfl (pa_cons (pe_ix ix_str (pe_mm (met_Book_cut T) hr (by decide) (pv 0) (pa_cons (pv 4) (pa_cons (pv 5) pa_nil))) pe_int (fun _ _ => rfl)) (pa_cons (pe_mm (met_Book_parts T) hr (by decide) (pv 0) (pa_cons (pv 4) (pa_cons (pv 5) pa_nil))) pa_nil)) (by rfl))
      (pss_cons (ps_set (i := 8) sc_touching.nd rfl (Or.inl rfl) (pe_tup (pa_cons (pv 6) (pa_cons (pe_ix ix_list (pv 7) pe_int (fun _ _ => rfl)) (pa_cons (pe_ix ix_list (pv 7) pe_int (fun _ _ => rfl)) pa_nil)))))
      (pss_one (ps_if (pt_cmp (pc_dnotin (hu1 hr) (pv 8) (pv 2))) (pss_cons (ps_dput (hu1 hr) (pv 2) (pv 8) pe_bl rfl)
      (pss_cons (ps_setLc (i := 9) (own := [("part", 10), ("side", 11)]) (g := gTup K 2 (gCons (gName 10) (gCons (gName 11) gNil))) (by rfl) sc_touching.nd rfl rfl (sw_true rfl rfl rfl (by decide +kernel)) (pi_zipS (by rfl) T.f_zip (pa_cons (pv 7) (pa_cons (pe_ix ix_kdict (C8.pe_gc rfl T.v_SIDES) (pv 6) (fun _ _ => rfl)) pa_nil))) (blkOk_by (own := [("part", 10), ("side", 11)]) (N := ["book", "start", "known", "found", "room", "cutter", "sign", "parts", "key", "lots", "part", "side", "one", "other"]) (sc := defScope (top 63)) (by decide +kernel)) (fun _ _ _ _ _ => (pg_tup rfl (pgs_cons (pg_name (i := 10) sc_touching.nd rfl (Or.inl rfl)) (pgs_cons (pg_name (i := 11) sc_touching.nd rfl (Or.inl rfl)) pgs_nil)))) (fun _ _ _ _ _ => pts_nil) (fun _ _ _ _ _ => (pe_cl (cal_view_origins T) hr (by decide) rfl (pa_cons (pv 0) (pa_cons (pv 10) (pa_cons (pv 11) pa_nil))))))
      (pss_one (ps_lock (ps_for PassesOwn.never rfl (pi_keys (pe_ix ix_list (pv 9) pe_int (fun _ _ => rfl))) (pg_name (i := 12) sc_touching.nd rfl (Or.inl rfl)) (pss_one (ps_lock (ps_for PassesOwn.never rfl (pi_keys (pe_ix ix_list (pv 9) pe_int (fun _ _ => rfl))) (pg_name (i := 13) sc_touching.nd rfl (Or.inl rfl)) (pss_one (ps_dput (hu1 hr) (pv 3) (pe_tup (pa_cons (pv 6) (pa_cons (pv 12) (pa_cons (pv 13) pa_nil)))) pe_bl rfl)))))))))) pss_nil)))))
      (pss_one (ps_ret (pe_callB cr_sortT3 (by rfl) T.f_sorted (by decide +kernel) (pa_cons (pe_callTy (call_list_dT rfl) (by rfl) T.f_list (by decide +kernel) (pa_cons (pv 3) pa_nil)) pa_nil)))))), ?_⟩
  walk_at "go"
  intro kd hkd
  walk_at "go"
  intro fd hfd
  walk_at "go"
  refine ⟨_, _, rfl, ?_⟩
  walk_at "go"
  generalize hH1 : upd H kd _ = H1 at hfd ⊢
  have e1 : Ex H H1 := hH1 ▸ Ex.nw hkd
  have hkd1 : H1 kd = some (.dT []) := hH1 ▸ upd_same
  generalize hH2 : upd H1 fd _ = H2
  have e2 : Ex H1 H2 := hH2 ▸ Ex.nw hfd
  have hfd2 : H2 fd = some (.dT []) := hH2 ▸ upd_same
  have hkd2 := e2 _ _ hkd1
  have nkf : kd ≠ fd := fun e => by rw [← e, hkd1] at hfd; cases hfd
  have e12 := e1.t e2
  have nfd : H fd = none := e1.none hfd
  refine ⟨a, b, st, rfl, hb.ex e12, bo, hst, fun rl zs Kk H3 hrl e3 hrl3 hperm hfnd => ?_⟩
  walk_at "go"
  obtain ⟨ib, hib, hbi⟩ := hfnd
  have stp : ∀ r t q, stepB b r t q → stepB b r t q := fun _ _ _ h => h
  have hzk : zs.length ≤ 1296 := by
    have h1 := BI.small bo stp hst hbi
    rw [hperm.length_eq, List.length_map]
    exact h1
  have hzr : ∀ r ∈ zs, RoomOk b.fc r := fun r hr => by
    obtain ⟨e, he, rfl⟩ := List.mem_map.mp (hperm.mem_iff.mp hr)
    exact path_room bo stp hst (hbi.path e he)
  refine ⟨a, rl, b, zs, rfl, hb.ex (e12.t e3), bo, hrl3, by omega, hzr, fun tl ts Hb htl e4 htl4 hts4 htsm => ?_⟩
  have e1b := e12.t (e3.t e4)
  have e2b := e3.t e4
  have hkdb := e2b _ _ hkd2
  have hfdb := e2b _ _ hfd2
  have htsl : ts.length ≤ 1296 * 4 := by
    have h1 := congrArg List.length htsm
    have h2 := turnsL_len b zs
    have h3 := Nat.mul_le_mul hzk bo.ct.len
    rw [List.length_map] at h1
    omega
  have htsr : ∀ r ∈ ts, RoomOk b.fc r.2.1 ∧ r.2.2 ∈ b.ct ∧ b.cut r.2.1 r.2.2 ≠ [] := fun r hr => by
    have : r.2 ∈ turnsL b zs := by rw [← htsm]; exact List.mem_map.mpr ⟨r, hr, rfl⟩
    obtain ⟨z, hz, h1⟩ := List.mem_flatMap.mp this
    obtain ⟨h2, h3, h4⟩ := turns1_mem h1
    rw [h2]
    exact ⟨hzr z hz, h3, h4⟩
  refine ⟨tl, rfl, ⟨_, ex_l htl4⟩, ?_⟩
  have tlne : ∀ x, x = kd ∨ x = fd → tl ≠ x := fun x hx e => by
    rcases hx with rfl | rfl
    · rw [e, hkdb] at htl4; cases htl4
    · rw [e, hfdb] at htl4; cases htl4
  have notin : ∀ {x : Addr} {xs : List V}, Hb x = some (.tup xs) → x ∉ [kd, fd] := fun {x xs} h m => by
    simp only [List.mem_cons, List.not_mem_nil, or_false] at m
    rcases m with rfl | rfl
    · rw [hkdb] at h; cases h
    · rw [hfdb] at h; cases h
  let key : Tx × Nat → Tri := fun e => ([(b.cut e.1 e.2).headD 0], part0 e.1 (b.cut e.1 e.2), part1 e.1 (b.cut e.1 e.2))
  refine for_it (walk_list (K := K) (xs := ts.map fun r : Addr × Tx × Nat => V.ref r.1)) (fun i σ H5 => (∃ v4 v5 v6 v7 v8 v9 v10 v11 v12 v13, σ = [some (.ref a), some (sV st), some (.ref kd), some (.ref fd), v4, v5, v6, v7, v8, v9, v10, v11, v12, v13]) ∧ ExS [kd, fd] Hb H5 ∧
      ∃ KL FL : List Tri, H5 kd = some (.dT (kvT KL)) ∧ H5 fd = some (.dT (kvT FL)) ∧ KL.length ≤ i ∧ FL.Nodup ∧ (∀ z ∈ FL, TriOk b.fc z) ∧ (∀ z ∈ KL, Done b FL z) ∧ ∀ e ∈ (ts.map (·.2)).take i, key e ∈ KL)
    ⟨⟨_, _, _, _, _, _, _, _, _, _, rfl⟩, ExS.rfl', [], [], hkdb, hfdb, Nat.zero_le _, List.nodup_nil, (fun z m => nomatch m), (fun z m => nomatch m), fun e m => by simp at m⟩ (fun i σ H5 hi q => ex_l (q.2.1 _ _ (fun m => by
      simp only [List.mem_cons, List.not_mem_nil, or_false] at m
      exact tlne _ m rfl) htl4)) ?_ ?_
  · rintro i x σ H5 H6 hi ⟨⟨v4, v5, v6, v7, v8, v9, v10, v11, v12, v13, rfl⟩, b5, KL, FL, hkd5, hfd5, hKl, hFn, hFt, hKd, hKe⟩ ⟨rfl, hx⟩
    rw [List.getElem?_map] at hx
    obtain ⟨⟨ta, R, c⟩, hti, rfl⟩ := Option.map_eq_some_iff.mp hx
    have hm := List.mem_of_getElem? hti
    have hil : i < ts.length := (List.getElem?_eq_some_iff.mp hti).1
    have htk : (ts.map (·.2)).take (i + 1) = (ts.map (·.2)).take i ++ [(R, c)] := by rw [List.take_add_one, List.getElem?_map, hti]; rfl
    obtain ⟨o1, o2, o3⟩ := htsr _ hm
    have o1 : RoomOk b.fc R := o1
    have o2 : c ∈ b.ct := o2
    have o3 : b.cut R c ≠ [] := o3
    obtain ⟨g, cx, cy, hcut, hg⟩ := cut_ne bo o3
    have hta5 : H6 ta = some (.tup [sV R, sV [c]]) := b5 _ _ (notin (hts4 _ hm)) (hts4 _ hm)
    have n2 : ∀ x ∈ [kd, fd], H x = none := fun x m => by
      simp only [List.mem_cons, List.not_mem_nil, or_false] at m
      rcases m with rfl | rfl
      · exact hkd
      · exact nfd
    have eH6 : Ex H H6 := e1b.mutS n2 b5
    refine g_tup (ex_t hta5) rfl ?_
    walk_at "go"
    refine mth_book (hb.ex eH6) (fun _ _ _ => rfl) ?_
    walk_at "go"
    refine ⟨a, b, R, c, rfl, hb.ex eH6, ln6 bo, o1, o2, fun H7 e7 => ?_⟩
    rw [hcut]
    walk_at "go"
    refine v_ixSS (l := [g, cx, cy]) (by simp) at0 ?_
    walk_at "go"
    refine mth_book (hb.ex (eH6.t e7)) (fun _ _ _ => rfl) ?_
    walk_at "go"
    refine ⟨a, b, R, c, rfl, hb.ex (eH6.t e7), bo, o1, o2, fun pp H8 hpp e8 h8 => ?_⟩
    have hps : b.parts R c = [part0 R (b.cut R c), part1 R (b.cut R c)] := parts2 o1 (cut_ok bo R c) o3
    have rp0 : RoomOk b.fc (part0 R (b.cut R c)) := part_room o1 (cut_ok bo R c) (by show _ ∈ b.parts R c; rw [hps]; simp)
    have rp1 : RoomOk b.fc (part1 R (b.cut R c)) := part_room o1 (cut_ok bo R c) (by show _ ∈ b.parts R c; rw [hps]; simp)
    have hkey : key (R, c) = ([g], part0 R (b.cut R c), part1 R (b.cut R c)) := by
      show ([(b.cut R c).headD 0], part0 R (b.cut R c), part1 R (b.cut R c)) = _
      rw [hcut]
      rfl
    rw [hps] at h8
    generalize part0 R (b.cut R c) = P0 at *
    generalize part1 R (b.cut R c) = P1 at *
    have e68 := e7.t e8
    have eH8 := eH6.t e68
    walk_at "go"
    refine ⟨_, _, rfl, ?_⟩
    walk_at "go"
    refine v_ixLL (i := 0) h8 rfl ?_
    walk_at "go"
    refine v_ixLL (i := 1) h8 rfl ?_
    walk_at "go"
    refine ⟨szl (by simp), fun kt hkt => ?_⟩
    generalize hH9 : upd H8 kt _ = H9
    have e9 : Ex H8 H9 := hH9 ▸ Ex.nw hkt
    have hkt9 : H9 kt = some (.tup (triV ([g], P0, P1))) := hH9 ▸ upd_same
    have e69 := e68.t e9
    have hkd9 := e69 _ _ hkd5
    have hfd9 := e69 _ _ hfd5
    walk_at "go"
    refine ⟨kd, _, rfl, DGet.t (k := triK3 ([g], P0, P1)) hkd9 hkt9, ?_⟩
    rw [kvT_val]
    by_cases hin : ([g], P0, P1) ∈ KL
    · rw [if_pos hin]
      walk_at "go"
      refine ⟨⟨_, _, _, _, _, _, _, _, _, _, rfl⟩, b5.t (.of e69), KL, FL, hkd9, hfd9, Nat.le_succ_of_le hKl, hFn, hFt, hKd, fun e m => ?_⟩
      rw [htk] at m
      rcases List.mem_append.mp m with m | m
      · exact hKe e m
      · simp at m; subst m; rw [hkey]; exact hin
    · rw [if_neg hin, show (!(none : Option V).isSome) = true from rfl]
      walk_at "go"
      refine ⟨kd, _, rfl, DPut.t (k := triK3 ([g], P0, P1)) hkd9 hkt9 (by unfold kvT; rw [List.length_map, sizeLine_eq]; omega), ?_⟩
      rw [kvT_put]
      generalize hH10 : upd H9 kd _ = H10
      have b10 : ExS [kd, fd] H9 H10 := hH10 ▸ ExS.up (by simp)
      have hkd10 : H10 kd = some (.dT (kvT (addT KL ([g], P0, P1)))) := hH10 ▸ upd_same
      have hfd10 : H10 fd = some (.dT (kvT FL)) := by rw [← hH10, upd_ne nkf.symm]; exact hfd9
      have eH10 : Ex H H10 := hH10 ▸ (eH8.t e9).up hkd
      have h810 : H10 pp = some (.lst ([P0, P1].map sV)) := by
        have h9 := e9 _ _ h8
        rw [← hH10, upd_ne (fun e => by rw [e, hkd9] at h9; cases h9)]
        exact h9
      have ndfh : fd ≠ kd := nkf.symm
      walk_at "go"
      obtain ⟨j, hj⟩ : ∃ j, ([("|", [.str "E", .str "W"]), ("-", [.str "S", .str "N"])] : List (Str × List V))[j]? = some (S [g], [sV [viewG g 0], sV [viewG g 1]]) := by
        rcases hg with rfl | rfl
        · exact ⟨0, rfl⟩
        · exact ⟨1, rfl⟩
      obtain ⟨d1, d2⟩ := dctS T hj
      refine v_kd d1 ?_
      walk_at "go"
      refine ⟨.l pp ([P0, P1].map sV), .t (tupAt K "SIDES" (S [g])) [sV [viewG g 0], sV [viewG g 1]], rfl, ex_l h810, d2 _, fun D hD => ?_⟩
      refine lc_it (walk_S2 (K := K) (n := 2) rfl) (fun i H' => Ex H10 H' ∧ ∃ ys, H' D = some (.lst ys) ∧ (i = 0 → ys = []) ∧ (i = 1 → ∃ d0 K0, ys = [.ref d0] ∧ HOrg H' d0 K0 ∧ Fnd (stepV b (viewG g 0)) P0 K0) ∧ (i = 2 → ∃ d0 K0 d1 K1, ys = [.ref d0, .ref d1] ∧ d0 ≠ d1 ∧ HOrg H' d0 K0 ∧ HOrg H' d1 K1 ∧ Fnd (stepV b (viewG g 0)) P0 K0 ∧ Fnd (stepV b (viewG g 1)) P1 K1))
        ⟨Ex.nw hD, [], upd_same, fun _ => rfl, (fun h => by omega), fun h => by omega⟩ (fun i H' hi q => ⟨ex_l (q.1 _ _ h810), d2 _⟩) ?_ ?_
      · rintro i2 x H11 H12 hi2 ⟨e11, ys, hys, y0, y1, y2⟩ ⟨TT, xx, yy, rfl, hT, rfl, hxx, hyy⟩
        obtain ⟨q, hq, hxq, hyq, hq0, hq1⟩ : ∃ q, RoomOk b.fc q ∧ xx = sV q ∧ yy = sV [viewG g i2] ∧ (i2 = 0 → q = P0) ∧ (i2 = 1 → q = P1) := by
          have hxx : ([P0, P1].map sV)[i2]? = some xx := hxx
          have hyy : [sV [viewG g 0], sV [viewG g 1]][i2]? = some yy := hyy
          rcases i2 with _ | _ | i2
          · cases hxx; cases hyy; exact ⟨P0, rp0, rfl, rfl, fun _ => rfl, fun h => by omega⟩
          · cases hxx; cases hyy; exact ⟨P1, rp1, rfl, rfl, fun h => by omega, fun _ => rfl⟩
          · omega
        subst hxq hyq
        have e12' : Ex H11 (upd H11 TT (.tup [sV q, sV [viewG g i2]])) := Ex.nw hT
        have hT12 : upd H11 TT (.tup [sV q, sV [viewG g i2]]) TT = some (.tup [sV q, sV [viewG g i2]]) := upd_same
        generalize upd H11 TT (.tup [sV q, sV [viewG g i2]]) = H12 at e12' hT12
        refine g_tup (ex_t hT12) rfl ?_
        walk_at "go"
        refine ⟨rfl, ?_⟩
        walk_at "go"
        refine ⟨a, b, q, viewG g i2, rfl, hb.ex (eH10.t (e11.t e12')), bo, hq, viewG_V4 g i2, fun d H13 Kd hd e13 ho hf => ?_⟩
        have e1113 := e12'.t e13
        have hys13 := e1113 _ _ hys
        have hEx : Ex H10 (upd H13 D (.lst (ys ++ [.ref d]))) := (e11.t e1113).up hD
        have bD : ExB D H13 (upd H13 D (.lst (ys ++ [.ref d]))) := ExB.upd
        have hoD : HOrg (upd H13 D (.lst (ys ++ [.ref d]))) d Kd := ho.exB bD hys13
        have nd0 : ∀ {d0 K0}, HOrg H11 d0 K0 → d0 ≠ d := fun {d0 K0} h e => by
          obtain ⟨L, h1, _⟩ := h
          have := e12' _ _ h1
          rw [e, hd] at this; cases this
        have hyl : ys.length < sizeLine := by
          rw [sizeLine_eq]
          rcases i2 with _ | _ | i2
          · rw [y0 rfl]; simp
          · obtain ⟨d0, K0, h1, _⟩ := y1 rfl
            rw [h1]; simp
          · omega
        refine ⟨ys, hys13, hyl, hEx, _, upd_same, fun h => by omega, fun h => ?_, fun h => ?_⟩
        · have hi0 : i2 = 0 := by omega
          subst hi0
          have := hq0 rfl
          subst this
          rw [y0 rfl]
          rw [y0 rfl] at hoD
          exact ⟨d, Kd, rfl, hoD, hf⟩
        · have hi1 : i2 = 1 := by omega
          subst hi1
          have := hq1 rfl
          subst this
          obtain ⟨d0, K0, h1, h2, h3⟩ := y1 rfl
          have hn := nd0 h2
          have h2' := (h2.ex e1113).exB bD hys13
          rw [h1]
          rw [h1] at hoD h2'
          exact ⟨d0, K0, d, Kd, rfl, hn, h2', hoD, h3, hf⟩
      · rintro H11 ⟨e11, ys, hys, y0, y1, y2⟩
        obtain ⟨d0, K0, d1', K1, hyeq, nd01, ho0, ho1, ⟨i0, hi0, bi0⟩, ⟨i1, hi1, bi1⟩⟩ := y2 rfl
        subst hyeq
        walk_at "go"
        obtain ⟨L0, hL0, rfl, _⟩ := ho0
        obtain ⟨L1, hL1, rfl, _⟩ := ho1
        have hfd11 := e11 _ _ hfd10
        have nfx : ∀ {x : Addr} {kvs : List (Key × V)}, H11 x = some (.dK kvs) → x ≠ fd := fun {x kvs} h e => by rw [e, hfd11] at h; cases h
        have nf0 := nfx hL0
        have nf1 := nfx hL1
        have nDd : ∀ {x : Addr} {kvs : List (Key × V)}, H11 x = some (.dK kvs) → D ≠ x := fun {x kvs} h e => by rw [← e, hys] at h; cases h
        have nDf : D ≠ fd := fun e => by rw [e, hfd11] at hys; cases hys
        refine ⟨d0, .dK (kvD L0), hL0, trivial, fun od0 => ?_⟩
        have un0 : ∀ {H'}, ExS [fd] (upd H11 d0 (.frz od0 (.dK (kvD L0)))) H' → ExS [fd] H11 (upd H' d0 (.dK (kvD L0))) := fun h => h.unlock hL0
        have hd012 : upd H11 d0 (.frz od0 (.dK (kvD L0))) d0 = some (.frz od0 (.dK (kvD L0))) := upd_same
        have hd112 : upd H11 d0 (.frz od0 (.dK (kvD L0))) d1' = some (.dK (kvD L1)) := by rw [upd_ne nd01.symm]; exact hL1
        have hys12 : upd H11 d0 (.frz od0 (.dK (kvD L0))) D = some (.lst [.ref d0, .ref d1']) := by rw [upd_ne (nDd hL0)]; exact hys
        have hfd12 : upd H11 d0 (.frz od0 (.dK (kvD L0))) fd = some (.dT (kvT FL)) := by rw [upd_ne nf0.symm]; exact hfd11
        generalize upd H11 d0 (.frz od0 (.dK (kvD L0))) = H12 at un0 hd012 hd112 hys12 hfd12
        have ni : ∀ {x}, x ≠ fd → x ∉ [fd] := fun h m => h (by simpa using m)
        walk_at "go"
        refine i_keys ?_
        walk_at "go"
        refine v_ixLL (i := 0) hys12 rfl ?_
        refine ⟨d0, od0, rfl, .inl ⟨kvD L0, hd012, ?_⟩⟩
        refine for_it walk_keys (fun i2 σ H13 => (∃ v4 v5 v7 v8 v10 v11 v12 v13, σ = [some (.ref a), some (sV st), some (.ref kd), some (.ref fd), v4, v5, some (sV [g]), v7, v8, some (.ref D), v10, v11, v12, v13]) ∧ ExS [fd] H12 H13 ∧
            ∃ FL', H13 fd = some (.dT (kvT FL')) ∧ FL'.Nodup ∧ (∀ z ∈ FL', TriOk b.fc z) ∧ (∀ z ∈ FL, z ∈ FL') ∧ ∀ e0 ∈ (kD L0).take i2, ∀ e1 ∈ kD L1, ([g], e0.1, e1.1) ∈ FL')
          ⟨⟨_, _, _, _, _, _, _, _, rfl⟩, ExS.rfl', FL, hfd12, hFn, hFt, fun _ m => m, fun e0 m => by simp at m⟩ (fun i2 σ H13 hi2 q => q.2.1 _ _ (ni nf0) hd012) ?_ ?_
        · rintro i2 x σ H13 H14 hi2 ⟨⟨v4, v5, v7, v8, v10, v11, v12, v13, rfl⟩, b13, FL', hfd13, hFn', hFt', hsub, hall⟩ ⟨rfl, kk, vv, hkv, rfl⟩
          obtain ⟨⟨Q0, p0⟩, hQ0, rfl⟩ := kvD_at_i hkv
          have hd113 := b13 _ _ (ni nf1) hd112
          have hys13 := b13 _ _ (ni nDf) hys12
          have hQ0r : RoomOk b.fc Q0 := path_room bo (fun _ _ _ h => h.1) rp0 (bi0.path _ (List.mem_of_getElem? hQ0))
          have htk0 : (kD L0).take (i2 + 1) = (kD L0).take i2 ++ [(Q0, p0)] := by rw [List.take_add_one, hQ0]; rfl
          walk_at "go"
          refine ⟨d1', .dK (kvD L1), hd113, trivial, fun od1 => ?_⟩
          have un1 : ∀ {H'}, ExS [fd] (upd H14 d1' (.frz od1 (.dK (kvD L1)))) H' → ExS [fd] H14 (upd H' d1' (.dK (kvD L1))) := fun h => h.unlock hd113
          have hd115 : upd H14 d1' (.frz od1 (.dK (kvD L1))) d1' = some (.frz od1 (.dK (kvD L1))) := upd_same
          have hys15 : upd H14 d1' (.frz od1 (.dK (kvD L1))) D = some (.lst [.ref d0, .ref d1']) := by rw [upd_ne (nDd hL1)]; exact hys13
          have hfd15 : upd H14 d1' (.frz od1 (.dK (kvD L1))) fd = some (.dT (kvT FL')) := by rw [upd_ne nf1.symm]; exact hfd13
          generalize upd H14 d1' (.frz od1 (.dK (kvD L1))) = H15 at un1 hd115 hys15 hfd15
          walk_at "go"
          refine i_keys ?_
          walk_at "go"
          refine v_ixLL (i := 1) hys15 rfl ?_
          refine ⟨d1', od1, rfl, .inl ⟨kvD L1, hd115, ?_⟩⟩
          refine for_it walk_keys (fun j2 σ H16 => (∃ v4 v5 v7 v8 v10 v11 v13, σ = [some (.ref a), some (sV st), some (.ref kd), some (.ref fd), v4, v5, some (sV [g]), v7, v8, some (.ref D), v10, v11, some (sV Q0), v13]) ∧ ExS [fd] H15 H16 ∧
              ∃ FL2, H16 fd = some (.dT (kvT FL2)) ∧ FL2.Nodup ∧ (∀ z ∈ FL2, TriOk b.fc z) ∧ (∀ z ∈ FL', z ∈ FL2) ∧ ∀ e1 ∈ (kD L1).take j2, ([g], Q0, e1.1) ∈ FL2)
            ⟨⟨_, _, _, _, _, _, _, rfl⟩, ExS.rfl', FL', hfd15, hFn', hFt', fun _ m => m, fun e0 m => by simp at m⟩ (fun j2 σ H16 hj2 q => q.2.1 _ _ (ni nf1) hd115) ?_ ?_
          · rintro j2 x σ H16 H17 hj2 ⟨⟨v4, v5, v7, v8, v10, v11, v13, rfl⟩, b16, FL2, hfd16, hFn2, hFt2, hsub2, hall2⟩ ⟨rfl, kk, vv, hkv, rfl⟩
            obtain ⟨⟨Q1, p1⟩, hQ1, rfl⟩ := kvD_at_i hkv
            have hQ1r : RoomOk b.fc Q1 := path_room bo (fun _ _ _ h => h.1) rp1 (bi1.path _ (List.mem_of_getElem? hQ1))
            have htk1 : (kD L1).take (j2 + 1) = (kD L1).take j2 ++ [(Q1, p1)] := by rw [List.take_add_one, hQ1]; rfl
            have hlen := tri_len bo.fc.len hFn2 hFt2
            walk_at "go"
            refine ⟨szl (by simp), fun pt hpt => ?_⟩
            have e18 : Ex H17 (upd H17 pt (.tup (triV ([g], Q0, Q1)))) := Ex.nw hpt
            have hpt18 : upd H17 pt (.tup (triV ([g], Q0, Q1))) pt = some (.tup (triV ([g], Q0, Q1))) := upd_same
            refine ⟨fd, _, rfl, DPut.t (k := triK3 ([g], Q0, Q1)) (e18 _ _ hfd16) hpt18 (by unfold kvT; rw [List.length_map, sizeLine_eq]; omega), ?_⟩
            rw [kvT_put]
            refine ⟨⟨_, _, _, _, _, _, _, rfl⟩, (b16.t (.of e18)).t (.up (by simp)), addT FL2 ([g], Q0, Q1), upd_same, addT_nd hFn2, fun z m => ?_, fun z m => mem_addT.mpr (.inl (hsub2 z m)), fun e1 m => ?_⟩
            · rcases mem_addT.mp m with m | rfl
              · exact hFt2 z m
              · exact ⟨by rcases hg with rfl | rfl <;> simp, hQ0r, hQ1r⟩
            · rw [htk1] at m
              rcases List.mem_append.mp m with m | m
              · exact mem_addT.mpr (.inl (hall2 e1 m))
              · simp at m; subst m; exact mem_addT.mpr (.inr rfl)
          · rintro σ H16 ⟨⟨v4, v5, v7, v8, v10, v11, v13, rfl⟩, b16, FL2, hfd16, hFn2, hFt2, hsub2, hall2⟩
            have hl1 : (kvD L1).length = (kD L1).length := by simp [kvD, kD]
            rw [hl1, List.take_length] at hall2
            refine ⟨b16 _ _ (ni nf1) hd115, ⟨_, _, _, _, _, _, _, _, rfl⟩, b13.t (un1 b16), FL2, by rw [upd_ne nf1.symm]; exact hfd16, hFn2, hFt2, fun z m => hsub2 z (hsub z m), fun e0 m e1 m1 => ?_⟩
            rw [htk0] at m
            rcases List.mem_append.mp m with m | m
            · exact hsub2 _ (hall e0 m e1 m1)
            · simp at m; subst m; exact hall2 e1 m1
        · rintro σ H13 ⟨⟨v4, v5, v7, v8, v10, v11, v12, v13, rfl⟩, b13, FL', hfd13, hFn', hFt', hsub, hall⟩
          have hl0 : (kvD L0).length = (kD L0).length := by simp [kvD, kD]
          rw [hl0, List.take_length] at hall
          refine ⟨b13 _ _ (ni nf0) hd012, ⟨_, _, _, _, _, _, _, _, _, _, rfl⟩, ?_, addT KL ([g], P0, P1), FL', ?_, by rw [upd_ne nf0.symm]; exact hfd13, Nat.le_trans addT_len (by omega), hFn', hFt', fun z m => ?_, fun e m => ?_⟩
          · have b11 := (un0 b13).mono (s' := [kd, fd]) fun x m => by simp at m; subst m; simp
            exact (b5.t (.of e69)).t (b10.t ((ExS.of e11).t b11))
          · have hkd11 := e11 _ _ hkd10
            exact (un0 b13) _ _ (ni nkf) hkd11
          · rcases mem_addT.mp m with m | rfl
            · exact (hKd z m).mono hsub
            · intro g2 q1 q2 r1 r2 hz pa1 pa2
              have hz : g = g2 := by
                have hz : [g] = [g2] := hz
                simpa using hz
              subst hz
              obtain ⟨pp0, m0, _⟩ := bi0.least hi0 pa1
              obtain ⟨pp1, m1, _⟩ := bi1.least hi1 pa2
              exact hall _ m0 _ m1
          · rw [htk] at m
            rcases List.mem_append.mp m with m | m
            · exact mem_addT.mpr (.inl (hKe e m))
            · simp at m; subst m; rw [hkey]; exact mem_addT.mpr (.inr rfl)
  · rintro σ H5 ⟨⟨v4, v5, v6, v7, v8, v9, v10, v11, v12, v13, rfl⟩, b5, KL, FL, hkd5, hfd5, hKl, hFn, hFt, hKd, hKe⟩
    rw [List.length_map, ← List.length_map (f := (·.2)), List.take_length] at hKe
    have n2 : ∀ x ∈ [kd, fd], H x = none := fun x m => by
      simp only [List.mem_cons, List.not_mem_nil, or_false] at m
      rcases m with rfl | rfl
      · exact hkd
      · exact nfd
    have eH5 : Ex H H5 := e1b.mutS n2 b5
    walk_at "go"
    refine ⟨fd, _, rfl, .inl hfd5, fun l1 bs hl1 hbs => ?_⟩
    obtain ⟨rs, rfl, hrs2, hrs⟩ := keys_rs hbs
    generalize hH6 : upd H5 l1 _ = H6
    have e6 : Ex H5 H6 := hH6 ▸ Ex.nw hl1
    have hl6 : H6 l1 = some (.lst (rs.map fun r : Addr × Tri => V.ref r.1)) := by rw [← hH6, upd_same, List.map_map]; rfl
    walk_at "go"
    refine ⟨l1, _, triK H6, rfl, ex_l hl6, fun x hx => ?_, fun ys l hp hl => ?_⟩
    · obtain ⟨r, hr', rfl⟩ := List.mem_map.mp hx
      have h1 := e6 _ _ (hrs r hr')
      refine ⟨r.1, rfl, ?_⟩
      have : triK H6 (.ref r.1) = (S r.2.1, S r.2.2.1, S r.2.2.2) := by
        unfold triK
        show (match H6 r.1 with
          | some (HO.tup [V.str a, V.str b, V.str c]) => (a, b, c)
          | x => (Str.ofString "", Str.ofString "", Str.ofString "")) = _
        rw [h1]
        rfl
      rw [this]
      exact h1
    · have hys : ∀ y ∈ ys, ∃ t z, y = V.ref t ∧ (upd H6 l (.lst ys)) t = some (.tup (triV z)) ∧ z ∈ FL := fun y hy => by
        obtain ⟨r, hr', rfl⟩ := List.mem_map.mp (hp.mem_iff.mp hy)
        exact ⟨r.1, r.2, rfl, (Ex.nw hl) _ _ (e6 _ _ (hrs r hr')), by rw [← hrs2]; exact List.mem_map.mpr ⟨r, hr', rfl⟩⟩
      obtain ⟨rs', h1, h2, h3⟩ := tris_of hys
      refine k l rs' _ ((eH5.t e6).none hl) ((eH5.t e6).t (Ex.nw hl)) (by rw [upd_same, h1]) h2 (fun r m => (hFt _ (h3 r m)).asc bo.fc) fun g r1 r2 n hw => ?_
      have inFL : ([g], r1, r2) ∈ FL := by
        obtain ⟨R, p, c, q1, q2, w1, w2, w3, w4, w5, w6, _⟩ := hw
        obtain ⟨p', hp', _⟩ := hbi.least hib w1
        have hRz : R ∈ zs := hperm.mem_iff.mpr (List.mem_map.mpr ⟨_, hp', rfl⟩)
        have hmt : (R, c) ∈ ts.map (·.2) := by
          rw [htsm]
          exact List.mem_flatMap.mpr ⟨R, hRz, turns1_of w2 w3⟩
        have hk := hKe _ hmt
        refine hKd _ hk g q1 q2 r1 r2 ?_ w5 w6
        show [(b.cut R c).headD 0] = [g]
        rw [w4]
      obtain ⟨r, hr', e⟩ := List.mem_map.mp (show ([g], r1, r2) ∈ rs.map (·.2) by rw [hrs2]; exact inFL)
      have hy : V.ref r.1 ∈ ys := hp.mem_iff.mpr (List.mem_map.mpr ⟨r, hr', rfl⟩)
      rw [h1] at hy
      obtain ⟨r', hr'', e'⟩ := List.mem_map.mp hy
      have e' : r'.1 = r.1 := by simpa using e'
      have h5 := h2 r' hr''
      have h6 := (Ex.nw (o := .lst ys) hl) _ _ (e6 _ _ (hrs r hr'))
      rw [e'] at h5
      rw [h5] at h6
      have h7 : triV r'.2 = triV r.2 := by simpa using h6
      refine List.mem_map.mpr ⟨r', hr'', ?_⟩
      rw [triV_inj h7]
      exact e
end L2.FW
end
section
set_option maxRecDepth 100000
set_option maxHeartbeats 4000000
/-! side_ways. -/
namespace L2.FW
open PySem PySem.Spec PyProof.Rows Fw
variable {P : Program} {w : World} {K : PySem.W.Frag} {mg : Str → Option Value} {base : Heap}
local macro_rules | `(tactic| walk_at "go1") => `(tactic| first
  | ((with_reducible apply v_var); exact rfl)
  | ((with_reducible apply s_aug); exact rfl)
  | with_reducible first
    | refine v_c ?_ | refine v_cons ?_ | refine v_nil ?_ | refine v_op ?_ | refine v_cb ?_ | refine v_call ?_ | refine v_bl ?_ | refine v_yes ?_
    | refine s_seq ?_ | refine s_ret ?_ | refine s_if ?_ | refine s_asg ?_ | refine g_name ?_ | refine v_test ?_ | refine v_tB ?_
    | refine v_rI0 ?_ | refine v_eqI ?_ | refine v_neI ?_ | refine v_eqS ?_ | refine v_neS ?_ | refine v_int1 ?_ | refine v_bool1 ?_ | refine v_abs ?_ | refine v_isN ?_ | refine v_notN ?_ | refine v_nsign ?_
    | refine v_andV ?_ | refine v_orV ?_ | refine v_notV ?_ | refine v_and ?_ | refine v_or ?_ | refine v_not ?_
    | refine v_if ?_ | refine v_tup ?_ | refine v_lst ?_ | refine v_sl ?_ | refine v_part ?_ | refine v_nopart ?_ | refine v_int ?_ | refine v_dget ?_ | refine v_din ?_ | refine v_dnin ?_
    | refine v_fld ?_ | refine v_meth ?_ | refine v_bm ?_ | refine v_m1 ?_ | refine v_strE ?_ | refine v_un ?_ | refine v_chain ?_ | refine s_next ?_ | refine s_drop ?_ | refine s_retN ?_ | refine s_par ?_ | refine s_par3 ?_
    | refine s_fld ?_ | refine s_dput ?_ | refine s_ddel ?_ | refine g_nil ?_ | refine g_cons ?_ | refine iteT ?_ | refine iteF ?_ | refine iteNT ?_ | refine iteNF ?_
    | refine isi_ss ?_ | refine isi_ii ?_ | refine isi_ib ?_ | refine v_lc ?_ | refine i_str ?_ | refine v_str ?_ | refine i_list ?_ | refine i_zipS ?_ | refine i_zipS3 ?_ | refine i_enumS ?_ | refine i_enum ?_ | refine i_tup ?_ | refine i_rng ?_ | refine s_for ?_ | refine v_star ?_ | refine v_makeR ?_ | refine v_make ?_ | refine v_cval ?_ | refine v_sign ?_)
local macro_rules | `(tactic| walk_at "go") => `(tactic| repeat walk_at "go1")
set_option pp.maxSteps 1200
theorem path_turns {b : Bk} (bo : BkOk b) {s q : Tx} {p : List Turn} (hs : RoomOk b.fc s) (h : Path (stepB b) s p q) : ∀ t ∈ p, TurnOk b t := by
  induction h with
  | nil => exact fun t m => nomatch m
  | @snoc p r q t x y ih =>
    intro t' m
    rcases List.mem_append.mp m with m | m
    · exact ih t' m
    · simp at m
      subst m
      have hr : RoomOk b.fc r := path_room bo (fun _ _ _ h => h) hs x
      obtain ⟨e, h2, h3, h4⟩ := y
      have hk := step_lt bo hr (t := t') ⟨e, h2, h3, h4⟩
      exact ⟨by rw [e]; exact hr, h2, by rw [e]; exact h3, hk⟩
def partN (i : Nat) (r u : Tx) : Tx := if i = 0 then part0 r u else part1 r u
/-- a least way along a stretch -/
structure Way (b : Bk) (g i : Nat) (P r : Tx) (p : List Turn) : Prop where
  path : Path (stepV b (viewG g i)) P p r
  least : ∀ q, Path (stepV b (viewG g i)) P q r → p.length ≤ q.length
  len : p.length ≤ 1296
theorem Way.turns {b : Bk} (bo : BkOk b) {g i : Nat} {P r : Tx} {p : List Turn} (hP : RoomOk b.fc P) (h : Way b g i P r p) : ∀ t ∈ p, TurnOk b t := path_turns bo hP (h.path.mono fun _ _ _ h => h.1)
/-- a list of turns in the heap -/
def HTl (H : Hp) (l : Addr) (p : List Turn) : Prop := ∃ ts : List (Addr × Turn), H l = some (.lst (ts.map fun r => V.ref r.1)) ∧ HTn H ts ∧ ts.map (·.2) = p
theorem HTl.ex {H H' : Hp} {l : Addr} {p : List Turn} (e : Ex H H') (h : HTl H l p) : HTl H' l p := by
  obtain ⟨ts, h1, h2, h3⟩ := h
  exact ⟨ts, e _ _ h1, h2.te (.ex e), h3⟩
theorem HTl.exB {H H' : Hp} {l D : Addr} {p : List Turn} {xs : List V} (e : ExB D H H') (hD : H D = some (.lst xs)) (hn : l ≠ D) (h : HTl H l p) : HTl H' l p := by
  obtain ⟨ts, h1, h2, h3⟩ := h
  exact ⟨ts, e _ _ hn h1, h2.te fun a ys h => e _ _ (fun e => by rw [e, hD] at h; cases h) h, h3⟩
def spSideWays (K : PySem.W.Frag) : Sp := fun vs H Q _ => ∃ (a tt rt : Addr) (b : Bk) (g c : Nat) (R r1 r2 : Tx), vs = [.ref a, sV [g], .ref tt, .ref rt] ∧ HBook K H a b ∧ BkOk b ∧ H tt = some (.tup [sV R, sV [c]]) ∧ H rt = some (.tup [sV r1, sV r2]) ∧ RoomOk b.fc R ∧ c ∈ b.ct ∧ b.cut R c ≠ [] ∧
  (∀ H', Ex H H' → (∀ q1 q2, (b.cut R c).headD 0 = g → Path (stepV b (viewG g 0)) (part0 R (b.cut R c)) q1 r1 → Path (stepV b (viewG g 1)) (part1 R (b.cut R c)) q2 r2 → False) → Q .non H') ∧
  ∀ l l0 l1 p0 p1 H', H l = none → Ex H H' → H' l = some (.lst [.ref l0, .ref l1]) → HTl H' l0 p0 → HTl H' l1 p1 → (b.cut R c).headD 0 = g → Way b g 0 (part0 R (b.cut R c)) r1 p0 → Way b g 1 (part1 R (b.cut R c)) r2 p1 → Q (.ref l) H'
/-! side_ways: slots book 0 sign 1 turn 2 rooms 3 found 4 part 5 side 6 room 7 known 8 -/
theorem sc_side_ways : FnScope ["book", "sign", "turn", "rooms", "found", "part", "side", "room", "known"] ["book", "sign", "turn", "rooms"] (defScope (top 65)) := C8.fnScope_by (by decide +kernel)
theorem cal_side_ways (T : T w K mg) : Cal P w K mg base 7 "side_ways" (spSideWays K) := by
  refine calD T.d_side_ways T.g_side_ways sc_side_ways (fun vs H Q E h => ?_) (fun _ _ _ _ _ _ us hl => match us, hl with | [_, _, _, _], _ => rfl) (fun cdv A outer s H vs Q E hr h => ?_)
  · obtain ⟨_, _, _, _, _, _, _, _, _, rfl, _⟩ := h; rfl
  obtain ⟨a, tt, rt, b, g, c, R, r1, r2, rfl, hb, bo, htt, hrt, o1, o2, o3, kn, k⟩ := h
  refine ⟨_, (pss_cons (ps_if (pt_cmpR op_ne (pe_ix ix_str (pe_mm (met_Book_cut T) hr (by decide) (pv 0) (pa_cons (pe_ix ix_tup (pv 2) pe_int (fun _ _ => rfl)) (pa_cons (pe_ix ix_tup (pv 2) pe_int (fun _ _ => rfl)) pa_nil))) pe_int (fun _ _ => rfl)) (pv 1) (nomark _)) (pss_one (ps_ret pe_non)) pss_nil)
      (pss_cons (ps_set (i := 4) sc_side_ways.nd rfl (Or.inl rfl) (pe_lst pa_nil))
      (pss_cons (ps_for PassesOwn.never rfl (pi_zipS3 (by rfl) T.f_zip (pa_cons (pe_mm (met_Book_parts T) hr (by decide) (pv 0) (pa_cons (pe_ix ix_tup (pv 2) pe_int (fun _ _ => rfl)) (pa_cons (pe_ix ix_tup (pv 2) pe_int (fun _ _ => rfl)) pa_nil))) (pa_cons (pe_ix ix_kdict (C8.pe_gc rfl T.v_SIDES) (pv 1) (fun _ _ => rfl)) (pa_cons (pv 3) pa_nil)))) (pg_tup rfl (pgs_cons (pg_name (i := 5) sc_side_ways.nd rfl (Or.inl rfl)) (pgs_cons (pg_name (i := 6) sc_side_ways.nd rfl (Or.inl rfl)) (pgs_cons (pg_name (i := 7) sc_side_ways.nd rfl (Or.inl rfl)) pgs_nil)))) (pss_cons (ps_set (i := 8) sc_side_ways.nd rfl (Or.inl rfl) (pe_cl (cal_view_origins T) hr (by decide) rfl (pa_cons (pv 0) (pa_cons (pv 5) (pa_cons (pv 6) pa_nil)))))
      (pss_cons (ps_if (pt_cmp (pc_dnotin (hu1 hr) (pv 7) (pv 8))) (pss_one (ps_ret pe_non)) pss_nil)
      (pss_one (ps_expr (pe_bm PySem.F.plainAttrs_list PySem.F.slot_list_append PySem.F.type_list_append mt_append (pv 4) (pa_cons (pe_cl (cal_turns_to T) hr (by decide) rfl (pa_cons (pv 8) (pa_cons (pv 7) pa_nil))) pa_nil)))))))
      (pss_one (ps_ret (pv 4)))))), ?_⟩
  walk_at "go"
  refine mth_book hb (fun _ _ _ => rfl) ?_
  walk_at "go"
  refine v_ixTT (i := 0) htt rfl ?_
  walk_at "go"
  refine v_ixTT (i := 1) htt rfl ?_
  walk_at "go"
  obtain ⟨g', cx, cy, hcut, hg'⟩ := cut_ne bo o3
  have hgh : (b.cut R c).headD 0 = g' := by rw [hcut]; rfl
  refine ⟨a, b, R, c, rfl, hb, ln6 bo, o1, o2, fun H1 e1 => ?_⟩
  rw [hcut]
  walk_at "go"
  refine v_ixSS (l := [g', cx, cy]) (by simp) at0 ?_
  walk_at "go"
  by_cases hgg : g' = g
  · subst hgg
    refine itNT rfl ?_
    walk_at "go"
    refine ⟨szl (by simp), fun f hf => ?_⟩
    generalize hH2 : upd H1 f _ = H2
    have e2 : Ex H1 H2 := hH2 ▸ Ex.nw hf
    have hf2 : H2 f = some (.lst []) := hH2 ▸ upd_same
    have e12 := e1.t e2
    walk_at "go"
    refine mth_book (hb.ex e12) (fun _ _ _ => rfl) ?_
    walk_at "go"
    refine v_ixTT (i := 0) (e12 _ _ htt) rfl ?_
    walk_at "go"
    refine v_ixTT (i := 1) (e12 _ _ htt) rfl ?_
    walk_at "go"
    refine ⟨a, b, R, c, rfl, hb.ex e12, bo, o1, o2, fun pp H3 hpp e3 h3 => ?_⟩
    have hps : b.parts R c = [part0 R (b.cut R c), part1 R (b.cut R c)] := parts2 o1 (cut_ok bo R c) o3
    have rp0 : RoomOk b.fc (part0 R (b.cut R c)) := part_room o1 (cut_ok bo R c) (by show _ ∈ b.parts R c; rw [hps]; simp)
    have rp1 : RoomOk b.fc (part1 R (b.cut R c)) := part_room o1 (cut_ok bo R c) (by show _ ∈ b.parts R c; rw [hps]; simp)
    rw [hps] at h3
    clear hcut hps
    generalize part0 R (b.cut R c) = P0 at *
    generalize part1 R (b.cut R c) = P1 at *
    have e13 := e12.t e3
    have hf3 := e3 _ _ hf2
    obtain ⟨j, hj⟩ : ∃ j, ([("|", [.str "E", .str "W"]), ("-", [.str "S", .str "N"])] : List (Str × List V))[j]? = some (S [g'], [sV [viewG g' 0], sV [viewG g' 1]]) := by
      rcases hg' with rfl | rfl
      · exact ⟨0, rfl⟩
      · exact ⟨1, rfl⟩
    obtain ⟨d1, d2⟩ := dctS T hj
    walk_at "go"
    refine v_kd d1 ?_
    walk_at "go"
    refine ⟨.l pp ([P0, P1].map sV), .t (tupAt K "SIDES" (S [g'])) [sV [viewG g' 0], sV [viewG g' 1]], .t rt [sV r1, sV r2], rfl, ex_l h3, d2 _, ex_t (e13 _ _ hrt), ?_⟩
    have nf : H f = none := e1.none hf
    have npf : pp ≠ f := fun e => by rw [e, hf2] at hpp; cases hpp
    refine for_it (walk_S3 (K := K) (n := 2) rfl) (fun i σ H4 => (∃ v5 v6 v7 v8, σ = [some (.ref a), some (sV [g']), some (.ref tt), some (.ref rt), some (.ref f), v5, v6, v7, v8]) ∧ Ex H H4 ∧ H4 pp = some (.lst ([P0, P1].map sV)) ∧
        ∃ ys, H4 f = some (.lst ys) ∧ (i = 0 → ys = []) ∧ (i = 1 → ∃ l0 p0, ys = [.ref l0] ∧ HTl H4 l0 p0 ∧ Way b g' 0 P0 r1 p0) ∧ (i = 2 → ∃ l0 p0 l1 p1, ys = [.ref l0, .ref l1] ∧ HTl H4 l0 p0 ∧ HTl H4 l1 p1 ∧ Way b g' 0 P0 r1 p0 ∧ Way b g' 1 P1 r2 p1))
      ⟨⟨_, _, _, _, rfl⟩, e13, h3, [], hf3, fun _ => rfl, (fun h => by omega), fun h => by omega⟩ (fun i σ H4 hi q => ⟨ex_l q.2.2.1, d2 _, ex_t (q.2.1 _ _ hrt)⟩) ?_ ?_
    · rintro i x σ H4 H5 hi ⟨⟨v5, v6, v7, v8, rfl⟩, e4, hp4, ys, hf4, y0, y1, y2⟩ ⟨TT, xx, yy, uu, rfl, hT, rfl, hxx, hyy, huu⟩
      obtain ⟨q, r, hq, hxq, hyq, hur, hi01⟩ : ∃ q r, RoomOk b.fc q ∧ xx = sV q ∧ yy = sV [viewG g' i] ∧ uu = sV r ∧ ((i = 0 ∧ q = P0 ∧ r = r1) ∨ (i = 1 ∧ q = P1 ∧ r = r2)) := by
        have hxx : ([P0, P1].map sV)[i]? = some xx := hxx
        have hyy : [sV [viewG g' 0], sV [viewG g' 1]][i]? = some yy := hyy
        have huu : [sV r1, sV r2][i]? = some uu := huu
        rcases i with _ | _ | i
        · cases hxx; cases hyy; cases huu; exact ⟨P0, r1, rp0, rfl, rfl, rfl, .inl ⟨rfl, rfl, rfl⟩⟩
        · cases hxx; cases hyy; cases huu; exact ⟨P1, r2, rp1, rfl, rfl, rfl, .inr ⟨rfl, rfl, rfl⟩⟩
        · omega
      subst hxq hyq hur
      have e5 : Ex H4 (upd H4 TT (.tup [sV q, sV [viewG g' i], sV r])) := Ex.nw hT
      have hT5 : upd H4 TT (.tup [sV q, sV [viewG g' i], sV r]) TT = some (.tup [sV q, sV [viewG g' i], sV r]) := upd_same
      generalize upd H4 TT (.tup [sV q, sV [viewG g' i], sV r]) = H5 at e5 hT5
      refine g_tup (ex_t hT5) rfl ?_
      walk_at "go"
      refine ⟨a, b, q, viewG g' i, rfl, hb.ex (e4.t e5), bo, hq, viewG_V4 g' i, fun d H6 Kd hd e6 ho hfn => ?_⟩
      have e46 := e4.t (e5.t e6)
      obtain ⟨ib, hib, hbi⟩ := hfn
      obtain ⟨L, hLd, hLK, hLe⟩ := id ho
      walk_at "go"
      refine ⟨d, _, rfl, DGet.k (k := .inr (S r)) hLd, ?_⟩
      rw [kvD_some, hLK]
      by_cases hin : r ∈ Kd.map (·.1)
      · rw [decide_eq_true hin]
        walk_at "go"
        obtain ⟨⟨r', p⟩, hm, hr'⟩ := List.mem_map.mp hin
        have hr' : r' = r := hr'
        subst hr'
        have hf6 := (e5.t e6) _ _ hf4
        have hKl := BI.small bo (fun _ _ _ h => h.1) hq hbi
        refine ⟨ty_l hf6, ?_⟩
        walk_at "go"
        refine ⟨d, r', Kd, stepV b (viewG g' i), q, ib, p, rfl, ho, hbi, hm, by omega, fun l ts H7 hl e7 h7 hts htp => ?_⟩
        have hf7 := e7 _ _ hf6
        have hyl : ys.length < 10000000 := by
          rcases hi01 with ⟨rfl, _⟩ | ⟨rfl, _⟩
          · rw [y0 rfl]; simp
          · obtain ⟨l0, p0, h1, _⟩ := y1 rfl
            rw [h1]; simp
        walk_at "go"
        refine v_append hf7 hyl ?_
        generalize hH8 : upd H7 f _ = H8
        have b8 : ExB f H7 H8 := hH8 ▸ ExB.upd
        have hf8 : H8 f = some (.lst (ys ++ [.ref l])) := hH8 ▸ upd_same
        have hw : Way b g' i q r' p := ⟨hbi.path _ hm, fun q' hq' => by
          obtain ⟨p', hp', hl'⟩ := hbi.least hib hq'
          rw [hbi.uniq hm hp']; exact hl', by have h9 : p.length < Kd.length := BI.len hbi hm; omega⟩
        have ntl : HTl H8 l p := HTl.exB b8 hf7 (fun e => by rw [e, hf6] at hl; cases hl) ⟨ts, h7, hts, htp⟩
        refine ⟨⟨_, _, _, _, rfl⟩, (e46.t e7).mut nf b8, b8 _ _ npf ((e5.t (e6.t e7)) _ _ hp4), _, hf8, fun h => by omega, fun h => ?_, fun h => ?_⟩
        · obtain ⟨rfl, rfl, rfl⟩ : i = 0 ∧ q = P0 ∧ r' = r1 := by
            rcases hi01 with h' | h'
            · exact h'
            · omega
          rw [y0 rfl]
          exact ⟨l, p, rfl, ntl, hw⟩
        · obtain ⟨rfl, rfl, rfl⟩ : i = 1 ∧ q = P1 ∧ r' = r2 := by
            rcases hi01 with h' | h'
            · omega
            · exact h'
          obtain ⟨l0, p0, h1, h2, h3⟩ := y1 rfl
          have nl0 : l0 ≠ f := fun e => by
            obtain ⟨ts0, g1, g2, g3⟩ := h2
            rw [e, hf4, h1] at g1
            have g1 : [V.ref l0] = ts0.map fun r => V.ref r.1 := by simpa using g1
            match ts0, g1 with
            | [t0], g1 =>
              have g4 := g2 t0 (by simp)
              have g5 : l0 = t0.1 := by simpa using g1
              rw [← g5, e, hf4] at g4
              cases g4
          rw [h1]
          exact ⟨l0, p0, l, p, rfl, HTl.exB b8 hf7 nl0 (h2.ex (e5.t (e6.t e7))), ntl, h3, hw⟩
      · rw [decide_eq_false hin]
        walk_at "go"
        refine kn _ e46 fun q1 q2 _ w1 w2 => hin ?_
        rcases hi01 with ⟨rfl, rfl, rfl⟩ | ⟨rfl, rfl, rfl⟩
        · obtain ⟨p', hp', _⟩ := hbi.least hib w1
          exact List.mem_map.mpr ⟨_, hp', rfl⟩
        · obtain ⟨p', hp', _⟩ := hbi.least hib w2
          exact List.mem_map.mpr ⟨_, hp', rfl⟩
    · rintro σ H4 ⟨⟨v5, v6, v7, v8, rfl⟩, e4, hp4, ys, hf4, y0, y1, y2⟩
      obtain ⟨l0, p0, l1, p1, rfl, h1, h2, h3', h4⟩ := y2 rfl
      walk_at "go"
      exact k f l0 l1 p0 p1 H4 nf e4 hf4 h1 h2 hgh h3' h4
  · refine itNF (by simpa using hgg) ?_
    walk_at "go"
    exact kn _ e1 fun q1 q2 h _ _ => hgg (hgh.symm.trans h)
end L2.FW
end
section
set_option maxRecDepth 100000
set_option maxHeartbeats 4000000
/-! touch_of. -/
namespace L2.FW
open PySem PySem.Spec PyProof.Rows Fw
variable {P : Program} {w : World} {K : PySem.W.Frag} {mg : Str → Option Value} {base : Heap}
local macro_rules | `(tactic| walk_at "go1") => `(tactic| first
  | ((with_reducible apply v_var); exact rfl)
  | ((with_reducible apply s_aug); exact rfl)
  | with_reducible first
    | refine v_c ?_ | refine v_cons ?_ | refine v_nil ?_ | refine v_op ?_ | refine v_cb ?_ | refine v_call ?_ | refine v_bl ?_ | refine v_yes ?_
    | refine s_seq ?_ | refine s_ret ?_ | refine s_if ?_ | refine s_asg ?_ | refine g_name ?_ | refine v_test ?_ | refine v_tB ?_
    | refine v_rI0 ?_ | refine v_eqI ?_ | refine v_neI ?_ | refine v_eqS ?_ | refine v_neS ?_ | refine v_int1 ?_ | refine v_bool1 ?_ | refine v_abs ?_ | refine v_isN ?_ | refine v_notN ?_ | refine v_nsign ?_
    | refine v_andV ?_ | refine v_orV ?_ | refine v_notV ?_ | refine v_and ?_ | refine v_or ?_ | refine v_not ?_
    | refine v_if ?_ | refine v_tup ?_ | refine v_lst ?_ | refine v_sl ?_ | refine v_part ?_ | refine v_nopart ?_ | refine v_int ?_ | refine v_dget ?_ | refine v_din ?_ | refine v_dnin ?_
    | refine v_fld ?_ | refine v_meth ?_ | refine v_bm ?_ | refine v_m1 ?_ | refine v_strE ?_ | refine v_un ?_ | refine v_chain ?_ | refine s_next ?_ | refine s_drop ?_ | refine s_retN ?_ | refine s_par ?_ | refine s_par3 ?_
    | refine s_fld ?_ | refine s_dput ?_ | refine s_ddel ?_ | refine g_nil ?_ | refine g_cons ?_ | refine iteT ?_ | refine iteF ?_ | refine iteNT ?_ | refine iteNF ?_
    | refine isi_ss ?_ | refine isi_ii ?_ | refine isi_ib ?_ | refine v_lc ?_ | refine i_str ?_ | refine v_str ?_ | refine i_list ?_ | refine i_zipS ?_ | refine i_zipS3 ?_ | refine i_enumS ?_ | refine i_enum ?_ | refine i_tup ?_ | refine i_rng ?_ | refine s_for ?_ | refine v_star ?_ | refine v_makeR ?_ | refine v_make ?_ | refine v_cval ?_ | refine v_sign ?_)
local macro_rules | `(tactic| walk_at "go") => `(tactic| repeat walk_at "go1")
set_option pp.maxSteps 1200
/-- a cut with least ways on both sides -/
structure Cand (b : Bk) (g : Nat) (Kk : List (Tx × List Turn)) (r1 r2 : Tx) (R : Tx) (c : Nat) (p q1 q2 : List Turn) : Prop where
  known : (R, p) ∈ Kk
  ct : c ∈ b.ct
  cut : b.cut R c ≠ []
  head : (b.cut R c).headD 0 = g
  w1 : Way b g 0 (part0 R (b.cut R c)) r1 q1
  w2 : Way b g 1 (part1 R (b.cut R c)) r2 q2
/-- the best of some turns, in the heap -/
def HBest (b : Bk) (g : Nat) (Kk : List (Tx × List Turn)) (r1 r2 : Tx) (L : List (Tx × Nat)) (H : Hp) (v : V) : Prop :=
  (v = .non ∧ ∀ e ∈ L, ∀ p q1 q2, ¬ Cand b g Kk r1 r2 e.1 e.2 p q1 q2) ∨
  ∃ (bt wt l0 l1 : Addr) (R : Tx) (c : Nat) (p q1 q2 : List Turn), v = .ref bt ∧ H bt = some (.tup [.int ((p.length : Nat) + 1 + (q1.length : Nat) + (q2.length : Nat)), sV R, sV [c], .ref wt]) ∧ H wt = some (.lst [.ref l0, .ref l1]) ∧ HTl H l0 q1 ∧ HTl H l1 q2 ∧
    Cand b g Kk r1 r2 R c p q1 q2 ∧ ∀ e ∈ L, ∀ p' q1' q2', Cand b g Kk r1 r2 e.1 e.2 p' q1' q2' → p.length + 1 + q1.length + q2.length ≤ p'.length + 1 + q1'.length + q2'.length
theorem HBest.ex {b : Bk} {g : Nat} {Kk : List (Tx × List Turn)} {r1 r2 : Tx} {L : List (Tx × Nat)} {H H' : Hp} {v : V} (e : Ex H H') (h : HBest b g Kk r1 r2 L H v) : HBest b g Kk r1 r2 L H' v := by
  rcases h with h | ⟨bt, wt, l0, l1, R, c, p, q1, q2, h1, h2, h3, h4, h5, h6, h7⟩
  · exact .inl h
  · exact .inr ⟨bt, wt, l0, l1, R, c, p, q1, q2, h1, e _ _ h2, e _ _ h3, h4.ex e, h5.ex e, h6, h7⟩
theorem least_path {α τ : Type} {S : α → τ → α → Prop} {s r : α} : ∀ (m : Nat) (q : List τ), q.length ≤ m → Path S s q r → ∃ p, Path S s p r ∧ p.length ≤ q.length ∧ ∀ q', Path S s q' r → p.length ≤ q'.length
  | 0, q, h, x => ⟨q, x, Nat.le_refl _, fun q' _ => by omega⟩
  | m + 1, q, h, x => by
    by_cases hc : ∃ q', Path S s q' r ∧ q'.length < q.length
    · obtain ⟨q', h1, h2⟩ := hc
      obtain ⟨p, h3, h4, h5⟩ := least_path m q' (by omega) h1
      exact ⟨p, h3, by omega, h5⟩
    · exact ⟨q, x, Nat.le_refl _, fun q' hq' => by
        by_cases hl : q.length ≤ q'.length
        · exact hl
        · exact absurd ⟨q', hq', by omega⟩ hc⟩
/-- what a meeting pair gives: a cut with least ways, no longer in all -/
theorem wit_cand {b : Bk} {st r1 r2 : Tx} {g n : Nat} {Kk : List (Tx × List Turn)} {i : Nat} (bi : BI (stepB b) (·.1) st Kk i) (hi : Kk.length ≤ i) (h : Wit b st g r1 r2 n) (hn : n ≤ 10) : ∃ R c p q1 q2, Cand b g Kk r1 r2 R c p q1 q2 ∧ p.length + 1 + q1.length + q2.length ≤ n := by
  obtain ⟨R, p, c, q1, q2, w1, w2, w3, w4, w5, w6, w7⟩ := h
  obtain ⟨p', h1, h2⟩ := bi.least hi w1
  obtain ⟨q1', a1, a2, a3⟩ := least_path _ q1 (Nat.le_refl _) w5
  obtain ⟨q2', b1, b2, b3⟩ := least_path _ q2 (Nat.le_refl _) w6
  exact ⟨R, c, p', q1', q2', ⟨h1, w2, w3, w4, ⟨a1, a3, by omega⟩, ⟨b1, b3, by omega⟩⟩, by omega⟩
theorem hsp_rows {H : Hp} {ss : List (Addr × Stp)} (h : HSp H ss) : HRow H (ss.map fun r => (r.1, stV r.2)) := fun r m => by
  obtain ⟨x, hx, rfl⟩ := List.mem_map.mp m
  exact h x hx
def spTouchOf (K : PySem.W.Frag) : Sp := fun vs H Q _ => ∃ (a : Addr) (b : Bk) (st r1 r2 : Tx) (g n : Nat), vs = [.ref a, sV st, sV [g], sV r1, sV r2] ∧ HBook K H a b ∧ BkOk b ∧ RoomOk b.fc st ∧ RoomOk b.fc r1 ∧ RoomOk b.fc r2 ∧ G2 g ∧ Wit b st g r1 r2 n ∧ n ≤ 10 ∧
  ∀ x ss one other X Y H', H x = none → Ex H H' → HTouch K H' x a st g one other (ss.map stV) → StepsOk b st ss → (one, r1, X) ∈ floorAt b st ss → (other, r2, Y) ∈ floorAt b st ss → signB X Y = [g] → ss.length ≤ n → Q (.ref x) H'
/-! touch_of: slots book 0 start 1 sign 2 first 3 second 4 known 5 best 6 room 7 cutter 8 ways 9 many 10 steps 11 address 12 one 13 one_end 14 other 15 other_end 16 -/
theorem sc_touch_of : FnScope ["book", "start", "sign", "first", "second", "known", "best", "room", "cutter", "ways", "many", "steps", "address", "one", "one_end", "other", "other_end"] ["book", "start", "sign", "first", "second"] (defScope (top 64)) := C8.fnScope_by (by decide +kernel)
theorem cal_touch_of (T : T w K mg) (hP : SupP P) : Cal P w K mg base 8 "touch_of" (spTouchOf K) := by
  refine calD T.d_touch_of T.g_touch_of sc_touch_of (fun vs H Q E h => ?_) (fun _ _ _ _ _ _ us hl => match us, hl with | [_, _, _, _, _], _ => rfl) (fun cdv A outer s H vs Q E hr h => ?_)
  · obtain ⟨_, _, _, _, _, _, _, rfl, _⟩ := h; rfl
  obtain ⟨a, b, st, r1, r2, g, n, rfl, hb, bo, hst, hr1, hr2, hg, hwit, hn10, k⟩ := h
  refine ⟨_, (pss_cons (ps_expr (pe_cl (cal_check_room T) hr (by decide) rfl (pa_cons (pv 0) (pa_cons (pv 1) pa_nil))))
      (pss_cons (ps_if (pt_not (pt_val (pe_cl (cal_is_one T) hr (by decide) rfl (pa_cons (pv 2) (pa_cons (pe_op op_catS (C8.pe_gc rfl T.v_UPRIGHT) (C8.pe_gc rfl T.v_LEVEL)) pa_nil))))) pss_never pss_nil)
      (pss_cons (ps_expr (pe_cl (cal_check_room T) hr (by decide) rfl (pa_cons (pv 0) (pa_cons (pv 3) pa_nil))))
      (pss_cons (ps_expr (pe_cl (cal_check_room T) hr (by decide) rfl (pa_cons (pv 0) (pa_cons (pv 4) pa_nil))))
      (pss_cons (ps_par (i := 5) (j := 6) (by rfl) sc_touch_of.nd rfl rfl (by decide) rfl rfl (pa_cons (pe_cl (cal_origins T) hr (by decide) rfl (pa_cons (pv 0) (pa_cons (pv 1) pa_nil))) (pa_cons pe_non pa_nil)) (by rfl))
      (pss_cons (ps_for PassesOwn.never rfl (pi_list (pe_cl (cal_turns_of T) hr (by decide) rfl (pa_cons (pv 0) (pa_cons (pe_callTy (call_list_dK rfl) (by rfl) T.f_list (by decide +kernel) (pa_cons (pv 5) pa_nil)) pa_nil)))) (pg_tup rfl (pgs_cons (pg_name (i := 7) sc_touch_of.nd rfl (Or.inl rfl)) (pgs_cons (pg_name (i := 8) sc_touch_of.nd rfl (Or.inl rfl)) pgs_nil))) (pss_cons (ps_set (i := 9) sc_touch_of.nd rfl (Or.inl rfl) (pe_cl (cal_side_ways T) hr (by decide) rfl (pa_cons (pv 0) (pa_cons (pv 2) (pa_cons (pe_tup (pa_cons (pv 7) (pa_cons (pv 8) pa_nil))) (pa_cons (pe_tup (pa_cons (pv 3) (pa_cons (pv 4) pa_nil))) pa_nil))))))
      (pss_one (ps_if (pt_cmpR op_notNn (pv 9) pe_non (nomark _)) (pss_cons (ps_set (i := 10) sc_touch_of.nd rfl (Or.inl rfl) (pe_op op_add (pe_op op_add (pe_op op_add (pe_callB cl_lenSeq (by rfl) T.f_len (by decide +kernel) (pa_cons (pe_cl (cal_turns_to T) hr (by decide) rfl (pa_cons (pv 5) (pa_cons (pv 7) pa_nil))) pa_nil)) pe_int) (pe_callB cl_lenSeq (by rfl) T.f_len (by decide +kernel) (pa_cons (pe_ix ix_list (pv 9) pe_int (fun _ _ => rfl)) pa_nil))) (pe_callB cl_lenSeq (by rfl) T.f_len (by decide +kernel) (pa_cons (pe_ix ix_list (pv 9) pe_int (fun _ _ => rfl)) pa_nil))))
      (pss_one (ps_if (PW.pt (pw_or (pt_cmpR op_isNn (pv 6) pe_non (nomark _)) (pw_or1 (pt_cmpR op_lt (pv 10) (pe_ix ix_tup (pv 6) pe_int (fun _ _ => rfl)) (nomark _))))) (pss_one (ps_set (i := 6) sc_touch_of.nd rfl (Or.inl rfl) (pe_tup (pa_cons (pv 10) (pa_cons (pv 7) (pa_cons (pv 8) (pa_cons (pv 9) pa_nil))))))) pss_nil))) pss_nil))))
      (pss_cons (ps_if (pt_cmpR op_isNn (pv 6) pe_non (nomark _)) (pss_one (ps_ret pe_non)) pss_nil)
      (pss_cons (ps_asg (pe_cl (cal_half_steps T) hr (by decide) rfl (pa_cons (pe_cl (cal_turns_to T) hr (by decide) rfl (pa_cons (pv 5) (pa_cons (pe_ix ix_tup (pv 6) pe_int (fun _ _ => rfl)) pa_nil))) pa_nil)) (pg_tup rfl (pgs_cons (pg_name (i := 11) sc_touch_of.nd rfl (Or.inl rfl)) (pgs_cons (pg_name (i := 12) sc_touch_of.nd rfl (Or.inl rfl)) pgs_nil))))
      (pss_cons (ps_expr (pe_bm PySem.F.plainAttrs_list PySem.F.slot_list_append PySem.F.type_list_append mt_append (pv 11) (pa_cons (pe_tup (pa_cons (pv 12) (pa_cons (pe_ix ix_tup (pv 6) pe_int (fun _ _ => rfl)) (pa_cons pe_int (pa_cons pe_int pa_nil))))) pa_nil)))
      (pss_cons (ps_asg (pe_cl (cal_held_steps T) hr (by decide) rfl (pa_cons (pv 0) (pa_cons (pv 2) (pa_cons (pe_ix ix_list (pe_ix ix_tup (pv 6) pe_int (fun _ _ => rfl)) pe_int (fun _ _ => rfl)) (pa_cons (pe_op op_catS (pv 12) pe_str) pa_nil))))) (pg_tup rfl (pgs_cons (pg_name (i := 13) sc_touch_of.nd rfl (Or.inl rfl)) (pgs_cons (pg_name (i := 14) sc_touch_of.nd rfl (Or.inl rfl)) pgs_nil))))
      (pss_cons (ps_asg (pe_cl (cal_held_steps T) hr (by decide) rfl (pa_cons (pv 0) (pa_cons (pv 2) (pa_cons (pe_ix ix_list (pe_ix ix_tup (pv 6) pe_int (fun _ _ => rfl)) pe_int (fun _ _ => rfl)) (pa_cons (pe_op op_catS (pv 12) pe_str) pa_nil))))) (pg_tup rfl (pgs_cons (pg_name (i := 15) sc_touch_of.nd rfl (Or.inl rfl)) (pgs_cons (pg_name (i := 16) sc_touch_of.nd rfl (Or.inl rfl)) pgs_nil))))
      (pss_one (ps_ret (pe_mk_Touch6 T hP hr rfl (pa_cons (pv 0) (pa_cons (pv 1) (pa_cons (pv 2) (pa_cons (pe_lst (StX.pa_star (pv 11) (StX.pa_star (pv 13) (StX.pa_star (pv 15) pa_nil)))) (pa_cons (pv 14) (pa_cons (pv 16) pa_nil)))))))))))))))))))), ?_⟩
  walk_at "go"
  refine ⟨a, b, st, rfl, hb, hst, fun H1 e1 => ?_⟩
  walk_at "go"
  refine v_catS (a := [124]) (b := [45]) (by simp) ?_
  walk_at "go"
  refine ⟨g, [124, 45], rfl, ?_⟩
  rw [decide_eq_true (show g ∈ [124, 45] by rcases hg with rfl | rfl <;> simp)]
  walk_at "go"
  refine ⟨a, b, r1, rfl, hb.ex e1, hr1, fun H2 e2 => ?_⟩
  walk_at "go"
  refine ⟨a, b, r2, rfl, hb.ex (e1.t e2), hr2, fun H3 e3 => ?_⟩
  have e13 := e1.t (e2.t e3)
  walk_at "go"
  refine ⟨a, b, st, rfl, hb.ex e13, bo, hst, fun d H4 Kk hd e4 ho hf => ?_⟩
  obtain ⟨ib, hib, hbi⟩ := hf
  have e14 := e13.t e4
  walk_at "go"
  refine ⟨_, _, rfl, ?_⟩
  walk_at "go"
  obtain ⟨L, hLd, hLK, hLe⟩ := id ho
  refine ⟨d, _, rfl, hLd, fun kl hkl => ?_⟩
  have hkeys : (kvD L).map (fun kv => kV kv.1) = (Kk.map (·.1)).map sV := by rw [← hLK]; simp [kvD, kD, kV]
  rw [hkeys]
  generalize hH5 : upd H4 kl _ = H5
  have e5 : Ex H4 H5 := hH5 ▸ Ex.nw hkl
  have hkl5 : H5 kl = some (.lst ((Kk.map (·.1)).map sV)) := hH5 ▸ upd_same
  have e15 := e14.t e5
  have stp : ∀ r t q, stepB b r t q → stepB b r t q := fun _ _ _ h => h
  have hKl := BI.small bo stp hst hbi
  have hKr : ∀ r ∈ Kk.map (·.1), RoomOk b.fc r := fun r hr => by
    obtain ⟨e, he, rfl⟩ := List.mem_map.mp hr
    exact path_room bo stp hst (hbi.path e he)
  walk_at "go"
  refine ⟨a, kl, b, Kk.map (·.1), rfl, hb.ex e15, bo, hkl5, by rw [List.length_map]; omega, hKr, fun tl ts Hb htl e6 htl6 hts6 htsm => ?_⟩
  have e16 := e15.t e6
  have e46 := e5.t e6
  refine ⟨tl, rfl, ⟨_, ex_l htl6⟩, ?_⟩
  have htsr : ∀ r ∈ ts, r.2.1 ∈ Kk.map (·.1) ∧ r.2.2 ∈ b.ct ∧ b.cut r.2.1 r.2.2 ≠ [] := fun r hr => by
    have : r.2 ∈ turnsL b (Kk.map (·.1)) := by rw [← htsm]; exact List.mem_map.mpr ⟨r, hr, rfl⟩
    obtain ⟨z, hz, h1⟩ := List.mem_flatMap.mp this
    obtain ⟨h2, h3, h4⟩ := turns1_mem h1
    rw [h2]
    exact ⟨hz, h3, h4⟩
  refine for_it (walk_list (K := K) (xs := ts.map fun r : Addr × Tx × Nat => V.ref r.1)) (fun i σ H7 => ∃ bv, (∃ v7 v8 v9 v10 v11 v12 v13 v14 v15 v16, σ = [some (.ref a), some (sV st), some (sV [g]), some (sV r1), some (sV r2), some (.ref d), some bv, v7, v8, v9, v10, v11, v12, v13, v14, v15, v16]) ∧ Ex Hb H7 ∧ HBest b g Kk r1 r2 ((ts.map (·.2)).take i) H7 bv)
    ⟨.non, ⟨_, _, _, _, _, _, _, _, _, _, rfl⟩, Ex.rfl', .inl ⟨rfl, fun e m => by simp at m⟩⟩ (fun i σ H7 hi q => by obtain ⟨bv, _, q, _⟩ := q; exact ex_l (q _ _ htl6)) ?_ ?_
  · rintro i x σ H7 H8 hi ⟨bv, ⟨v7, v8, v9, v10, v11, v12, v13, v14, v15, v16, rfl⟩, e7, hbest⟩ ⟨rfl, hx⟩
    rw [List.getElem?_map] at hx
    obtain ⟨⟨ta, R, c⟩, hti, rfl⟩ := Option.map_eq_some_iff.mp hx
    have hm := List.mem_of_getElem? hti
    have htk : (ts.map (·.2)).take (i + 1) = (ts.map (·.2)).take i ++ [(R, c)] := by rw [List.take_add_one, List.getElem?_map, hti]; rfl
    obtain ⟨o1, o2, o3⟩ := htsr _ hm
    have o1 : R ∈ Kk.map (·.1) := o1
    have o2 : c ∈ b.ct := o2
    have o3 : b.cut R c ≠ [] := o3
    have oR := hKr R o1
    obtain ⟨⟨R', pR⟩, hRm, hR'⟩ := List.mem_map.mp o1
    have hR' : R' = R := hR'
    subst hR'
    rw [htk]
    have hta : H8 ta = some (.tup [sV R', sV [c]]) := e7 _ _ (hts6 _ hm)
    refine g_tup (ex_t hta) rfl ?_
    walk_at "go"
    refine ⟨szl (by simp), fun t1 ht1 => ?_⟩
    generalize hH9 : upd H8 t1 _ = H9
    have e9 : Ex H8 H9 := hH9 ▸ Ex.nw ht1
    have ht19 : H9 t1 = some (.tup [sV R', sV [c]]) := hH9 ▸ upd_same
    walk_at "go"
    refine ⟨szl (by simp), fun t2 ht2 => ?_⟩
    generalize hH10 : upd H9 t2 _ = H10
    have e10 : Ex H9 H10 := hH10 ▸ Ex.nw ht2
    have ht210 : H10 t2 = some (.tup [sV r1, sV r2]) := hH10 ▸ upd_same
    have e710 := e9.t e10
    walk_at "go"
    refine ⟨a, t1, t2, b, g, c, R', r1, r2, rfl, hb.ex (e16.t (e7.t e710)), bo, e10 _ _ ht19, ht210, oR, o2, o3, fun H11 e11 hno => ?_, fun wl l0 l1 q1 q2 H11 hwl e11 hwl11 hq1 hq2 hhd hw1 hw2 => ?_⟩
    · walk_at "go"
      refine ⟨bv, ⟨_, _, _, _, _, _, _, _, _, _, rfl⟩, e7.t (e710.t e11), ?_⟩
      rcases hbest.ex (e710.t e11) with ⟨h1, h2⟩ | ⟨bt, wt, l0, l1, R2, c2, p2, q1, q2, h1, h2, h3, h4, h5, h6, h7⟩
      · refine .inl ⟨h1, fun e m p q1 q2 hc => ?_⟩
        rcases List.mem_append.mp m with m | m
        · exact h2 e m p q1 q2 hc
        · simp at m; subst m
          exact hno q1 q2 hc.head hc.w1.path hc.w2.path
      · refine .inr ⟨bt, wt, l0, l1, R2, c2, p2, q1, q2, h1, h2, h3, h4, h5, h6, fun e m p' q1' q2' hc => ?_⟩
        rcases List.mem_append.mp m with m | m
        · exact h7 e m p' q1' q2' hc
        · simp at m; subst m
          exact absurd hc.w2.path (fun h => hno q1' q2' hc.head hc.w1.path h)
    · walk_at "go"
      refine itNF (by simp) ?_
      walk_at "go"
      have e711 := e710.t e11
      have eH11 := e16.t (e7.t e711)
      have ho11 := ho.ex (e46.t (e7.t e711))
      refine ⟨d, R', Kk, stepB b, st, ib, pR, rfl, ho11, hbi, hRm, by omega, fun l tsp H12 hl e12 h12 htp htpm => ?_⟩
      have hlp : (tsp.map fun r : Addr × Turn => V.ref r.1).length = pR.length := by rw [List.length_map, ← htpm, List.length_map]
      walk_at "go"
      refine v_lenL (ex_l h12) ?_
      rw [hlp]
      walk_at "go"
      have hwl12 := e12 _ _ hwl11
      obtain ⟨ts1, g1, g2, g3⟩ := hq1.ex e12
      obtain ⟨ts2, g4, g5, g6⟩ := hq2.ex e12
      have hl1 : (ts1.map fun r : Addr × Turn => V.ref r.1).length = q1.length := by rw [List.length_map, ← g3, List.length_map]
      have hl2 : (ts2.map fun r : Addr × Turn => V.ref r.1).length = q2.length := by rw [List.length_map, ← g6, List.length_map]
      refine v_ixLL (i := 0) hwl12 rfl ?_
      walk_at "go"
      refine v_lenL (ex_l g1) ?_
      rw [hl1]
      walk_at "go"
      refine v_ixLL (i := 1) hwl12 rfl ?_
      walk_at "go"
      refine v_lenL (ex_l g4) ?_
      rw [hl2]
      walk_at "go"
      have e712 := e711.t e12
      have hcand : Cand b g Kk r1 r2 R' c pR q1 q2 := ⟨hRm, o2, o3, hhd, hw1, hw2⟩
      have same : ∀ {p' q1' q2'}, Cand b g Kk r1 r2 R' c p' q1' q2' → pR.length + 1 + q1.length + q2.length = p'.length + 1 + q1'.length + q2'.length := fun {p' q1' q2'} hc => by
        have h1 := hbi.uniq hRm hc.known
        have h2 := hw1.least _ hc.w1.path
        have h3 := hc.w1.least _ hw1.path
        have h4 := hw2.least _ hc.w2.path
        have h5 := hc.w2.least _ hw2.path
        subst h1
        omega
      rcases hbest.ex e712 with ⟨h1, h2⟩ | ⟨bt, wt, m0, m1, R2, c2, p2, q12, q22, h1, h2, h3, h4, h5, h6, h7⟩
      · subst h1
        refine itT rfl ?_
        walk_at "go"
        refine ⟨szl (by simp), fun bt hbt => ?_⟩
        generalize hH13 : upd H12 bt _ = H13
        have e13' : Ex H12 H13 := hH13 ▸ Ex.nw hbt
        have hbt13 : H13 bt = some (.tup [.int ((pR.length : Nat) + 1 + (q1.length : Nat) + (q2.length : Nat)), sV R', sV [c], .ref wl]) := hH13 ▸ upd_same
        refine ⟨.ref bt, ⟨_, _, _, _, _, _, _, _, _, _, rfl⟩, e7.t (e712.t e13'), .inr ⟨bt, wl, l0, l1, R', c, pR, q1, q2, rfl, hbt13, e13' _ _ hwl12, (hq1.ex e12).ex e13', (hq2.ex e12).ex e13', hcand, fun e m p' q1' q2' hc => ?_⟩⟩
        rcases List.mem_append.mp m with m | m
        · exact absurd hc (h2 e m _ _ _)
        · simp at m; subst m
          exact Nat.le_of_eq (same hc)
      · subst h1
        refine itF (by simp) ?_
        walk_at "go"
        refine v_ixTT (i := 0) h2 rfl ?_
        walk_at "go"
        by_cases hlt : pR.length + 1 + q1.length + q2.length < p2.length + 1 + q12.length + q22.length
        · refine itT (by omega) ?_
          walk_at "go"
          refine ⟨szl (by simp), fun bt' hbt => ?_⟩
          generalize hH13 : upd H12 bt' _ = H13
          have e13' : Ex H12 H13 := hH13 ▸ Ex.nw hbt
          have hbt13 : H13 bt' = some (.tup [.int ((pR.length : Nat) + 1 + (q1.length : Nat) + (q2.length : Nat)), sV R', sV [c], .ref wl]) := hH13 ▸ upd_same
          refine ⟨.ref bt', ⟨_, _, _, _, _, _, _, _, _, _, rfl⟩, e7.t (e712.t e13'), .inr ⟨bt', wl, l0, l1, R', c, pR, q1, q2, rfl, hbt13, e13' _ _ hwl12, (hq1.ex e12).ex e13', (hq2.ex e12).ex e13', hcand, fun e m p' q1' q2' hc => ?_⟩⟩
          rcases List.mem_append.mp m with m | m
          · have := h7 e m _ _ _ hc
            omega
          · simp at m; subst m
            exact Nat.le_of_eq (same hc)
        · refine itF (by omega) ?_
          walk_at "go"
          refine ⟨.ref bt, ⟨_, _, _, _, _, _, _, _, _, _, rfl⟩, e7.t e712, .inr ⟨bt, wt, m0, m1, R2, c2, p2, q12, q22, rfl, h2, h3, h4, h5, h6, fun e m p' q1' q2' hc => ?_⟩⟩
          rcases List.mem_append.mp m with m | m
          · exact h7 e m _ _ _ hc
          · simp at m; subst m
            have := same hc
            omega
  · rintro σ H7 ⟨bv, ⟨v7, v8, v9, v10, v11, v12, v13, v14, v15, v16, rfl⟩, e7, hbest⟩
    have hend : (ts.map (·.2)).take (ts.map fun r : Addr × Tx × Nat => V.ref r.1).length = turnsL b (Kk.map (·.1)) := by rw [List.length_map, ← List.length_map (f := (·.2)), List.take_length, htsm]
    rw [hend] at hbest
    obtain ⟨R0, c0, p0, q10, q20, hc0, hle⟩ := wit_cand hbi hib hwit hn10
    have hm0 : (R0, c0) ∈ turnsL b (Kk.map (·.1)) := List.mem_flatMap.mpr ⟨R0, List.mem_map.mpr ⟨_, hc0.known, rfl⟩, turns1_of hc0.ct hc0.cut⟩
    rcases hbest with ⟨h1, h2⟩ | ⟨bt, wt, l0, l1, R, c, p, q1, q2, h1, h2, h3, h4, h5, h6, h7⟩
    · exact absurd hc0 (h2 _ hm0 _ _ _)
    · subst h1
      have hmany := Nat.le_trans (h7 _ hm0 _ _ _ hc0) hle
      have eH7 := e16.t e7
      have ho7 := ho.ex (e46.t e7)
      have hpath := hbi.path _ h6.known
      have hpath : Path (stepB b) st p R := hpath
      have pturn := path_turns bo hst hpath
      have hRr : RoomOk b.fc R := path_room bo stp hst hpath
      have hpsR : b.parts R c = [part0 R (b.cut R c), part1 R (b.cut R c)] := parts2 hRr (cut_ok bo R c) h6.cut
      have rp0 : RoomOk b.fc (part0 R (b.cut R c)) := part_room hRr (cut_ok bo R c) (by show _ ∈ b.parts R c; rw [hpsR]; simp)
      have rp1 : RoomOk b.fc (part1 R (b.cut R c)) := part_room hRr (cut_ok bo R c) (by show _ ∈ b.parts R c; rw [hpsR]; simp)
      have t1ok := h6.w1.turns bo rp0
      have t2ok := h6.w2.turns bo rp1
      walk_at "go"
      refine itF (by simp) ?_
      walk_at "go"
      refine v_ixTT (i := 1) h2 rfl ?_
      walk_at "go"
      refine ⟨d, R, Kk, stepB b, st, ib, p, rfl, ho7, hbi, h6.known, by omega, fun l tsp H8 hl e8 h8 htp htpm => ?_⟩
      have htpl : tsp.length = p.length := by rw [← htpm, List.length_map]
      walk_at "go"
      refine ⟨l, tsp, rfl, h8, htp, by omega, fun r m => (pturn r.2 (by rw [← htpm]; exact List.mem_map.mpr ⟨r, m, rfl⟩)).2.2.2, fun pt f ss0 H9 hpt hf e9 hpt9 hf9 hss9 hssm => ?_⟩
      rw [htpm] at hpt9 hssm
      have e89 := e8.t e9
      refine g_tup (ex_t hpt9) rfl ?_
      walk_at "go"
      have hss0l : ss0.length ≤ 10 := by
        have h1 := congrArg List.length hssm
        have hl' : ∀ (p : List Turn) (a : Tx), (halfS p a).length = p.length := by
          intro p
          induction p with
          | nil => intro a; rfl
          | cons t p ih => intro a; simp [halfS, ih]
        rw [List.length_map, hl'] at h1
        omega
      refine ⟨ty_l hf9, ?_⟩
      walk_at "go"
      refine v_ixTT (i := 2) (e89 _ _ h2) rfl ?_
      walk_at "go"
      refine ⟨szl (by simp), fun cp hcp => ?_⟩
      generalize hH10 : upd H9 cp _ = H10
      have e10 : Ex H9 H10 := hH10 ▸ Ex.nw hcp
      have hcp10 : H10 cp = some (.tup (stV (endA p, c, 1, 2))) := hH10 ▸ upd_same
      walk_at "go"
      refine v_append (e10 _ _ hf9) (by rw [List.length_map]; omega) ?_
      have hf7 : H7 f = none := e8.none hf
      generalize hH11 : upd H10 f _ = H11
      have b11 : ExB f H10 H11 := hH11 ▸ ExB.upd
      have hf11 : H11 f = some (.lst ((ss0 ++ [((cp, (endA p, c, 1, 2)) : Addr × Stp)]).map fun r => V.ref r.1)) := by rw [← hH11, upd_same, List.map_append]; rfl
      have hss11 : HSp H11 (ss0 ++ [(cp, (endA p, c, 1, 2))]) := fun r m => by
        have keep : ∀ (r : Addr) xs, H10 r = some (.tup xs) → H11 r = some (.tup xs) := fun r xs h => b11 _ _ (fun e => by rw [e, e10 _ _ hf9] at h; cases h) h
        rcases List.mem_append.mp m with m | m
        · exact keep _ _ (e10 _ _ (hss9 r m))
        · simp at m; subst m; exact keep _ _ hcp10
      have e711 : Ex H7 H11 := (e89.t e10).mut hf7 b11
      have h2' := e711 _ _ h2
      have h3' := e711 _ _ h3
      obtain ⟨tq1, g1, g2, g3⟩ := h4.ex e711
      obtain ⟨tq2, g4, g5, g6⟩ := h5.ex e711
      have hq1l : tq1.length = q1.length := by rw [← g3, List.length_map]
      have hq2l : tq2.length = q2.length := by rw [← g6, List.length_map]
      have hel : (endA p).length = p.length := by unfold endA; rw [List.length_map]
      walk_at "go"
      refine v_ixTT (i := 3) h2' rfl ?_
      walk_at "go"
      refine v_ixLL (i := 0) h3' rfl ?_
      walk_at "go"
      refine v_catS (b := [48]) (by rw [hel]; simp; omega) ?_
      walk_at "go"
      refine ⟨a, l0, b, g, tq1, endA p ++ [48], rfl, hb.ex (eH7.t e711), bo, g1, g2, by omega, by rw [List.length_append, hel]; simp; omega, fun r m => t1ok r.2 (by rw [← g3]; exact List.mem_map.mpr ⟨r, m, rfl⟩), fun pt1 f1 ss1 H12 hpt1 hf1 e12 hpt12 hf12 hss12 hssm1 => ?_⟩
      rw [g3] at hpt12 hssm1
      refine g_tup (ex_t hpt12) rfl ?_
      walk_at "go"
      refine v_ixTT (i := 3) (e12 _ _ h2') rfl ?_
      walk_at "go"
      refine v_ixLL (i := 1) (e12 _ _ h3') rfl ?_
      walk_at "go"
      refine v_catS (b := [49]) (by rw [hel]; simp; omega) ?_
      walk_at "go"
      refine ⟨a, l1, b, g, tq2, endA p ++ [49], rfl, hb.ex (eH7.t (e711.t e12)), bo, e12 _ _ g4, g5.te (.ex e12), by omega, by rw [List.length_append, hel]; simp; omega, fun r m => t2ok r.2 (by rw [← g6]; exact List.mem_map.mpr ⟨r, m, rfl⟩), fun pt2 f2 ss2 H13 hpt2 hf2 e13' hpt13 hf13 hss13 hssm2 => ?_⟩
      rw [g6] at hpt13 hssm2
      refine g_tup (ex_t hpt13) rfl ?_
      walk_at "go"
      have e1113 := e12.t e13'
      refine ⟨f, _, rfl, .inr (ex_l (e1113 _ _ hf11)), ?_⟩
      walk_at "go"
      refine ⟨f1, _, rfl, .inr (ex_l (e13' _ _ hf12)), ?_⟩
      walk_at "go"
      refine ⟨f2, _, rfl, .inr (ex_l hf13), ?_⟩
      walk_at "go"
      have l1 : ss1.length = q1.length := by have := congrArg List.length hssm1; rw [heldS_len, List.length_map] at this; exact this
      have l2 : ss2.length = q2.length := by have := congrArg List.length hssm2; rw [heldS_len, List.length_map] at this; exact this
      refine ⟨szl (by simp; omega), fun al hal => ?_⟩
      generalize hH14 : upd H13 al _ = H14
      have e14' : Ex H13 H14 := hH14 ▸ Ex.nw hal
      let all : List (Addr × Stp) := (ss0 ++ [(cp, (endA p, c, 1, 2))]) ++ (ss1 ++ ss2)
      have hal14 : H14 al = some (.lst ((all.map fun r => (r.1, stV r.2)).map fun r : Addr × List V => V.ref r.1)) := by
        rw [← hH14, upd_same]
        simp [all, Function.comp_def]
      have hall : HSp H14 all := fun r m => by
        rcases List.mem_append.mp m with m | m
        · exact (e1113.t e14') _ _ (hss11 r m)
        · rcases List.mem_append.mp m with m | m
          · exact (e13'.t e14') _ _ (hss12 r m)
          · exact e14' _ _ (hss13 r m)
      have hallm : all.map (·.2) = touchS b g p c q1 q2 := by
        simp only [all, List.map_append, hssm, hssm1, hssm2, List.map_cons, List.map_nil]
        unfold touchS
        simp
      have hlen : all.length ≤ 10 := by
        have h1 := congrArg List.length hallm
        rw [touchS_len, List.length_map] at h1
        omega
      walk_at "go"
      have eEnd := e711.t (e1113.t e14')
      refine mk_touch hal14 (hsp_rows hall) (by rw [List.length_map]; omega) (fun r m => ?_) fun x H' hx ex hto => ?_
      · obtain ⟨s, _, rfl⟩ := List.mem_map.mp m
        refine ⟨by simp [stV], fun v hv => ?_⟩
        simp only [stV, List.mem_cons, List.not_mem_nil, or_false] at hv
        rcases hv with rfl | rfl | rfl | rfl
        · exact .s _
        · exact .s _
        · exact .i _
        · exact .i _
      · have hrow : ((all.map fun r => (r.1, stV r.2)).map (·.2)) = (touchS b g p c q1 q2).map stV := by
          rw [← hallm, List.map_map, List.map_map]
          rfl
        rw [hrow] at hto
        obtain ⟨ok, X, Y, m1, m2, hs⟩ := touch_holds bo hst hpath h6.ct h6.cut h6.head h6.w1.path h6.w2.path (by omega) (by omega)
        exact k x _ _ _ X Y H' ((eH7.t eEnd).none hx) ((eH7.t eEnd).t ex) hto ok m1 m2 hs (by rw [touchS_len]; exact hmany)
end L2.FW
end
section
set_option maxRecDepth 100000
set_option maxHeartbeats 4000000
/-! The law's bag: open, draw, of. -/
namespace L2.FW
open PySem PySem.Spec PyProof.Rows Fw
variable {P : Program} {w : World} {K : PySem.W.Frag} {mg : Str → Option Value} {base : Heap}
local macro_rules | `(tactic| walk_at "go1") => `(tactic| first
  | ((with_reducible apply v_var); exact rfl)
  | ((with_reducible apply s_aug); exact rfl)
  | with_reducible first
    | refine v_c ?_ | refine v_cons ?_ | refine v_nil ?_ | refine v_op ?_ | refine v_cb ?_ | refine v_call ?_ | refine v_bl ?_ | refine v_yes ?_
    | refine s_seq ?_ | refine s_ret ?_ | refine s_if ?_ | refine s_asg ?_ | refine g_name ?_ | refine v_test ?_ | refine v_tB ?_
    | refine v_rI0 ?_ | refine v_eqI ?_ | refine v_neI ?_ | refine v_eqS ?_ | refine v_neS ?_ | refine v_int1 ?_ | refine v_bool1 ?_ | refine v_abs ?_ | refine v_isN ?_ | refine v_notN ?_ | refine v_nsign ?_
    | refine v_andV ?_ | refine v_orV ?_ | refine v_notV ?_ | refine v_and ?_ | refine v_or ?_ | refine v_not ?_
    | refine v_if ?_ | refine v_tup ?_ | refine v_lst ?_ | refine v_sl ?_ | refine v_part ?_ | refine v_nopart ?_ | refine v_int ?_ | refine v_dget ?_ | refine v_din ?_ | refine v_dnin ?_
    | refine v_fld ?_ | refine v_meth ?_ | refine v_bm ?_ | refine v_m1 ?_ | refine v_strE ?_ | refine v_un ?_ | refine v_chain ?_ | refine s_next ?_ | refine s_drop ?_ | refine s_retN ?_ | refine s_par ?_ | refine s_par3 ?_
    | refine s_fld ?_ | refine s_dput ?_ | refine s_ddel ?_ | refine g_nil ?_ | refine g_cons ?_ | refine iteT ?_ | refine iteF ?_ | refine iteNT ?_ | refine iteNF ?_
    | refine isi_ss ?_ | refine isi_ii ?_ | refine isi_ib ?_ | refine v_lc ?_ | refine i_str ?_ | refine v_str ?_ | refine i_list ?_ | refine i_zipS ?_ | refine i_zipS3 ?_ | refine i_enumS ?_ | refine i_enum ?_ | refine i_tup ?_ | refine i_rng ?_ | refine s_for ?_ | refine v_star ?_ | refine v_makeR ?_ | refine v_make ?_ | refine v_cval ?_ | refine v_sign ?_)
local macro_rules | `(tactic| walk_at "go") => `(tactic| repeat walk_at "go1")
set_option pp.maxSteps 1200
/-- the bag: its cells, how many were taken, the rest of a great cell, the mixed number, the draws -/
def HBag (H : Hp) (l cl : Addr) : Prop := ∃ (cs : List Int) (i : Nat) (rest mixed cnt : Int), H l = some (.lst [.ref cl, .int (i : Nat), .int rest, .int mixed, .int cnt]) ∧ H cl = some (.lst (cs.map V.int)) ∧ cl ≠ l ∧ 0 ≤ rest ∧ 0 ≤ mixed ∧ mixed < 2 ^ 31
theorem HBag.ex {H H' : Hp} {l cl : Addr} (e : Ex H H') (h : HBag H l cl) : HBag H' l cl := by
  obtain ⟨cs, i, rest, mixed, cnt, h1, h2, h3⟩ := h
  exact ⟨cs, i, rest, mixed, cnt, e _ _ h1, e _ _ h2, h3⟩
theorem HBag.ne {H : Hp} {l cl p : Addr} (h : HBag H l cl) (hp : H p = none) : p ≠ l ∧ p ≠ cl := by
  obtain ⟨cs, i, rest, mixed, cnt, h1, h2, _⟩ := h
  exact ⟨(fun e => by rw [e, h1] at hp; cases hp), (fun e => by rw [e, h2] at hp; cases hp)⟩
theorem HBag.up {H : Hp} {l cl p : Addr} {o : HO} (h : HBag H l cl) (n : p ≠ l ∧ p ≠ cl) : HBag (upd H p o) l cl := by
  obtain ⟨cs, i, rest, mixed, cnt, h1, h2, h3⟩ := h
  exact ⟨cs, i, rest, mixed, cnt, by rw [upd_ne n.1.symm]; exact h1, by rw [upd_ne n.2.symm]; exact h2, h3⟩
theorem g_sub {to ti : TE} {ts : TSet} {v : V} {σ : L2.St} {H : Hp} {Q : L2.St → Hp → Prop} (q : to σ H fun o H1 => ti σ H1 fun i H2 => ts o i v H2 fun H3 => Q σ H3) : gSub to ti ts v σ H Q := q
theorem v_setL {H : Hp} {p : Addr} {xs : List V} {k : Int} {j : Nat} {v : V} {Q : Hp → Prop} (h : H p = some (.lst xs)) (hj : ixN xs.length k = some j) (q : Q (upd H p (.lst (xs.set j v)))) : rSetL (.ref p) (.int k) v H Q := ⟨p, xs, k, j, rfl, rfl, h, hj, q⟩
theorem s_join {t u : TS} {D : Ends} {σ : L2.St} {H : Hp} (Pm : L2.St → Hp → Prop) (h2 : ∀ σ' H', Pm σ' H' → u D σ' H') (h1 : (∀ σ' H', Pm σ' H' → u D σ' H') → t { D with nx := fun σ H => u D σ H } σ H) : tSeq t u D σ H := h1 h2
theorem v_slL {H : Hp} {Q : VK} {a : Addr} {xs : List V} {lo hi : Option Int} (h : SqL K H a xs) (q : ∀ p, H p = none → Q (.ref p) (upd H p (.lst (cutV xs lo hi)))) : rSlL K (.ref a) lo hi H Q := ⟨a, xs, rfl, h, q⟩
theorem cut63 (ns : List Int) : cutV (ns.map V.int) none (some 63) = (ns.take 63).map V.int := by
  unfold cutV
  simp only [HT.sIx, List.length_map]
  rw [List.map_take]
  simp only [List.drop_zero, Nat.sub_zero]
  by_cases h : ns.length ≤ 63
  · rw [List.take_of_length_le (by simp; omega), List.take_of_length_le (by simp; omega)]
  · congr 1
    simp
    omega
def spOpen (K : PySem.W.Frag) : Sp := fun vs H Q _ => ∃ (a : Addr) (ns : List Int), vs = [.ref a] ∧ SqL K H a (ns.map V.int) ∧ ns.length ≤ 63 ∧ ∀ l cl H', H l = none → H cl = none → Ex H H' → HBag H' l cl → Q (.ref l) H'
/-! _law_open: slots _law_script 0 _law_mixed 1 _law_cell 2 -/
theorem sc__law_open : FnScope ["_law_script", "_law_mixed", "_law_cell"] ["_law_script"] (defScope (top 78)) := C8.fnScope_by (by decide +kernel)
theorem cal__law_open (T : T w K mg) : Cal P w K mg base 1 "_law_open" (spOpen K) := by
  refine calD T.d__law_open T.g__law_open sc__law_open (fun vs H Q E h => ?_) (fun _ _ _ _ _ _ us hl => match us, hl with | [_], _ => rfl) (fun cdv A outer s H vs Q E hr h => ?_)
  · obtain ⟨_, _, rfl, _⟩ := h; rfl
  obtain ⟨a, ns, rfl, ha, hn, k⟩ := h
  refine ⟨_, (pss_cons (ps_set (i := 1) sc__law_open.nd rfl (Or.inl rfl) pe_int)
      (pss_cons (ps_for PassesOwn.never rfl (pi_list (pe_slice sl_list (pv 0) po_none (po_some pe_int))) (pg_name (i := 2) sc__law_open.nd rfl (Or.inl rfl)) (pss_one (ps_set (i := 1) sc__law_open.nd rfl (Or.inl rfl) (pe_op op_mod (pe_callTy cl_int1 (by rfl) T.f_int (by decide +kernel) (pa_cons (pe_op op_add (pe_op op_add (pe_op op_mul (pv 1) pe_int) (pe_op op_mul (pe_op op_mod (pe_callTy cl_int1 (by rfl) T.f_int (by decide +kernel) (pa_cons (pv 2) pa_nil)) pe_int) pe_int)) pe_int) pa_nil)) pe_int))))
      (pss_one (ps_ret (pe_lst (pa_cons (pe_callTy cl_listOf (by rfl) T.f_list (by decide +kernel) (pa_cons (pe_slice sl_list (pv 0) po_none (po_some pe_int)) pa_nil)) (pa_cons pe_int (pa_cons pe_int (pa_cons (pv 1) (pa_cons pe_int pa_nil)))))))))), ?_⟩
  walk_at "go"
  refine v_slL ha fun p hp => ?_
  rw [cut63]
  generalize hH1 : upd H p _ = H1
  have e1 : Ex H H1 := hH1 ▸ Ex.nw hp
  have hp1 : H1 p = some (.lst ((ns.take 63).map V.int)) := hH1 ▸ upd_same
  refine ⟨p, rfl, ⟨_, ex_l hp1⟩, ?_⟩
  refine for_it (walk_list (K := K) (xs := (ns.take 63).map V.int)) (fun i σ H2 => (∃ (m : Int) (u : Option V), σ = [some (.ref a), some (.int m), u] ∧ 0 ≤ m ∧ m < 2147483549) ∧ H2 = H1) ⟨⟨10042, _, rfl, by decide, by decide⟩, rfl⟩ (fun i σ H2 hi q => by rw [q.2]; exact ex_l hp1) ?_ ?_
  · rintro i x σ H2 H3 hi ⟨⟨m, u, rfl, hm0, hm1⟩, rfl⟩ ⟨rfl, hx⟩
    rw [List.getElem?_map] at hx
    obtain ⟨c, hc, rfl⟩ := Option.map_eq_some_iff.mp hx
    walk_at "go"
    refine v_rI (.inl ⟨by omega, by omega⟩) ?_
    walk_at "go"
    refine v_rI (by show (0 : Int) < 1000033; decide) ?_
    walk_at "go"
    refine v_rI (.inr ⟨by decide, by decide⟩) ?_
    walk_at "go"
    refine v_rI (by show (0 : Int) < 2147483549; decide) ?_
    exact ⟨⟨_, _, rfl, Int.emod_nonneg _ (by decide), Int.emod_lt_of_pos _ (by decide)⟩, rfl⟩
  · rintro σ H2 ⟨⟨m, u, rfl, hm0, hm1⟩, rfl⟩
    walk_at "go"
    refine v_slL (e1.l ha) fun p2 hp2 => ?_
    rw [cut63]
    generalize hH3 : upd H2 p2 _ = H3
    have e3 : Ex H2 H3 := hH3 ▸ Ex.nw hp2
    have hp3 : H3 p2 = some (.lst ((ns.take 63).map V.int)) := hH3 ▸ upd_same
    walk_at "go"
    refine ⟨p2, _, rfl, .inl (ex_l hp3), fun p4 hp4 => ?_⟩
    generalize hH4 : upd H3 p4 _ = H4
    have e4 : Ex H3 H4 := hH4 ▸ Ex.nw hp4
    have hp4' : H4 p4 = some (.lst ((ns.take 63).map V.int)) := hH4 ▸ upd_same
    walk_at "go"
    refine ⟨szl (by simp), fun l hl => ?_⟩
    have e14 := e1.t (e3.t e4)
    refine k l p4 _ (e14.none hl) (e1.none (e3.none hp4)) (e14.t (Ex.nw hl)) ⟨ns.take 63, 0, 0, m, 0, upd_same, (Ex.nw hl) _ _ hp4', (fun e => by rw [← e, hp4'] at hl; cases hl), by decide, hm0, by omega⟩
def spDraw : Sp := fun vs H Q _ => ∃ (l cl : Addr) (m : Int), vs = [.ref l, .int m] ∧ HBag H l cl ∧ 0 < m ∧ m < 1000000 ∧ ∀ (d : Nat) H', (d : Int) < m → ExB l H H' → HBag H' l cl → Q (.int (d : Nat)) H'
/-! _law_draw: slots _law_bag 0 _law_many 1 _law_cell 2 _law_digit 3 _law_twice 4 -/
theorem sc__law_draw : FnScope ["_law_bag", "_law_many", "_law_cell", "_law_digit", "_law_twice"] ["_law_bag", "_law_many"] (defScope (top 79)) := C8.fnScope_by (by decide +kernel)
theorem cal__law_draw (T : T w K mg) : Cal P w K mg base 1 "_law_draw" spDraw := by
  refine calD T.d__law_draw T.g__law_draw sc__law_draw (fun vs H Q E h => ?_) (fun _ _ _ _ _ _ us hl => match us, hl with | [_, _], _ => rfl) (fun cdv A outer s H vs Q E hr h => ?_)
  · obtain ⟨_, _, _, rfl, _⟩ := h; rfl
  obtain ⟨l, cl, m, rfl, ⟨cs, i, rest, mixed, cnt, hl, hcl, ncl, hr0, hm0, hm1⟩, hmp, hml, k⟩ := h
  refine ⟨_, (pss_cons (ps_asg (pe_op op_add (pe_ix ix_list (pv 0) pe_int (fun _ _ => rfl)) pe_int) (pg_sub (pv 0) pe_int set_list))
      (pss_cons (ps_if (PW.pt (pw_and (pt_cmpR op_eq (pe_ix ix_list (pv 0) pe_int (fun _ _ => rfl)) pe_int (nomark _)) (pw_and1 (pt_cmpR op_lt (pe_ix ix_list (pv 0) pe_int (fun _ _ => rfl)) (pe_callB cl_lenSeq (by rfl) T.f_len (by decide +kernel) (pa_cons (pe_ix ix_list (pv 0) pe_int (fun _ _ => rfl)) pa_nil)) (nomark _))))) (pss_cons (ps_set (i := 2) sc__law_draw.nd rfl (Or.inl rfl) (pe_ix ix_list (pe_ix ix_list (pv 0) pe_int (fun _ _ => rfl)) (pe_ix ix_list (pv 0) pe_int (fun _ _ => rfl)) (fun _ _ => rfl)))
      (pss_cons (ps_asg (pe_op op_add (pe_ix ix_list (pv 0) pe_int (fun _ _ => rfl)) pe_int) (pg_sub (pv 0) pe_int set_list))
      (pss_one (ps_if (pt_cmpR op_ge (pe_callB cl_abs (by rfl) T.f_abs (by decide +kernel) (pa_cons (pv 2) pa_nil)) (pe_op op_pow pe_int pe_int) (nomark _)) (pss_one (ps_asg (pe_callB cl_abs (by rfl) T.f_abs (by decide +kernel) (pa_cons (pv 2) pa_nil)) (pg_sub (pv 0) pe_int set_list))) (pss_one (ps_asg (pe_op op_mod (pe_callTy cl_int1 (by rfl) T.f_int (by decide +kernel) (pa_cons (pe_op op_add (pe_op op_add (pe_op op_mul (pe_ix ix_list (pv 0) pe_int (fun _ _ => rfl)) pe_int) (pe_op op_mul (pe_op op_mod (pe_callTy cl_int1 (by rfl) T.f_int (by decide +kernel) (pa_cons (pv 2) pa_nil)) pe_int) pe_int)) pe_int) pa_nil)) pe_int) (pg_sub (pv 0) pe_int set_list))))))) pss_nil)
      (pss_cons (ps_if (pt_cmpR op_gt (pe_ix ix_list (pv 0) pe_int (fun _ _ => rfl)) pe_int (nomark _)) (pss_cons (ps_set (i := 3) sc__law_draw.nd rfl (Or.inl rfl) (pe_op op_mod (pe_callTy cl_int1 (by rfl) T.f_int (by decide +kernel) (pa_cons (pe_ix ix_list (pv 0) pe_int (fun _ _ => rfl)) pa_nil)) (pv 1)))
      (pss_cons (ps_asg (pe_op op_fdiv (pe_ix ix_list (pv 0) pe_int (fun _ _ => rfl)) (pv 1)) (pg_sub (pv 0) pe_int set_list))
      (pss_one (ps_ret (pv 3))))) pss_nil)
      (pss_cons (ps_set (i := 4) sc__law_draw.nd rfl (Or.inl rfl) (pe_op op_mod (pe_callTy cl_int1 (by rfl) T.f_int (by decide +kernel) (pa_cons (pe_op op_add (pe_op op_mul (pe_ix ix_list (pv 0) pe_int (fun _ _ => rfl)) (pe_ix ix_list (pv 0) pe_int (fun _ _ => rfl))) (pe_op op_mul (pe_ix ix_list (pv 0) pe_int (fun _ _ => rfl)) pe_int)) pa_nil)) pe_int))
      (pss_cons (ps_asg (pe_op op_mod (pe_callTy cl_int1 (by rfl) T.f_int (by decide +kernel) (pa_cons (pe_op op_add (pe_op op_add (pe_op op_mul (pv 4) pe_int) (pe_op op_mul (pe_ix ix_list (pv 0) pe_int (fun _ _ => rfl)) pe_int)) pe_int) pa_nil)) pe_int) (pg_sub (pv 0) pe_int set_list))
      (pss_one (ps_ret (pe_op op_mod (pe_callTy cl_int1 (by rfl) T.f_int (by decide +kernel) (pa_cons (pe_op op_fdiv (pe_ix ix_list (pv 0) pe_int (fun _ _ => rfl)) pe_int) pa_nil)) (pv 1))))))))), ?_⟩
  refine s_seq ?_
  walk_at "go"
  refine v_ixLL (i := 4) hl rfl ?_
  walk_at "go"
  refine g_sub ?_
  walk_at "go"
  refine v_setL (j := 4) hl rfl ?_
  generalize hH1 : upd H l _ = H1
  have b1 : ExB l H H1 := hH1 ▸ ExB.upd
  have hl1 : H1 l = some (.lst [.ref cl, .int (i : Nat), .int rest, .int mixed, .int (cnt + 1)]) := hH1 ▸ upd_same
  have hcl1 := b1 _ _ ncl hcl
  with_reducible refine s_join (fun σ' H' => (∃ u v x, σ' = [some (.ref l), some (.int m), u, v, x]) ∧ ExB l H H' ∧ ∃ (i : Nat) (rest mixed cnt : Int), H' l = some (.lst [.ref cl, .int (i : Nat), .int rest, .int mixed, .int cnt]) ∧ H' cl = some (.lst (cs.map V.int)) ∧ 0 ≤ rest ∧ 0 ≤ mixed ∧ mixed < 2 ^ 31) ?_ fun tail => ?_
  · clear hl hcl hl1 hcl1 b1 hH1 H1 hr0 hm0 hm1 i rest mixed cnt
    rintro σ H1 ⟨⟨u, v, x, rfl⟩, b1, i, rest, mixed, cnt, hl1, hcl1, hr0, hm0, hm1⟩
    have modN : ∀ x : Int, ∃ d : Nat, x % m = (d : Nat) ∧ (d : Int) < m := fun x => ⟨(x % m).toNat, (Int.toNat_of_nonneg (Int.emod_nonneg _ (by omega))).symm, by rw [Int.toNat_of_nonneg (Int.emod_nonneg _ (by omega))]; exact Int.emod_lt_of_pos _ hmp⟩
    walk_at "go"
    refine v_ixLL (i := 2) hl1 rfl ?_
    walk_at "go"
    by_cases hr' : 0 < rest
    · refine itT hr' ?_
      walk_at "go"
      refine v_ixLL (i := 2) hl1 rfl ?_
      walk_at "go"
      refine v_rI hmp ?_
      walk_at "go"
      refine v_ixLL (i := 2) hl1 rfl ?_
      walk_at "go"
      refine v_rI ⟨hmp, by omega⟩ ?_
      walk_at "go"
      refine g_sub ?_
      walk_at "go"
      refine v_setL (j := 2) hl1 rfl ?_
      generalize hH2 : upd H1 l _ = H2
      have b2 : ExB l H1 H2 := hH2 ▸ ExB.upd
      have hl2 : H2 l = some (.lst [.ref cl, .int (i : Nat), .int (rest / m), .int mixed, .int cnt]) := hH2 ▸ upd_same
      walk_at "go"
      obtain ⟨d, hd1, hd2⟩ := modN rest
      rw [hd1]
      exact k d _ hd2 (b1.t b2) ⟨cs, i, _, mixed, cnt, hl2, b2 _ _ ncl hcl1, ncl, Int.ediv_nonneg hr0 (by omega), hm0, hm1⟩
    · refine itF hr' ?_
      walk_at "go"
      refine v_ixLL (i := 3) hl1 rfl ?_
      walk_at "go"
      refine v_ixLL (i := 3) hl1 rfl ?_
      refine v_rI (.inl ⟨by omega, by omega⟩) ?_
      walk_at "go"
      refine v_ixLL (i := 4) hl1 rfl ?_
      walk_at "go"
      refine v_rI (.inr ⟨by decide, by decide⟩) ?_
      walk_at "go"
      refine v_rI (by show (0 : Int) < 2147483629; decide) ?_
      walk_at "go"
      have t0 : 0 ≤ (mixed * mixed + cnt * 8111) % 2147483629 := Int.emod_nonneg _ (by decide)
      have t1 : (mixed * mixed + cnt * 8111) % 2147483629 < 2147483629 := Int.emod_lt_of_pos _ (by decide)
      generalize (mixed * mixed + cnt * 8111) % 2147483629 = tw at t0 t1
      refine v_rI (.inl ⟨by omega, by omega⟩) ?_
      walk_at "go"
      refine v_ixLL (i := 3) hl1 rfl ?_
      walk_at "go"
      refine v_rI (.inl ⟨by omega, by omega⟩) ?_
      walk_at "go"
      refine v_rI (by show (0 : Int) < 2147483587; decide) ?_
      walk_at "go"
      refine g_sub ?_
      walk_at "go"
      refine v_setL (j := 3) hl1 rfl ?_
      have u0 : 0 ≤ (tw * 17041 + mixed * 48049 + 70001) % 2147483587 := Int.emod_nonneg _ (by decide)
      have u1 : (tw * 17041 + mixed * 48049 + 70001) % 2147483587 < 2147483587 := Int.emod_lt_of_pos _ (by decide)
      generalize (tw * 17041 + mixed * 48049 + 70001) % 2147483587 = mx at u0 u1
      generalize hH2 : upd H1 l _ = H2
      have b2 : ExB l H1 H2 := hH2 ▸ ExB.upd
      have hl2 : H2 l = some (.lst [.ref cl, .int (i : Nat), .int rest, .int mx, .int cnt]) := hH2 ▸ upd_same
      walk_at "go"
      refine v_ixLL (i := 3) hl2 rfl ?_
      walk_at "go"
      refine v_rI ⟨by decide, by decide⟩ ?_
      walk_at "go"
      refine v_rI hmp ?_
      obtain ⟨d, hd1, hd2⟩ := modN (mx / 64)
      rw [hd1]
      exact k d _ hd2 (b1.t b2) ⟨cs, i, rest, mx, cnt, hl2, b2 _ _ ncl hcl1, ncl, hr0, u0, by omega⟩
  · walk_at "go"
    refine v_ixLL (i := 2) hl1 rfl ?_
    walk_at "go"
    have stay : ExB l H H1 ∧ ∃ (i : Nat) (rest mixed cnt : Int), H1 l = some (.lst [.ref cl, .int (i : Nat), .int rest, .int mixed, .int cnt]) ∧ H1 cl = some (.lst (cs.map V.int)) ∧ 0 ≤ rest ∧ 0 ≤ mixed ∧ mixed < 2 ^ 31 := ⟨b1, i, rest, mixed, _, hl1, hcl1, hr0, hm0, hm1⟩
    by_cases hr' : rest = 0
    · rw [decide_eq_true hr']
      walk_at "go"
      refine v_ixLL (i := 1) hl1 rfl ?_
      walk_at "go"
      refine v_ixLL (i := 0) hl1 rfl ?_
      walk_at "go"
      refine v_lenL (ex_l hcl1) ?_
      rw [List.length_map]
      walk_at "go"
      by_cases hi : i < cs.length
      · refine itT (by omega) ?_
        walk_at "go"
        refine v_ixLL (i := 0) hl1 rfl ?_
        walk_at "go"
        refine v_ixLL (i := 1) hl1 rfl ?_
        refine v_ixLL (i := i) (v := .int cs[i]) hcl1 (by rw [List.getElem?_map, List.getElem?_eq_getElem hi]; rfl) ?_
        generalize cs[i] = c
        walk_at "go"
        refine v_ixLL (i := 1) hl1 rfl ?_
        walk_at "go"
        refine g_sub ?_
        walk_at "go"
        refine v_setL (j := 1) hl1 rfl ?_
        generalize hH2 : upd H1 l _ = H2
        have b2 : ExB l H1 H2 := hH2 ▸ ExB.upd
        have hl2 : H2 l = some (.lst [.ref cl, .int ((i + 1 : Nat) : Int), .int rest, .int mixed, .int (cnt + 1)]) := hH2 ▸ upd_same
        have hcl2 := b2 _ _ ncl hcl1
        walk_at "go"
        refine v_rI ⟨by decide, by decide, by decide⟩ ?_
        walk_at "go"
        by_cases hc : (10 : Int) ^ (18 : Int).toNat ≤ (if c < 0 then -c else c)
        · refine itT hc ?_
          walk_at "go"
          refine g_sub ?_
          walk_at "go"
          refine v_setL (j := 2) hl2 rfl ?_
          generalize hH3 : upd H2 l _ = H3
          have b3 : ExB l H2 H3 := hH3 ▸ ExB.upd
          have hl3 : H3 l = some (.lst [.ref cl, .int ((i + 1 : Nat) : Int), .int (if c < 0 then -c else c), .int mixed, .int (cnt + 1)]) := hH3 ▸ upd_same
          exact tail _ _ ⟨⟨_, _, _, rfl⟩, b1.t (b2.t b3), i + 1, _, mixed, _, hl3, b3 _ _ ncl hcl2, by split <;> omega, hm0, hm1⟩
        · refine itF hc ?_
          walk_at "go"
          refine v_ixLL (i := 3) hl2 rfl ?_
          walk_at "go"
          refine v_rI (.inl ⟨by omega, by omega⟩) ?_
          walk_at "go"
          refine v_rI (by show (0 : Int) < 1000033; decide) ?_
          walk_at "go"
          refine v_rI (.inr ⟨by decide, by decide⟩) ?_
          walk_at "go"
          refine v_rI (by show (0 : Int) < 2147483587; decide) ?_
          walk_at "go"
          refine g_sub ?_
          walk_at "go"
          refine v_setL (j := 3) hl2 rfl ?_
          have u0 : 0 ≤ (mixed * 45589 + c % 1000033 * 701 + 53) % 2147483587 := Int.emod_nonneg _ (by decide)
          have u1 : (mixed * 45589 + c % 1000033 * 701 + 53) % 2147483587 < 2147483587 := Int.emod_lt_of_pos _ (by decide)
          generalize (mixed * 45589 + c % 1000033 * 701 + 53) % 2147483587 = mx at u0 u1
          generalize hH3 : upd H2 l _ = H3
          have b3 : ExB l H2 H3 := hH3 ▸ ExB.upd
          have hl3 : H3 l = some (.lst [.ref cl, .int ((i + 1 : Nat) : Int), .int rest, .int mx, .int (cnt + 1)]) := hH3 ▸ upd_same
          exact tail _ _ ⟨⟨_, _, _, rfl⟩, b1.t (b2.t b3), i + 1, rest, mx, _, hl3, b3 _ _ ncl hcl2, hr0, u0, by omega⟩
      · refine itF (by omega) ?_
        repeat (first | exact tail _ _ ⟨⟨_, _, _, rfl⟩, stay⟩ | walk_at "go1")
    · rw [decide_eq_false hr']
      repeat (first | exact tail _ _ ⟨⟨_, _, _, rfl⟩, stay⟩ | walk_at "go1")
/-- one of a text's letters -/
def spOfS : Sp := fun vs H Q _ => ∃ (l cl : Addr) (z : Tx), vs = [.ref l, sV z] ∧ HBag H l cl ∧ z ≠ [] ∧ z.length ≤ 1000 ∧ ∀ c ∈ z, ∀ H', ExB l H H' → HBag H' l cl → Q (sV [c]) H'
/-! _law_of: slots _law_bag 0 _law_things 1 -/
theorem sc__law_of : FnScope ["_law_bag", "_law_things"] ["_law_bag", "_law_things"] (defScope (top 80)) := C8.fnScope_by (by decide +kernel)
theorem cal_law_ofS (T : T w K mg) : Cal P w K mg base 2 "_law_of" spOfS := by
  refine calD T.d__law_of T.g__law_of sc__law_of (fun vs H Q E h => ?_) (fun _ _ _ _ _ _ us hl => match us, hl with | [_, _], _ => rfl) (fun cdv A outer s H vs Q E hr h => ?_)
  · obtain ⟨_, _, _, rfl, _⟩ := h; rfl
  obtain ⟨l, cl, z, rfl, hb, hz, hzl, k⟩ := h
  have hz1 : 0 < z.length := List.length_pos_iff.mpr hz
  refine ⟨_, (pss_one (ps_ret (pe_ix ix_str (pv 1) (pe_cl (cal__law_draw T) hr (by decide) rfl (pa_cons (pv 0) (pa_cons (pe_callB cl_lenStr (by rfl) T.f_len (by decide +kernel) (pa_cons (pv 1) pa_nil)) pa_nil))) (fun _ _ => rfl)))), ?_⟩
  walk_at "go"
  refine v_lenSS (by omega) ?_
  walk_at "go"
  refine ⟨l, cl, _, rfl, hb, by omega, by omega, fun d H' hd b' hb' => ?_⟩
  have hd' : d < z.length := by omega
  refine v_ixSS (c := z[d]) (by omega) (atI_nat (List.getElem?_eq_getElem hd')) ?_
  exact k _ (List.getElem_mem hd') H' b' hb'
/-- one of a list's items -/
def spOfL : Sp := fun vs H Q _ => ∃ (l cl p : Addr) (xs : List V), vs = [.ref l, .ref p] ∧ HBag H l cl ∧ H p = some (.lst xs) ∧ p ≠ l ∧ xs ≠ [] ∧ xs.length ≤ 100000 ∧ ∀ x ∈ xs, ∀ H', ExB l H H' → HBag H' l cl → Q x H'
theorem cal_law_ofL (T : T w K mg) : Cal P w K mg base 2 "_law_of" spOfL := by
  refine calD T.d__law_of T.g__law_of sc__law_of (fun vs H Q E h => ?_) (fun _ _ _ _ _ _ us hl => match us, hl with | [_, _], _ => rfl) (fun cdv A outer s H vs Q E hr h => ?_)
  · obtain ⟨_, _, _, _, rfl, _⟩ := h; rfl
  obtain ⟨l, cl, p, xs, rfl, hb, hp, hpl, hx, hxl, k⟩ := h
  have hz1 : 0 < xs.length := List.length_pos_iff.mpr hx
  refine ⟨_, (pss_one (ps_ret (pe_ix ix_list (pv 1) (pe_cl (cal__law_draw T) hr (by decide) rfl (pa_cons (pv 0) (pa_cons (pe_callB cl_lenSeq (by rfl) T.f_len (by decide +kernel) (pa_cons (pv 1) pa_nil)) pa_nil))) (fun _ _ => rfl)))), ?_⟩
  walk_at "go"
  refine v_lenL (ex_l hp) ?_
  walk_at "go"
  refine ⟨l, cl, _, rfl, hb, by omega, by omega, fun d H' hd b' hb' => ?_⟩
  have hd' : d < xs.length := by omega
  refine v_ixLL (i := d) (b' _ _ hpl hp) (List.getElem?_eq_getElem hd') ?_
  exact k _ (List.getElem_mem hd') H' b' hb'
end L2.FW
end
section
set_option maxRecDepth 100000
set_option maxHeartbeats 4000000
/-! The law's letters, faces, cutters, parts, rooms, cuts. -/
namespace L2.FW
open PySem PySem.Spec PyProof.Rows Fw
variable {P : Program} {w : World} {K : PySem.W.Frag} {mg : Str → Option Value} {base : Heap}
local macro_rules | `(tactic| walk_at "go1") => `(tactic| first
  | ((with_reducible apply v_var); exact rfl)
  | ((with_reducible apply s_aug); exact rfl)
  | with_reducible first
    | refine v_c ?_ | refine v_cons ?_ | refine v_nil ?_ | refine v_op ?_ | refine v_cb ?_ | refine v_call ?_ | refine v_bl ?_ | refine v_yes ?_
    | refine s_seq ?_ | refine s_ret ?_ | refine s_if ?_ | refine s_asg ?_ | refine g_name ?_ | refine v_test ?_ | refine v_tB ?_
    | refine v_rI0 ?_ | refine v_eqI ?_ | refine v_neI ?_ | refine v_eqS ?_ | refine v_neS ?_ | refine v_int1 ?_ | refine v_bool1 ?_ | refine v_abs ?_ | refine v_isN ?_ | refine v_notN ?_ | refine v_nsign ?_
    | refine v_andV ?_ | refine v_orV ?_ | refine v_notV ?_ | refine v_and ?_ | refine v_or ?_ | refine v_not ?_
    | refine v_if ?_ | refine v_tup ?_ | refine v_lst ?_ | refine v_sl ?_ | refine v_part ?_ | refine v_nopart ?_ | refine v_int ?_ | refine v_dget ?_ | refine v_din ?_ | refine v_dnin ?_
    | refine v_fld ?_ | refine v_meth ?_ | refine v_bm ?_ | refine v_m1 ?_ | refine v_strE ?_ | refine v_un ?_ | refine v_chain ?_ | refine s_next ?_ | refine s_drop ?_ | refine s_retN ?_ | refine s_par ?_ | refine s_par3 ?_
    | refine s_fld ?_ | refine s_dput ?_ | refine s_ddel ?_ | refine g_nil ?_ | refine g_cons ?_ | refine iteT ?_ | refine iteF ?_ | refine iteNT ?_ | refine iteNF ?_
    | refine isi_ss ?_ | refine isi_ii ?_ | refine isi_ib ?_ | refine v_lc ?_ | refine i_str ?_ | refine v_str ?_ | refine i_list ?_ | refine i_zipS ?_ | refine i_zipS3 ?_ | refine i_enumS ?_ | refine i_enum ?_ | refine i_tup ?_ | refine i_rng ?_ | refine s_for ?_ | refine v_star ?_ | refine v_makeR ?_ | refine v_make ?_ | refine v_cval ?_ | refine v_sign ?_)
local macro_rules | `(tactic| walk_at "go") => `(tactic| repeat walk_at "go1")
set_option pp.maxSteps 1200
def spLetters : Sp := fun vs H Q _ => ∃ (l cl : Addr) (L : Tx) (m : Nat), vs = [.ref l, sV L, .int (m : Nat)] ∧ HBag H l cl ∧ L.Pairwise (· < ·) ∧ m ≤ L.length ∧ L.length ≤ 1000 ∧
  ∀ (t : Tx) H', t.length = m → t.Pairwise (· < ·) → (∀ c ∈ t, c ∈ L) → ExB l H H' → HBag H' l cl → Q (sV t) H'
theorem take_snoc_pw {L t : Tx} (hL : L.Pairwise (· < ·)) {low d : Nat} (hd : low + d < L.length) (ht : t.Pairwise (· < ·)) (hs : ∀ c ∈ t, c ∈ L.take low) : (t ++ [L[low + d]]).Pairwise (· < ·) ∧ ∀ c ∈ t ++ [L[low + d]], c ∈ L.take (low + d + 1) := by
  have sub : ∀ c ∈ L.take low, c ∈ L.take (low + d + 1) := fun c hc => by
    have : L.take low <+: L.take (low + d + 1) := List.take_prefix_take_left (by omega)
    exact this.subset hc
  refine ⟨List.pairwise_append.mpr ⟨ht, by simp, fun a ha b hb => ?_⟩, fun c hc => ?_⟩
  · simp at hb
    subst hb
    obtain ⟨i, hi⟩ := List.mem_iff_getElem?.mp (hs a ha)
    have hi' := (List.getElem?_eq_some_iff.mp hi).1
    rw [List.length_take] at hi'
    rw [List.getElem?_take_of_lt (by omega)] at hi
    obtain ⟨h1, h2⟩ := List.getElem?_eq_some_iff.mp hi
    rw [← h2]
    exact (List.pairwise_iff_getElem.mp hL) i (low + d) h1 hd (by omega)
  · rcases List.mem_append.mp hc with hc | hc
    · exact sub c (hs c hc)
    · simp at hc
      subst hc
      refine List.mem_iff_getElem?.mpr ⟨low + d, ?_⟩
      rw [List.getElem?_take_of_lt (by omega), List.getElem?_eq_getElem hd]
/-! _law_letters: slots _law_bag 0 _law_letters_here 1 _law_many 2 _law_found 3 _law_low_here 4 _law_k 5 _law_at 6 -/
theorem sc__law_letters : FnScope ["_law_bag", "_law_letters_here", "_law_many", "_law_found", "_law_low_here", "_law_k", "_law_at"] ["_law_bag", "_law_letters_here", "_law_many"] (defScope (top 81)) := C8.fnScope_by (by decide +kernel)
theorem cal__law_letters (T : T w K mg) : Cal P w K mg base 2 "_law_letters" spLetters := by
  refine calD T.d__law_letters T.g__law_letters sc__law_letters (fun vs H Q E h => ?_) (fun _ _ _ _ _ _ us hl => match us, hl with | [_, _, _], _ => rfl) (fun cdv A outer s H vs Q E hr h => ?_)
  · obtain ⟨_, _, _, _, rfl, _⟩ := h; rfl
  obtain ⟨l, cl, L, m, rfl, hb, hL, hm, hLl, k⟩ := h
  refine ⟨_, (pss_cons (ps_asg (pe_tup (pa_cons pe_str (pa_cons pe_int pa_nil))) (pg_tup rfl (pgs_cons (pg_name (i := 3) sc__law_letters.nd rfl (Or.inl rfl)) (pgs_cons (pg_name (i := 4) sc__law_letters.nd rfl (Or.inl rfl)) pgs_nil))))
      (pss_cons (ps_for PassesOwn.never rfl (pi_range1 rfl T.f_range (pa_cons (pv 2) pa_nil)) (pg_name (i := 5) sc__law_letters.nd rfl (Or.inl rfl)) (pss_cons (ps_set (i := 6) sc__law_letters.nd rfl (Or.inl rfl) (pe_op op_add (pv 4) (pe_cl (cal__law_draw T) hr (by decide) rfl (pa_cons (pv 0) (pa_cons (pe_op op_sub (pe_op op_sub (pe_callB cl_lenStr (by rfl) T.f_len (by decide +kernel) (pa_cons (pv 1) pa_nil)) (pv 4)) (pe_op op_sub (pe_op op_sub (pv 2) pe_int) (pv 5))) pa_nil)))))
      (pss_one (ps_par (i := 3) (j := 4) (by rfl) sc__law_letters.nd rfl rfl (by decide) rfl rfl (pa_cons (pe_op op_catS (pv 3) (pe_ix ix_str (pv 1) (pv 6) (fun _ _ => rfl))) (pa_cons (pe_op op_add (pv 6) pe_int) pa_nil)) (by rfl)))))
      (pss_one (ps_ret (pv 3))))), ?_⟩
  walk_at "go"
  refine ⟨szl (by simp), fun p hp => ?_⟩
  generalize hH1 : upd H p _ = H1
  have e1 : Ex H H1 := hH1 ▸ Ex.nw hp
  have hp1 : H1 p = some (.tup [sV [], .int 0]) := hH1 ▸ upd_same
  refine g_tup (ex_t hp1) rfl ?_
  walk_at "go"
  refine ⟨(m : Nat), rfl, by omega, by omega, ?_⟩
  rw [Int.toNat_natCast]
  refine for_it (walk_range (lo := 0) (n := m)) (fun i σ H2 => ∃ (t : Tx) (low : Nat) (u v : Option V), σ = [some (.ref l), some (sV L), some (.int (m : Nat)), some (sV t), some (.int (low : Nat)), u, v] ∧ t.length = i ∧ low + (m - i) ≤ L.length ∧ t.Pairwise (· < ·) ∧ (∀ c ∈ t, c ∈ L.take low) ∧ ExB l H H2 ∧ HBag H2 l cl)
    ⟨[], 0, _, _, rfl, rfl, by omega, .nil, (fun c m => nomatch m), .of e1, hb.ex e1⟩ (fun i σ H2 hi q => trivial) ?_ ?_
  · rintro i x σ H2 H3 hi ⟨t, low, u, v, rfl, htl, hlow, htp, hts, b2, hb2⟩ ⟨rfl, rfl⟩
    walk_at "go"
    refine v_lenSS (by omega) ?_
    walk_at "go"
    refine ⟨l, cl, _, rfl, hb2, by omega, by omega, fun d H4 hd b4 hb4 => ?_⟩
    have hd' : low + d < L.length := by omega
    walk_at "go"
    have ec : ((low : Int) + (d : Int)) = ((low + d : Nat) : Int) := by omega
    rw [ec]
    refine v_ixSS (c := L[low + d]) (by omega) (atI_nat (List.getElem?_eq_getElem hd')) ?_
    refine v_catS (by simp; omega) ?_
    walk_at "go"
    obtain ⟨s1, s2⟩ := take_snoc_pw hL hd' htp hts
    refine ⟨_, _, rfl, t ++ [L[low + d]], low + d + 1, _, _, rfl, by simp [htl], by omega, s1, s2, b2.t b4, hb4⟩
  · rintro σ H2 ⟨t, low, u, v, rfl, htl, hlow, htp, hts, b2, hb2⟩
    walk_at "go"
    exact k t H2 htl htp (fun c hc => List.mem_of_mem_take (hts c hc)) b2 hb2
/-- rising letters of an alphabet, at most so many -/
def spSome (most lo n : Nat) : Sp := fun vs H Q _ => ∃ (l cl : Addr) (m : Nat), vs = [.ref l, .int (m : Nat)] ∧ HBag H l cl ∧ 1 ≤ m ∧ m ≤ most ∧ ∀ t H', Rise lo n m t → ExB l H H' → HBag H' l cl → Q (sV t) H'
theorem rise_of {L t : Tx} {lo n k most : Nat} (h1 : t.length = k) (hk : 1 ≤ k) (hm : k ≤ most) (h2 : t.Pairwise (· < ·)) (h3 : ∀ c ∈ t, c ∈ L) (hL : ∀ c ∈ L, lo ≤ c ∧ c < lo + n) : Rise lo n most t :=
  ⟨fun e => by rw [e] at h1; simp at h1; omega, h2, by omega, fun c hc => hL c (h3 c hc)⟩
def lowerL : Tx := [97,98,99,100,101,102,103,104,105,106,107,108,109,110,111,112,113,114,115,116,117,118,119,120,121,122]
def upperL : Tx := [65,66,67,68,69,70,71,72,73,74,75,76,77,78,79,80,81,82,83,84,85,86,87,88,89,90]
theorem lower_eq : V.str (Str.ofString "abcdefghijklmnopqrstuvwxyz") = sV lowerL := by
  rw [show Str.ofString "abcdefghijklmnopqrstuvwxyz" = S lowerL from by decide +kernel]
theorem upper_eq : V.str (Str.ofString "ABCDEFGHIJKLMNOPQRSTUVWXYZ") = sV upperL := by
  rw [show Str.ofString "ABCDEFGHIJKLMNOPQRSTUVWXYZ" = S upperL from by decide +kernel]
/-! _law_some_faces: slots _law_bag 0 _law_most 1 -/
theorem sc__law_some_faces : FnScope ["_law_bag", "_law_most"] ["_law_bag", "_law_most"] (defScope (top 82)) := C8.fnScope_by (by decide +kernel)
theorem cal__law_some_faces (T : T w K mg) : Cal P w K mg base 3 "_law_some_faces" (spSome 6 97 26) := by
  refine calD T.d__law_some_faces T.g__law_some_faces sc__law_some_faces (fun vs H Q E h => ?_) (fun _ _ _ _ _ _ us hl => match us, hl with | [_, _], _ => rfl) (fun cdv A outer s H vs Q E hr h => ?_)
  · obtain ⟨_, _, _, rfl, _⟩ := h; rfl
  obtain ⟨l, cl, m, rfl, hb, h1, hm, k⟩ := h
  refine ⟨_, (pss_one (ps_ret (pe_cl (cal__law_letters T) hr (by decide) rfl (pa_cons (pv 0) (pa_cons pe_str (pa_cons (pe_op op_add pe_int (pe_cl (cal__law_draw T) hr (by decide) rfl (pa_cons (pv 0) (pa_cons (pv 1) pa_nil)))) pa_nil)))))), ?_⟩
  walk_at "go"
  refine ⟨l, cl, _, rfl, hb, by omega, by omega, fun d H1 hd b1 hb1 => ?_⟩
  walk_at "go"
  rw [lower_eq, show (1 : Int) + (d : Int) = ((1 + d : Nat) : Int) by omega]
  refine ⟨l, cl, lowerL, 1 + d, rfl, hb1, by decide +kernel, by show 1 + d ≤ 26; omega, by decide, fun t H2 a1 a2 a3 b2 hb2 => ?_⟩
  exact k t H2 (rise_of a1 (by omega) (by omega) a2 a3 (by decide)) (b1.t b2) hb2
/-! _law_some_cutters: slots _law_bag 0 _law_most 1 -/
theorem sc__law_some_cutters : FnScope ["_law_bag", "_law_most"] ["_law_bag", "_law_most"] (defScope (top 83)) := C8.fnScope_by (by decide +kernel)
theorem cal__law_some_cutters (T : T w K mg) : Cal P w K mg base 3 "_law_some_cutters" (spSome 6 65 26) := by
  refine calD T.d__law_some_cutters T.g__law_some_cutters sc__law_some_cutters (fun vs H Q E h => ?_) (fun _ _ _ _ _ _ us hl => match us, hl with | [_, _], _ => rfl) (fun cdv A outer s H vs Q E hr h => ?_)
  · obtain ⟨_, _, _, rfl, _⟩ := h; rfl
  obtain ⟨l, cl, m, rfl, hb, h1, hm, k⟩ := h
  refine ⟨_, (pss_one (ps_ret (pe_cl (cal__law_letters T) hr (by decide) rfl (pa_cons (pv 0) (pa_cons pe_str (pa_cons (pe_op op_add pe_int (pe_cl (cal__law_draw T) hr (by decide) rfl (pa_cons (pv 0) (pa_cons (pv 1) pa_nil)))) pa_nil)))))), ?_⟩
  walk_at "go"
  refine ⟨l, cl, _, rfl, hb, by omega, by omega, fun d H1 hd b1 hb1 => ?_⟩
  walk_at "go"
  rw [upper_eq, show (1 : Int) + (d : Int) = ((1 + d : Nat) : Int) by omega]
  refine ⟨l, cl, upperL, 1 + d, rfl, hb1, by decide +kernel, by show 1 + d ≤ 26; omega, by decide, fun t H2 a1 a2 a3 b2 hb2 => ?_⟩
  exact k t H2 (rise_of a1 (by omega) (by omega) a2 a3 (by decide)) (b1.t b2) hb2
theorem ExB.nw {l D : Addr} {H H' : Hp} {o : HO} (b : ExB l H H') (n : H D = none) : ExB l H (L2.upd H' D o) := fun a o' hn h => by rw [upd_ne (ne_of_none h n)]; exact b _ _ hn h
theorem joinL_nil : ∀ l : List Tx, TL.joinL [] l = l.flatten
  | [] => rfl
  | [p] => by simp [TL.joinL]
  | p :: q :: r => by
    have := joinL_nil (q :: r)
    show p ++ ([] ++ TL.joinL [] (q :: r)) = _
    rw [this]
    simp
theorem join_one (t : Tx) : Txt.join (S []) ((t.map fun c => [c]).map S) = S t := by
  rw [SX.join_S, joinL_nil]
  congr 1
  induction t with
  | nil => rfl
  | cons a t ih => rw [List.map_cons, List.flatten_cons, ih]; rfl
def spPart : Sp := fun vs H Q _ => ∃ (l cl : Addr) (L : Tx), vs = [.ref l, sV L] ∧ HBag H l cl ∧ L.Pairwise (· < ·) ∧ L.length ≤ 26 ∧ ∀ p H', PartOk L p → ExB l H H' → HBag H' l cl → Q (sV p) H'
/-! _law_part: slots _law_bag 0 _law_letters_here 1 _law_chosen 2 _law_letter 3 -/
theorem sc__law_part : FnScope ["_law_bag", "_law_letters_here", "_law_chosen", "_law_letter"] ["_law_bag", "_law_letters_here"] (defScope (top 84)) := C8.fnScope_by (by decide +kernel)
theorem cal__law_part (T : T w K mg) : Cal P w K mg base 2 "_law_part" spPart := by
  refine calD T.d__law_part T.g__law_part sc__law_part (fun vs H Q E h => ?_) (fun _ _ _ _ _ _ us hl => match us, hl with | [_, _], _ => rfl) (fun cdv A outer s H vs Q E hr h => ?_)
  · obtain ⟨_, _, _, rfl, _⟩ := h; rfl
  obtain ⟨l, cl, L, rfl, hb, hL, hLl, k⟩ := h
  refine ⟨_, (pss_cons (ps_set (i := 2) sc__law_part.nd rfl (Or.inl rfl) (pe_join pe_str (pe_lc (own := [("_law_letter", 3)]) (g := gName 3) (by rfl) sc__law_part.nd (pi_str (pv 1)) (blkOk_by (own := [("_law_letter", 3)]) (N := ["_law_bag", "_law_letters_here", "_law_chosen", "_law_letter"]) (sc := defScope (top 84)) (by decide +kernel)) (fun _ _ _ _ _ => (pg_name (i := 3) sc__law_part.nd rfl (Or.inl rfl))) (fun _ _ _ _ _ => (pts_one (pt_cmpR op_eq (pe_cl (cal__law_draw T) hr (by decide) rfl (pa_cons (pv 0) (pa_cons pe_int pa_nil))) pe_int (nomark _)))) (fun _ _ _ _ _ => (pv 3)))))
      (pss_one (ps_ret (pe_ifExp (PW.pt (pw_and (pt_cmpR op_ne (pv 2) pe_str (nomark _)) (pw_and1 (pt_cmpR op_gt (pe_cl (cal__law_draw T) hr (by decide) rfl (pa_cons (pv 0) (pa_cons pe_int pa_nil))) pe_int (nomark _))))) (pv 2) pe_str)))), ?_⟩
  walk_at "go"
  intro D hD
  have nD := hb.ne hD
  refine lc_it (walk_str (z := S L)) (fun i H2 => ExB l H H2 ∧ HBag H2 l cl ∧ ∃ t : Tx, H2 D = some (.lst (t.map fun c => sV [c])) ∧ t.Sublist (L.take i))
    ⟨(ExB.rfl').nw hD, hb.ex (Ex.nw hD), [], upd_same, List.nil_sublist _⟩ (fun i H2 hi q => trivial) ?_ ?_
  · rintro i x H2 H3 hi ⟨b2, hb2, t, ht, hs⟩ ⟨rfl, c, hc, rfl⟩
    have hc' : L[i]? = some c := by rw [← cps_S L, ← hc, Array.getElem?_toList]
    have htk : L.take (i + 1) = L.take i ++ [c] := by rw [List.take_add_one, hc']; rfl
    walk_at "go"
    refine ⟨rfl, ?_⟩
    walk_at "go"
    refine ⟨l, cl, _, rfl, hb2, by decide, by decide, fun d H4 hd b4 hb4 => ?_⟩
    walk_at "go"
    have ht4 := b4 _ _ nD.1 ht
    have hl : t.length ≤ 26 := by have := hs.length_le; rw [List.length_take] at this; omega
    by_cases hd0 : (d : Int) = 0
    · rw [decide_eq_true hd0]
      walk_at "go"
      refine ⟨_, ht4, by rw [List.length_map, sizeLine_eq]; omega, (b2.t b4).nw hD, hb4.up nD, t ++ [c], by rw [upd_same, List.map_append]; rfl, ?_⟩
      rw [htk]
      exact hs.append (List.Sublist.refl _)
    · rw [decide_eq_false hd0]
      walk_at "go"
      exact ⟨b2.t b4, hb4, t, ht4, by rw [htk]; exact hs.trans (List.sublist_append_left _ _)⟩
  · rintro H2 ⟨b2, hb2, t, ht, hs⟩
    have hz : (S L).cps.size = L.length := by rw [← Array.length_toList, cps_S]
    rw [hz, List.take_length] at hs
    have htl := hs.length_le
    refine ⟨S [], D, t.map fun c => S [c], rfl, rfl, .inl (ex_l (by rw [ht, List.map_map]; rfl)), ?_, ?_⟩
    · rw [List.map_map]
      have : ∀ t : Tx, (t.map ((fun x : Str => x.length) ∘ fun c => S [c])).sum = t.length := fun t => by
        induction t with
        | nil => rfl
        | cons a t ih => rw [List.map_cons, List.sum_cons, ih, List.length_cons]; show (S [a]).length + t.length = _; rw [S_len]; simp; omega
      rw [this, List.length_map, S_len]
      simp
      omega
    rw [show (t.map fun c => S [c]) = (t.map fun c => [c]).map S by rw [List.map_map]; rfl, join_one]
    have tpw : t.Pairwise (· < ·) := hL.sublist hs
    have tmem : ∀ c ∈ t, c ∈ L := fun c hc => hs.subset hc
    walk_at "go"
    by_cases ht0 : t = []
    · subst ht0
      refine itNT rfl ?_
      walk_at "go"
      exact k [46] H2 (.inl rfl) b2 hb2
    · refine itNF ht0 ?_
      walk_at "go"
      refine ⟨l, cl, _, rfl, hb2, by decide, by decide, fun d H4 hd b4 hb4 => ?_⟩
      walk_at "go"
      by_cases hd0 : 0 < (d : Int)
      · refine itT hd0 ?_
        walk_at "go"
        exact k t H4 (.inr ⟨ht0, tpw, tmem⟩) (b2.t b4) hb4
      · refine itF hd0 ?_
        walk_at "go"
        exact k [46] H4 (.inl rfl) (b2.t b4) hb4
def spLRoom : Sp := fun vs H Q _ => ∃ (l cl : Addr) (f : Tx), vs = [.ref l, sV f] ∧ HBag H l cl ∧ f ≠ [] ∧ f.length ≤ 1000 ∧ ∀ r H', RoomOk f r → ExB l H H' → HBag H' l cl → Q (sV r) H'
/-! _law_some_room: slots _law_bag 0 _law_faces 1 -/
theorem sc__law_some_room : FnScope ["_law_bag", "_law_faces"] ["_law_bag", "_law_faces"] (defScope (top 85)) := C8.fnScope_by (by decide +kernel)
theorem cal__law_some_room (T : T w K mg) : Cal P w K mg base 3 "_law_some_room" spLRoom := by
  refine calD T.d__law_some_room T.g__law_some_room sc__law_some_room (fun vs H Q E h => ?_) (fun _ _ _ _ _ _ us hl => match us, hl with | [_, _], _ => rfl) (fun cdv A outer s H vs Q E hr h => ?_)
  · obtain ⟨_, _, _, rfl, _⟩ := h; rfl
  obtain ⟨l, cl, f, rfl, hb, hf, hfl, k⟩ := h
  refine ⟨_, (pss_one (ps_ret (pe_op op_catS (pe_op op_catS (pe_op op_catS (pe_cl (cal_law_ofS T) hr (by decide) rfl (pa_cons (pv 0) (pa_cons (pv 1) pa_nil))) (pe_cl (cal_law_ofS T) hr (by decide) rfl (pa_cons (pv 0) (pa_cons (pv 1) pa_nil)))) (pe_cl (cal_law_ofS T) hr (by decide) rfl (pa_cons (pv 0) (pa_cons (pv 1) pa_nil)))) (pe_cl (cal_law_ofS T) hr (by decide) rfl (pa_cons (pv 0) (pa_cons (pv 1) pa_nil)))))), ?_⟩
  walk_at "go"
  refine ⟨l, cl, f, rfl, hb, hf, hfl, fun c1 m1 H1 b1 hb1 => ?_⟩
  walk_at "go"
  refine ⟨l, cl, f, rfl, hb1, hf, hfl, fun c2 m2 H2 b2 hb2 => ?_⟩
  refine v_catS (by simp) ?_
  walk_at "go"
  refine ⟨l, cl, f, rfl, hb2, hf, hfl, fun c3 m3 H3 b3 hb3 => ?_⟩
  refine v_catS (by simp) ?_
  walk_at "go"
  refine ⟨l, cl, f, rfl, hb3, hf, hfl, fun c4 m4 H4 b4 hb4 => ?_⟩
  refine v_catS (by simp) ?_
  exact k [c1, c2, c3, c4] H4 ⟨rfl, fun c hc => by simp at hc; rcases hc with rfl | rfl | rfl | rfl <;> assumption⟩ (b1.t (b2.t (b3.t b4))) hb4
def spLCut : Sp := fun vs H Q _ => ∃ (l cl : Addr) (f : Tx), vs = [.ref l, sV f] ∧ HBag H l cl ∧ f ≠ [] ∧ f.length ≤ 1000 ∧ ∀ u H', CutOk f u → ExB l H H' → HBag H' l cl → Q (sV u) H'
/-! _law_some_cut: slots _law_bag 0 _law_faces 1 -/
theorem sc__law_some_cut : FnScope ["_law_bag", "_law_faces"] ["_law_bag", "_law_faces"] (defScope (top 86)) := C8.fnScope_by (by decide +kernel)
theorem cal__law_some_cut (T : T w K mg) : Cal P w K mg base 3 "_law_some_cut" spLCut := by
  refine calD T.d__law_some_cut T.g__law_some_cut sc__law_some_cut (fun vs H Q E h => ?_) (fun _ _ _ _ _ _ us hl => match us, hl with | [_, _], _ => rfl) (fun cdv A outer s H vs Q E hr h => ?_)
  · obtain ⟨_, _, _, rfl, _⟩ := h; rfl
  obtain ⟨l, cl, f, rfl, hb, hf, hfl, k⟩ := h
  refine ⟨_, (pss_one (ps_ret (pe_op op_catS (pe_op op_catS (pe_cl (cal_law_ofS T) hr (by decide) rfl (pa_cons (pv 0) (pa_cons pe_str pa_nil))) (pe_cl (cal_law_ofS T) hr (by decide) rfl (pa_cons (pv 0) (pa_cons (pv 1) pa_nil)))) (pe_cl (cal_law_ofS T) hr (by decide) rfl (pa_cons (pv 0) (pa_cons (pv 1) pa_nil)))))), ?_⟩
  walk_at "go"
  refine ⟨l, cl, [124, 45], rfl, hb, by simp, by simp, fun g mg' H1 b1 hb1 => ?_⟩
  walk_at "go"
  refine ⟨l, cl, f, rfl, hb1, hf, hfl, fun c2 m2 H2 b2 hb2 => ?_⟩
  refine v_catS (by simp) ?_
  walk_at "go"
  refine ⟨l, cl, f, rfl, hb2, hf, hfl, fun c3 m3 H3 b3 hb3 => ?_⟩
  refine v_catS (by simp) ?_
  exact k [g, c2, c3] H3 (.inr ⟨g, c2, c3, rfl, by simpa using mg', m2, m3⟩) (b1.t (b2.t b3)) hb3
end L2.FW
end
section
set_option maxRecDepth 100000
set_option maxHeartbeats 4000000
/-! The law's lines and books. -/
namespace L2.FW
open PySem PySem.Spec PyProof.Rows Fw
variable {P : Program} {w : World} {K : PySem.W.Frag} {mg : Str → Option Value} {base : Heap}
local macro_rules | `(tactic| walk_at "go1") => `(tactic| first
  | ((with_reducible apply v_var); exact rfl)
  | ((with_reducible apply s_aug); exact rfl)
  | with_reducible first
    | refine v_c ?_ | refine v_cons ?_ | refine v_nil ?_ | refine v_op ?_ | refine v_cb ?_ | refine v_call ?_ | refine v_bl ?_ | refine v_yes ?_
    | refine s_seq ?_ | refine s_ret ?_ | refine s_if ?_ | refine s_asg ?_ | refine g_name ?_ | refine v_test ?_ | refine v_tB ?_
    | refine v_rI0 ?_ | refine v_eqI ?_ | refine v_neI ?_ | refine v_eqS ?_ | refine v_neS ?_ | refine v_int1 ?_ | refine v_bool1 ?_ | refine v_abs ?_ | refine v_isN ?_ | refine v_notN ?_ | refine v_nsign ?_
    | refine v_andV ?_ | refine v_orV ?_ | refine v_notV ?_ | refine v_and ?_ | refine v_or ?_ | refine v_not ?_
    | refine v_if ?_ | refine v_tup ?_ | refine v_lst ?_ | refine v_sl ?_ | refine v_part ?_ | refine v_nopart ?_ | refine v_int ?_ | refine v_dget ?_ | refine v_din ?_ | refine v_dnin ?_
    | refine v_fld ?_ | refine v_meth ?_ | refine v_bm ?_ | refine v_m1 ?_ | refine v_strE ?_ | refine v_un ?_ | refine v_chain ?_ | refine s_next ?_ | refine s_drop ?_ | refine s_retN ?_ | refine s_par ?_ | refine s_par3 ?_
    | refine s_fld ?_ | refine s_dput ?_ | refine s_ddel ?_ | refine g_nil ?_ | refine g_cons ?_ | refine iteT ?_ | refine iteF ?_ | refine iteNT ?_ | refine iteNF ?_
    | refine isi_ss ?_ | refine isi_ii ?_ | refine isi_ib ?_ | refine v_lc ?_ | refine i_str ?_ | refine v_str ?_ | refine i_list ?_ | refine i_zipS ?_ | refine i_zipS3 ?_ | refine i_enumS ?_ | refine i_enum ?_ | refine i_tup ?_ | refine i_rng ?_ | refine s_for ?_ | refine v_star ?_ | refine v_makeR ?_ | refine v_make ?_ | refine v_cval ?_ | refine v_sign ?_)
local macro_rules | `(tactic| walk_at "go") => `(tactic| repeat walk_at "go1")
set_option pp.maxSteps 1200
def spLLine : Sp := fun vs H Q _ => ∃ (l cl : Addr) (fc ct : Tx), vs = [.ref l, sV fc, sV ct] ∧ HBag H l cl ∧ Rise 97 26 6 fc ∧ Rise 65 26 4 ct ∧ ∀ t ln H', H t = none → LineOk fc ct ln → ExB l H H' → HBag H' l cl → H' t = some (.tup (ln.map sV)) → Q (.ref t) H'
/-! _law_some_line: slots _law_bag 0 _law_faces 1 _law_cutters 2 _law_cut_here 3 _law_parts_here 4 _law_k 5 -/
theorem sc__law_some_line : FnScope ["_law_bag", "_law_faces", "_law_cutters", "_law_cut_here", "_law_parts_here", "_law_k"] ["_law_bag", "_law_faces", "_law_cutters"] (defScope (top 87)) := C8.fnScope_by (by decide +kernel)
theorem cal__law_some_line (T : T w K mg) : Cal P w K mg base 4 "_law_some_line" spLLine := by
  refine calD T.d__law_some_line T.g__law_some_line sc__law_some_line (fun vs H Q E h => ?_) (fun _ _ _ _ _ _ us hl => match us, hl with | [_, _, _], _ => rfl) (fun cdv A outer s H vs Q E hr h => ?_)
  · obtain ⟨_, _, _, _, rfl, _⟩ := h; rfl
  obtain ⟨l, cl, fc, ct, rfl, hb, hfc, hct, k⟩ := h
  have fl : fc.length ≤ 6 := hfc.len
  have ctl : ct.length ≤ 4 := hct.len
  refine ⟨_, (pss_cons (ps_set (i := 3) sc__law_some_line.nd rfl (Or.inl rfl) (pe_ifExp (pt_cmpR op_gt (pe_cl (cal__law_draw T) hr (by decide) rfl (pa_cons (pv 0) (pa_cons pe_int pa_nil))) pe_int (nomark _)) (pe_cl (cal__law_some_cut T) hr (by decide) rfl (pa_cons (pv 0) (pa_cons (pv 1) pa_nil))) pe_str))
      (pss_cons (ps_setLc (i := 4) (own := [("_law_k", 5)]) (g := gName 5) (by rfl) sc__law_some_line.nd rfl rfl (sw_true rfl rfl rfl (by decide +kernel)) (pi_range1 rfl T.f_range (pa_cons pe_int pa_nil)) (blkOk_by (own := [("_law_k", 5)]) (N := ["_law_bag", "_law_faces", "_law_cutters", "_law_cut_here", "_law_parts_here", "_law_k"]) (sc := defScope (top 87)) (by decide +kernel)) (fun _ _ _ _ _ => (pg_name (i := 5) sc__law_some_line.nd rfl (Or.inl rfl))) (fun _ _ _ _ _ => pts_nil) (fun _ _ _ _ _ => (pe_ifExp (pt_cmpR op_eq (pe_cl (cal__law_draw T) hr (by decide) rfl (pa_cons (pv 0) (pa_cons pe_int pa_nil))) pe_int (nomark _)) (pe_cl (cal__law_part T) hr (by decide) rfl (pa_cons (pv 0) (pa_cons (pv 1) pa_nil))) pe_str)))
      (pss_one (ps_ret (pe_tup (pa_cons (pe_ix ix_list (pv 4) pe_int (fun _ _ => rfl)) (pa_cons (pe_ix ix_list (pv 4) pe_int (fun _ _ => rfl)) (pa_cons (pe_ix ix_list (pv 4) pe_int (fun _ _ => rfl)) (pa_cons (pe_ix ix_list (pv 4) pe_int (fun _ _ => rfl)) (pa_cons (pe_cl (cal__law_part T) hr (by decide) rfl (pa_cons (pv 0) (pa_cons (pv 2) pa_nil))) (pa_cons (pv 3) pa_nil))))))))))), ?_⟩
  refine s_join (fun σ' H' => (∃ u x y, σ' = [some (.ref l), some (sV fc), some (sV ct), some (sV u), x, y] ∧ CutOk fc u) ∧ ExB l H H' ∧ HBag H' l cl) ?_ fun tail => ?_
  · rintro σ H1 ⟨⟨u, x, y, rfl, hu⟩, b1, hb1⟩
    walk_at "go"
    refine ⟨4, rfl, by decide, by decide, fun D hD => ?_⟩
    have nD := hb1.ne hD
    refine lc_it (walk_range (lo := 0) (n := 4)) (fun i H2 => ExB l H1 H2 ∧ HBag H2 l cl ∧ ∃ ps : List Tx, H2 D = some (.lst (ps.map sV)) ∧ ps.length = i ∧ ∀ p ∈ ps, PartOk fc p)
      ⟨(ExB.rfl').nw hD, hb1.up nD, [], upd_same, rfl, fun p m => nomatch m⟩ (fun i H2 hi q => trivial) ?_ ?_
    · rintro i x' H2 H3 hi ⟨b2, hb2, ps, hps, hpl, hpo⟩ ⟨rfl, rfl⟩
      walk_at "go"
      refine ⟨rfl, ?_⟩
      walk_at "go"
      refine ⟨l, cl, _, rfl, hb2, by decide, by decide, fun d H4 hd b4 hb4 => ?_⟩
      have grow : ∀ (p : Tx) (H5 : Hp), PartOk fc p → ExB l H4 H5 → HBag H5 l cl → ∃ acc, H5 D = some (.lst acc) ∧ acc.length < sizeLine ∧ (ExB l H1 (upd H5 D (.lst (acc ++ [sV p]))) ∧ HBag (upd H5 D (.lst (acc ++ [sV p]))) l cl ∧ ∃ ps : List Tx, (upd H5 D (.lst (acc ++ [sV p]))) D = some (.lst (ps.map sV)) ∧ ps.length = i + 1 ∧ ∀ p ∈ ps, PartOk fc p) := fun p H5 hp b5 hb5 =>
        ⟨_, b5 _ _ nD.1 (b4 _ _ nD.1 hps), by rw [List.length_map, sizeLine_eq]; omega, (b2.t (b4.t b5)).nw hD, hb5.up nD, ps ++ [p], by rw [upd_same, List.map_append]; rfl, by simp [hpl], fun q m => by
          rcases List.mem_append.mp m with m | m
          · exact hpo q m
          · simp at m; subst m; exact hp⟩
      walk_at "go"
      by_cases hd0 : (d : Int) = 0
      · refine itT hd0 ?_
        walk_at "go"
        refine ⟨l, cl, fc, rfl, hb4, hfc.asc, by omega, fun p H5 hp b5 hb5 => ?_⟩
        exact grow p H5 hp b5 hb5
      · refine itF hd0 ?_
        walk_at "go"
        exact grow [46] H4 (.inl rfl) ExB.rfl' hb4
    · rintro H2 ⟨b2, hb2, ps, hps, hpl, hpo⟩
      obtain ⟨p0, p1, p2, p3, rfl⟩ : ∃ p0 p1 p2 p3, ps = [p0, p1, p2, p3] := by
        match ps, hpl with
        | [p0, p1, p2, p3], _ => exact ⟨_, _, _, _, rfl⟩
      walk_at "go"
      refine v_ixLL (i := 0) hps rfl ?_
      walk_at "go"
      refine v_ixLL (i := 1) hps rfl ?_
      walk_at "go"
      refine v_ixLL (i := 2) hps rfl ?_
      walk_at "go"
      refine v_ixLL (i := 3) hps rfl ?_
      walk_at "go"
      refine ⟨l, cl, ct, rfl, hb2, hct.asc, by omega, fun p4 H3 hp4 b3 hb3 => ?_⟩
      walk_at "go"
      refine ⟨szl (by simp), fun t ht => ?_⟩
      have ht0 : H t = none := by
        cases hq : H t with
        | none => rfl
        | some o =>
          have n := hb3.ne ht
          rw [(b1.t (b2.t b3)) _ _ n.1 hq] at ht
          cases ht
      refine k t [p0, p1, p2, p3, p4, u] _ ht0 ⟨p0, p1, p2, p3, p4, u, rfl, hpo _ (by simp), hpo _ (by simp), hpo _ (by simp), hpo _ (by simp), hp4, hu⟩ ((b1.t (b2.t b3)).nw ht0) (hb3.ex (Ex.nw ht)) upd_same
  · walk_at "go"
    refine ⟨l, cl, _, rfl, hb, by decide, by decide, fun d H1 hd b1 hb1 => ?_⟩
    walk_at "go"
    by_cases hd0 : 0 < (d : Int)
    · refine itT hd0 ?_
      walk_at "go"
      refine ⟨l, cl, fc, rfl, hb1, hfc.ne, by omega, fun u H2 hu b2 hb2 => ?_⟩
      exact tail _ _ ⟨⟨u, _, _, rfl, hu⟩, b1.t b2, hb2⟩
    · refine itF hd0 ?_
      repeat (first | exact tail _ _ ⟨⟨[], _, _, rfl, .inl rfl⟩, b1, hb1⟩ | walk_at "go1")
theorem ExB.none {l t : Addr} {H H' : Hp} (b : ExB l H H') (n : t ≠ l) (h : H' t = .none) : H t = .none := by
  cases hq : H t with
  | none => rfl
  | some o =>
    rw [b _ _ n hq] at h
    cases h
/-- the law's book: faces, cutters, lines -/
def HSpec (H : Hp) (l s : Addr) (b : Bk) : Prop := ∃ ll rs, H s = some (.lst [sV b.fc, sV b.ct, .ref ll]) ∧ H ll = some (.lst (rs.map fun r : Addr × List Tx => V.ref r.1)) ∧ HLn H rs ∧ rs.map (·.2) = b.ls ∧ s ≠ l ∧ ll ≠ l
theorem HSpec.ex {H H' : Hp} {l s : Addr} {b : Bk} (e : Ex H H') (h : HSpec H l s b) : HSpec H' l s b := by
  obtain ⟨ll, rs, h1, h2, h3, h4, h5⟩ := h
  exact ⟨ll, rs, e _ _ h1, e _ _ h2, h3.ex e, h4, h5⟩
theorem HLn.exB {H H' : Hp} {l : Addr} {xs : List V} {rs : List (Addr × List Tx)} (e : ExB l H H') (hl : H l = some (.lst xs)) (h : HLn H rs) : HLn H' rs := fun r m => e _ _ (fun e => by have := h r m; rw [e, hl] at this; cases this) (h r m)
theorem HBag.lst {H : Hp} {l cl : Addr} (h : HBag H l cl) : ∃ xs, H l = some (.lst xs) := by
  obtain ⟨cs, i, rest, mixed, cnt, h1, _⟩ := h
  exact ⟨_, h1⟩
theorem HSpec.exB {H H' : Hp} {l cl s : Addr} {b : Bk} (e : ExB l H H') (hb : HBag H l cl) (h : HSpec H l s b) : HSpec H' l s b := by
  obtain ⟨ll, rs, h1, h2, h3, h4, h5, h6⟩ := h
  obtain ⟨xs, hx⟩ := hb.lst
  exact ⟨ll, rs, e _ _ h5 h1, e _ _ h6 h2, h3.exB e hx, h4, h5, h6⟩
theorem rise_mono {lo n m m' : Nat} {t : Tx} (h : Rise lo n m t) (l : m ≤ m') : Rise lo n m' t := ⟨h.ne, h.asc, Nat.le_trans h.len l, h.all⟩
def spLBook : Sp := fun vs H Q _ => ∃ (l cl sz : Addr), vs = [.ref l, .ref sz] ∧ HBag H l cl ∧ H sz = some (.lst [.int 6, .int 3, .int 3]) ∧ sz ≠ l ∧ ∀ s b H', H s = none → BkOk b → b.ls.length ≤ 3 → ExB l H H' → HBag H' l cl → HSpec H' l s b → Q (.ref s) H'
/-! _law_some_book: slots _law_bag 0 _law_sizes 1 _law_faces 2 _law_cutters 3 _law_lines 4 _law_k 5 -/
theorem sc__law_some_book : FnScope ["_law_bag", "_law_sizes", "_law_faces", "_law_cutters", "_law_lines", "_law_k"] ["_law_bag", "_law_sizes"] (defScope (top 88)) := C8.fnScope_by (by decide +kernel)
theorem cal__law_some_book (T : T w K mg) : Cal P w K mg base 5 "_law_some_book" spLBook := by
  refine calD T.d__law_some_book T.g__law_some_book sc__law_some_book (fun vs H Q E h => ?_) (fun _ _ _ _ _ _ us hl => match us, hl with | [_, _], _ => rfl) (fun cdv A outer s H vs Q E hr h => ?_)
  · obtain ⟨_, _, _, rfl, _⟩ := h; rfl
  obtain ⟨l, cl, sz, rfl, hb, hsz, nsz, k⟩ := h
  refine ⟨_, (pss_cons (ps_asg (pe_tup (pa_cons (pe_cl (cal__law_some_faces T) hr (by decide) rfl (pa_cons (pv 0) (pa_cons (pe_ix ix_list (pv 1) pe_int (fun _ _ => rfl)) pa_nil))) (pa_cons (pe_cl (cal__law_some_cutters T) hr (by decide) rfl (pa_cons (pv 0) (pa_cons (pe_ix ix_list (pv 1) pe_int (fun _ _ => rfl)) pa_nil))) pa_nil))) (pg_tup rfl (pgs_cons (pg_name (i := 2) sc__law_some_book.nd rfl (Or.inr rfl)) (pgs_cons (pg_name (i := 3) sc__law_some_book.nd rfl (Or.inr rfl)) pgs_nil))))
      (pss_cons (ps_setLc (i := 4) (own := [("_law_k", 5)]) (g := gName 5) (by rfl) sc__law_some_book.nd rfl rfl (sw_true rfl rfl rfl (by decide +kernel)) (pi_range1 rfl T.f_range (pa_cons (pe_cl (cal__law_draw T) hr (by decide) rfl (pa_cons (pv 0) (pa_cons (pe_op op_add (pe_ix ix_list (pv 1) pe_int (fun _ _ => rfl)) pe_int) pa_nil))) pa_nil)) (blkOk_by (own := [("_law_k", 5)]) (N := ["_law_bag", "_law_sizes", "_law_faces", "_law_cutters", "_law_lines", "_law_k"]) (sc := defScope (top 88)) (by decide +kernel)) (fun _ _ _ _ _ => (pg_name (i := 5) sc__law_some_book.nd rfl (Or.inl rfl))) (fun _ _ _ _ _ => pts_nil) (fun _ _ _ _ _ => (pe_cl (cal__law_some_line T) hr (by decide) rfl (pa_cons (pv 0) (pa_cons (pv 2) (pa_cons (pv 3) pa_nil))))))
      (pss_cons (ps_if (PW.pt (pw_and (pt_cmpR op_gt (pe_cl (cal__law_draw T) hr (by decide) rfl (pa_cons (pv 0) (pa_cons pe_int pa_nil))) pe_int (nomark _)) (pw_and1 (pt_cmpR op_lt (pe_callB cl_lenSeq (by rfl) T.f_len (by decide +kernel) (pa_cons (pv 4) pa_nil)) (pe_ix ix_list (pv 1) pe_int (fun _ _ => rfl)) (nomark _))))) (pss_one (ps_expr (pe_bm PySem.F.plainAttrs_list PySem.F.slot_list_append PySem.F.type_list_append mt_append (pv 4) (pa_cons (pe_tup (pa_cons pe_str (pa_cons pe_str (pa_cons pe_str (pa_cons pe_str (pa_cons (pe_cl (cal__law_part T) hr (by decide) rfl (pa_cons (pv 0) (pa_cons (pv 3) pa_nil))) (pa_cons (pe_cl (cal__law_some_cut T) hr (by decide) rfl (pa_cons (pv 0) (pa_cons (pv 2) pa_nil))) pa_nil))))))) pa_nil)))) pss_nil)
      (pss_one (ps_ret (pe_lst (pa_cons (pv 2) (pa_cons (pv 3) (pa_cons (pv 4) pa_nil))))))))), ?_⟩
  walk_at "go"
  refine v_ixLL (i := 0) hsz rfl ?_
  walk_at "go"
  refine ⟨l, cl, 6, rfl, hb, by decide, by decide, fun fc H1 hfc b1 hb1 => ?_⟩
  walk_at "go"
  have hsz1 := b1 _ _ nsz hsz
  refine v_ixLL (i := 1) hsz1 rfl ?_
  walk_at "go"
  refine ⟨l, cl, 3, rfl, hb1, by decide, by decide, fun ct H2 hct b2 hb2 => ?_⟩
  have hct4 : Rise 65 26 4 ct := rise_mono hct (by decide)
  have hsz2 := b2 _ _ nsz hsz1
  walk_at "go"
  refine ⟨szl (by simp), fun p hp => ?_⟩
  generalize hHp : upd H2 p _ = Hp0
  have ep : Ex H2 Hp0 := hHp ▸ Ex.nw hp
  have hpp : Hp0 p = some (.tup [sV fc, sV ct]) := hHp ▸ upd_same
  have b2 := b2.t (.of ep)
  have hb2 := hb2.ex ep
  have hsz2 := ep _ _ hsz2
  refine g_tup (ex_t hpp) rfl ?_
  walk_at "go"
  refine v_ixLL (i := 2) hsz2 rfl ?_
  walk_at "go"
  refine ⟨l, cl, _, rfl, hb2, by decide, by decide, fun n H3 hn b3 hb3 => ?_⟩
  have hsz3 := b3 _ _ nsz hsz2
  refine ⟨(n : Nat), rfl, by omega, by omega, fun D hD => ?_⟩
  rw [Int.toNat_natCast]
  have nD := hb3.ne hD
  have nDs : D ≠ sz := fun e => by rw [e, hsz3] at hD; cases hD
  have hn3 : n ≤ 3 := by omega
  refine lc_it (walk_range (lo := 0) (n := n)) (fun i H4 => ExB l H3 H4 ∧ HBag H4 l cl ∧ ∃ rs : List (Addr × List Tx), H4 D = some (.lst (rs.map fun r => V.ref r.1)) ∧ HLn H4 rs ∧ rs.length = i ∧ ∀ r ∈ rs, LineOk fc ct r.2)
    ⟨(ExB.rfl').nw hD, hb3.up nD, [], upd_same, (fun r m => nomatch m), rfl, fun r m => nomatch m⟩ (fun i H4 hi q => trivial) ?_ ?_
  · rintro i x' H4 H5 hi ⟨b4, hb4, rs, hrs, hln, hrl, hok⟩ ⟨rfl, rfl⟩
    walk_at "go"
    refine ⟨rfl, ?_⟩
    walk_at "go"
    refine ⟨l, cl, fc, ct, rfl, hb4, hfc, hct4, fun t ln H6 ht hlo b6 hb6 h6 => ?_⟩
    obtain ⟨xs, hx⟩ := hb4.lst
    have hrs6 := b6 _ _ nD.1 hrs
    refine ⟨_, hrs6, by rw [List.length_map, sizeLine_eq]; omega, (b4.t b6).nw hD, hb6.up nD, rs ++ [(t, ln)], by rw [upd_same, List.map_append]; rfl, fun r m => ?_, by simp [hrl], fun r m => ?_⟩
    · rcases List.mem_append.mp m with m | m
      · have h1 := (hln.exB b6 hx) r m
        rw [upd_ne (fun e => by rw [e, hrs6] at h1; cases h1)]
        exact h1
      · simp at m; subst m
        rw [upd_ne (fun e => by have e : t = D := e; rw [e, hrs6] at h6; cases h6)]
        exact h6
    · rcases List.mem_append.mp m with m | m
      · exact hok r m
      · simp at m; subst m; exact hlo
  · rintro H4 ⟨b4, hb4, rs, hrs, hln, hrl, hok⟩
    have bH4 := b1.t (b2.t (b3.t b4))
    have hsz4 := b4 _ _ nsz hsz3
    -- the end
    have fin : ∀ (H5 : Hp) (rs' : List (Addr × List Tx)), ExB l H H5 → HBag H5 l cl → H5 D = some (.lst (rs'.map fun r => V.ref r.1)) → HLn H5 rs' → rs'.length ≤ 3 → (∀ r ∈ rs', LineOk fc ct r.2) → ∀ s, H5 s = none → Q (.ref s) (upd H5 s (.lst [sV fc, sV ct, .ref D])) := by
      intro H5 rs' b5 hb5 hD5 hln5 hl5 hok5 s hs
      have ns := hb5.ne hs
      refine k s ⟨fc, ct, rs'.map (·.2)⟩ _ (b5.none ns.1 hs) ⟨hfc, hct4, by show (rs'.map (·.2)).length ≤ 8; rw [List.length_map]; omega, fun ln hm => ?_⟩ (by show (rs'.map (·.2)).length ≤ 3; rw [List.length_map]; exact hl5) (b5.nw (b5.none ns.1 hs)) (hb5.ex (Ex.nw hs)) ⟨D, rs', upd_same, (Ex.nw hs) _ _ hD5, hln5.ex (Ex.nw hs), rfl, ns.1, nD.1⟩
      obtain ⟨r, hr', rfl⟩ := List.mem_map.mp hm
      exact hok5 r hr'
    refine g_name ?_
    with_reducible refine s_join (fun σ' H' => ∃ rs' : List (Addr × List Tx), (∃ x, σ' = [some (.ref l), some (.ref sz), some (sV fc), some (sV ct), some (.ref D), x]) ∧ ExB l H H' ∧ HBag H' l cl ∧ H' D = some (.lst (rs'.map fun r => V.ref r.1)) ∧ HLn H' rs' ∧ rs'.length ≤ 3 ∧ ∀ r ∈ rs', LineOk fc ct r.2) ?_ fun tail => ?_
    · rintro σ' H' ⟨rs', ⟨x, rfl⟩, c1, c2, c3, c4, c5, c6⟩
      walk_at "go"
      exact ⟨szl (by simp), fin H' rs' c1 c2 c3 c4 c5 c6⟩
    · walk_at "go"
      refine ⟨l, cl, _, rfl, hb4, by decide, by decide, fun d H5 hd b5 hb5 => ?_⟩
      obtain ⟨xs, hx⟩ := hb4.lst
      have hrs5 := b5 _ _ nD.1 hrs
      have hln5 := hln.exB b5 hx
      have hsz5 := b5 _ _ nsz hsz4
      have stay : ExB l H H5 ∧ HBag H5 l cl ∧ H5 D = some (.lst (rs.map fun r => V.ref r.1)) ∧ HLn H5 rs ∧ rs.length ≤ 3 ∧ ∀ r ∈ rs, LineOk fc ct r.2 := ⟨bH4.t b5, hb5, hrs5, hln5, by omega, hok⟩
      walk_at "go"
      by_cases hd0 : 0 < (d : Int)
      · rw [decide_eq_true hd0]
        walk_at "go"
        refine v_lenL (ex_l hrs5) ?_
        rw [List.length_map]
        walk_at "go"
        refine v_ixLL (i := 2) hsz5 rfl ?_
        walk_at "go"
        by_cases hlt : rs.length < 3
        · refine itT (by omega) ?_
          walk_at "go"
          refine ⟨ty_l hrs5, ?_⟩
          walk_at "go"
          refine ⟨l, cl, ct, rfl, hb5, hct.asc, by have := hct.len; omega, fun p4 H6 hp4 b6 hb6 => ?_⟩
          walk_at "go"
          refine ⟨l, cl, fc, rfl, hb6, hfc.ne, by have := hfc.len; omega, fun u H7 hu b7 hb7 => ?_⟩
          walk_at "go"
          refine ⟨szl (by simp), fun t ht => ?_⟩
          have b57 := b6.t b7
          have hrs7 := b57 _ _ nD.1 hrs5
          have nt := hb7.ne ht
          generalize hH8 : upd H7 t _ = H8
          have e8 : Ex H7 H8 := hH8 ▸ Ex.nw ht
          have ht8 : H8 t = some (.tup (([[46], [46], [46], [46], p4, u] : List Tx).map sV)) := hH8 ▸ upd_same
          walk_at "go"
          refine v_append (e8 _ _ hrs7) (by rw [List.length_map]; omega) ?_
          generalize hH9 : upd H8 D _ = H9
          have b9 : ExB D H8 H9 := hH9 ▸ ExB.upd
          obtain ⟨xs5, hx5⟩ := hb5.lst
          have hln8 := (hln5.exB b57 hx5).ex e8
          have hln9 : HLn H9 (rs ++ [(t, [[46], [46], [46], [46], p4, u])]) := fun r m => by
            rcases List.mem_append.mp m with m | m
            · exact (hln8.exB b9 (e8 _ _ hrs7)) r m
            · simp at m; subst m
              exact b9 _ _ (fun e => by have e : t = D := e; rw [e, hrs7] at ht; cases ht) ht8
          have hD9 : H9 D = some (.lst ((rs ++ [((t, [[46], [46], [46], [46], p4, u]) : Addr × List Tx)]).map fun r => V.ref r.1)) := by rw [← hH9, upd_same, List.map_append]; rfl
          have hDn : H D = none := (b1.t (b2.t b3)).none nD.1 hD
          have hb9 : HBag H9 l cl := hH9 ▸ (hb7.ex e8).up nD
          have bb : ExB l H H9 := hH9 ▸ (((bH4.t (b5.t b57)).t (.of e8)).nw hDn)
          exact tail _ _ ⟨_, ⟨_, rfl⟩, bb, hb9, hD9, hln9, by simp; omega, fun r m => by
            rcases List.mem_append.mp m with m | m
            · exact hok r m
            · simp at m; subst m
              exact ⟨[46], [46], [46], [46], p4, u, rfl, .inl rfl, .inl rfl, .inl rfl, .inl rfl, hp4, hu⟩⟩
        · refine itF (by omega) ?_
          repeat (first | exact tail _ _ ⟨rs, ⟨_, rfl⟩, stay⟩ | walk_at "go1")
      · rw [decide_eq_false hd0]
        repeat (first | exact tail _ _ ⟨rs, ⟨_, rfl⟩, stay⟩ | walk_at "go1")
end L2.FW
end
section
set_option maxRecDepth 100000
set_option maxHeartbeats 4000000
/-! The law's own cuts. -/
namespace L2.FW
open PySem PySem.Spec PyProof.Rows Fw
variable {P : Program} {w : World} {K : PySem.W.Frag} {mg : Str → Option Value} {base : Heap}
local macro_rules | `(tactic| walk_at "go1") => `(tactic| first
  | ((with_reducible apply v_var); exact rfl)
  | ((with_reducible apply s_aug); exact rfl)
  | with_reducible first
    | refine v_c ?_ | refine v_cons ?_ | refine v_nil ?_ | refine v_op ?_ | refine v_cb ?_ | refine v_call ?_ | refine v_bl ?_ | refine v_yes ?_
    | refine s_seq ?_ | refine s_ret ?_ | refine s_if ?_ | refine s_asg ?_ | refine g_name ?_ | refine v_test ?_ | refine v_tB ?_
    | refine v_rI0 ?_ | refine v_eqI ?_ | refine v_neI ?_ | refine v_eqS ?_ | refine v_neS ?_ | refine v_int1 ?_ | refine v_bool1 ?_ | refine v_abs ?_ | refine v_isN ?_ | refine v_notN ?_ | refine v_nsign ?_
    | refine v_andV ?_ | refine v_orV ?_ | refine v_notV ?_ | refine v_and ?_ | refine v_or ?_ | refine v_not ?_
    | refine v_if ?_ | refine v_tup ?_ | refine v_lst ?_ | refine v_sl ?_ | refine v_part ?_ | refine v_nopart ?_ | refine v_int ?_ | refine v_dget ?_ | refine v_din ?_ | refine v_dnin ?_
    | refine v_fld ?_ | refine v_meth ?_ | refine v_bm ?_ | refine v_m1 ?_ | refine v_strE ?_ | refine v_un ?_ | refine v_chain ?_ | refine s_next ?_ | refine s_drop ?_ | refine s_retN ?_ | refine s_par ?_ | refine s_par3 ?_
    | refine s_fld ?_ | refine s_dput ?_ | refine s_ddel ?_ | refine g_nil ?_ | refine g_cons ?_ | refine iteT ?_ | refine iteF ?_ | refine iteNT ?_ | refine iteNF ?_
    | refine isi_ss ?_ | refine isi_ii ?_ | refine isi_ib ?_ | refine v_lc ?_ | refine i_str ?_ | refine v_str ?_ | refine i_list ?_ | refine i_zipS ?_ | refine i_zipS3 ?_ | refine i_enumS ?_ | refine i_enum ?_ | refine i_tup ?_ | refine i_rng ?_ | refine s_for ?_ | refine v_star ?_ | refine v_makeR ?_ | refine v_make ?_ | refine v_cval ?_ | refine v_sign ?_)
local macro_rules | `(tactic| walk_at "go") => `(tactic| repeat walk_at "go1")
set_option pp.maxSteps 1200
/-! _law_fits: slots _law_line 0 _law_room 1 _law_cutter 2 _law_part_here 3 _law_face 4 -/
theorem sc__law_fits : FnScope ["_law_line", "_law_room", "_law_cutter", "_law_part_here", "_law_face"] ["_law_line", "_law_room", "_law_cutter"] (defScope (top 92)) := C8.fnScope_by (by decide +kernel)
theorem cal__law_fits (T : T w K mg) : Cal P w K mg base 1 "_law_fits" spFits := by
  refine calD T.d__law_fits T.g__law_fits sc__law_fits (fun vs H Q E h => ?_) (fun _ _ _ _ _ _ us hl => match us, hl with | [_, _, _], _ => rfl) (fun cdv A outer s H vs Q E hr h => ?_)
  · obtain ⟨_, _, _, _, rfl, _⟩ := h; rfl
  obtain ⟨a, ln, r, c, rfl, ha, hl, hr4, k⟩ := h
  refine ⟨_, (pss_cons (ps_if (PW.pt (pw_and (pt_cmpR op_ne (pe_ix ix_tup (pv 0) pe_int (fun _ _ => rfl)) pe_str (nomark _)) (pw_and1 (pt_cmpR op_nsign (pv 2) (pe_ix ix_tup (pv 0) pe_int (fun _ _ => rfl)) rfl)))) (pss_one (ps_ret pe_bl)) pss_nil)
      (pss_one (ps_ret (pe_callB (cr_all rfl) (by rfl) T.f_all (by decide +kernel) (pa_cons (pe_lc (own := [("_law_part_here", 3), ("_law_face", 4)]) (g := gTup K 2 (gCons (gName 3) (gCons (gName 4) gNil))) (by rfl) sc__law_fits.nd (pi_zipS (by rfl) T.f_zip (pa_cons (pe_slice sl_tup (pv 0) po_none (po_some pe_int)) (pa_cons (pv 1) pa_nil))) (blkOk_by (own := [("_law_part_here", 3), ("_law_face", 4)]) (N := ["_law_line", "_law_room", "_law_cutter", "_law_part_here", "_law_face"]) (sc := defScope (top 92)) (by decide +kernel)) (fun _ _ _ _ _ => (pg_tup rfl (pgs_cons (pg_name (i := 3) sc__law_fits.nd rfl (Or.inl rfl)) (pgs_cons (pg_name (i := 4) sc__law_fits.nd rfl (Or.inl rfl)) pgs_nil)))) (fun _ _ _ _ _ => pts_nil) (fun _ _ _ _ _ => (pe_or (pe_cmpR op_eq (pv 3) pe_str (nomark _)) (pe_one (pe_cmpR op_sign (pv 4) (pv 3) rfl))))) pa_nil))))), ?_⟩
  have h4 : (ln.map sV)[4]? = some (sV (ln.getD 4 [])) := by
    rw [List.getElem?_map, List.getD_eq_getElem?_getD, List.getElem?_eq_getElem (by omega)]; rfl
  unfold fitsB at k
  generalize ln.getD 4 [] = p4 at h4 k
  refine s_join (fun σ' H' => (∃ x y, σ' = [some (.ref a), some (sV r), some (sV [c]), x, y]) ∧ H' = H ∧ takesB p4 c = true) ?_ fun tail => ?_
  · rintro σ H' ⟨⟨x, y, rfl⟩, rfl, ht⟩
    rw [ht] at k
    walk_at "go"
    refine v_slT ha (by simp [hl, HT.sIx]) fun p hp => ?_
    generalize hH1 : upd H' p _ = H1
    have e1 : Ex H' H1 := hH1 ▸ Ex.nw hp
    have hp1 : H1 p = some _ := hH1 ▸ upd_same
    walk_at "go"
    have hcut : cutV (ln.map sV) none (some 4) = (ln.take 4).map sV := by
      simp [cutV, HT.sIx, hl, List.map_take]
    rw [hcut] at hp1
    refine ⟨.t p ((ln.take 4).map sV), .s (S r), rfl, ex_t hp1, trivial, ?_⟩
    refine lc_zipF (fun a b => .bl (match a, b with | .str p, .str z => takesB p.cps.toList (z.cps.toList.headD 0) | _, _ => false)) (ex_t hp1) trivial (by simp [Src.items]; omega) (fun i x y T' H2 Kt Kn hx hy e hT kt => ?_) fun D H2 nD e hD => ?_
    · refine g_tup (ex_t hT) rfl ?_
      walk_at "go"
      refine ⟨rfl, ?_⟩
      walk_at "go"
      have hx' : ((ln.take 4).map sV)[i]? = some x := hx
      have hy' : (((S r).cps.toList).map fun c => V.str ⟨#[c]⟩)[i]? = some y := hy
      rw [List.getElem?_map] at hx' hy'
      obtain ⟨p', hp', rfl⟩ := Option.map_eq_some_iff.mp hx'
      obtain ⟨c', hc', rfl⟩ := Option.map_eq_some_iff.mp hy'
      have kt : Kt (.bl (takesB p' c')) H2 := by
        have := kt _ Ex.rfl'
        simpa [cps_S] using this
      refine v_eqS (j := [46]) ?_
      walk_at "go"
      by_cases h46 : p' = [46]
      · rw [decide_eq_true h46]
        walk_at "go"
        rw [show takesB p' c' = true by simp [takesB, h46]] at kt
        exact kt
      · rw [decide_eq_false h46]
        walk_at "go"
        rw [show takesB p' c' = decide (c' ∈ p') by simp [takesB, h46]] at kt
        exact kt
    · walk_at "go"
      refine v_all (bs := List.zipWith takesB (ln.take 4) r) (ex_l (hD.trans ?_)) ?_
      · exact congrArg (fun z => some (HO.lst z)) (zipV fun p c => by simp [cps_S])
      · rw [Bool.true_and, ← all_zip] at k
        exact k _ (e1.t e)
  · walk_at "go"
    refine v_ixTT (i := 4) ha h4 ?_
    walk_at "go"
    rw [show (Str.ofString ".").1.toList = [46] from rfl]
    by_cases h46 : p4 = [46]
    · rw [decide_eq_true h46]
      repeat (first | exact tail _ _ ⟨⟨_, _, rfl⟩, rfl, by simp [takesB, h46]⟩ | walk_at "go1")
    · rw [decide_eq_false h46]
      walk_at "go"
      refine v_ixTT (i := 4) ha h4 ?_
      walk_at "go"
      by_cases hc : c ∈ p4
      · refine itNT hc ?_
        repeat (first | exact tail _ _ ⟨⟨_, _, rfl⟩, rfl, by simp [takesB, hc]⟩ | walk_at "go1")
      · refine itNF hc ?_
        walk_at "go"
        rw [show takesB p4 c = false by simp [takesB, h46, hc]] at k
        exact k _ Ex.rfl'
def spLLineAt : Sp := fun vs H Q _ => ∃ (l s : Addr) (b : Bk) (r : Tx) (c : Nat), vs = [.ref s, sV r, sV [c]] ∧ HSpec H l s b ∧ BkOk b ∧ r.length = 4 ∧
  ∀ H', Ex H H' → Q (match b.ls.findIdx? (fun ln => fitsB ln r c) with | none => .non | some i => .int (i : Nat)) H'
/-! _law_line_at: slots _law_spec 0 _law_room 1 _law_cutter 2 _law_at 3 _law_line 4 -/
theorem sc__law_line_at : FnScope ["_law_spec", "_law_room", "_law_cutter", "_law_at", "_law_line"] ["_law_spec", "_law_room", "_law_cutter"] (defScope (top 93)) := C8.fnScope_by (by decide +kernel)
theorem cal__law_line_at (T : T w K mg) : Cal P w K mg base 2 "_law_line_at" spLLineAt := by
  refine calD T.d__law_line_at T.g__law_line_at sc__law_line_at (fun vs H Q E h => ?_) (fun _ _ _ _ _ _ us hl => match us, hl with | [_, _, _], _ => rfl) (fun cdv A outer s H vs Q E hr h => ?_)
  · obtain ⟨_, _, _, _, _, rfl, _⟩ := h; rfl
  obtain ⟨lb, s', b, r, c, rfl, hs, bo, hr4, k⟩ := h
  have hl6 := ln6 bo
  obtain ⟨l, rs, hs1, hl, hrs, hls, _⟩ := hs
  refine ⟨_, (pss_cons (ps_for PassesOwn.never rfl (pi_enum (by rfl) T.f_enumerate (pa_cons (pe_ix ix_list (pv 0) pe_int (fun _ _ => rfl)) pa_nil)) (pg_tup rfl (pgs_cons (pg_name (i := 3) sc__law_line_at.nd rfl (Or.inl rfl)) (pgs_cons (pg_name (i := 4) sc__law_line_at.nd rfl (Or.inl rfl)) pgs_nil))) (pss_one (ps_if (pt_val (pe_cl (cal__law_fits T) hr (by decide) rfl (pa_cons (pv 4) (pa_cons (pv 1) (pa_cons (pv 2) pa_nil))))) (pss_one (ps_ret (pv 3))) pss_nil)))
      (pss_one (ps_ret pe_non))), ?_⟩
  walk_at "go"
  refine v_ixLL (i := 2) hs1 rfl ?_
  walk_at "go"
  refine ⟨l, _, rfl, ex_l hl, ?_⟩
  refine for_it (walk_enum (K := K) (xs := rs.map fun r => V.ref r.1)) (fun i σ H2 => Ex H H2 ∧ (∃ u v, σ = [some (.ref s'), some (sV r), some (sV [c]), u, v]) ∧ ∀ (j : Nat) ln, j < i → b.ls[j]? = some ln → fitsB ln r c = false) ⟨Ex.rfl', ⟨_, _, rfl⟩, fun j ln h => absurd h (Nat.not_lt_zero _)⟩ (fun i σ H2 hi p => ex_l (p.1 _ _ hl)) ?_ ?_
  · rintro i x σ H2 H3 hi ⟨e2, ⟨u, v, rfl⟩, hno⟩ ⟨TT, x', y, rfl, hT, rfl, h1, h2⟩
    cases h1
    obtain ⟨r', rfl, hr', hls', hm⟩ := hrs.get h2
    rw [hls] at hls'
    have hln : r'.2.length = 6 := hl6 _ (List.mem_of_getElem? hls')
    have e3 : Ex H (upd H2 TT (.tup [.int (i : Nat), .ref r'.1])) := e2.t (Ex.nw hT)
    refine g_tup (ex_t upd_same) rfl ?_
    walk_at "go"
    refine ⟨r'.1, r'.2, r, c, rfl, e3 _ _ hr', hln, hr4, fun H4 e4 => ?_⟩
    cases hf : fitsB r'.2 r c
    · walk_at "go"
      refine ⟨e3.t e4, ⟨_, _, rfl⟩, fun j ln hj hx => ?_⟩
      rcases Nat.lt_succ_iff_lt_or_eq.mp hj with hj | rfl
      · exact hno j ln hj hx
      · rw [hls'] at hx
        cases hx
        exact hf
    · walk_at "go"
      have hfi : b.ls.findIdx? (fun ln => fitsB ln r c) = some i := by
        obtain ⟨hi', e'⟩ := List.getElem?_eq_some_iff.mp hls'
        refine List.findIdx?_eq_some_iff_getElem.mpr ⟨hi', by rw [e']; exact hf, fun j hj => ?_⟩
        have := hno j _ hj (List.getElem?_eq_getElem (by omega))
        simpa using this
      have := k _ (e3.t e4)
      rw [hfi] at this
      exact this
  · rintro σ H2 ⟨e2, ⟨u, v, rfl⟩, hno⟩
    walk_at "go"
    have hfi : b.ls.findIdx? (fun ln => fitsB ln r c) = none := by
      rw [List.findIdx?_eq_none_iff]
      intro ln hln
      obtain ⟨j, hj⟩ := List.mem_iff_getElem?.mp hln
      have hj' := (List.getElem?_eq_some_iff.mp hj).1
      refine hno j ln ?_ hj
      rw [← hls] at hj'
      simpa using hj'
    have := k _ e2
    rw [hfi] at this
    exact this
def spLaCut : Sp := fun vs H Q _ => ∃ (l s : Addr) (b : Bk) (r : Tx) (c : Nat), vs = [.ref s, sV r, sV [c]] ∧ HSpec H l s b ∧ BkOk b ∧ r.length = 4 ∧ ∀ H', Ex H H' → Q (sV (b.cut r c)) H'
/-! _law_cut: slots _law_spec 0 _law_room 1 _law_cutter 2 _law_at 3 -/
theorem sc__law_cut : FnScope ["_law_spec", "_law_room", "_law_cutter", "_law_at"] ["_law_spec", "_law_room", "_law_cutter"] (defScope (top 94)) := C8.fnScope_by (by decide +kernel)
theorem cal__law_cut (T : T w K mg) : Cal P w K mg base 3 "_law_cut" spLaCut := by
  refine calD T.d__law_cut T.g__law_cut sc__law_cut (fun vs H Q E h => ?_) (fun _ _ _ _ _ _ us hl => match us, hl with | [_, _, _], _ => rfl) (fun cdv A outer s H vs Q E hr h => ?_)
  · obtain ⟨_, _, _, _, _, rfl, _⟩ := h; rfl
  obtain ⟨lb, s', b, r, c, rfl, hs, bo, hr4, k⟩ := h
  have hl6 := ln6 bo
  refine ⟨_, (pss_cons (ps_set (i := 3) sc__law_cut.nd rfl (Or.inl rfl) (pe_cl (cal__law_line_at T) hr (by decide) rfl (pa_cons (pv 0) (pa_cons (pv 1) (pa_cons (pv 2) pa_nil)))))
      (pss_one (ps_ret (pe_ifExp (pt_cmpR op_isNn (pv 3) pe_non (nomark _)) pe_str (pe_ix ix_tup (pe_ix ix_list (pe_ix ix_list (pv 0) pe_int (fun _ _ => rfl)) (pv 3) (fun _ _ => rfl)) pe_int (fun _ _ => rfl)))))), ?_⟩
  walk_at "go"
  refine ⟨lb, s', b, r, c, rfl, hs, bo, hr4, fun H1 e1 => ?_⟩
  obtain ⟨l, rs, hs1, hl, hrs, hls, _⟩ := hs.ex e1
  unfold Bk.cut cutOf at k
  cases hf : b.ls.findIdx? (fun ln => fitsB ln r c) with
  | none =>
    rw [hf] at k
    walk_at "go"
    exact k _ e1
  | some i =>
    rw [hf] at k
    walk_at "go"
    refine itF (fun h => by cases h) ?_
    walk_at "go"
    refine v_ixLL (i := 2) hs1 rfl ?_
    walk_at "go"
    have hi : i < b.ls.length := (List.findIdx?_eq_some_iff_getElem.mp hf).1
    have hi2 : i < rs.length := by rw [← hls] at hi; simpa using hi
    have h1 : (rs.map fun r => V.ref r.1)[i]? = some (.ref rs[i].1) := by simp [hi2]
    have hr' := hrs _ (List.getElem_mem hi2)
    have hls' : b.ls[i]? = some rs[i].2 := by rw [← hls]; simp [hi2]
    refine v_ixLL hl h1 ?_
    walk_at "go"
    have hg : b.ls.getD i [] = rs[i].2 := by
      rw [List.getD_eq_getElem?_getD, hls', Option.getD_some]
    have hln : (b.ls.getD i []).length = 6 := by rw [hg]; exact hl6 _ (List.mem_of_getElem? hls')
    have h5 : (rs[i].2.map sV)[5]? = some (sV ((b.ls.getD i []).getD 5 [])) := by
      rw [hg] at hln ⊢
      rw [List.getElem?_map, List.getD_eq_getElem?_getD, List.getElem?_eq_getElem (by omega)]; rfl
    refine v_ixTT (i := 5) hr' h5 ?_
    exact k _ e1
/-! _law_split: slots _law_room 0 _law_cut_here 1 -/
theorem sc__law_split : FnScope ["_law_room", "_law_cut_here"] ["_law_room", "_law_cut_here"] (defScope (top 95)) := C8.fnScope_by (by decide +kernel)
theorem cal__law_split (T : T w K mg) : Cal P w K mg base 1 "_law_split" spPartsOf := by
  refine calD T.d__law_split T.g__law_split sc__law_split (fun vs H Q E h => ?_) (fun _ _ _ _ _ _ us hl => match us, hl with | [_, _], _ => rfl) (fun cdv A outer s H vs Q E hr h => ?_)
  · obtain ⟨_, _, rfl, _⟩ := h; rfl
  obtain ⟨r, c, rfl, hr4, hc, k⟩ := h
  obtain ⟨n, e, ss, w', rfl⟩ : ∃ a b c d, r = [a, b, c, d] := by
    match r, hr4 with
    | [a, b, c, d], _ => exact ⟨a, b, c, d, rfl⟩
  refine ⟨_, (pss_cons (ps_if (pt_cmpR op_eq (pv 1) pe_str (nomark _)) (pss_one (ps_ret (pe_lst (pa_cons (pv 0) pa_nil)))) pss_nil)
      (pss_cons (ps_if (pt_cmpR op_eq (pe_ix ix_str (pv 1) pe_int (fun _ _ => rfl)) pe_str (nomark _)) (pss_one (ps_ret (pe_lst (pa_cons (pe_op op_catS (pe_op op_catS (pe_ix ix_str (pv 0) pe_int (fun _ _ => rfl)) (pe_ix ix_str (pv 1) pe_int (fun _ _ => rfl))) (pe_slice C8.sl_txt (pv 0) (po_some pe_int) po_none)) (pa_cons (pe_op op_catS (pe_slice C8.sl_txt (pv 0) po_none (po_some pe_int)) (pe_ix ix_str (pv 1) pe_int (fun _ _ => rfl))) pa_nil))))) pss_nil)
      (pss_one (ps_ret (pe_lst (pa_cons (pe_op op_catS (pe_op op_catS (pe_slice C8.sl_txt (pv 0) po_none (po_some pe_int)) (pe_ix ix_str (pv 1) pe_int (fun _ _ => rfl))) (pe_ix ix_str (pv 0) pe_int (fun _ _ => rfl))) (pa_cons (pe_op op_catS (pe_ix ix_str (pv 1) pe_int (fun _ _ => rfl)) (pe_slice C8.sl_txt (pv 0) (po_some pe_int) po_none)) pa_nil))))))), ?_⟩
  walk_at "go"
  rw [show (Str.ofString "").1.toList = [] from rfl]
  rcases hc with rfl | ⟨g, x, y, rfl⟩
  · walk_at "go"
    refine iteT ?_
    walk_at "go"
    exact ⟨szl (by simp), fun p hp => k p _ hp (Ex.nw hp) upd_same⟩
  · refine iteF ?_
    walk_at "go"
    refine v_ixSS (by simp) at0 ?_
    walk_at "go"
    rw [show (Str.ofString "|").1.toList = [124] from rfl]
    have sl : ∀ {lo hi : Option Int} {z : List Nat} {H : Hp} {Q : VK}, Txt.slice (S [n, e, ss, w']) lo hi = S z → Q (.str (S z)) H → C8.rSlX (.str (S [n, e, ss, w'])) lo hi H Q := fun h q => ⟨_, rfl, by rw [S_len, sizeLine_eq]; simp, by rw [h]; exact q⟩
    by_cases hg : g = 124
    · rw [show partsL [n, e, ss, w'] [g, x, y] = [[n, x, ss, w'], [n, e, ss, y]] from if_pos hg] at k
      rw [show decide ([g] = [124]) = true from by simp [hg]]
      walk_at "go"
      refine v_ixSS (by simp) at0 ?_
      walk_at "go"
      refine v_ixSS (by simp) (atI_nat (j := 1) rfl) ?_
      refine v_catS (by simp) ?_
      walk_at "go"
      refine sl (z := [ss, w']) (by rw [SX.slice_from (a := [n, e, ss, w']) (by decide)]; rfl) ?_
      refine v_catS (by simp) ?_
      walk_at "go"
      refine sl (z := [n, e, ss]) (by rw [SX.slice_to (a := [n, e, ss, w']) (by decide)]; rfl) ?_
      walk_at "go"
      refine v_ixSS (by simp) (atI_nat (j := 2) rfl) ?_
      refine v_catS (by simp) ?_
      walk_at "go"
      exact ⟨szl (show 2 ≤ 10000000 by decide), fun q hq => k q _ hq (Ex.nw hq) upd_same⟩
    · rw [show partsL [n, e, ss, w'] [g, x, y] = [[n, e, x, w'], [y, e, ss, w']] from if_neg hg] at k
      rw [show decide ([g] = [124]) = false from by simp [hg]]
      walk_at "go"
      refine sl (z := [n, e]) (by rw [SX.slice_to (a := [n, e, ss, w']) (by decide)]; rfl) ?_
      walk_at "go"
      refine v_ixSS (by simp) (atI_nat (j := 1) rfl) ?_
      refine v_catS (by simp) ?_
      walk_at "go"
      refine v_ixSS (by simp) (atI_nat (j := 3) rfl) ?_
      refine v_catS (by simp) ?_
      walk_at "go"
      refine v_ixSS (by simp) (atI_nat (j := 2) rfl) ?_
      walk_at "go"
      refine sl (z := [e, ss, w']) (by rw [SX.slice_from (a := [n, e, ss, w']) (by decide)]; rfl) ?_
      refine v_catS (by simp) ?_
      walk_at "go"
      exact ⟨szl (show 2 ≤ 10000000 by decide), fun q hq => k q _ hq (Ex.nw hq) upd_same⟩
def spLParts : Sp := fun vs H Q _ => ∃ (l s : Addr) (b : Bk) (r : Tx) (c : Nat), vs = [.ref s, sV r, sV [c]] ∧ HSpec H l s b ∧ BkOk b ∧ r.length = 4 ∧
  ∀ p H', H p = none → Ex H H' → H' p = some (.lst ((b.parts r c).map sV)) → Q (.ref p) H'
/-! _law_parts: slots _law_spec 0 _law_room 1 _law_cutter 2 -/
theorem sc__law_parts : FnScope ["_law_spec", "_law_room", "_law_cutter"] ["_law_spec", "_law_room", "_law_cutter"] (defScope (top 96)) := C8.fnScope_by (by decide +kernel)
theorem cal__law_parts (T : T w K mg) : Cal P w K mg base 4 "_law_parts" spLParts := by
  refine calD T.d__law_parts T.g__law_parts sc__law_parts (fun vs H Q E h => ?_) (fun _ _ _ _ _ _ us hl => match us, hl with | [_, _, _], _ => rfl) (fun cdv A outer s H vs Q E hr h => ?_)
  · obtain ⟨_, _, _, _, _, rfl, _⟩ := h; rfl
  obtain ⟨l, s', b, r, c, rfl, hs, bo, hr4, k⟩ := h
  refine ⟨_, (pss_one (ps_ret (pe_cl (cal__law_split T) hr (by decide) rfl (pa_cons (pv 1) (pa_cons (pe_cl (cal__law_cut T) hr (by decide) rfl (pa_cons (pv 0) (pa_cons (pv 1) (pa_cons (pv 2) pa_nil)))) pa_nil))))), ?_⟩
  walk_at "go"
  refine ⟨l, s', b, r, c, rfl, hs, bo, hr4, fun H1 e1 => ?_⟩
  walk_at "go"
  refine ⟨r, b.cut r c, rfl, hr4, ?_, fun p H' hp e2 h2 => ?_⟩
  · rcases cut_ok bo r c with h | ⟨g, x, y, h, _⟩
    · exact .inl h
    · exact .inr ⟨g, x, y, h⟩
  · exact k p H' (e1.none hp) (e1.t e2) h2
end L2.FW
end
section
set_option maxRecDepth 100000
set_option maxHeartbeats 4000000
/-! The law's texts of lines and books. -/
namespace L2.FW
open PySem PySem.Spec PyProof.Rows Fw
variable {P : Program} {w : World} {K : PySem.W.Frag} {mg : Str → Option Value} {base : Heap}
local macro_rules | `(tactic| walk_at "go1") => `(tactic| first
  | ((with_reducible apply v_var); exact rfl)
  | ((with_reducible apply s_aug); exact rfl)
  | with_reducible first
    | refine v_c ?_ | refine v_cons ?_ | refine v_nil ?_ | refine v_op ?_ | refine v_cb ?_ | refine v_call ?_ | refine v_bl ?_ | refine v_yes ?_
    | refine s_seq ?_ | refine s_ret ?_ | refine s_if ?_ | refine s_asg ?_ | refine g_name ?_ | refine v_test ?_ | refine v_tB ?_
    | refine v_rI0 ?_ | refine v_eqI ?_ | refine v_neI ?_ | refine v_eqS ?_ | refine v_neS ?_ | refine v_int1 ?_ | refine v_bool1 ?_ | refine v_abs ?_ | refine v_isN ?_ | refine v_notN ?_ | refine v_nsign ?_
    | refine v_andV ?_ | refine v_orV ?_ | refine v_notV ?_ | refine v_and ?_ | refine v_or ?_ | refine v_not ?_
    | refine v_if ?_ | refine v_tup ?_ | refine v_lst ?_ | refine v_sl ?_ | refine v_part ?_ | refine v_nopart ?_ | refine v_int ?_ | refine v_dget ?_ | refine v_din ?_ | refine v_dnin ?_
    | refine v_fld ?_ | refine v_meth ?_ | refine v_bm ?_ | refine v_m1 ?_ | refine v_strE ?_ | refine v_un ?_ | refine v_chain ?_ | refine s_next ?_ | refine s_drop ?_ | refine s_retN ?_ | refine s_par ?_ | refine s_par3 ?_
    | refine s_fld ?_ | refine s_dput ?_ | refine s_ddel ?_ | refine g_nil ?_ | refine g_cons ?_ | refine iteT ?_ | refine iteF ?_ | refine iteNT ?_ | refine iteNF ?_
    | refine isi_ss ?_ | refine isi_ii ?_ | refine isi_ib ?_ | refine v_lc ?_ | refine i_str ?_ | refine v_str ?_ | refine i_list ?_ | refine i_zipS ?_ | refine i_zipS3 ?_ | refine i_enumS ?_ | refine i_enum ?_ | refine i_tup ?_ | refine i_rng ?_ | refine s_for ?_ | refine v_star ?_ | refine v_makeR ?_ | refine v_make ?_ | refine v_cval ?_ | refine v_sign ?_)
local macro_rules | `(tactic| walk_at "go") => `(tactic| repeat walk_at "go1")
set_option pp.maxSteps 1200
theorem part_len {l p : Tx} (h : PartOk l p) : p.length ≤ l.length + 1 := by
  rcases h with rfl | ⟨_, h2, h3⟩
  · simp
  · have := nodup_le (l := p) (m := l) (by rw [List.nodup_iff_pairwise_ne]; exact h2.imp fun {a b} h => by omega) h3
    omega
theorem line_len {b : Bk} (bo : BkOk b) {ln : List Tx} (h : ln ∈ b.ls) : ln.length = 6 ∧ ∀ q ∈ ln, q.length ≤ 10 := by
  obtain ⟨p0, p1, p2, p3, k, u, rfl, h0, h1, h2, h3, hk, hu⟩ := bo.ok ln h
  have f := bo.fc.len
  have c := bo.ct.len
  have a0 := part_len h0
  have a1 := part_len h1
  have a2 := part_len h2
  have a3 := part_len h3
  have a4 := part_len hk
  have a5 : u.length ≤ 3 := by
    rcases hu with rfl | ⟨g, x, y, rfl, _⟩ <;> simp
  refine ⟨rfl, fun q hq => ?_⟩
  simp only [List.mem_cons, List.not_mem_nil, or_false] at hq
  rcases hq with rfl | rfl | rfl | rfl | rfl | rfl <;> omega
def spLineText : Sp := fun vs H Q _ => ∃ (t : Addr) (ln : List Tx), vs = [.ref t] ∧ H t = some (.tup (ln.map sV)) ∧ ln.length = 6 ∧ (∀ q ∈ ln, q.length ≤ 10) ∧ ∀ H', Ex H H' → Q (sV (rowT ln)) H'
/-! _law_line_text: slots _law_line 0 -/
theorem sc__law_line_text : FnScope ["_law_line"] ["_law_line"] (defScope (top 89)) := C8.fnScope_by (by decide +kernel)
theorem cal__law_line_text (T : T w K mg) : Cal P w K mg base 1 "_law_line_text" spLineText := by
  refine calD T.d__law_line_text T.g__law_line_text sc__law_line_text (fun vs H Q E h => ?_) (fun _ _ _ _ _ _ us hl => match us, hl with | [_], _ => rfl) (fun cdv A outer s H vs Q E hr h => ?_)
  · obtain ⟨_, _, rfl, _⟩ := h; rfl
  obtain ⟨t, ln, rfl, ht, hl, hq, k⟩ := h
  obtain ⟨w0, w1, w2, w3, w4, w5, rfl⟩ : ∃ a b c d e f, ln = [a, b, c, d, e, f] := by
    match ln, hl with
    | [a, b, c, d, e, f], _ => exact ⟨_, _, _, _, _, _, rfl⟩
  refine ⟨_, (pss_one (ps_ret (pe_join pe_str (pe_op op_cat (pe_callTy cl_listOf (by rfl) T.f_list (by decide +kernel) (pa_cons (pe_slice sl_tup (pv 0) po_none (po_some pe_int)) pa_nil)) (pe_lst (pa_cons (pe_ifExp (pt_cmpR op_ne (pe_ix ix_tup (pv 0) pe_int (fun _ _ => rfl)) pe_str (nomark _)) (pe_ix ix_tup (pv 0) pe_int (fun _ _ => rfl)) pe_str) pa_nil)))))), ?_⟩
  walk_at "go"
  refine v_slT ht (by simp [HT.sIx]) fun p hp => ?_
  generalize hH1 : upd H p _ = H1
  have e1 : Ex H H1 := hH1 ▸ Ex.nw hp
  have hp1 : H1 p = some (.tup [sV w0, sV w1, sV w2, sV w3, sV w4]) := by rw [← hH1, upd_same]; rfl
  walk_at "go"
  refine ⟨p, _, rfl, .inr (ex_t hp1), fun l hl => ?_⟩
  generalize hH2 : upd H1 l _ = H2
  have e2 : Ex H1 H2 := hH2 ▸ Ex.nw hl
  have hl2 : H2 l = some (.lst [sV w0, sV w1, sV w2, sV w3, sV w4]) := hH2 ▸ upd_same
  walk_at "go"
  refine v_ixTT (i := 5) ((e1.t e2) _ _ ht) rfl ?_
  walk_at "go"
  have q0 := hq w0 (by simp)
  have q1 := hq w1 (by simp)
  have q2 := hq w2 (by simp)
  have q3 := hq w3 (by simp)
  have q4 := hq w4 (by simp)
  have q5 := hq w5 (by simp)
  rw [show (Str.ofString "").1.toList = [] from rfl]
  by_cases h5 : w5 = []
  · refine itNT h5 ?_
    walk_at "go"
    refine ⟨szl (by simp), fun p2 hp2 => ?_⟩
    generalize hH3 : upd H2 p2 _ = H3
    have e3 : Ex H2 H3 := hH3 ▸ Ex.nw hp2
    have hp3 : H3 p2 = some (.lst [sV [110, 111, 110, 101]]) := hH3 ▸ upd_same
    refine ⟨l, p2, _, _, rfl, rfl, e3 _ _ hl2, hp3, szl (by simp), fun p4 hp4 => ?_⟩
    generalize hH4 : upd H3 p4 _ = H4
    have e4 : Ex H3 H4 := hH4 ▸ Ex.nw hp4
    have hp44 : H4 p4 = some (.lst [sV w0, sV w1, sV w2, sV w3, sV w4, sV [110, 111, 110, 101]]) := hH4 ▸ upd_same
    refine ⟨S [32], p4, [w0, w1, w2, w3, w4, [110, 111, 110, 101]].map S, rfl, rfl, .inl (ex_l hp44), ?_, ?_⟩
    · simp only [List.map_cons, List.map_nil, List.sum_cons, List.sum_nil, List.length_cons, List.length_nil, S_len]
      omega
    · rw [SX.join_S]
      have : rowT [w0, w1, w2, w3, w4, w5] = TL.joinL [32] [w0, w1, w2, w3, w4, [110, 111, 110, 101]] := by simp [rowT, encL, encU, h5]
      rw [← this]
      exact k _ (e1.t (e2.t (e3.t e4)))
  · refine itNF h5 ?_
    walk_at "go"
    refine v_ixTT (i := 5) ((e1.t e2) _ _ ht) rfl ?_
    walk_at "go"
    refine ⟨szl (by simp), fun p2 hp2 => ?_⟩
    generalize hH3 : upd H2 p2 _ = H3
    have e3 : Ex H2 H3 := hH3 ▸ Ex.nw hp2
    have hp3 : H3 p2 = some (.lst [sV w5]) := hH3 ▸ upd_same
    refine ⟨l, p2, _, _, rfl, rfl, e3 _ _ hl2, hp3, szl (by simp), fun p4 hp4 => ?_⟩
    generalize hH4 : upd H3 p4 _ = H4
    have e4 : Ex H3 H4 := hH4 ▸ Ex.nw hp4
    have hp44 : H4 p4 = some (.lst [sV w0, sV w1, sV w2, sV w3, sV w4, sV w5]) := hH4 ▸ upd_same
    refine ⟨S [32], p4, [w0, w1, w2, w3, w4, w5].map S, rfl, rfl, .inl (ex_l hp44), ?_, ?_⟩
    · simp only [List.map_cons, List.map_nil, List.sum_cons, List.sum_nil, List.length_cons, List.length_nil, S_len]
      omega
    · rw [SX.join_S]
      have : rowT [w0, w1, w2, w3, w4, w5] = TL.joinL [32] [w0, w1, w2, w3, w4, w5] := by simp [rowT, encL, encU, h5]
      rw [← this]
      exact k _ (e1.t (e2.t (e3.t e4)))
theorem row_len {ln : List Tx} (h : ln.length = 6) (hq : ∀ q ∈ ln, q.length ≤ 10) : (rowT ln).length ≤ 70 := by
  obtain ⟨w0, w1, w2, w3, w4, w5, rfl⟩ : ∃ a b c d e f, ln = [a, b, c, d, e, f] := by
    match ln, h with
    | [a, b, c, d, e, f], _ => exact ⟨_, _, _, _, _, _, rfl⟩
  have q0 := hq w0 (by simp)
  have q1 := hq w1 (by simp)
  have q2 := hq w2 (by simp)
  have q3 := hq w3 (by simp)
  have q4 := hq w4 (by simp)
  have q5 := hq w5 (by simp)
  have q6 : (encU w5).length ≤ 10 := by
    unfold encU
    split
    · simp
    · exact q5
  simp only [rowT, encL, TL.joinL, List.take, List.cons_append, List.nil_append, List.getD_cons_succ, List.getD_cons_zero, List.length_append, List.length_cons, List.length_nil]
  omega
theorem sum_len {n : Nat} : ∀ {l : List Tx}, (∀ q ∈ l, q.length ≤ n) → (l.map (fun x => x.length)).sum ≤ l.length * n
  | [], _ => by simp
  | q :: l, h => by
    have h1 := h q List.mem_cons_self
    have h2 := sum_len (l := l) fun x m => h x (List.mem_cons_of_mem _ m)
    rw [List.map_cons, List.sum_cons, List.length_cons, Nat.succ_mul]
    omega
theorem joinL_len {n c : Nat} : ∀ {l : List Tx}, (∀ q ∈ l, q.length ≤ n) → (TL.joinL [c] l).length ≤ l.length * (n + 1)
  | [], _ => by simp [TL.joinL]
  | [q], h => by
    have := h q List.mem_cons_self
    simp [TL.joinL]
    omega
  | q :: r :: l, h => by
    have h1 := h q List.mem_cons_self
    have h2 := joinL_len (c := c) (l := r :: l) fun x m => h x (List.mem_cons_of_mem _ m)
    show (q ++ ([c] ++ TL.joinL [c] (r :: l))).length ≤ _
    rw [List.length_append, List.length_append, List.length_cons (a := q), Nat.succ_mul]
    simp only [List.length_cons, List.length_nil] at h2 ⊢
    omega
def spBookText : Sp := fun vs H Q _ => ∃ (l s : Addr) (b : Bk), vs = [.ref s] ∧ HSpec H l s b ∧ BkOk b ∧ ∀ H', Ex H H' → Q (sV (bookT b)) H'
/-! _law_book_text: slots _law_spec 0 _law_line 1 -/
theorem sc__law_book_text : FnScope ["_law_spec", "_law_line"] ["_law_spec"] (defScope (top 90)) := C8.fnScope_by (by decide +kernel)
theorem cal__law_book_text (T : T w K mg) : Cal P w K mg base 2 "_law_book_text" spBookText := by
  refine calD T.d__law_book_text T.g__law_book_text sc__law_book_text (fun vs H Q E h => ?_) (fun _ _ _ _ _ _ us hl => match us, hl with | [_], _ => rfl) (fun cdv A outer s H vs Q E hr h => ?_)
  · obtain ⟨_, _, _, rfl, _⟩ := h; rfl
  obtain ⟨lb, s', b, rfl, hs, bo, k⟩ := h
  obtain ⟨l, rs, hs1, hl, hrs, hls, _⟩ := hs
  refine ⟨_, (pss_one (ps_ret (pe_join pe_str (pe_op op_cat (pe_lst (pa_cons (pe_op op_catS (pe_op op_catS (pe_ix ix_list (pv 0) pe_int (fun _ _ => rfl)) pe_str) (pe_ix ix_list (pv 0) pe_int (fun _ _ => rfl))) pa_nil)) (pe_lc (own := [("_law_line", 1)]) (g := gName 1) (by rfl) sc__law_book_text.nd (pi_list (pe_ix ix_list (pv 0) pe_int (fun _ _ => rfl))) (blkOk_by (own := [("_law_line", 1)]) (N := ["_law_spec", "_law_line"]) (sc := defScope (top 90)) (by decide +kernel)) (fun _ _ _ _ _ => (pg_name (i := 1) sc__law_book_text.nd rfl (Or.inl rfl))) (fun _ _ _ _ _ => pts_nil) (fun _ _ _ _ _ => (pe_cl (cal__law_line_text T) hr (by decide) rfl (pa_cons (pv 1) pa_nil)))))))), ?_⟩
  walk_at "go"
  refine v_ixLL (i := 0) hs1 rfl ?_
  walk_at "go"
  have fl := bo.fc.len
  have cl := bo.ct.len
  refine v_catS (b := [32]) (by simp; omega) ?_
  walk_at "go"
  refine v_ixLL (i := 1) hs1 rfl ?_
  refine v_catS (by simp; omega) ?_
  walk_at "go"
  refine ⟨szl (by simp), fun p hp => ?_⟩
  have hhd : b.fc ++ [32] ++ b.ct = headT b := by simp [headT]
  rw [hhd]
  generalize hH1 : upd H p _ = H1
  have e1 : Ex H H1 := hH1 ▸ Ex.nw hp
  have hp1 : H1 p = some (.lst [sV (headT b)]) := hH1 ▸ upd_same
  have hhl : (headT b).length ≤ 20 := by rw [← hhd]; simp; omega
  walk_at "go"
  refine v_ixLL (i := 2) (e1 _ _ hs1) rfl ?_
  refine ⟨l, rfl, ⟨_, ex_l (e1 _ _ hl)⟩, ?_⟩
  have lsl : rs.length = b.ls.length := by rw [← hls, List.length_map]
  have lb8 := bo.len
  refine lc_lstR (ex_l (e1 _ _ hl)) (by rw [List.length_map]; omega) (fun i y H => ∃ q, (b.ls.map rowT)[i]? = some q ∧ y = sV q) (fun D i y H H' zs hD b h => h) (fun i x H2 Kt Kn hi e kt => ?_) fun D H2 ys hD e hl2 hlen hr2 => ?_
  · rw [List.getElem?_map] at hi
    obtain ⟨r, hri, rfl⟩ := Option.map_eq_some_iff.mp hi
    have hm := List.mem_of_getElem? hri
    have hls' : b.ls[i]? = some r.2 := by rw [← hls, List.getElem?_map, hri]; rfl
    obtain ⟨g1, g2⟩ := line_len bo (List.mem_of_getElem? hls')
    walk_at "go"
    refine ⟨rfl, ?_⟩
    walk_at "go"
    refine ⟨r.1, r.2, rfl, (e1.t e) _ _ (hrs r hm), g1, g2, fun H3 e3 => ?_⟩
    exact kt _ _ e3 ⟨rowT r.2, by rw [List.getElem?_map, hls']; rfl, rfl⟩
  · have hys : ys = (b.ls.map rowT).map sV := map_of (l := b.ls.map rowT) (F := sV) (by rw [hlen, List.length_map, List.length_map]; exact lsl) hr2
    subst hys
    refine ⟨p, D, _, _, rfl, rfl, e _ _ hp1, hl2, szl (by simp; omega), fun p4 hp4 => ?_⟩
    generalize hH4 : upd H2 p4 _ = H4
    have e4 : Ex H2 H4 := hH4 ▸ Ex.nw hp4
    have hp44 : H4 p4 = some (.lst (((headT b :: b.ls.map rowT).map S).map V.str)) := by rw [← hH4, upd_same]; simp
    have rowl : ∀ q ∈ b.ls.map rowT, q.length ≤ 70 := fun q hq => by
      obtain ⟨ln, hln, rfl⟩ := List.mem_map.mp hq
      exact row_len (line_len bo hln).1 (line_len bo hln).2
    refine ⟨S [10], p4, (headT b :: b.ls.map rowT).map S, rfl, rfl, .inl (ex_l hp44), ?_, ?_⟩
    · have h1 := sum_len (n := 70) (l := headT b :: b.ls.map rowT) (fun q hq => by
        rcases List.mem_cons.mp hq with rfl | hq
        · omega
        · exact rowl q hq)
      have h2 : ((headT b :: b.ls.map rowT).map S).map (fun x => x.length) = (headT b :: b.ls.map rowT).map (fun x => x.length) := by
        rw [List.map_map]
        apply List.map_congr_left
        intro q _
        exact S_len q
      rw [h2, List.length_map, S_len]
      have h3 : (headT b :: b.ls.map rowT).length ≤ 9 := by simp; omega
      have h4 := Nat.mul_le_mul_right 70 h3
      simp only [List.length_cons, List.length_nil] at h1 h3 h4 ⊢
      omega
    · rw [SX.join_S]
      exact k _ (e1.t (e.t e4))
def spLaBook (K : PySem.W.Frag) : Sp := fun vs H Q _ => ∃ (l s : Addr) (b : Bk), vs = [.ref s] ∧ HSpec H l s b ∧ BkOk b ∧ ∀ a H', H a = none → Ex H H' → HBook K H' a b → Q (.ref a) H'
/-! _law_book: slots _law_spec 0 -/
theorem sc__law_book : FnScope ["_law_spec"] ["_law_spec"] (defScope (top 91)) := C8.fnScope_by (by decide +kernel)
theorem cal__law_book (T : T w K mg) : Cal P w K mg base 7 "_law_book" (spLaBook K) := by
  refine calD T.d__law_book T.g__law_book sc__law_book (fun vs H Q E h => ?_) (fun _ _ _ _ _ _ us hl => match us, hl with | [_], _ => rfl) (fun cdv A outer s H vs Q E hr h => ?_)
  · obtain ⟨_, _, _, rfl, _⟩ := h; rfl
  obtain ⟨l, s', b, rfl, hs, bo, k⟩ := h
  obtain ⟨fd, F, bd⟩ := ok_read (P := P) (base := base) T
  refine ⟨_, (pss_one (ps_ret (pe_stat (C8.pe_gc rfl T.v_Book) T.stat F bd hr (by decide) (pa_cons (pe_cl (cal__law_book_text T) hr (by decide) rfl (pa_cons (pv 0) pa_nil)) pa_nil)))), ?_⟩
  walk_at "go"
  refine ⟨rfl, ?_⟩
  walk_at "go"
  refine ⟨l, s', b, rfl, hs, bo, fun H1 e1 => ?_⟩
  walk_at "go"
  have rowl : ∀ ln ∈ b.ls, (rowT ln).length ≤ 70 := fun ln hln => row_len (line_len bo hln).1 (line_len bo hln).2
  refine ⟨b, rfl, bo, ?_, fun ln hln => by have := rowl ln hln; omega, fun a H2 ha e2 h2 => k a H2 (e1.none ha) (e1.t e2) h2⟩
  have fl := bo.fc.len
  have cl := bo.ct.len
  have lb8 := bo.len
  have h0 := joinL_len (n := 70) (c := 10) (l := headT b :: b.ls.map rowT) (fun q hq => by
    rcases List.mem_cons.mp hq with rfl | hq
    · simp [headT]; omega
    · obtain ⟨ln, hln, rfl⟩ := List.mem_map.mp hq
      exact rowl ln hln)
  have h3 : (headT b :: b.ls.map rowT).length ≤ 9 := by simp; omega
  have h4 := Nat.mul_le_mul_right 71 h3
  unfold bookT
  omega
end L2.FW
end
section
set_option maxRecDepth 100000
set_option maxHeartbeats 4000000
set_option exponentiation.threshold 9000
/-! The law's fractions. -/
namespace L2.FW
open PySem PySem.Spec PyProof.Rows Fw
variable {P : Program} {w : World} {K : PySem.W.Frag} {mg : Str → Option Value} {base : Heap}
local macro_rules | `(tactic| walk_at "go1") => `(tactic| first
  | ((with_reducible apply v_var); exact rfl)
  | ((with_reducible apply s_aug); exact rfl)
  | with_reducible first
    | refine v_c ?_ | refine v_cons ?_ | refine v_nil ?_ | refine v_op ?_ | refine v_cb ?_ | refine v_call ?_ | refine v_bl ?_ | refine v_yes ?_
    | refine s_seq ?_ | refine s_ret ?_ | refine s_if ?_ | refine s_asg ?_ | refine g_name ?_ | refine v_test ?_ | refine v_tB ?_
    | refine v_rI0 ?_ | refine v_eqI ?_ | refine v_neI ?_ | refine v_eqS ?_ | refine v_neS ?_ | refine v_int1 ?_ | refine v_bool1 ?_ | refine v_abs ?_ | refine v_isN ?_ | refine v_notN ?_ | refine v_nsign ?_
    | refine v_andV ?_ | refine v_orV ?_ | refine v_notV ?_ | refine v_and ?_ | refine v_or ?_ | refine v_not ?_
    | refine v_if ?_ | refine v_tup ?_ | refine v_lst ?_ | refine v_sl ?_ | refine v_part ?_ | refine v_nopart ?_ | refine v_int ?_ | refine v_dget ?_ | refine v_din ?_ | refine v_dnin ?_
    | refine v_fld ?_ | refine v_meth ?_ | refine v_bm ?_ | refine v_m1 ?_ | refine v_strE ?_ | refine v_un ?_ | refine v_chain ?_ | refine s_next ?_ | refine s_drop ?_ | refine s_retN ?_ | refine s_par ?_ | refine s_par3 ?_
    | refine s_fld ?_ | refine s_dput ?_ | refine s_ddel ?_ | refine g_nil ?_ | refine g_cons ?_ | refine iteT ?_ | refine iteF ?_ | refine iteNT ?_ | refine iteNF ?_
    | refine isi_ss ?_ | refine isi_ii ?_ | refine isi_ib ?_ | refine v_lc ?_ | refine i_str ?_ | refine v_str ?_ | refine i_list ?_ | refine i_zipS ?_ | refine i_zipS3 ?_ | refine i_enumS ?_ | refine i_enum ?_ | refine i_tup ?_ | refine i_rng ?_ | refine s_for ?_ | refine v_star ?_ | refine v_makeR ?_ | refine v_make ?_ | refine v_cval ?_ | refine v_sign ?_)
local macro_rules | `(tactic| walk_at "go") => `(tactic| repeat walk_at "go1")
set_option pp.maxSteps 1200
theorem abs_nat (x : Int) : (if x < 0 then -x else x) = ((x.natAbs : Nat) : Int) := by split <;> omega
theorem mod_half {a b : Nat} (hb : 0 < b) (hab : b < a) : 2 * (b * (a % b)) < a * b := by
  have h1 := Nat.mod_lt a hb
  have h2 := Nat.div_add_mod a b
  have h3 : 1 ≤ a / b := (Nat.one_le_div_iff hb).mpr (by omega)
  have h4 : b * 1 ≤ b * (a / b) := Nat.mul_le_mul_left b h3
  have h5 : 2 * (a % b) < a := by omega
  have h6 := Nat.mul_lt_mul_of_pos_right h5 hb
  rw [Nat.mul_comm b (a % b), ← Nat.mul_assoc]
  exact h6
def spTop : Sp := fun vs H Q _ => ∃ (x y : Int), vs = [.int x, .int y] ∧ x.natAbs < 2 ^ 1990 ∧ y.natAbs < 2 ^ 1990 ∧ Q (.int (Nat.gcd x.natAbs y.natAbs : Nat)) H
/-! _law_top: slots _law_one 0 _law_other 1 _law_turn 2 -/
theorem sc__law_top : FnScope ["_law_one", "_law_other", "_law_turn"] ["_law_one", "_law_other"] (defScope (top 97)) := C8.fnScope_by (by decide +kernel)
theorem cal__law_top (T : T w K mg) : Cal P w K mg base 1 "_law_top" spTop := by
  refine calD T.d__law_top T.g__law_top sc__law_top (fun vs H Q E h => ?_) (fun _ _ _ _ _ _ us hl => match us, hl with | [_, _], _ => rfl) (fun cdv A outer s H vs Q E hr h => ?_)
  · obtain ⟨_, _, rfl, _⟩ := h; rfl
  obtain ⟨x, y, rfl, hx, hy, k⟩ := h
  refine ⟨_, (pss_cons (ps_par (i := 0) (j := 1) (by rfl) sc__law_top.nd rfl rfl (by decide) rfl rfl (pa_cons (pe_callB cl_abs (by rfl) T.f_abs (by decide +kernel) (pa_cons (pv 0) pa_nil)) (pa_cons (pe_callB cl_abs (by rfl) T.f_abs (by decide +kernel) (pa_cons (pv 1) pa_nil)) pa_nil)) (by rfl))
      (pss_cons (ps_for PassesOwn.never rfl (pi_range1 rfl T.f_range (pa_cons pe_int pa_nil)) (pg_name (i := 2) sc__law_top.nd rfl (Or.inl rfl)) (pss_cons (ps_if (pt_cmpR op_eq (pv 1) pe_int (nomark _)) (pss_one (ps_ret (pv 0))) pss_nil)
      (pss_one (ps_par (i := 0) (j := 1) (by rfl) sc__law_top.nd rfl rfl (by decide) rfl rfl (pa_cons (pv 1) (pa_cons (pe_op op_mod (pe_callTy cl_int1 (by rfl) T.f_int (by decide +kernel) (pa_cons (pv 0) pa_nil)) (pv 1)) pa_nil)) (by rfl)))))
      (pss_one (ps_ret (pv 0))))), ?_⟩
  walk_at "go"
  refine ⟨_, _, rfl, ?_⟩
  rw [abs_nat, abs_nat]
  walk_at "go"
  refine ⟨4000, rfl, by decide, by decide, ?_⟩
  generalize x.natAbs = a at hx k
  generalize y.natAbs = b at hy k
  refine for_it (walk_range (lo := 0) (n := 4000)) (fun i σ H2 => ∃ (c d : Nat) (u : Option V), σ = [some (.int (c : Nat)), some (.int (d : Nat)), u] ∧ H2 = H ∧ Nat.gcd c d = Nat.gcd a b ∧ (i = 0 → c < 2 ^ 1990 ∧ d < 2 ^ 1990) ∧ (1 ≤ i → d < c ∧ c * d < 2 ^ (3981 - i))) ⟨a, b, _, rfl, rfl, rfl, fun _ => ⟨hx, hy⟩, fun h => by omega⟩ (fun i σ H2 hi q => trivial) ?_ ?_
  · rintro i x' σ H2 H3 hi ⟨c, d, u, rfl, rfl, hg, h0, h1⟩ ⟨rfl, rfl⟩
    walk_at "go"
    by_cases hd : d = 0
    · subst hd
      refine itT rfl ?_
      walk_at "go"
      rw [← hg, Nat.gcd_zero_right] at k
      exact k
    · refine itF (by omega) ?_
      walk_at "go"
      refine v_rI (by show (0 : Int) < (d : Nat); omega) ?_
      have hd0 : 0 < d := by omega
      have em : ((c : Nat) : Int) % ((d : Nat) : Int) = ((c % d : Nat) : Int) := by omega
      rw [em]
      walk_at "go"
      have hm := Nat.mod_lt c hd0
      refine ⟨_, _, rfl, d, c % d, _, rfl, rfl, ?_, fun h => by omega, fun _ => ⟨hm, ?_⟩⟩
      · rw [Nat.gcd_comm d, ← Nat.gcd_rec, Nat.gcd_comm]
        exact hg
      · by_cases hi0 : i = 0
        · subst hi0
          obtain ⟨a1, a2⟩ := h0 rfl
          have h2 : d * (c % d) < 2 ^ 1990 * 2 ^ 1990 := Nat.mul_lt_mul'' a2 (by omega)
          rw [← Nat.pow_add] at h2
          exact h2
        · obtain ⟨b1, b2⟩ := h1 (by omega)
          have h2 := mod_half hd0 b1
          have h3 : 1 ≤ c * d := Nat.mul_pos (by omega) hd0
          have h4 : 3981 - i ≠ 0 := fun h => by rw [h] at b2; omega
          have h5 : 3981 - i = (3981 - (i + 1)) + 1 := by omega
          rw [h5, Nat.pow_succ] at b2
          omega
  · rintro σ H2 ⟨c, d, u, rfl, rfl, hg, h0, h1⟩
    obtain ⟨b1, b2⟩ := h1 (by omega)
    have hd : d = 0 := by
      have b2 : c * d < 1 := b2
      by_cases hd : d = 0
      · exact hd
      · have := Nat.mul_pos (show 0 < c by omega) (show 0 < d by omega)
        omega
    subst hd
    walk_at "go"
    rw [← hg, Nat.gcd_zero_right] at k
    exact k
def HPr (H : Hp) (p : Addr) (q : Rat) : Prop := H p = some (.tup [.int q.num, .int (q.den : Int)])
theorem HPr.ex {H H' : Hp} {p : Addr} {q : Rat} (e : Ex H H') (h : HPr H p q) : HPr H' p q := e _ _ h
def spLow : Sp := fun vs H Q _ => ∃ (t b : Int), vs = [.int t, .int b] ∧ 0 < b ∧ t.natAbs < 2 ^ 1990 ∧ b.natAbs < 2 ^ 1990 ∧ ∀ p H', H p = none → Ex H H' → HPr H' p (Rat.divInt t b) → Q (.ref p) H'
/-! _law_low: slots _law_top_here 0 _law_bottom 1 _law_by 2 -/
theorem sc__law_low : FnScope ["_law_top_here", "_law_bottom", "_law_by"] ["_law_top_here", "_law_bottom"] (defScope (top 98)) := C8.fnScope_by (by decide +kernel)
theorem cal__law_low (T : T w K mg) : Cal P w K mg base 2 "_law_low" spLow := by
  refine calD T.d__law_low T.g__law_low sc__law_low (fun vs H Q E h => ?_) (fun _ _ _ _ _ _ us hl => match us, hl with | [_, _], _ => rfl) (fun cdv A outer s H vs Q E hr h => ?_)
  · obtain ⟨_, _, rfl, _⟩ := h; rfl
  obtain ⟨t, b, rfl, hb, ht, hbs, k⟩ := h
  have hg : 0 < Nat.gcd t.natAbs b.natAbs := Nat.gcd_pos_of_pos_right _ (by omega)
  have hgs : Nat.gcd t.natAbs b.natAbs < 2 ^ 8000 := Nat.lt_of_le_of_lt (Nat.le_of_dvd (by omega) (Nat.gcd_dvd_right _ _)) (Nat.lt_trans hbs (Nat.pow_lt_pow_right (by decide) (by decide)))
  obtain ⟨p1, p2⟩ := divInt_parts (t := t) hb
  refine ⟨_, (pss_cons (ps_set (i := 2) sc__law_low.nd rfl (Or.inl rfl) (pe_cl (cal__law_top T) hr (by decide) rfl (pa_cons (pv 0) (pa_cons (pv 1) pa_nil))))
      (pss_cons (ps_if (pt_cmpR op_lt (pv 1) pe_int (nomark _)) (pss_one (ps_set (i := 2) sc__law_low.nd rfl (Or.inl rfl) (pe_op op_sub pe_int (pv 2)))) pss_nil)
      (pss_one (ps_ret (pe_tup (pa_cons (pe_op op_fdivW (pv 0) (pv 2)) (pa_cons (pe_op op_fdivW (pv 1) (pv 2)) pa_nil))))))), ?_⟩
  walk_at "go"
  refine ⟨t, b, rfl, ht, hbs, ?_⟩
  generalize hgg : Nat.gcd t.natAbs b.natAbs = g at hg hgs p1 p2
  have hw : CDivW t (g : Int) := ⟨by omega, by rw [Int.natAbs_natCast]; exact Nat.lt_trans (lg hgs (by decide)) (by decide)⟩
  walk_at "go"
  refine itF (by omega) ?_
  walk_at "go"
  refine v_rI hw ?_
  walk_at "go"
  refine v_rI hw ?_
  walk_at "go"
  refine ⟨szl (by simp), fun p hp => k p _ hp (Ex.nw hp) ?_⟩
  unfold HPr
  rw [upd_same, p1, p2]
/-- an operation on two pairs -/
def spPair2 (f : Int → Int → Int → Int → Int × Int) : Sp := fun vs H Q _ => ∃ (a c : Addr) (n1 d1 n2 d2 : Int), vs = [.ref a, .ref c] ∧ H a = some (.tup [.int n1, .int d1]) ∧ H c = some (.tup [.int n2, .int d2]) ∧ 0 < d1 ∧ 0 < d2 ∧ n1.natAbs < 2 ^ 900 ∧ d1.natAbs < 2 ^ 900 ∧ n2.natAbs < 2 ^ 900 ∧ d2.natAbs < 2 ^ 900 ∧
  ∀ p H', H p = none → Ex H H' → HPr H' p (Rat.divInt (f n1 d1 n2 d2).1 (f n1 d1 n2 d2).2) → Q (.ref p) H'
def addP (n1 d1 n2 d2 : Int) : Int × Int := (n1 * d2 + n2 * d1, d1 * d2)
def timesP (n1 d1 n2 d2 : Int) : Int × Int := (n1 * n2, d1 * d2)
/-! _law_add: slots _law_one 0 _law_other 1 -/
theorem sc__law_add : FnScope ["_law_one", "_law_other"] ["_law_one", "_law_other"] (defScope (top 99)) := C8.fnScope_by (by decide +kernel)
theorem cal__law_add (T : T w K mg) : Cal P w K mg base 3 "_law_add" (spPair2 addP) := by
  refine calD T.d__law_add T.g__law_add sc__law_add (fun vs H Q E h => ?_) (fun _ _ _ _ _ _ us hl => match us, hl with | [_, _], _ => rfl) (fun cdv A outer s H vs Q E hr h => ?_)
  · obtain ⟨_, _, _, _, _, _, rfl, _⟩ := h; rfl
  obtain ⟨a, c, n1, d1, n2, d2, rfl, ha, hc, p1, p2, b1, b2, b3, b4, k⟩ := h
  refine ⟨_, (pss_one (ps_ret (pe_cl (cal__law_low T) hr (by decide) rfl (pa_cons (pe_op op_add (pe_op op_mulW (pe_ix ix_tup (pv 0) pe_int (fun _ _ => rfl)) (pe_ix ix_tup (pv 1) pe_int (fun _ _ => rfl))) (pe_op op_mulW (pe_ix ix_tup (pv 1) pe_int (fun _ _ => rfl)) (pe_ix ix_tup (pv 0) pe_int (fun _ _ => rfl)))) (pa_cons (pe_op op_mulW (pe_ix ix_tup (pv 0) pe_int (fun _ _ => rfl)) (pe_ix ix_tup (pv 1) pe_int (fun _ _ => rfl))) pa_nil))))), ?_⟩
  walk_at "go"
  refine v_ixTT (i := 0) ha rfl ?_
  walk_at "go"
  refine v_ixTT (i := 1) hc rfl ?_
  refine v_rI (mulW b1 b4 (by decide)) ?_
  walk_at "go"
  refine v_ixTT (i := 0) hc rfl ?_
  walk_at "go"
  refine v_ixTT (i := 1) ha rfl ?_
  refine v_rI (mulW b3 b2 (by decide)) ?_
  walk_at "go"
  refine v_ixTT (i := 1) ha rfl ?_
  walk_at "go"
  refine v_ixTT (i := 1) hc rfl ?_
  refine v_rI (mulW b2 b4 (by decide)) ?_
  walk_at "go"
  refine ⟨_, _, rfl, Int.mul_pos p1 p2, ?_, ?_, k⟩
  · exact Nat.lt_of_lt_of_le (add_bd (mul_bd b1 b4) (mul_bd b3 b2)) (Nat.pow_le_pow_right (by decide) (by decide))
  · exact Nat.lt_of_lt_of_le (mul_bd b2 b4) (Nat.pow_le_pow_right (by decide) (by decide))
/-! _law_times: slots _law_one 0 _law_other 1 -/
theorem sc__law_times : FnScope ["_law_one", "_law_other"] ["_law_one", "_law_other"] (defScope (top 100)) := C8.fnScope_by (by decide +kernel)
theorem cal__law_times (T : T w K mg) : Cal P w K mg base 3 "_law_times" (spPair2 timesP) := by
  refine calD T.d__law_times T.g__law_times sc__law_times (fun vs H Q E h => ?_) (fun _ _ _ _ _ _ us hl => match us, hl with | [_, _], _ => rfl) (fun cdv A outer s H vs Q E hr h => ?_)
  · obtain ⟨_, _, _, _, _, _, rfl, _⟩ := h; rfl
  obtain ⟨a, c, n1, d1, n2, d2, rfl, ha, hc, p1, p2, b1, b2, b3, b4, k⟩ := h
  refine ⟨_, (pss_one (ps_ret (pe_cl (cal__law_low T) hr (by decide) rfl (pa_cons (pe_op op_mulW (pe_ix ix_tup (pv 0) pe_int (fun _ _ => rfl)) (pe_ix ix_tup (pv 1) pe_int (fun _ _ => rfl))) (pa_cons (pe_op op_mulW (pe_ix ix_tup (pv 0) pe_int (fun _ _ => rfl)) (pe_ix ix_tup (pv 1) pe_int (fun _ _ => rfl))) pa_nil))))), ?_⟩
  walk_at "go"
  refine v_ixTT (i := 0) ha rfl ?_
  walk_at "go"
  refine v_ixTT (i := 0) hc rfl ?_
  refine v_rI (mulW b1 b3 (by decide)) ?_
  walk_at "go"
  refine v_ixTT (i := 1) ha rfl ?_
  walk_at "go"
  refine v_ixTT (i := 1) hc rfl ?_
  refine v_rI (mulW b2 b4 (by decide)) ?_
  walk_at "go"
  refine ⟨_, _, rfl, Int.mul_pos p1 p2, ?_, ?_, k⟩
  · exact Nat.lt_of_lt_of_le (mul_bd b1 b3) (Nat.pow_le_pow_right (by decide) (by decide))
  · exact Nat.lt_of_lt_of_le (mul_bd b2 b4) (Nat.pow_le_pow_right (by decide) (by decide))
def spOnWay : Sp := fun vs H Q _ => ∃ (a c : Addr) (p q : Rat) (t b : Int), vs = [.ref a, .ref c, .int t, .int b] ∧ HPr H a p ∧ HPr H c q ∧ Bd 300 p ∧ Bd 300 q ∧ 0 < b ∧ b.natAbs < 2 ^ 21 ∧ t.natAbs < 2 ^ 21 ∧
  ∀ x H', H x = none → Ex H H' → HPr H' x (onWay p q t b) → Q (.ref x) H'
/-! _law_on_way: slots _law_low_here 0 _law_high 1 _law_top_here 2 _law_bottom 3 -/
theorem sc__law_on_way : FnScope ["_law_low_here", "_law_high", "_law_top_here", "_law_bottom"] ["_law_low_here", "_law_high", "_law_top_here", "_law_bottom"] (defScope (top 101)) := C8.fnScope_by (by decide +kernel)
theorem cal__law_on_way (T : T w K mg) : Cal P w K mg base 4 "_law_on_way" spOnWay := by
  refine calD T.d__law_on_way T.g__law_on_way sc__law_on_way (fun vs H Q E h => ?_) (fun _ _ _ _ _ _ us hl => match us, hl with | [_, _, _, _], _ => rfl) (fun cdv A outer s H vs Q E hr h => ?_)
  · obtain ⟨_, _, _, _, _, _, rfl, _⟩ := h; rfl
  obtain ⟨a, c, p, q, t, b, rfl, ha, hc, bp, bq, hb, hbs, hts, k⟩ := h
  refine ⟨_, (pss_one (ps_ret (pe_cl (cal__law_add T) hr (by decide) rfl (pa_cons (pv 0) (pa_cons (pe_cl (cal__law_times T) hr (by decide) rfl (pa_cons (pe_cl (cal__law_add T) hr (by decide) rfl (pa_cons (pv 1) (pa_cons (pe_tup (pa_cons (pe_op op_sub pe_int (pe_ix ix_tup (pv 0) pe_int (fun _ _ => rfl))) (pa_cons (pe_ix ix_tup (pv 0) pe_int (fun _ _ => rfl)) pa_nil))) pa_nil))) (pa_cons (pe_tup (pa_cons (pv 2) (pa_cons (pv 3) pa_nil))) pa_nil))) pa_nil))))), ?_⟩
  walk_at "go"
  refine v_ixTT (i := 0) ha rfl ?_
  walk_at "go"
  refine v_ixTT (i := 1) ha rfl ?_
  walk_at "go"
  refine ⟨szl (by simp), fun t1 ht1 => ?_⟩
  generalize hH1 : upd H t1 _ = H1
  have e1 : Ex H H1 := hH1 ▸ Ex.nw ht1
  have ht11 : H1 t1 = some (.tup [.int (0 - p.num), .int (p.den : Int)]) := hH1 ▸ upd_same
  have w900 : ∀ {x : Nat}, x < 2 ^ 300 → x < 2 ^ 900 := fun h => Nat.lt_of_lt_of_le h (Nat.pow_le_pow_right (by decide) (by decide))
  refine ⟨c, t1, _, _, _, _, rfl, e1 _ _ hc, ht11, den_pos q, den_pos p, w900 bq.num, w900 (den_abs bq), w900 (by rw [Int.zero_sub, Int.natAbs_neg]; exact bp.num), w900 (den_abs bp), fun x1 H2 hx1 e2 h2 => ?_⟩
  have er : Rat.divInt (addP q.num q.den (0 - p.num) p.den).1 (addP q.num q.den (0 - p.num) p.den).2 = q - p := by
    unfold addP
    have := rat_sub q p
    rw [← this]
    congr 1
    rw [Int.zero_sub, Int.neg_mul, Int.sub_eq_add_neg]
  rw [er] at h2
  have br : Bd 601 (q - p) := sub_bdR bq bp
  walk_at "go"
  refine ⟨szl (by simp), fun t2 ht2 => ?_⟩
  generalize hH3 : upd H2 t2 _ = H3
  have e3 : Ex H2 H3 := hH3 ▸ Ex.nw ht2
  have ht23 : H3 t2 = some (.tup [.int t, .int b]) := hH3 ▸ upd_same
  have w6 : ∀ {x : Nat}, x < 2 ^ 601 → x < 2 ^ 900 := fun h => Nat.lt_of_lt_of_le h (Nat.pow_le_pow_right (by decide) (by decide))
  have w2 : ∀ {x : Nat}, x < 2 ^ 21 → x < 2 ^ 900 := fun h => Nat.lt_of_lt_of_le h (Nat.pow_le_pow_right (by decide) (by decide))
  refine ⟨x1, t2, _, _, _, _, rfl, e3 _ _ h2, ht23, den_pos _, hb, w6 br.num, w6 (den_abs br), w2 hts, w2 hbs, fun x2 H4 hx2 e4 h4 => ?_⟩
  have et : Rat.divInt (timesP (q - p).num (q - p).den t b).1 (timesP (q - p).num (q - p).den t b).2 = (q - p) * Rat.divInt t b := by
    unfold timesP
    have h := Rat.divInt_mul_divInt (q - p).num t (d₁ := (q - p).den) (d₂ := b)
    rw [Rat.num_divInt_den] at h
    exact h.symm
  rw [et] at h4
  have bt : Bd 622 ((q - p) * Rat.divInt t b) := mul_bdR br (divInt_bd hb hts hbs)
  have w62 : ∀ {x : Nat}, x < 2 ^ 622 → x < 2 ^ 900 := fun h => Nat.lt_of_lt_of_le h (Nat.pow_le_pow_right (by decide) (by decide))
  have e14 := e1.t (e2.t (e3.t e4))
  refine ⟨a, x2, _, _, _, _, rfl, e14 _ _ ha, h4, den_pos p, den_pos _, w900 bp.num, w900 (den_abs bp), w62 bt.num, w62 (den_abs bt), fun x3 H5 hx3 e5 h5 => ?_⟩
  have ef : Rat.divInt (addP p.num p.den ((q - p) * Rat.divInt t b).num ((q - p) * Rat.divInt t b).den).1 (addP p.num p.den ((q - p) * Rat.divInt t b).num ((q - p) * Rat.divInt t b).den).2 = onWay p q t b := rat_add p _
  rw [ef] at h5
  exact k x3 H5 (e14.none hx3) (e14.t e5) h5
def spSomePlace : Sp := fun vs H Q _ => ∃ (l cl : Addr), vs = [.ref l] ∧ HBag H l cl ∧ ∀ p t b H', H p = none → 0 < t → t < b → b ≤ 41 → ExB l H H' → HBag H' l cl → H' p = some (.tup [.int t, .int b]) → Q (.ref p) H'
/-! _law_some_place: slots _law_bag 0 _law_bottom 1 -/
theorem sc__law_some_place : FnScope ["_law_bag", "_law_bottom"] ["_law_bag"] (defScope (top 102)) := C8.fnScope_by (by decide +kernel)
theorem cal__law_some_place (T : T w K mg) : Cal P w K mg base 3 "_law_some_place" spSomePlace := by
  refine calD T.d__law_some_place T.g__law_some_place sc__law_some_place (fun vs H Q E h => ?_) (fun _ _ _ _ _ _ us hl => match us, hl with | [_], _ => rfl) (fun cdv A outer s H vs Q E hr h => ?_)
  · obtain ⟨_, _, rfl, _⟩ := h; rfl
  obtain ⟨l, cl, rfl, hb, k⟩ := h
  refine ⟨_, (pss_cons (ps_set (i := 1) sc__law_some_place.nd rfl (Or.inl rfl) (pe_op op_add pe_int (pe_cl (cal__law_draw T) hr (by decide) rfl (pa_cons (pv 0) (pa_cons (pe_cl (cal_law_ofL T) hr (by decide) rfl (pa_cons (pv 0) (pa_cons (pe_lst (pa_cons pe_int (pa_cons pe_int (pa_cons pe_int (pa_cons pe_int pa_nil))))) pa_nil))) pa_nil)))))
      (pss_one (ps_ret (pe_tup (pa_cons (pe_op op_add pe_int (pe_cl (cal__law_draw T) hr (by decide) rfl (pa_cons (pv 0) (pa_cons (pe_op op_sub (pv 1) pe_int) pa_nil)))) (pa_cons (pv 1) pa_nil)))))), ?_⟩
  walk_at "go"
  refine ⟨szl (by simp), fun q hq => ?_⟩
  have nq := hb.ne hq
  generalize hH1 : upd H q _ = H1
  have e1 : Ex H H1 := hH1 ▸ Ex.nw hq
  have hq1 : H1 q = some (.lst [.int 1, .int 2, .int 6, .int 40]) := hH1 ▸ upd_same
  refine ⟨l, cl, q, _, rfl, hb.ex e1, hq1, nq.1, by simp, by simp, fun x hx H2 b2 hb2 => ?_⟩
  obtain ⟨m, rfl, hm0, hm1⟩ : ∃ m : Int, x = .int m ∧ 0 < m ∧ m ≤ 40 := by
    simp only [List.mem_cons, List.not_mem_nil, or_false] at hx
    rcases hx with rfl | rfl | rfl | rfl <;> exact ⟨_, rfl, by decide, by decide⟩
  walk_at "go"
  refine ⟨l, cl, m, rfl, hb2, hm0, by omega, fun d H3 hd b3 hb3 => ?_⟩
  walk_at "go"
  refine ⟨l, cl, _, rfl, hb3, by omega, by omega, fun d2 H4 hd2 b4 hb4 => ?_⟩
  walk_at "go"
  refine ⟨szl (by simp), fun p hp => ?_⟩
  have bb := (ExB.of e1).t (b2.t (b3.t b4))
  have np := hb4.ne hp
  have hp0 := bb.none np.1 hp
  exact k p _ _ _ hp0 (by omega) (by omega) (by omega) (bb.nw hp0) (hb4.ex (Ex.nw hp)) upd_same
end L2.FW
end
section
set_option maxRecDepth 100000
set_option maxHeartbeats 4000000
set_option exponentiation.threshold 9000
/-! The law's floors. -/
namespace L2.FW
open PySem PySem.Spec PyProof.Rows Fw
variable {P : Program} {w : World} {K : PySem.W.Frag} {mg : Str → Option Value} {base : Heap}
local macro_rules | `(tactic| walk_at "go1") => `(tactic| first
  | ((with_reducible apply v_var); exact rfl)
  | ((with_reducible apply s_aug); exact rfl)
  | with_reducible first
    | refine v_c ?_ | refine v_cons ?_ | refine v_nil ?_ | refine v_op ?_ | refine v_cb ?_ | refine v_call ?_ | refine v_bl ?_ | refine v_yes ?_
    | refine s_seq ?_ | refine s_ret ?_ | refine s_if ?_ | refine s_asg ?_ | refine g_name ?_ | refine v_test ?_ | refine v_tB ?_
    | refine v_rI0 ?_ | refine v_eqI ?_ | refine v_neI ?_ | refine v_eqS ?_ | refine v_neS ?_ | refine v_int1 ?_ | refine v_bool1 ?_ | refine v_abs ?_ | refine v_isN ?_ | refine v_notN ?_ | refine v_nsign ?_
    | refine v_andV ?_ | refine v_orV ?_ | refine v_notV ?_ | refine v_and ?_ | refine v_or ?_ | refine v_not ?_
    | refine v_if ?_ | refine v_tup ?_ | refine v_lst ?_ | refine v_sl ?_ | refine v_part ?_ | refine v_nopart ?_ | refine v_int ?_ | refine v_dget ?_ | refine v_din ?_ | refine v_dnin ?_
    | refine v_fld ?_ | refine v_meth ?_ | refine v_bm ?_ | refine v_m1 ?_ | refine v_strE ?_ | refine v_un ?_ | refine v_chain ?_ | refine s_next ?_ | refine s_drop ?_ | refine s_retN ?_ | refine s_par ?_ | refine s_par3 ?_
    | refine s_fld ?_ | refine s_dput ?_ | refine s_ddel ?_ | refine g_nil ?_ | refine g_cons ?_ | refine iteT ?_ | refine iteF ?_ | refine iteNT ?_ | refine iteNF ?_
    | refine isi_ss ?_ | refine isi_ii ?_ | refine isi_ib ?_ | refine v_lc ?_ | refine i_str ?_ | refine v_str ?_ | refine i_list ?_ | refine i_zipS ?_ | refine i_zipS3 ?_ | refine i_enumS ?_ | refine i_enum ?_ | refine i_tup ?_ | refine i_rng ?_ | refine s_for ?_ | refine v_star ?_ | refine v_makeR ?_ | refine v_make ?_ | refine v_cval ?_ | refine v_sign ?_)
local macro_rules | `(tactic| walk_at "go") => `(tactic| repeat walk_at "go1")
set_option pp.maxSteps 1200
/-- the law's box: four pairs -/
def HLx (H : Hp) (t : Addr) (x : Bx) : Prop := ∃ a0 a1 a2 a3, H t = some (.tup [.ref a0, .ref a1, .ref a2, .ref a3]) ∧ HPr H a0 x.w ∧ HPr H a1 x.n ∧ HPr H a2 x.e ∧ HPr H a3 x.s
def HLb (H : Hp) (a : Addr) (r : Tx) (x : Bx) : Prop := ∃ bt, H a = some (.tup [sV r, .ref bt]) ∧ HLx H bt x
theorem HLx.te {H H' : Hp} {t : Addr} {x : Bx} (e : TExt H H') (h : HLx H t x) : HLx H' t x := by
  obtain ⟨a0, a1, a2, a3, h1, h2, h3, h4, h5⟩ := h
  exact ⟨a0, a1, a2, a3, e _ _ h1, e _ _ h2, e _ _ h3, e _ _ h4, e _ _ h5⟩
theorem HLb.te {H H' : Hp} {t : Addr} {r : Tx} {x : Bx} (e : TExt H H') (h : HLb H t r x) : HLb H' t r x := by
  obtain ⟨bt, h1, h2⟩ := h
  exact ⟨bt, e _ _ h1, h2.te e⟩
def HLe (H : Hp) (L : List E4) : Prop := ∀ e ∈ L, HLb H e.2.2.2 e.2.1 e.2.2.1
theorem HLe.te {H H' : Hp} {L : List E4} (e : TExt H H') (h : HLe H L) : HLe H' L := fun x m => (h x m).te e
def HLf (H : Hp) (d : Addr) (F : Fl) : Prop := ∃ L, H d = some (.dK (kvF L)) ∧ flF L = F ∧ HLe H L
theorem HLf.ex {H H' : Hp} {d : Addr} {F : Fl} (e : Ex H H') (h : HLf H d F) : HLf H' d F := by
  obtain ⟨L, h1, h2, h3⟩ := h
  exact ⟨L, e _ _ h1, h2, h3.te (.ex e)⟩
theorem HLf.exB {H H' : Hp} {l d : Addr} {xs : List V} {F : Fl} (e : ExB l H H') (hl : H l = some (.lst xs)) (h : HLf H d F) : HLf H' d F := by
  obtain ⟨L, h1, h2, h3⟩ := h
  exact ⟨L, e _ _ (fun e => by rw [e, hl] at h1; cases h1) h1, h2, h3.te fun a ys h => e _ _ (fun e => by rw [e, hl] at h; cases h) h⟩
theorem kvF_getL {H : Hp} {L : List E4} {q : Tx} {r : Tx} {x : Bx} (h : HLe H L) (nd : ((flF L).map (·.1)).Nodup) (hm : (q, r, x) ∈ flF L) : ∃ a, valV (kvF L) (.inr (S q)) = some (.ref a) ∧ HLb H a r x := by
  obtain ⟨e, he, h1⟩ := List.mem_map.mp hm
  cases h1
  have : L.find? (fun x => decide (x.1 = e.1)) = some e := by
    clear hm h
    induction L with
    | nil => cases he
    | cons x L ih =>
      have nd' : x.1 ∉ (flF L).map (·.1) ∧ ((flF L).map (·.1)).Nodup := List.nodup_cons.mp nd
      rcases List.mem_cons.mp he with rfl | he
      · rw [List.find?_cons, decide_eq_true rfl]
      · rw [List.find?_cons, decide_eq_false, ih nd'.2 he]
        intro e1
        apply nd'.1
        rw [e1]
        exact List.mem_map.mpr ⟨(e.1, e.2.1, e.2.2.1), List.mem_map.mpr ⟨e, he, rfl⟩, rfl⟩
  rw [kvF_find, this]
  exact ⟨_, rfl, h e he⟩
theorem kvF_valN {L : List E4} (nd : ((flF L).map (·.1)).Nodup) {e : E4} (he : e ∈ L) : valV (kvF L) (.inr (S e.1)) = some (.ref e.2.2.2) := by
  have : L.find? (fun x => decide (x.1 = e.1)) = some e := by
    induction L with
    | nil => cases he
    | cons x L ih =>
      have nd' : x.1 ∉ (flF L).map (·.1) ∧ ((flF L).map (·.1)).Nodup := List.nodup_cons.mp nd
      rcases List.mem_cons.mp he with rfl | he
      · rw [List.find?_cons, decide_eq_true rfl]
      · rw [List.find?_cons, decide_eq_false, ih nd'.2 he]
        intro e1
        apply nd'.1
        rw [e1]
        exact List.mem_map.mpr ⟨(e.1, e.2.1, e.2.2.1), List.mem_map.mpr ⟨e, he, rfl⟩, rfl⟩
  rw [kvF_find, this]
  rfl
theorem kvF_at_i {L : List E4} {i : Nat} {kk : Key} {v : V} (h : (kvF L)[i]? = some (kk, v)) : ∃ e, L[i]? = some e ∧ kk = .inr (S e.1) ∧ v = .ref e.2.2.2 := by
  unfold kvF at h
  rw [List.getElem?_map] at h
  obtain ⟨e, he, h1⟩ := Option.map_eq_some_iff.mp h
  cases h1
  exact ⟨e, he, rfl, rfl⟩
theorem flF_not {L : List E4} (nd : ((flF L).map (·.1)).Nodup) {i : Nat} {e : E4} (h : L[i]? = some e) (f : E4 → Bool) : e.1 ∉ (flF ((L.take i).filter f)).map (·.1) := fun hmem => by
  obtain ⟨e', he', h1⟩ := List.mem_map.mp hmem
  obtain ⟨e2, he2, rfl⟩ := List.mem_map.mp he'
  have h1 : e2.1 = e.1 := h1
  obtain ⟨j, hj⟩ := List.mem_iff_getElem?.mp (List.mem_filter.mp he2).1
  have hj' := (List.getElem?_eq_some_iff.mp hj).1
  rw [List.length_take] at hj'
  rw [List.getElem?_take_of_lt (by omega)] at hj
  have a1 : ((flF L).map (·.1))[i]? = some e.1 := by unfold flF; rw [List.map_map, List.getElem?_map, h]; rfl
  have a2 : ((flF L).map (·.1))[j]? = some e.1 := by unfold flF; rw [List.map_map, List.getElem?_map, hj]; exact congrArg some h1
  obtain ⟨b1, c1⟩ := List.getElem?_eq_some_iff.mp a1
  obtain ⟨b2, c2⟩ := List.getElem?_eq_some_iff.mp a2
  have := (List.getElem_inj nd).mp (c1.trans c2.symm)
  omega
theorem ExS.te {s : List Addr} {H H' : Hp} (h : ExS s H H') (n : ∀ a ∈ s, ∀ xs, H a ≠ some (.tup xs)) : TExt H H' := fun a xs e => h a _ (fun m => n a m xs e) e
def spCutBox : Sp := fun vs H Q _ => ∃ (l s d st : Addr) (b : Bk) (F : Fl) (n D : Nat) (ad : Tx) (c : Nat) (t bb : Int), vs = [.ref s, .ref d, .ref st] ∧ HSpec H l s b ∧ BkOk b ∧ HLf H d F ∧ FlOk b F n D ∧ n ≤ 100 ∧ D < 2 ^ 290 ∧ H st = some (.tup [sV ad, sV [c], .int t, .int bb]) ∧ ad ∈ F.map (·.1) ∧ c ∈ b.ct ∧ 0 < t ∧ t < bb ∧ bb ≤ 41 ∧
  ∀ d' H', Ex H H' → HLf H' d' (stepF b F (ad, c, t, bb)) → Q (.ref d') H'
/-! _law_cut_box: slots _law_spec 0 _law_boxes 1 _law_step 2 _law_room 3 _law_box 4 _law_parts_here 5 _law_late 6 _law_address 7 _law_west 8 _law_north 9 _law_east 10 _law_south 11 _law_at 12 -/
theorem sc__law_cut_box : FnScope ["_law_spec", "_law_boxes", "_law_step", "_law_room", "_law_box", "_law_parts_here", "_law_late", "_law_address", "_law_west", "_law_north", "_law_east", "_law_south", "_law_at"] ["_law_spec", "_law_boxes", "_law_step"] (defScope (top 104)) := C8.fnScope_by (by decide +kernel)
theorem cal__law_cut_box (T : T w K mg) : Cal P w K mg base 5 "_law_cut_box" spCutBox := by
  refine calD T.d__law_cut_box T.g__law_cut_box sc__law_cut_box (fun vs H Q E h => ?_) (fun _ _ _ _ _ _ us hl => match us, hl with | [_, _, _], _ => rfl) (fun cdv A outer s H vs Q E hr h => ?_)
  · obtain ⟨_, _, _, _, _, _, _, _, _, _, _, _, rfl, _⟩ := h; rfl
  obtain ⟨l, s', d, st, b, F, n, D, ad, c, t, bb, rfl, hs, bo, hf, fok, hn, hD, hst, had, hc, ht0, ht1, hb41, k⟩ := h
  obtain ⟨r, x, hm, hfi, hcase⟩ := stepF_cases (b := b) (s := (ad, c, t, bb)) had
  obtain ⟨L, hLd, rfl, hLe⟩ := hf
  obtain ⟨ra, hra, hrb⟩ := kvF_getL hLe fok.nd hm
  obtain ⟨bt, hrt, hbx⟩ := hrb
  have hro : RoomOk b.fc r := fok.room _ hm
  have hr4 := hro.1
  refine ⟨_, (pss_cons (ps_asg (pe_dget (hu1 hr) (pv 1) (pe_ix ix_tup (pv 2) pe_int (fun _ _ => rfl)) (fun _ _ => rfl)) (pg_tup rfl (pgs_cons (pg_name (i := 3) sc__law_cut_box.nd rfl (Or.inl rfl)) (pgs_cons (pg_name (i := 4) sc__law_cut_box.nd rfl (Or.inl rfl)) pgs_nil))))
      (pss_cons (ps_par (i := 5) (j := 6) (by rfl) sc__law_cut_box.nd rfl rfl (by decide) rfl rfl (pa_cons (pe_cl (cal__law_parts T) hr (by decide) rfl (pa_cons (pv 0) (pa_cons (pv 3) (pa_cons (pe_ix ix_tup (pv 2) pe_int (fun _ _ => rfl)) pa_nil)))) (pa_cons pe_dnewK pa_nil)) (by rfl))
      (pss_cons (ps_if (pt_cmpR op_lt (pe_callB cl_lenSeq (by rfl) T.f_len (by decide +kernel) (pa_cons (pv 5) pa_nil)) pe_int (nomark _)) (pss_one (ps_ret (pv 1))) pss_nil)
      (pss_cons (ps_lock (ps_for PassesOwn.never rfl (pi_keys (pv 1)) (pg_name (i := 7) sc__law_cut_box.nd rfl (Or.inl rfl)) (pss_one (ps_if (pt_cmpR op_ne (pv 7) (pe_ix ix_tup (pv 2) pe_int (fun _ _ => rfl)) (nomark _)) (pss_one (ps_dput (hu1 hr) (pv 6) (pv 7) (pe_dget (hu1 hr) (pv 1) (pv 7) (fun _ _ => rfl)) rfl)) pss_nil))))
      (pss_cons (ps_asg (pv 4) (pg_tup rfl (pgs_cons (pg_name (i := 8) sc__law_cut_box.nd rfl (Or.inl rfl)) (pgs_cons (pg_name (i := 9) sc__law_cut_box.nd rfl (Or.inl rfl)) (pgs_cons (pg_name (i := 10) sc__law_cut_box.nd rfl (Or.inl rfl)) (pgs_cons (pg_name (i := 11) sc__law_cut_box.nd rfl (Or.inl rfl)) pgs_nil))))))
      (pss_cons (ps_if (pt_cmpR op_eq (pe_ix ix_str (pe_cl (cal__law_cut T) hr (by decide) rfl (pa_cons (pv 0) (pa_cons (pv 3) (pa_cons (pe_ix ix_tup (pv 2) pe_int (fun _ _ => rfl)) pa_nil)))) pe_int (fun _ _ => rfl)) pe_str (nomark _)) (pss_cons (ps_set (i := 12) sc__law_cut_box.nd rfl (Or.inl rfl) (pe_cl (cal__law_on_way T) hr (by decide) rfl (pa_cons (pv 8) (pa_cons (pv 10) (pa_cons (pe_ix ix_tup (pv 2) pe_int (fun _ _ => rfl)) (pa_cons (pe_ix ix_tup (pv 2) pe_int (fun _ _ => rfl)) pa_nil))))))
      (pss_cons (ps_dput (hu1 hr) (pv 6) (pe_op op_catS (pe_ix ix_tup (pv 2) pe_int (fun _ _ => rfl)) pe_str) (pe_tup (pa_cons (pe_ix ix_list (pv 5) pe_int (fun _ _ => rfl)) (pa_cons (pe_tup (pa_cons (pv 8) (pa_cons (pv 9) (pa_cons (pv 12) (pa_cons (pv 11) pa_nil))))) pa_nil))) rfl)
      (pss_one (ps_dput (hu1 hr) (pv 6) (pe_op op_catS (pe_ix ix_tup (pv 2) pe_int (fun _ _ => rfl)) pe_str) (pe_tup (pa_cons (pe_ix ix_list (pv 5) pe_int (fun _ _ => rfl)) (pa_cons (pe_tup (pa_cons (pv 12) (pa_cons (pv 9) (pa_cons (pv 10) (pa_cons (pv 11) pa_nil))))) pa_nil))) rfl)))) (pss_cons (ps_set (i := 12) sc__law_cut_box.nd rfl (Or.inl rfl) (pe_cl (cal__law_on_way T) hr (by decide) rfl (pa_cons (pv 9) (pa_cons (pv 11) (pa_cons (pe_ix ix_tup (pv 2) pe_int (fun _ _ => rfl)) (pa_cons (pe_ix ix_tup (pv 2) pe_int (fun _ _ => rfl)) pa_nil))))))
      (pss_cons (ps_dput (hu1 hr) (pv 6) (pe_op op_catS (pe_ix ix_tup (pv 2) pe_int (fun _ _ => rfl)) pe_str) (pe_tup (pa_cons (pe_ix ix_list (pv 5) pe_int (fun _ _ => rfl)) (pa_cons (pe_tup (pa_cons (pv 8) (pa_cons (pv 9) (pa_cons (pv 10) (pa_cons (pv 12) pa_nil))))) pa_nil))) rfl)
      (pss_one (ps_dput (hu1 hr) (pv 6) (pe_op op_catS (pe_ix ix_tup (pv 2) pe_int (fun _ _ => rfl)) pe_str) (pe_tup (pa_cons (pe_ix ix_list (pv 5) pe_int (fun _ _ => rfl)) (pa_cons (pe_tup (pa_cons (pv 8) (pa_cons (pv 12) (pa_cons (pv 10) (pa_cons (pv 11) pa_nil))))) pa_nil))) rfl)))))
      (pss_one (ps_ret (pv 6))))))))), ?_⟩
  walk_at "go"
  refine v_ixTT (i := 0) hst rfl ?_
  refine ⟨d, _, rfl, hra ▸ DGet.k (k := .inr (S ad)) hLd, ?_⟩
  refine g_tup (ex_t hrt) rfl ?_
  walk_at "go"
  refine v_ixTT (i := 1) hst rfl ?_
  walk_at "go"
  refine ⟨l, s', b, r, c, rfl, hs, bo, hr4, fun pp H1 hpp e1 h1 => ?_⟩
  walk_at "go"
  intro ld hld
  generalize hH2 : upd H1 ld _ = H2
  have e2 : Ex H1 H2 := hH2 ▸ Ex.nw hld
  have hld2 : H2 ld = some (.dK (kvF [])) := hH2 ▸ upd_same
  have h12 := e2 _ _ h1
  have e12 := e1.t e2
  have nld : H ld = none := e1.none hld
  have hd2 := e12 _ _ hLd
  have nlp : pp ≠ ld := fun e => by rw [e, hld] at h1; cases h1
  walk_at "go"
  refine ⟨_, _, rfl, ?_⟩
  walk_at "go"
  refine v_lenL (ex_l h12) ?_
  rw [List.length_map]
  walk_at "go"
  rcases hcase with ⟨hcu, hstp⟩ | ⟨hcu, hstp⟩
  · have hcu : b.cut r c = [] := hcu
    have hps : b.parts r c = [r] := by unfold Bk.parts; rw [hcu, parts1]
    rw [hps]
    refine itT (by simp) ?_
    walk_at "go"
    exact k d H2 e12 (by rw [hstp]; exact ⟨L, hd2, rfl, hLe.te (.ex e12)⟩)
  · have hcu : b.cut r c ≠ [] := hcu
    obtain ⟨g, cx, cy, hcut, hg⟩ := cut_ne bo hcu
    have hps : b.parts r c = [part0 r (b.cut r c), part1 r (b.cut r c)] := parts2 hro (cut_ok bo r c) hcu
    rw [hps] at h12 ⊢
    refine itF (by simp) ?_
    walk_at "go"
    refine ⟨d, .dK (kvF L), hd2, trivial, fun od => ?_⟩
    have un : ∀ {H'}, ExS [ld] (upd H2 d (.frz od (.dK (kvF L)))) H' → ExS [ld] H2 (upd H' d (.dK (kvF L))) := fun h => h.unlock hd2
    have ndl : d ≠ ld := fun e => by rw [← e] at nld; rw [hLd] at nld; cases nld
    have hd3 : upd H2 d (.frz od (.dK (kvF L))) d = some (.frz od (.dK (kvF L))) := upd_same
    have hld3 : upd H2 d (.frz od (.dK (kvF L))) ld = some (.dK (kvF [])) := by rw [upd_ne ndl.symm]; exact hld2
    have hst3 : upd H2 d (.frz od (.dK (kvF L))) st = some (.tup [sV ad, sV [c], .int t, .int bb]) := by
      rw [upd_ne (fun e => by rw [e, hLd] at hst; cases hst)]
      exact e12 _ _ hst
    generalize upd H2 d (.frz od (.dK (kvF L))) = H3 at un hd3 hld3 hst3
    have ni : ∀ {x}, x ≠ ld → x ∉ [ld] := fun h m => h (by simpa using m)
    have nsl : st ≠ ld := fun e => by rw [e, hld3] at hst3; cases hst3
    walk_at "go"
    refine i_keys ?_
    walk_at "go"
    refine ⟨d, od, rfl, .inl ⟨kvF L, hd3, ?_⟩⟩
    have hLl : L.length ≤ 101 := by
      have := fok.len
      unfold flF at this
      rw [List.length_map] at this
      omega
    refine for_it walk_keys (fun i σ H4 => (∃ v7 v8 v9 v10 v11 v12, σ = [some (.ref s'), some (.ref d), some (.ref st), some (sV r), some (.ref bt), some (.ref pp), some (.ref ld), v7, v8, v9, v10, v11, v12]) ∧ ExS [ld] H3 H4 ∧ H4 ld = some (.dK (kvF ((L.take i).filter fun e => decide (e.1 ≠ ad)))))
      ⟨⟨_, _, _, _, _, _, rfl⟩, ExS.rfl', hld3⟩ (fun i σ H4 hi q => q.2.1 _ _ (ni ndl) hd3) ?_ ?_
    · rintro i xx σ H4 H5 hi ⟨⟨v7, v8, v9, v10, v11, v12, rfl⟩, b4, hld4⟩ ⟨rfl, kk, vv, hkv, rfl⟩
      obtain ⟨e, hei, rfl, rfl⟩ := kvF_at_i hkv
      have htk : L.take (i + 1) = L.take i ++ [e] := by rw [List.take_add_one, hei]; rfl
      walk_at "go"
      refine v_ixTT (i := 0) (b4 _ _ (ni nsl) hst3) rfl ?_
      refine v_neS ?_
      walk_at "go"
      rw [htk, List.filter_append]
      by_cases hea : e.1 = ad
      · refine itNT hea ?_
        walk_at "go"
        refine ⟨⟨_, _, _, _, _, _, rfl⟩, b4, ?_⟩
        rw [show ([e].filter fun e => decide (e.1 ≠ ad)) = [] by simp [hea], List.append_nil]
        exact hld4
      · refine itNF hea ?_
        walk_at "go"
        have hv := kvF_valN fok.nd (List.mem_of_getElem? hei)
        refine ⟨d, .ref e.2.2.2, rfl, .inl ⟨kvF L, .inr (S e.1), .inr ⟨od, b4 _ _ (ni ndl) hd3⟩, rfl, hv.symm⟩, ?_⟩
        walk_at "go"
        refine ⟨ld, _, rfl, DPut.k (k := .inr (S e.1)) hld4 ?_, ?_⟩
        · unfold kvF
          rw [List.length_map, sizeLine_eq]
          have h1 := List.length_filter_le (fun e : E4 => decide (e.1 ≠ ad)) (L.take i)
          rw [List.length_take] at h1
          omega
        rw [kvF_put e.2.1 e.2.2.1 e.2.2.2 (flF_not fok.nd hei _)]
        refine ⟨⟨_, _, _, _, _, _, rfl⟩, b4.t (.up (by simp)), ?_⟩
        rw [upd_same, show ([e].filter fun e => decide (e.1 ≠ ad)) = [e] by simp [hea]]
    · rintro σ H4 ⟨⟨v7, v8, v9, v10, v11, v12, rfl⟩, b4, hld4⟩
      have hl1 : (kvF L).length = L.length := by simp [kvF]
      rw [hl1, List.take_length] at hld4
      refine ⟨b4 _ _ (ni ndl) hd3, ?_⟩
      have bU := un b4
      have hldU : upd H4 d (.dK (kvF L)) ld = some (.dK (kvF (L.filter fun e => decide (e.1 ≠ ad)))) := by rw [upd_ne ndl.symm]; exact hld4
      generalize upd H4 d (.dK (kvF L)) = H5 at bU hldU
      have eH5 : Ex H H5 := e12.mutS (fun a m => by simp at m; subst m; exact nld) bU
      have hpp5 : H5 pp = some (.lst [sV (part0 r (b.cut r c)), sV (part1 r (b.cut r c))]) := bU _ _ (ni nlp) h12
      obtain ⟨a0, a1, a2, a3, hbt, hx0, hx1, hx2, hx3⟩ := hbx.te (.ex eH5)
      have hst5 := eH5 _ _ hst
      have bxo := fok.bx _ hm
      have hx0' : HPr H5 a0 x.w := hx0
      have bd : ∀ {q : Rat}, On D q → Bd 300 q := fun h => h.bd fok.pos (Nat.lt_trans hD (Nat.pow_lt_pow_right (by decide) (by decide)))
      walk_at "go"
      refine g_tup (ex_t hbt) rfl ?_
      walk_at "go"
      refine v_ixTT (i := 1) hst5 rfl ?_
      walk_at "go"
      refine ⟨l, s', b, r, c, rfl, hs.ex eH5, bo, hr4, fun H6 e6 => ?_⟩
      rw [hcut]
      walk_at "go"
      refine v_ixSS (l := [g, cx, cy]) (by simp) at0 ?_
      walk_at "go"
      rw [show (Str.ofString "|").1.toList = [124] from rfl]
      have e06 := eH5.t e6
      have hst6 := e6 _ _ hst5
      -- the end, once
      have fin : ∀ (H9 : Hp) (v0 v1 : Addr), ExS [ld] H6 H9 → HLb H9 v0 (part0 r (b.cut r c)) (splitB x g t bb).1 → HLb H9 v1 (part1 r (b.cut r c)) (splitB x g t bb).2 →
          H9 ld = some (.dK (kvF ((L.filter fun e => decide (e.1 ≠ ad)) ++ [(ad ++ [48], part0 r (b.cut r c), (splitB x g t bb).1, v0)] ++ [(ad ++ [49], part1 r (b.cut r c), (splitB x g t bb).2, v1)]))) → Q (.ref ld) H9 := by
        intro H9 v0 v1 b9 g0 g1 h9
        have eH9 : Ex H H9 := e06.mutS (fun a m => by simp at m; subst m; exact nld) b9
        refine k ld H9 eH9 ⟨_, h9, ?_, fun e he => ?_⟩
        · have h0 : ∀ (A : List E4) (e1 e2 : E4), flF (A ++ [e1] ++ [e2]) = flF A ++ [(e1.1, e1.2.1, e1.2.2.1), (e2.1, e2.2.1, e2.2.2.1)] := fun A e1 e2 => by simp [flF]
          rw [hstp, h0, flF_filter]
          unfold newF
          simp only [hcut]
          rfl
        · rcases List.mem_append.mp he with he | he
          · rcases List.mem_append.mp he with he | he
            · exact (hLe e (List.mem_filter.mp he).1).te (.ex eH9)
            · simp at he; subst he; exact g0
          · simp at he; subst he; exact g1
      have not48 : ∀ k : Nat, ad ++ [k] ∉ (flF (L.filter fun e => decide (e.1 ≠ ad))).map (·.1) := fun k hmem => by
        rw [flF_filter] at hmem
        obtain ⟨e, he, h1⟩ := List.mem_map.mp hmem
        exact fok.new had k (h1 ▸ List.mem_map.mpr ⟨e, (List.mem_filter.mp he).1, rfl⟩)
      have not49 : ∀ (p : Tx) (y : Bx) (v : Addr), ad ++ [49] ∉ (flF ((L.filter fun e => decide (e.1 ≠ ad)) ++ [(ad ++ [48], p, y, v)])).map (·.1) := fun p y v hmem => by
        have h0 : flF ((L.filter fun e => decide (e.1 ≠ ad)) ++ [(ad ++ [48], p, y, v)]) = flF (L.filter fun e => decide (e.1 ≠ ad)) ++ [(ad ++ [48], p, y)] := by simp [flF]
        rw [h0, List.map_append] at hmem
        rcases List.mem_append.mp hmem with hmem | hmem
        · exact not48 49 hmem
        · simp at hmem
      by_cases h124 : g = 124
      · refine itT (by rw [h124]) ?_
        walk_at "go"
        refine v_ixTT (i := 2) hst6 rfl ?_
        walk_at "go"
        refine v_ixTT (i := 3) hst6 rfl ?_
        walk_at "go"
        refine ⟨a0, a2, _, _, t, bb, rfl, hx0.ex e6, hx2.ex e6, bd bxo.w, bd bxo.e, by omega, by omega, by omega, fun at_ H7 hat e7 h7 => ?_⟩
        have e67 := e6.t e7
        have hpp7 := e67 _ _ hpp5
        have hst7 := e7 _ _ hst6
        walk_at "go"
        refine v_ixLL (i := 0) hpp7 rfl ?_
        walk_at "go"
        refine ⟨szl (by simp), fun u0 hu0 => ?_⟩
        generalize hH8 : upd H7 u0 _ = H8
        have e8 : Ex H7 H8 := hH8 ▸ Ex.nw hu0
        have hu08 : H8 u0 = some (.tup [.ref a0, .ref a1, .ref at_, .ref a3]) := hH8 ▸ upd_same
        walk_at "go"
        refine ⟨szl (by simp), fun v0 hv0 => ?_⟩
        generalize hH9 : upd H8 v0 _ = H9
        have e9 : Ex H8 H9 := hH9 ▸ Ex.nw hv0
        have hv09 : H9 v0 = some (.tup [sV (part0 r (b.cut r c)), .ref u0]) := hH9 ▸ upd_same
        walk_at "go"
        have e79 := e8.t e9
        refine v_ixTT (i := 0) (e79 _ _ hst7) rfl ?_
        walk_at "go"
        have adl : ad.length ≤ 100 := by
          obtain ⟨e, he, h1⟩ := List.mem_map.mp had
          have := (fok.adr e he).1
          rw [h1] at this
          omega
        refine v_catS (b := [48]) (by simp; omega) ?_
        have hld9 := (e67.t e79) _ _ hldU
        have hlen : (L.filter fun e => decide (e.1 ≠ ad)).length ≤ 101 := Nat.le_trans (List.length_filter_le _ _) hLl
        refine ⟨ld, _, rfl, DPut.k (k := .inr (S (ad ++ [48]))) hld9 (by unfold kvF; rw [List.length_map, sizeLine_eq]; omega), ?_⟩
        rw [kvF_put (part0 r (b.cut r c)) (splitB x g t bb).1 v0 (not48 48)]
        generalize hH10 : upd H9 ld _ = H10
        have b10 : ExS [ld] H9 H10 := hH10 ▸ ExS.up (by simp)
        have hld10 : H10 ld = some _ := hH10 ▸ upd_same
        have t10 : TExt H9 H10 := b10.te fun a m xs h => by simp at m; subst m; rw [hld9] at h; cases h
        have npl : pp ≠ ld := nlp
        have hpp10 := b10 _ _ (ni npl) (e79 _ _ hpp7)
        walk_at "go"
        refine v_ixLL (i := 1) hpp10 rfl ?_
        walk_at "go"
        refine ⟨szl (by simp), fun u1 hu1 => ?_⟩
        generalize hH11 : upd H10 u1 _ = H11
        have e11 : Ex H10 H11 := hH11 ▸ Ex.nw hu1
        have hu111 : H11 u1 = some (.tup [.ref at_, .ref a1, .ref a2, .ref a3]) := hH11 ▸ upd_same
        walk_at "go"
        refine ⟨szl (by simp), fun v1 hv1 => ?_⟩
        generalize hH12 : upd H11 v1 _ = H12
        have e12' : Ex H11 H12 := hH12 ▸ Ex.nw hv1
        have hv112 : H12 v1 = some (.tup [sV (part1 r (b.cut r c)), .ref u1]) := hH12 ▸ upd_same
        walk_at "go"
        have e1012 := e11.t e12'
        have hst12 := e1012 _ _ (t10 _ _ (e79 _ _ hst7))
        refine v_ixTT (i := 0) hst12 rfl ?_
        walk_at "go"
        refine v_catS (b := [49]) (by simp; omega) ?_
        have hld12 := e1012 _ _ hld10
        refine ⟨ld, _, rfl, DPut.k (k := .inr (S (ad ++ [49]))) hld12 (by unfold kvF; rw [List.length_map, List.length_append, sizeLine_eq]; simp only [List.length_cons, List.length_nil]; omega), ?_⟩
        rw [kvF_put (part1 r (b.cut r c)) (splitB x g t bb).2 v1 (not49 _ _ _)]
        generalize hH13 : upd H12 ld _ = H13
        have b13 : ExS [ld] H12 H13 := hH13 ▸ ExS.up (by simp)
        have hld13 : H13 ld = some _ := hH13 ▸ upd_same
        have t13 : TExt H12 H13 := b13.te fun a m xs h => by simp at m; subst m; rw [hld12] at h; cases h
        have t613 : TExt H7 H13 := ((TExt.ex e79).t t10).t ((TExt.ex e1012).t t13)
        have t713 : TExt H9 H13 := t10.t ((TExt.ex e1012).t t13)
        have t813 : TExt H8 H13 := (TExt.ex e9).t t713
        have t1213 : TExt H11 H13 := (TExt.ex e12').t t13
        have hp : ∀ {a q}, HPr H5 a q → HPr H13 a q := fun h => t613 _ _ (e67 _ _ h)
        have h7' : HPr H13 at_ (onWay x.w x.e t bb) := t613 _ _ h7
        walk_at "go"
        refine fin H13 v0 v1 (((ExS.of (e7.t e79)).t b10).t ((ExS.of e1012).t b13)) ⟨u0, t713 _ _ hv09, ?_⟩ ⟨u1, t13 _ _ hv112, ?_⟩ hld13
        · rw [h124, splitB_up]; exact ⟨a0, a1, at_, a3, t813 _ _ hu08, hp hx0, hp hx1, h7', hp hx3⟩
        · rw [h124, splitB_up]; exact ⟨at_, a1, a2, a3, t1213 _ _ hu111, h7', hp hx1, hp hx2, hp hx3⟩
      · have h45 : g = 45 := by
          rcases hg with h | h
          · exact absurd h h124
          · exact h
        refine itF (by simpa using h124) ?_
        walk_at "go"
        refine v_ixTT (i := 2) hst6 rfl ?_
        walk_at "go"
        refine v_ixTT (i := 3) hst6 rfl ?_
        walk_at "go"
        refine ⟨a1, a3, _, _, t, bb, rfl, hx1.ex e6, hx3.ex e6, bd bxo.n, bd bxo.s, by omega, by omega, by omega, fun at_ H7 hat e7 h7 => ?_⟩
        have e67 := e6.t e7
        have hpp7 := e67 _ _ hpp5
        have hst7 := e7 _ _ hst6
        walk_at "go"
        refine v_ixLL (i := 0) hpp7 rfl ?_
        walk_at "go"
        refine ⟨szl (by simp), fun u0 hu0 => ?_⟩
        generalize hH8 : upd H7 u0 _ = H8
        have e8 : Ex H7 H8 := hH8 ▸ Ex.nw hu0
        have hu08 : H8 u0 = some (.tup [.ref a0, .ref a1, .ref a2, .ref at_]) := hH8 ▸ upd_same
        walk_at "go"
        refine ⟨szl (by simp), fun v0 hv0 => ?_⟩
        generalize hH9 : upd H8 v0 _ = H9
        have e9 : Ex H8 H9 := hH9 ▸ Ex.nw hv0
        have hv09 : H9 v0 = some (.tup [sV (part0 r (b.cut r c)), .ref u0]) := hH9 ▸ upd_same
        walk_at "go"
        have e79 := e8.t e9
        refine v_ixTT (i := 0) (e79 _ _ hst7) rfl ?_
        walk_at "go"
        have adl : ad.length ≤ 100 := by
          obtain ⟨e, he, h1⟩ := List.mem_map.mp had
          have := (fok.adr e he).1
          rw [h1] at this
          omega
        refine v_catS (b := [48]) (by simp; omega) ?_
        have hld9 := (e67.t e79) _ _ hldU
        have hlen : (L.filter fun e => decide (e.1 ≠ ad)).length ≤ 101 := Nat.le_trans (List.length_filter_le _ _) hLl
        refine ⟨ld, _, rfl, DPut.k (k := .inr (S (ad ++ [48]))) hld9 (by unfold kvF; rw [List.length_map, sizeLine_eq]; omega), ?_⟩
        rw [kvF_put (part0 r (b.cut r c)) (splitB x g t bb).1 v0 (not48 48)]
        generalize hH10 : upd H9 ld _ = H10
        have b10 : ExS [ld] H9 H10 := hH10 ▸ ExS.up (by simp)
        have hld10 : H10 ld = some _ := hH10 ▸ upd_same
        have t10 : TExt H9 H10 := b10.te fun a m xs h => by simp at m; subst m; rw [hld9] at h; cases h
        have npl : pp ≠ ld := nlp
        have hpp10 := b10 _ _ (ni npl) (e79 _ _ hpp7)
        walk_at "go"
        refine v_ixLL (i := 1) hpp10 rfl ?_
        walk_at "go"
        refine ⟨szl (by simp), fun u1 hu1 => ?_⟩
        generalize hH11 : upd H10 u1 _ = H11
        have e11 : Ex H10 H11 := hH11 ▸ Ex.nw hu1
        have hu111 : H11 u1 = some (.tup [.ref a0, .ref at_, .ref a2, .ref a3]) := hH11 ▸ upd_same
        walk_at "go"
        refine ⟨szl (by simp), fun v1 hv1 => ?_⟩
        generalize hH12 : upd H11 v1 _ = H12
        have e12' : Ex H11 H12 := hH12 ▸ Ex.nw hv1
        have hv112 : H12 v1 = some (.tup [sV (part1 r (b.cut r c)), .ref u1]) := hH12 ▸ upd_same
        walk_at "go"
        have e1012 := e11.t e12'
        have hst12 := e1012 _ _ (t10 _ _ (e79 _ _ hst7))
        refine v_ixTT (i := 0) hst12 rfl ?_
        walk_at "go"
        refine v_catS (b := [49]) (by simp; omega) ?_
        have hld12 := e1012 _ _ hld10
        refine ⟨ld, _, rfl, DPut.k (k := .inr (S (ad ++ [49]))) hld12 (by unfold kvF; rw [List.length_map, List.length_append, sizeLine_eq]; simp only [List.length_cons, List.length_nil]; omega), ?_⟩
        rw [kvF_put (part1 r (b.cut r c)) (splitB x g t bb).2 v1 (not49 _ _ _)]
        generalize hH13 : upd H12 ld _ = H13
        have b13 : ExS [ld] H12 H13 := hH13 ▸ ExS.up (by simp)
        have hld13 : H13 ld = some _ := hH13 ▸ upd_same
        have t13 : TExt H12 H13 := b13.te fun a m xs h => by simp at m; subst m; rw [hld12] at h; cases h
        have t613 : TExt H7 H13 := ((TExt.ex e79).t t10).t ((TExt.ex e1012).t t13)
        have t713 : TExt H9 H13 := t10.t ((TExt.ex e1012).t t13)
        have t813 : TExt H8 H13 := (TExt.ex e9).t t713
        have t1213 : TExt H11 H13 := (TExt.ex e12').t t13
        have hp : ∀ {a q}, HPr H5 a q → HPr H13 a q := fun h => t613 _ _ (e67 _ _ h)
        have h7' : HPr H13 at_ (onWay x.n x.s t bb) := t613 _ _ h7
        walk_at "go"
        refine fin H13 v0 v1 (((ExS.of (e7.t e79)).t b10).t ((ExS.of e1012).t b13)) ⟨u0, t713 _ _ hv09, ?_⟩ ⟨u1, t13 _ _ hv112, ?_⟩ hld13
        · rw [h45, splitB_lv]; exact ⟨a0, a1, a2, at_, t813 _ _ hu08, hp hx0, hp hx1, hp hx2, h7'⟩
        · rw [h45, splitB_lv]; exact ⟨a0, at_, a2, a3, t1213 _ _ hu111, hp hx0, h7', hp hx2, hp hx3⟩
end L2.FW
end
section
set_option maxRecDepth 100000
set_option maxHeartbeats 4000000
set_option exponentiation.threshold 9000
/-! The law's placed steps. -/
namespace L2.FW
open PySem PySem.Spec PyProof.Rows Fw
variable {P : Program} {w : World} {K : PySem.W.Frag} {mg : Str → Option Value} {base : Heap}
local macro_rules | `(tactic| walk_at "go1") => `(tactic| first
  | ((with_reducible apply v_var); exact rfl)
  | ((with_reducible apply s_aug); exact rfl)
  | with_reducible first
    | refine v_c ?_ | refine v_cons ?_ | refine v_nil ?_ | refine v_op ?_ | refine v_cb ?_ | refine v_call ?_ | refine v_bl ?_ | refine v_yes ?_
    | refine s_seq ?_ | refine s_ret ?_ | refine s_if ?_ | refine s_asg ?_ | refine g_name ?_ | refine v_test ?_ | refine v_tB ?_
    | refine v_rI0 ?_ | refine v_eqI ?_ | refine v_neI ?_ | refine v_eqS ?_ | refine v_neS ?_ | refine v_int1 ?_ | refine v_bool1 ?_ | refine v_abs ?_ | refine v_isN ?_ | refine v_notN ?_ | refine v_nsign ?_
    | refine v_andV ?_ | refine v_orV ?_ | refine v_notV ?_ | refine v_and ?_ | refine v_or ?_ | refine v_not ?_
    | refine v_if ?_ | refine v_tup ?_ | refine v_lst ?_ | refine v_sl ?_ | refine v_part ?_ | refine v_nopart ?_ | refine v_int ?_ | refine v_dget ?_ | refine v_din ?_ | refine v_dnin ?_
    | refine v_fld ?_ | refine v_meth ?_ | refine v_bm ?_ | refine v_m1 ?_ | refine v_strE ?_ | refine v_un ?_ | refine v_chain ?_ | refine s_next ?_ | refine s_drop ?_ | refine s_retN ?_ | refine s_par ?_ | refine s_par3 ?_
    | refine s_fld ?_ | refine s_dput ?_ | refine s_ddel ?_ | refine g_nil ?_ | refine g_cons ?_ | refine iteT ?_ | refine iteF ?_ | refine iteNT ?_ | refine iteNF ?_
    | refine isi_ss ?_ | refine isi_ii ?_ | refine isi_ib ?_ | refine v_lc ?_ | refine i_str ?_ | refine v_str ?_ | refine i_list ?_ | refine i_zipS ?_ | refine i_zipS3 ?_ | refine i_enumS ?_ | refine i_enum ?_ | refine i_tup ?_ | refine i_rng ?_ | refine s_for ?_ | refine v_star ?_ | refine v_makeR ?_ | refine v_make ?_ | refine v_cval ?_ | refine v_sign ?_)
local macro_rules | `(tactic| walk_at "go") => `(tactic| repeat walk_at "go1")
set_option pp.maxSteps 1200
theorem StepsOk.snoc {b : Bk} {st : Tx} {ss : List Stp} {s : Stp} (h : StepsOk b st ss) (c : s.1 ∈ (floorAt b st ss).map (·.1) ∧ s.2.1 ∈ b.ct ∧ 0 < s.2.2.1 ∧ s.2.2.1 < s.2.2.2 ∧ s.2.2.2 ≤ 2 ^ 20) : StepsOk b st (ss ++ [s]) := fun i x hx => by
  by_cases hi : i < ss.length
  · rw [List.getElem?_append_left hi] at hx
    rw [List.take_append_of_le_length (by omega)]
    exact h i x hx
  · have hi' : i = ss.length := by
      have := (List.getElem?_eq_some_iff.mp hx).1
      simp at this
      omega
    subst hi'
    rw [List.getElem?_append_right (Nat.le_refl _)] at hx
    simp at hx
    subst hx
    rw [List.take_append_of_le_length (Nat.le_refl _), List.take_length]
    exact c
theorem stepF_ne {b : Bk} {F : Fl} {s : Stp} (h : F ≠ []) : stepF b F s ≠ [] := by
  unfold stepF
  split
  · exact h
  · split
    · exact h
    · intro e
      have := congrArg List.length e
      simp [newF] at this
theorem floorAt_ne (b : Bk) (st : Tx) (ss : List Stp) : floorAt b st ss ≠ [] := by
  unfold floorAt
  have : ∀ (ss : List Stp) (F : Fl), F ≠ [] → ss.foldl (stepF b) F ≠ [] := fun ss => by
    induction ss with
    | nil => exact fun F h => h
    | cons s ss ih => exact fun F h => ih _ (stepF_ne h)
  exact this ss _ (by simp [floor0])
def spSomePlaced : Sp := fun vs H Q _ => ∃ (l cl s : Addr) (b : Bk) (st : Tx), vs = [.ref l, .ref s, sV st, .int 10] ∧ HBag H l cl ∧ HSpec H l s b ∧ BkOk b ∧ RoomOk b.fc st ∧
  ∀ p sl d ts H', H p = none → H sl = none → ExB l H H' → HBag H' l cl → H' p = some (.lst [.ref sl, .ref d]) → H' sl = some (.lst (ts.map fun r : Addr × Stp => V.ref r.1)) → HSp H' ts → ts.length = 10 → StepsOk b st (ts.map (·.2)) → HLf H' d (floorAt b st (ts.map (·.2))) → Q (.ref p) H'
/-! _law_some_placed: slots _law_bag 0 _law_spec 1 _law_start 2 _law_many 3 _law_steps 4 _law_boxes 5 _law_k 6 _law_address 7 _law_cutter 8 _law_place 9 -/
theorem sc__law_some_placed : FnScope ["_law_bag", "_law_spec", "_law_start", "_law_many", "_law_steps", "_law_boxes", "_law_k", "_law_address", "_law_cutter", "_law_place"] ["_law_bag", "_law_spec", "_law_start", "_law_many"] (defScope (top 103)) := C8.fnScope_by (by decide +kernel)
theorem cal__law_some_placed (T : T w K mg) : Cal P w K mg base 6 "_law_some_placed" spSomePlaced := by
  refine calD T.d__law_some_placed T.g__law_some_placed sc__law_some_placed (fun vs H Q E h => ?_) (fun _ _ _ _ _ _ us hl => match us, hl with | [_, _, _, _], _ => rfl) (fun cdv A outer s H vs Q E hr h => ?_)
  · obtain ⟨_, _, _, _, _, rfl, _⟩ := h; rfl
  obtain ⟨l, cl, s', b, st, rfl, hb, hs, bo, hst, k⟩ := h
  refine ⟨_, (pss_cons (ps_par (i := 4) (j := 5) (by rfl) sc__law_some_placed.nd rfl rfl (by decide) rfl rfl (pa_cons (pe_lst pa_nil) (pa_cons (pe_disp (pps_cons pe_str (pe_tup (pa_cons (pv 2) (pa_cons (pe_tup (pa_cons (pe_tup (pa_cons pe_int (pa_cons pe_int pa_nil))) (pa_cons (pe_tup (pa_cons pe_int (pa_cons pe_int pa_nil))) (pa_cons (pe_tup (pa_cons pe_int (pa_cons pe_int pa_nil))) (pa_cons (pe_tup (pa_cons pe_int (pa_cons pe_int pa_nil))) pa_nil))))) pa_nil))) pps_nil) (by rfl) (by rfl) (fun z => by cases z) (by decide)) pa_nil)) (by rfl))
      (pss_cons (ps_for PassesOwn.never rfl (pi_range1 rfl T.f_range (pa_cons (pv 3) pa_nil)) (pg_name (i := 6) sc__law_some_placed.nd rfl (Or.inl rfl)) (pss_cons (ps_par (i := 7) (j := 8) (by rfl) sc__law_some_placed.nd rfl rfl (by decide) rfl rfl (pa_cons (pe_cl (cal_law_ofL T) hr (by decide) rfl (pa_cons (pv 0) (pa_cons (pe_callB cr_sortS (by rfl) T.f_sorted (by decide +kernel) (pa_cons (pe_callTy (call_list_dK rfl) (by rfl) T.f_list (by decide +kernel) (pa_cons (pv 5) pa_nil)) pa_nil)) pa_nil))) (pa_cons (pe_cl (cal_law_ofS T) hr (by decide) rfl (pa_cons (pv 0) (pa_cons (pe_ix ix_list (pv 1) pe_int (fun _ _ => rfl)) pa_nil))) pa_nil)) (by rfl))
      (pss_cons (ps_set (i := 9) sc__law_some_placed.nd rfl (Or.inl rfl) (pe_cl (cal__law_some_place T) hr (by decide) rfl (pa_cons (pv 0) pa_nil)))
      (pss_cons (ps_expr (pe_bm PySem.F.plainAttrs_list PySem.F.slot_list_append PySem.F.type_list_append mt_append (pv 4) (pa_cons (pe_tup (pa_cons (pv 7) (pa_cons (pv 8) (pa_cons (pe_ix ix_tup (pv 9) pe_int (fun _ _ => rfl)) (pa_cons (pe_ix ix_tup (pv 9) pe_int (fun _ _ => rfl)) pa_nil))))) pa_nil)))
      (pss_one (ps_set (i := 5) sc__law_some_placed.nd rfl (Or.inl rfl) (pe_cl (cal__law_cut_box T) hr (by decide) rfl (pa_cons (pv 1) (pa_cons (pv 5) (pa_cons (pe_ix ix_list (pv 4) (pe_un un_neg pe_int) (fun _ _ => rfl)) pa_nil))))))))))
      (pss_one (ps_ret (pe_lst (pa_cons (pv 4) (pa_cons (pv 5) pa_nil))))))), ?_⟩
  walk_at "go"
  refine ⟨szl (by simp), fun sl hsl => ?_⟩
  generalize hH1 : upd H sl _ = H1
  have e1 : Ex H H1 := hH1 ▸ Ex.nw hsl
  have hsl1 : H1 sl = some (.lst []) := hH1 ▸ upd_same
  have nsl := hb.ne hsl
  walk_at "go"
  refine v_disp1 fun d hd => ?_
  generalize hH2 : upd H1 d _ = H2
  have e2 : Ex H1 H2 := hH2 ▸ Ex.nw hd
  have hd2 : H2 d = some (.dK []) := hH2 ▸ upd_same
  walk_at "go"
  refine ⟨szl (by simp), fun a0 ha0 => ?_⟩
  generalize hGa0 : upd H2 a0 _ = H3
  have ea0 : Ex H2 H3 := hGa0 ▸ Ex.nw ha0
  have pa0 : HPr H3 a0 (0 : Rat) := hGa0 ▸ upd_same
  walk_at "go"
  refine ⟨szl (by simp), fun a1 ha1 => ?_⟩
  generalize hGa1 : upd H3 a1 _ = H4
  have ea1 : Ex H3 H4 := hGa1 ▸ Ex.nw ha1
  have pa1 : HPr H4 a1 (0 : Rat) := hGa1 ▸ upd_same
  walk_at "go"
  refine ⟨szl (by simp), fun a2 ha2 => ?_⟩
  generalize hGa2 : upd H4 a2 _ = H5
  have ea2 : Ex H4 H5 := hGa2 ▸ Ex.nw ha2
  have pa2 : HPr H5 a2 (1 : Rat) := hGa2 ▸ upd_same
  walk_at "go"
  refine ⟨szl (by simp), fun a3 ha3 => ?_⟩
  generalize hGa3 : upd H5 a3 _ = H6
  have ea3 : Ex H5 H6 := hGa3 ▸ Ex.nw ha3
  have pa3 : HPr H6 a3 (1 : Rat) := hGa3 ▸ upd_same
  walk_at "go"
  refine ⟨szl (by simp), fun bt hbt => ?_⟩
  generalize hH7 : upd H6 bt _ = H7
  have e7 : Ex H6 H7 := hH7 ▸ Ex.nw hbt
  have hbt7 : H7 bt = some (.tup [.ref a0, .ref a1, .ref a2, .ref a3]) := hH7 ▸ upd_same
  walk_at "go"
  refine ⟨szl (by simp), fun rb hrb => ?_⟩
  generalize hH8 : upd H7 rb _ = H8
  have e8 : Ex H7 H8 := hH8 ▸ Ex.nw hrb
  have hrb8 : H8 rb = some (.tup [sV st, .ref bt]) := hH8 ▸ upd_same
  have e28 := ea0.t (ea1.t (ea2.t (ea3.t (e7.t e8))))
  refine disp1 (k := .inr (S [])) (e28 _ _ hd2) rfl ?_
  generalize hH9 : upd H8 d _ = H9
  have b9 : ExS [d] H8 H9 := hH9 ▸ ExS.up (by simp)
  have hd9 : H9 d = some (.dK (kvF [([], st, ⟨0, 0, 1, 1⟩, rb)])) := hH9 ▸ upd_same
  have hd8 := e28 _ _ hd2
  have t9 : TExt H8 H9 := b9.te fun a m xs h => by simp at m; subst m; rw [hd8] at h; cases h
  have nd : H d = none := e1.none hd
  have e09 : Ex H H9 := (e1.t (e2.t e28)).mutS (fun a m => by simp at m; subst m; exact nd) b9
  have nsd : sl ≠ d := fun e => by rw [← e, hsl1] at hd; cases hd
  have hsl9 : H9 sl = some (.lst []) := b9 _ _ (by simpa using nsd) ((e2.t e28) _ _ hsl1)
  have fl0 : HLf H9 d (floor0 st) := ⟨_, hd9, rfl, fun e m => by
    simp at m; subst m
    refine HLb.te t9 ⟨bt, hrb8, a0, a1, a2, a3, e8 _ _ hbt7, ?_, ?_, ?_, ?_⟩
    · exact (ea1.t (ea2.t (ea3.t (e7.t e8)))) _ _ pa0
    · exact (ea2.t (ea3.t (e7.t e8))) _ _ pa1
    · exact (ea3.t (e7.t e8)) _ _ pa2
    · exact (e7.t e8) _ _ pa3⟩
  walk_at "go"
  refine ⟨_, _, rfl, ?_⟩
  walk_at "go"
  refine ⟨10, rfl, by decide, by decide, ?_⟩
  refine for_it (walk_range (lo := 0) (n := 10)) (fun i σ H' => ∃ (d' : Addr) (ts : List (Addr × Stp)), (∃ v6 v7 v8 v9, σ = [some (.ref l), some (.ref s'), some (sV st), some (.int 10), some (.ref sl), some (.ref d'), v6, v7, v8, v9]) ∧ ExB l H H' ∧ HBag H' l cl ∧ H' sl = some (.lst (ts.map fun r => V.ref r.1)) ∧ HSp H' ts ∧ ts.length = i ∧ StepsOk b st (ts.map (·.2)) ∧ HLf H' d' (floorAt b st (ts.map (·.2))))
    ⟨d, [], ⟨_, _, _, _, rfl⟩, .of e09, hb.ex e09, hsl9, (fun r m => nomatch m), rfl, (fun i s h => by simp at h), fl0⟩ (fun i σ H' hi q => trivial) ?_ ?_
  · rintro i x σ H10 H11 hi ⟨d', ts, ⟨v6, v7, v8, v9, rfl⟩, bH, hb10, hsl10, hts, htl, hok, hfl⟩ ⟨rfl, rfl⟩
    obtain ⟨xsb, hxsb⟩ := hb.lst
    have hs10 := hs.exB bH hb
    obtain ⟨fok, fbd⟩ := hok.floor bo hst (ts.map (·.2)).length (Nat.le_refl _)
    rw [List.take_length] at fok fbd
    obtain ⟨L, hLd, hLF, hLe⟩ := hfl
    have hkeys : (kvF L).map (fun kv => kV kv.1) = (((flF L).map (·.1)).map S).map V.str := by simp [kvF, flF, kV]
    walk_at "go"
    refine ⟨d', _, rfl, hLd, fun kl hkl => ?_⟩
    rw [hkeys]
    walk_at "go"
    refine ⟨kl, _, rfl, ex_l upd_same, fun ys p hp _ hpn => ?_⟩
    obtain ⟨zs, rfl, hz⟩ := keys_sorted hp
    generalize hH12 : upd (upd H11 kl _) p _ = H12
    have e12 : Ex H11 H12 := hH12 ▸ (Ex.nw hkl).t (Ex.nw hpn)
    have hp12 : H12 p = some (.lst (zs.map sV)) := by rw [← hH12, upd_same, List.map_map]; rfl
    have np : p ≠ l := ((hb10.ex (Ex.nw hkl)).ne hpn).1
    walk_at "go"
    have hzl : zs.length = (flF L).length := by rw [hz.length_eq, List.length_map]
    have hFl : (flF L).length ≤ 20 := by have := fok.len; rw [hLF]; rw [List.length_map] at this; omega
    have hz0 : zs ≠ [] := fun e => by
      have h0 : (flF L).length = 0 := by rw [← hzl, e]; rfl
      have h1 : floorAt b st (ts.map (·.2)) ≠ [] := floorAt_ne _ _ _
      rw [← hLF] at h1
      exact h1 (List.length_eq_zero_iff.mp h0)
    refine ⟨l, cl, p, _, rfl, hb10.ex e12, hp12, np, by simpa using hz0, by rw [List.length_map]; omega, fun xa hxa H13 b13 hb13 => ?_⟩
    obtain ⟨ad, had, rfl⟩ := List.mem_map.mp hxa
    have hadF : ad ∈ (flF L).map (·.1) := hz.mem_iff.mp had
    have b1013 := (ExB.of e12).t b13
    walk_at "go"
    obtain ⟨ll, lrs, g1, g2, g3, g4, g5, g6⟩ := hs10.exB b1013 hb10
    refine v_ixLL (i := 1) g1 rfl ?_
    walk_at "go"
    refine ⟨l, cl, b.ct, rfl, hb13, bo.ct.ne, by have := bo.ct.len; omega, fun c hc H14 b14 hb14 => ?_⟩
    walk_at "go"
    refine ⟨_, _, rfl, ?_⟩
    walk_at "go"
    refine ⟨l, cl, rfl, hb14, fun pl t bb H15 hpl ht0 ht1 hbb b15 hb15 hpl15 => ?_⟩
    have b1015 := b1013.t (b14.t b15)
    have hsl15 := b1015 _ _ nsl.1 hsl10
    walk_at "go"
    refine ⟨ty_l hsl15, ?_⟩
    walk_at "go"
    refine v_ixTT (i := 0) hpl15 rfl ?_
    walk_at "go"
    refine v_ixTT (i := 1) hpl15 rfl ?_
    walk_at "go"
    refine ⟨szl (by simp), fun tp htp => ?_⟩
    generalize hH16 : upd H15 tp _ = H16
    have e16 : Ex H15 H16 := hH16 ▸ Ex.nw htp
    have htp16 : H16 tp = some (.tup (stV (ad, c, t, bb))) := hH16 ▸ upd_same
    walk_at "go"
    have hsl16 := e16 _ _ hsl15
    refine v_append hsl16 (by rw [List.length_map]; omega) ?_
    generalize hH17 : upd H16 sl _ = H17
    have b17 : ExB sl H16 H17 := hH17 ▸ ExB.upd
    have hsl17 : H17 sl = some (.lst ((ts ++ [((tp, (ad, c, t, bb)) : Addr × Stp)]).map fun r => V.ref r.1)) := by rw [← hH17, upd_same, List.map_append]; rfl
    have hb17 : HBag H17 l cl := hH17 ▸ (hb15.ex e16).up nsl
    have bH17 : ExB l H H17 := hH17 ▸ (bH.t (b1015.t (.of e16))).nw hsl
    obtain ⟨xs10, hx10⟩ := hb10.lst
    have tl : ∀ {a ys}, H11 a = some (.tup ys) → H17 a = some (.tup ys) := fun {a ys} h => b17 _ _ (fun e => by
        have := (e16 _ _ (b1015 _ _ (fun e => by rw [e, hx10] at h; cases h) h)); rw [e, hsl16] at this; cases this) (e16 _ _ (b1015 _ _ (fun e => by rw [e, hx10] at h; cases h) h))
    have hts17 : HSp H17 (ts ++ [(tp, (ad, c, t, bb))]) := fun r m => by
      rcases List.mem_append.mp m with m | m
      · exact tl (hts r m)
      · simp at m; subst m
        exact b17 _ _ (fun e => by have e : tp = sl := e; rw [e, hsl15] at htp; cases htp) htp16
    have hd'17 : H17 d' = some (.dK (kvF L)) := by
      have h1 := e16 _ _ (b1015 _ _ (fun e => by rw [e, hx10] at hLd; cases hLd) hLd)
      exact b17 _ _ (fun e => by rw [e, hsl16] at h1; cases h1) h1
    have hfl17 : HLf H17 d' (floorAt b st (ts.map (·.2))) := ⟨L, hd'17, hLF, hLe.te fun a ys h => tl h⟩
    walk_at "go"
    rw [List.map_append] at hsl17
    refine ⟨1, rfl, ?_⟩
    refine v_ixL (ex_l hsl17) (atI_last _ _) ?_
    walk_at "go"
    have hs17 := hs.exB bH17 hb
    have hb20 : bots (ts.map (·.2)) < 2 ^ 290 := Nat.lt_of_le_of_lt fbd (Nat.pow_lt_pow_right (by decide) (by rw [List.length_map]; omega))
    have htp17 : H17 tp = some (.tup [sV ad, sV [c], .int t, .int bb]) := hts17 (tp, (ad, c, t, bb)) (by simp)
    refine ⟨l, s', d', tp, b, _, _, _, ad, c, t, bb, rfl, hs17, bo, hfl17, fok, by rw [List.length_map]; omega, hb20, htp17, by rw [← hLF]; exact hadF, hc, ht0, ht1, hbb, fun d2 H18 e18 hf18 => ?_⟩
    refine ⟨d2, ts ++ [(tp, (ad, c, t, bb))], ⟨_, _, _, _, rfl⟩, bH17.t (.of e18), hb17.ex e18, by rw [List.map_append]; exact e18 _ _ hsl17, hts17.ex e18, by simp [htl], ?_, ?_⟩
    · rw [List.map_append]
      exact hok.snoc ⟨by rw [← hLF]; exact hadF, hc, ht0, ht1, by show bb ≤ 2 ^ 20; omega⟩
    · rw [List.map_append, List.map_cons, List.map_nil, floorAt_snoc]
      exact hf18
  · rintro σ H10 ⟨d', ts, ⟨v6, v7, v8, v9, rfl⟩, bH, hb10, hsl10, hts, htl, hok, hfl⟩
    walk_at "go"
    refine ⟨szl (by simp), fun p hp => ?_⟩
    have np := hb10.ne hp
    have hp0 := bH.none np.1 hp
    exact k p sl d' ts _ hp0 hsl (bH.nw hp0) (hb10.ex (Ex.nw hp)) upd_same ((Ex.nw hp) _ _ hsl10) (hts.ex (Ex.nw hp)) htl hok (hfl.ex (Ex.nw hp))
end L2.FW
end
section
set_option maxRecDepth 100000
set_option maxHeartbeats 4000000
set_option exponentiation.threshold 9000
/-! The law. -/
namespace L2.FW
open PySem PySem.Spec PyProof.Rows Fw
variable {P : Program} {w : World} {K : PySem.W.Frag} {mg : Str → Option Value} {base : Heap}
local macro_rules | `(tactic| walk_at "go1") => `(tactic| first
  | ((with_reducible apply v_var); exact rfl)
  | ((with_reducible apply s_aug); exact rfl)
  | with_reducible first
    | refine v_c ?_ | refine v_cons ?_ | refine v_nil ?_ | refine v_op ?_ | refine v_cb ?_ | refine v_call ?_ | refine v_bl ?_ | refine v_yes ?_
    | refine s_seq ?_ | refine s_ret ?_ | refine s_if ?_ | refine s_asg ?_ | refine g_name ?_ | refine v_test ?_ | refine v_tB ?_
    | refine v_rI0 ?_ | refine v_eqI ?_ | refine v_neI ?_ | refine v_eqS ?_ | refine v_neS ?_ | refine v_int1 ?_ | refine v_bool1 ?_ | refine v_abs ?_ | refine v_isN ?_ | refine v_notN ?_ | refine v_nsign ?_
    | refine v_andV ?_ | refine v_orV ?_ | refine v_notV ?_ | refine v_and ?_ | refine v_or ?_ | refine v_not ?_
    | refine v_if ?_ | refine v_tup ?_ | refine v_lst ?_ | refine v_sl ?_ | refine v_part ?_ | refine v_nopart ?_ | refine v_int ?_ | refine v_dget ?_ | refine v_din ?_ | refine v_dnin ?_
    | refine v_fld ?_ | refine v_meth ?_ | refine v_bm ?_ | refine v_m1 ?_ | refine v_strE ?_ | refine v_un ?_ | refine v_chain ?_ | refine s_next ?_ | refine s_drop ?_ | refine s_retN ?_ | refine s_par ?_ | refine s_par3 ?_
    | refine s_fld ?_ | refine s_dput ?_ | refine s_ddel ?_ | refine g_nil ?_ | refine g_cons ?_ | refine iteT ?_ | refine iteF ?_ | refine iteNT ?_ | refine iteNF ?_
    | refine isi_ss ?_ | refine isi_ii ?_ | refine isi_ib ?_ | refine v_lc ?_ | refine i_str ?_ | refine v_str ?_ | refine i_list ?_ | refine i_zipS ?_ | refine i_zipS3 ?_ | refine i_enumS ?_ | refine i_enum ?_ | refine i_tup ?_ | refine i_rng ?_ | refine s_for ?_ | refine v_star ?_ | refine v_makeR ?_ | refine v_make ?_ | refine v_cval ?_ | refine v_sign ?_)
local macro_rules | `(tactic| walk_at "go") => `(tactic| repeat walk_at "go1")
set_option pp.maxSteps 1200
theorem HBook.exB {H H' : Hp} {l cl a : Addr} {b : Bk} (e : ExB l H H') (hb : HBag H l cl) (h : HBook K H a b) : HBook K H' a b := by
  obtain ⟨dx, ll, rs, h1, h2, h3, h4⟩ := h
  obtain ⟨cs, i, rest, mixed, cnt, g1, _⟩ := hb
  have n : ll ≠ l := fun e => by
    rw [e, g1] at h2
    have h2 : ([.ref cl, .int (i : Nat), .int rest, .int mixed, .int cnt] : List V) = rs.map fun r => V.ref r.1 := by simpa using h2
    match rs, h2 with
    | _ :: r1 :: _, h2 => simp at h2
  exact ⟨dx, ll, rs, e _ _ (fun e => by rw [e, g1] at h1; cases h1) h1, e _ _ n h2, h3.exB e g1, h4⟩
theorem units65 {k : Nat} {A : Around} (h : Room k A) : A.units + 65 < cLine := by have := h.un; omega
theorem HTri.exB {H H' : Hp} {l : Addr} {xs : List V} {rs : List (Addr × Tri)} (e : ExB l H H') (hl : H l = some (.lst xs)) (h : HTri H rs) : HTri H' rs := fun r m => e _ _ (fun e => by have := h r m; rw [e, hl] at this; cases this) (h r m)
/-- what the law finds: a sign, two rooms that can meet so -/
def FndT (b : Bk) (st : Tx) (n : Nat) (z : Tri) : Prop := ∃ g r1 r2, z = ([g], r1, r2) ∧ G2 g ∧ Wit b st g r1 r2 n ∧ RoomOk b.fc r1 ∧ RoomOk b.fc r2
theorem eqv_nil {ds : List PyData} : PyData.eqv (.list ds) (.list []) = decide (ds = []) := by
  cases ds with
  | nil => simp [PyData.eqv, PyData.eqvAll]
  | cons a l => simp [PyData.eqv, PyData.eqvAll]
theorem v_neNil {H : Hp} {Q : VK} {a c : Addr} {rs : List (Addr × Tri)} (hrz : ∀ r ∈ rs, AscT r.2) (ha : H a = some (.lst (rs.map fun r => V.ref r.1))) (hc : H c = some (.lst [])) (hr : HTri H rs) (q : Q (.bl (!decide (rs = []))) H) : rNeD K (.ref a) (.ref c) H Q := by
  refine ⟨.list (rs.map fun r => triD r.2), .list [], .lst (ex_l ha) (dp_tris rs hr), .lst (ex_l hc) .nil, ?_, ?_, ?_⟩
  · have := triDs_shaped (rs.map (·.2)) fun z m => by
      obtain ⟨r, hr, rfl⟩ := List.mem_map.mp m
      exact hrz r hr
    rw [List.map_map] at this
    exact this
  · exact triDs_shaped [] fun z m => nomatch m
  · rw [eqv_nil, show decide ((rs.map fun r => triD r.2) = []) = decide (rs = []) by simp]
    exact q
theorem all_true {ys : List V} {n : Nat} (hl : ys.length = n) (h : ∀ (i : Nat) y, ys[i]? = some y → y = V.bl true) : ys = (List.replicate n true).map V.bl := by
  apply List.ext_getElem (by simp [hl])
  intro j h1 h2
  rw [h j ys[j] (List.getElem?_eq_getElem h1)]
  simp
def spLaw (K : PySem.W.Frag) : Sp := fun vs H Q _ => ∃ (a : Addr) (ns : List Int), vs = [.ref a] ∧ SqL K H a (ns.map V.int) ∧ ns.length ≤ 63 ∧ ∀ H', Q (.bl true) H'
/-! law: slots _law_script 0 _law_bag 1 _law_spec 2 _law_book_here 3 _law_start 4 _law_known 5 _law_turn 6 _law_steps 7 _law_boxes 8 _law_found 9 _law_sign 10 _law_one 11 _law_other 12 _law_triple 13 _law_first 14 _law_second 15 _law_paper 16 -/
theorem sc_law : FnScope ["_law_script", "_law_bag", "_law_spec", "_law_book_here", "_law_start", "_law_known", "_law_turn", "_law_steps", "_law_boxes", "_law_found", "_law_sign", "_law_one", "_law_other", "_law_triple", "_law_first", "_law_second", "_law_paper"] ["_law_script"] (defScope (top 105)) := C8.fnScope_by (by decide +kernel)
theorem fn_law (T : T w K mg) (hP : SupP P) {fd : FuncData} (F : FnP K "law" "law" (top 105) [] (He.ga K "law") fd) : FnOk P w K mg base CX0 10 (He.ga K "law") fd ["_law_script"] (spLaw K) := by
  refine fnD F sc_law (fun vs H Q E h => ?_) (fun cdv A outer s H vs Q E hr h => ?_)
  · obtain ⟨_, _, rfl, _⟩ := h; rfl
  obtain ⟨a, ns, rfl, ha, hn, k⟩ := h
  refine ⟨_, (pss_cons (ps_set (i := 1) sc_law.nd rfl (Or.inl rfl) (pe_cl (cal__law_open T) hr (by decide) rfl (pa_cons (pv 0) pa_nil)))
      (pss_cons (ps_set (i := 2) sc_law.nd rfl (Or.inl rfl) (pe_cl (cal__law_some_book T) hr (by decide) rfl (pa_cons (pv 1) (pa_cons (pe_lst (pa_cons pe_int (pa_cons pe_int (pa_cons pe_int pa_nil)))) pa_nil))))
      (pss_cons (ps_par (i := 3) (j := 4) (by rfl) sc_law.nd rfl rfl (by decide) rfl rfl (pa_cons (pe_cl (cal__law_book T) hr (by decide) rfl (pa_cons (pv 2) pa_nil)) (pa_cons (pe_cl (cal__law_some_room T) hr (by decide) rfl (pa_cons (pv 1) (pa_cons (pe_ix ix_list (pv 2) pe_int (fun _ _ => rfl)) pa_nil))) pa_nil)) (by rfl))
      (pss_cons (ps_set (i := 5) sc_law.nd rfl (Or.inr rfl) (pe_cl (cal_touching T) hr (by decide) rfl (pa_cons (pv 3) (pa_cons (pv 4) pa_nil))))
      (pss_cons (ps_for PassesOwn.never rfl (pi_range1 rfl T.f_range (pa_cons pe_int pa_nil)) (pg_name (i := 6) sc_law.nd rfl (Or.inl rfl)) (pss_cons (ps_asg (pe_cl (cal__law_some_placed T) hr (by decide) rfl (pa_cons (pv 1) (pa_cons (pv 2) (pa_cons (pv 4) (pa_cons pe_int pa_nil))))) (pg_lst rfl (pgs_cons (pg_name (i := 7) sc_law.nd rfl (Or.inl rfl)) (pgs_cons (pg_name (i := 8) sc_law.nd rfl (Or.inr rfl)) pgs_nil))))
      (pss_cons (ps_setLc (i := 9) (own := [("_law_sign", 10), ("_law_one", 11), ("_law_other", 12)]) (g := gTup K 3 (gCons (gName 10) (gCons (gName 11) (gCons (gName 12) gNil)))) (by rfl) sc_law.nd rfl rfl (sw_true rfl rfl rfl (by decide +kernel)) (pi_list (pe_cl (cal_meeting T) hr (by decide) rfl (pa_cons (pv 3) (pa_cons (pv 4) (pa_cons (pv 7) pa_nil))))) (blkOk_by (own := [("_law_sign", 10), ("_law_one", 11), ("_law_other", 12)]) (N := ["_law_script", "_law_bag", "_law_spec", "_law_book_here", "_law_start", "_law_known", "_law_turn", "_law_steps", "_law_boxes", "_law_found", "_law_sign", "_law_one", "_law_other", "_law_triple", "_law_first", "_law_second", "_law_paper"]) (sc := defScope (top 105)) (by decide +kernel)) (fun _ _ _ _ _ => (pg_tup rfl (pgs_cons (pg_name (i := 10) sc_law.nd rfl (Or.inl rfl)) (pgs_cons (pg_name (i := 11) sc_law.nd rfl (Or.inl rfl)) (pgs_cons (pg_name (i := 12) sc_law.nd rfl (Or.inl rfl)) pgs_nil))))) (fun _ _ _ _ _ => pts_nil) (fun _ _ _ _ _ => (pe_tup (pa_cons (pv 10) (pa_cons (show PE _ _ (tOp (rIxT K) (tDGet (tVar 8) (tVar 11)) (tC (.int 0))) from pe_ix ix_tup (pe_dget (hu1 hr) (pv 8) (pv 11) (fun _ _ => rfl)) pe_int (fun _ _ => rfl)) (pa_cons (show PE _ _ (tOp (rIxT K) (tDGet (tVar 8) (tVar 12)) (tC (.int 0))) from pe_ix ix_tup (pe_dget (hu1 hr) (pv 8) (pv 12) (fun _ _ => rfl)) pe_int (fun _ _ => rfl)) pa_nil))))))
      (pss_cons (ps_if (pt_not (pt_val (pe_callB (cr_all rfl) (by rfl) T.f_all (by decide +kernel) (pa_cons (pe_lc (own := [("_law_triple", 13)]) (g := gName 13) (by rfl) sc_law.nd (pi_list (pv 9)) (blkOk_by (own := [("_law_triple", 13)]) (N := ["_law_script", "_law_bag", "_law_spec", "_law_book_here", "_law_start", "_law_known", "_law_turn", "_law_steps", "_law_boxes", "_law_found", "_law_sign", "_law_one", "_law_other", "_law_triple", "_law_first", "_law_second", "_law_paper"]) (sc := defScope (top 105)) (by decide +kernel)) (fun _ _ _ _ _ => (pg_name (i := 13) sc_law.nd rfl (Or.inl rfl))) (fun _ _ _ _ _ => pts_nil) (fun _ _ _ _ _ => (show PE _ _ (tOp (rInD K) (tVar 13) (tVar 5)) from pe_cmpR (op_inD (units65 hr)) (pv 13) (pv 5) rfl))) pa_nil)))) (pss_one (ps_ret pe_bl)) pss_nil)
      (pss_one (ps_if (pt_cmpR (op_neD hr.units) (pv 9) (pe_lst pa_nil) (nomark _)) (pss_cons (ps_asg (pe_cl (cal_law_ofL T) hr (by decide) rfl (pa_cons (pv 1) (pa_cons (pv 9) pa_nil))) (pg_tup rfl (pgs_cons (pg_name (i := 10) sc_law.nd rfl (Or.inl rfl)) (pgs_cons (pg_name (i := 14) sc_law.nd rfl (Or.inl rfl)) (pgs_cons (pg_name (i := 15) sc_law.nd rfl (Or.inl rfl)) pgs_nil)))))
      (pss_cons (ps_set (i := 16) sc_law.nd rfl (Or.inl rfl) (pe_cl (cal_touch_of T hP) hr (by decide) rfl (pa_cons (pv 3) (pa_cons (pv 4) (pa_cons (pv 10) (pa_cons (pv 14) (pa_cons (pv 15) pa_nil)))))))
      (pss_one (ps_if (PW.pt (pw_or (pt_cmpR op_isNn (pv 16) pe_non (nomark _)) (pw_or (pt_cmpR op_notBl (pe_mm0 (met_Touch_holds T) hr (by decide) (pv 16)) pe_bl (nomark _)) (pw_or1 (pt_cmpR op_gt (pe_callB cl_lenSeq (by rfl) T.f_len (by decide +kernel) (pa_cons (pe_mm0 (met_Touch_steps T) hr (by decide) (pv 16)) pa_nil)) (pe_callB cl_lenSeq (by rfl) T.f_len (by decide +kernel) (pa_cons (pv 7) pa_nil)) (nomark _)))))) (pss_one (ps_ret pe_bl)) pss_nil)))) pss_nil))))))
      (pss_one (ps_ret pe_bl))))))), ?_⟩
  walk_at "go"
  refine ⟨a, ns, rfl, ha, hn, fun l cl H1 hl hcl e1 hb1 => ?_⟩
  walk_at "go"
  refine ⟨szl (by simp), fun sz hsz => ?_⟩
  generalize hH2 : upd H1 sz _ = H2
  have e2 : Ex H1 H2 := hH2 ▸ Ex.nw hsz
  have hsz2 : H2 sz = some (.lst [.int 6, .int 3, .int 3]) := hH2 ▸ upd_same
  walk_at "go"
  refine ⟨l, cl, sz, rfl, hb1.ex e2, hsz2, (hb1.ne hsz).1, fun s' b H3 hs' bo hbl b3 hb3 hs3 => ?_⟩
  walk_at "go"
  refine ⟨l, s', b, rfl, hs3, bo, fun bk H4 hbk e4 hbk4 => ?_⟩
  walk_at "go"
  obtain ⟨ll, lrs, g1, g2, g3, g4, g5, g6⟩ := hs3.ex e4
  refine v_ixLL (i := 0) g1 rfl ?_
  walk_at "go"
  have hb4 := hb3.ex e4
  refine ⟨l, cl, b.fc, rfl, hb4, bo.fc.ne, by have := bo.fc.len; omega, fun st H5 hst b5 hb5 => ?_⟩
  have hbk5 := hbk4.exB b5 hb4
  have hs5 := (hs3.ex e4).exB b5 hb4
  walk_at "go"
  refine ⟨_, _, rfl, ?_⟩
  walk_at "go"
  refine ⟨bk, b, st, rfl, hbk5, bo, hst, fun kl rs H6 hkl e6 hkl6 hrs6 hasc hcomp => ?_⟩
  have nkl := (hb5.ne hkl).1
  walk_at "go"
  refine ⟨3, rfl, by decide, by decide, ?_⟩
  refine for_it (walk_range (lo := 0) (n := 3)) (fun i σ H' => (∃ v6 v7 v8 v9 v10 v11 v12 v13 v14 v15 v16, σ = [some (.ref a), some (.ref l), some (.ref s'), some (.ref bk), some (sV st), some (.ref kl), v6, v7, v8, v9, v10, v11, v12, v13, v14, v15, v16]) ∧ HBag H' l cl ∧ HSpec H' l s' b ∧ HBook K H' bk b ∧ H' kl = some (.lst (rs.map fun r : Addr × Tri => V.ref r.1)) ∧ HTri H' rs)
    ⟨⟨_, _, _, _, _, _, _, _, _, _, _, rfl⟩, hb5.ex e6, hs5.ex e6, hbk5.ex e6, hkl6, hrs6⟩ (fun i σ H' hi q => trivial) ?_ ?_
  · rintro i x σ H7 H8 hi ⟨⟨v6, v7, v8, v9, v10, v11, v12, v13, v14, v15, v16, rfl⟩, hb7, hs7, hbk7, hkl7, hrs7⟩ ⟨rfl, rfl⟩
    walk_at "go"
    refine ⟨l, cl, s', b, st, rfl, hb7, hs7, bo, hst, fun p sl d ts H9 hp hsl b9 hb9 hp9 hsl9 hts9 htl hok hfl => ?_⟩
    have nsl := (hb7.ne hsl).1
    obtain ⟨xs7, hx7⟩ := hb7.lst
    have hs9 := hs7.exB b9 hb7
    have hbk9 := hbk7.exB b9 hb7
    have hkl9 := b9 _ _ nkl hkl7
    have hrs9 := hrs7.exB b9 hx7
    refine ⟨p, _, rfl, ex_l hp9, rfl, ?_⟩
    walk_at "go"
    refine ⟨bk, sl, b, st, ts, rfl, hbk9, bo, hst, hsl9, hts9, by omega, hok, fun ml mrs H10 hml e10 hml10 hmrs10 hmeet hmn => ?_⟩
    refine ⟨ml, rfl, ⟨_, ex_l hml10⟩, ?_⟩
    have hb10 := hb9.ex e10
    obtain ⟨L, hLd, hLF, hLe⟩ := hfl.ex e10
    have fok := (hok.floor bo hst (ts.map (·.2)).length (Nat.le_refl _)).1
    rw [List.take_length, ← hLF] at fok
    refine lc_lstR (ex_l hml10) (by rw [List.length_map]; omega) (fun i y H => ∃ t z, y = .ref t ∧ H t = some (.tup (triV z)) ∧ FndT b st 10 z) (fun D i y H H' zs hD b h => ?_) (fun i x H11 Kt Kn hi e kt => ?_) (fun D H11 ys hD e hl2 hlen hr2 => ?_)
    · obtain ⟨t, z, rfl, h1, h2⟩ := h
      exact ⟨t, z, rfl, b _ _ (fun e => by rw [e, hD] at h1; cases h1) h1, h2⟩
    · rw [List.getElem?_map] at hi
      obtain ⟨r, hri, rfl⟩ := Option.map_eq_some_iff.mp hi
      have hm := List.mem_of_getElem? hri
      obtain ⟨X, Y, hX, hY, hz1, hz2⟩ := hmeet r hm
      rw [← hLF] at hX hY
      have find : ∀ {q : Tx} {B : Bx}, (q, B) ∈ bxF (flF L) → ∃ rr, (q, rr, B) ∈ flF L := fun {q B} h => by
        obtain ⟨e, he, h1⟩ := List.mem_map.mp h
        injection h1 with h1 h2
        subst h1 h2
        exact ⟨e.2.1, he⟩
      obtain ⟨r1, hm1⟩ := find hX
      obtain ⟨r2, hm2⟩ := find hY
      obtain ⟨a1, w1, c1⟩ := kvF_getL (hLe.te (.ex e)) fok.nd hm1
      obtain ⟨a2, w2, c2⟩ := kvF_getL (hLe.te (.ex e)) fok.nd hm2
      obtain ⟨bt1, d1, _⟩ := c1
      obtain ⟨bt2, d2, _⟩ := c2
      refine g_tup (xs := [sV r.2.1, sV r.2.2.1, sV r.2.2.2]) (ex_t (e _ _ (hmrs10 r hm))) rfl ?_
      walk_at "go"
      refine ⟨rfl, ?_⟩
      walk_at "go"
      refine ⟨d, _, rfl, w1 ▸ DGet.k (k := .inr (S r.2.2.1)) (e _ _ hLd), ?_⟩
      walk_at "go"
      refine v_ixTT (i := 0) d1 rfl ?_
      walk_at "go"
      refine ⟨d, _, rfl, w2 ▸ DGet.k (k := .inr (S r.2.2.2)) (e _ _ hLd), ?_⟩
      walk_at "go"
      refine v_ixTT (i := 0) d2 rfl ?_
      walk_at "go"
      refine ⟨szl (by simp), fun t ht => ?_⟩
      refine kt _ _ (Ex.nw ht) ⟨t, (r.2.1, r1, r2), rfl, upd_same, ?_⟩
      have hz2 : signB X Y ≠ [] := by rw [← hz1]; exact hz2
      obtain ⟨g, hg⟩ := signB_one hz2
      rw [hLF] at hm1 hm2
      obtain ⟨hg2, hw⟩ := meet_wit bo hst hok hm1 hm2 hg
      rw [List.length_map, htl] at hw
      rw [hLF] at fok
      exact ⟨g, r1, r2, by rw [hz1, hg], hg2, hw, fok.room _ hm1, fok.room _ hm2⟩
    · obtain ⟨frs, rfl, hfrs, hfok⟩ := tris_of (R := FndT b st 10) (ys := ys) fun y hy => by
        obtain ⟨j, hj⟩ := List.mem_iff_getElem?.mp hy
        exact hr2 j y hj
      have hb11 := hb10.ex e
      have e911 := e10.t e
      have nD' := (hb10.ne hD).1
      have fasc : ∀ r ∈ frs, AscT r.2 := fun r m => by
        obtain ⟨g, r1, r2, hz, hg, hw, o1, o2⟩ := hfok r m
        rw [hz]
        exact TriOk.asc bo.fc ⟨by rcases hg with rfl | rfl <;> simp, o1, o2⟩
      have hfl' : frs.length ≤ 10000 := by
        rw [List.length_map, List.length_map] at hlen
        omega
      walk_at "go"
      refine ⟨D, rfl, ⟨_, ex_l hl2⟩, ?_⟩
      refine lc_lstR (ex_l hl2) (by rw [List.length_map]; omega) (fun i y H => y = .bl true) (fun D i y H H' zs hD b h => h) (fun i x H12 Kt Kn hi e12 kt => ?_) (fun D2 H12 ys hD2 e12 hl12 hlen12 hr12 => ?_)
      · rw [List.getElem?_map] at hi
        obtain ⟨r, hri, rfl⟩ := Option.map_eq_some_iff.mp hi
        have hm := List.mem_of_getElem? hri
        obtain ⟨g, r1, r2, hz, hg, hw, o1, o2⟩ := hfok r hm
        walk_at "go"
        refine ⟨rfl, ?_⟩
        walk_at "go"
        refine v_inTri (z := r.2) (rs := rs) (fasc r hm) hasc (e12 _ _ (hfrs r hm)) ((e911.t e12) _ _ hkl9) (hrs9.ex (e911.t e12)) ?_
        rw [decide_eq_true (by rw [hz]; exact hcomp g r1 r2 10 hw)]
        exact kt _ _ Ex.rfl' rfl
      · have hys : ys = (List.replicate frs.length true).map V.bl := all_true (by rw [hlen12, List.length_map]) hr12
        walk_at "go"
        refine v_all (bs := List.replicate frs.length true) (ex_l (by rw [hl12, hys])) ?_
        rw [show (List.replicate frs.length true).all id = true by simp]
        walk_at "go"
        refine ⟨szl (by simp), fun nl hnl => ?_⟩
        generalize hH13 : upd H12 nl _ = H13
        have e13 : Ex H12 H13 := hH13 ▸ Ex.nw hnl
        have hnl13 : H13 nl = some (.lst []) := hH13 ▸ upd_same
        have e1113 := e12.t e13
        have e913 := e911.t e1113
        have hD13 := e1113 _ _ hl2
        have hb13 := hb11.ex e1113
        refine v_neNil fasc hD13 hnl13 (hfrs.ex e1113) ?_
        walk_at "go"
        by_cases hf0 : frs = []
        · rw [decide_eq_true hf0]
          walk_at "go"
          exact ⟨⟨_, _, _, _, _, _, _, _, _, _, _, rfl⟩, hb13, hs9.ex e913, hbk9.ex e913, e913 _ _ hkl9, hrs9.ex e913⟩
        · rw [decide_eq_false hf0]
          walk_at "go"
          refine ⟨l, cl, D, _, rfl, hb13, hD13, nD', by simpa using hf0, by rw [List.length_map]; omega, fun xf hxf H14 b14 hb14 => ?_⟩
          obtain ⟨r, hm, rfl⟩ := List.mem_map.mp hxf
          obtain ⟨g, r1, r2, hz, hg, hw, o1, o2⟩ := hfok r hm
          have hrt := (hfrs.ex e1113) r hm
          rw [hz] at hrt
          obtain ⟨xs13, hx13⟩ := hb13.lst
          have hrt14 : H14 r.1 = some (.tup [sV [g], sV r1, sV r2]) := b14 _ _ (fun e => by rw [e, hx13] at hrt; cases hrt) hrt
          have hbk14 := (hbk9.ex e913).exB b14 hb13
          have hs14 := (hs9.ex e913).exB b14 hb13
          have hkl14 := b14 _ _ nkl (e913 _ _ hkl9)
          have hrs14 := (hrs9.ex e913).exB b14 hx13
          have hsl14 := b14 _ _ nsl (e913 _ _ hsl9)
          refine g_tup (ex_t hrt14) rfl ?_
          walk_at "go"
          refine ⟨bk, b, st, r1, r2, g, 10, rfl, hbk14, bo, hst, o1, o2, hg, hw, by decide, fun tp ss one other X Y H15 htp e15 hto okS m1 m2 hsig hss => ?_⟩
          walk_at "go"
          refine itF (by simp) ?_
          walk_at "go"
          refine hto.mth (fun _ _ _ _ _ _ => rfl) ?_
          walk_at "go"
          refine ⟨tp, bk, b, st, g, one, other, ss, r1, r2, X, Y, rfl, hto, hbk14.ex e15, bo, hst, okS, by omega, m1, m2, hsig, fun H16 e16 => ?_⟩
          walk_at "go"
          refine ⟨true, true, rfl, rfl, ?_⟩
          walk_at "go"
          refine itNT rfl ?_
          walk_at "go"
          refine (hto.ex e16).mth (fun _ _ _ _ _ _ => rfl) ?_
          walk_at "go"
          refine ⟨tp, bk, st, g, one, other, ss.map stV, rfl, hto.ex e16, by rw [List.length_map]; omega, fun row hrow => ?_, fun l' rs' H17 hl' e17 h17 hrow hrr => ?_⟩
          · obtain ⟨s, _, rfl⟩ := List.mem_map.mp hrow
            refine ⟨by simp [stV], fun v hv => ?_⟩
            simp only [stV, List.mem_cons, List.not_mem_nil, or_false] at hv
            rcases hv with rfl | rfl | rfl | rfl
            · exact .s _
            · exact .s _
            · exact .i _
            · exact .i _
          · have hrl : rs'.length = ss.length := by
              have := congrArg List.length hrr
              rw [List.length_map, List.length_map] at this
              exact this
            have e1417 := e15.t (e16.t e17)
            walk_at "go"
            refine v_lenL (ex_l h17) ?_
            rw [List.length_map]
            walk_at "go"
            refine v_lenL (ex_l (e1417 _ _ hsl14)) ?_
            rw [List.length_map]
            walk_at "go"
            refine itF (by omega) ?_
            walk_at "go"
            exact ⟨⟨_, _, _, _, _, _, _, _, _, _, _, rfl⟩, hb14.ex e1417, hs14.ex e1417, hbk14.ex e1417, e1417 _ _ hkl14, hrs14.ex e1417⟩
  · rintro σ H7 ⟨⟨v6, v7, v8, v9, v10, v11, v12, v13, v14, v15, v16, rfl⟩, _⟩
    walk_at "go"
    exact k H7
end L2.FW
end
section
set_option maxRecDepth 100000
set_option maxHeartbeats 4000000
/-! The end: the law holds, if the head's run is as said. -/
namespace L2.FW
open PySem PySem.Spec PyProof.Rows PySem.W PySem.Calls
abbrev R' : PySem.W.OpenRow := PySem.W.OpenLaw.row PySem.Challenge.rw_fourwalls_k56_whole_meetings_can_come
def ob' (s : PySem.W.SharedT) : AlM := obsMG (HandSHeadRun.getT s)
theorem ob_eq' (s : PySem.W.SharedT) : ob' s = hookM.obs s.abs := obsMG_eq (HandSHeadRun.getT_eq s)
theorem supP : SupP PySem.Challenge.pw_fourwalls_k56_whole_meetings_can_come := ⟨by rfl, by decide +kernel⟩
end L2.FW
open PySem PySem.W PySem.Calls PyProof.Rows
theorem fin_holds (run : ∀ w, HandSHeadRun.RunEqI L2.FW.R' (PySem.W.view L2.FW.R'.prog [0, 105]) L2.FW.hookM L2.FW.ob' 20000 L2.FW.loose w) : PySem.Challenge.rw_fourwalls_k56_whole_meetings_can_come.Holds := by
  w_on; o_law
  refine HandSHeadRun.head_imp (r := OpenLaw.row PySem.Challenge.rw_fourwalls_k56_whole_meetings_can_come) (q := view (OpenLaw.row PySem.Challenge.rw_fourwalls_k56_whole_meetings_can_come).prog [0, 105]) (H := L2.FW.hookM) (ob := L2.FW.ob') (M := 20000) (loose := L2.FW.loose) (d := HandSHeadRun.topDef (OpenLaw.row PySem.Challenge.rw_fourwalls_k56_whole_meetings_can_come).prog 105) (kwd := []) L2.FW.ob_eq' run
    (by kernel_rfl) (by kernel_rfl) (by kernel_rfl) (by rfl) (by first | assumption | decide +kernel) (by decide +kernel) ⟨rfl, rfl, rfl, rfl, rfl, by decide +kernel⟩ ?hw ?hc
  case hw => w_witness2
  case hc =>
    refine L2.walk_ofE (l := PySem.Challenge.rw_fourwalls_k56_whole_meetings_can_come) (n := 63) (k := 10) (x := "_law_script") (CX := L2.CX0) rfl (by decide) (by kernel_rfl) ⟨rfl, by decide, by decide⟩ ?F (fun _ _ _ _ z => z)
    intro w mg fa h Y G hmg0
    obtain ⟨K, KX, c⟩ := Y
    have T : L2.FW.T w K mg := ⟨⟨h, KX, G⟩, c⟩
    have hmg : mg ("law" : PySem.Str) = some (.ref fa) := by
      have e : (HandSHeadRun.topDef (OpenLaw.row PySem.Challenge.rw_fourwalls_k56_whole_meetings_can_come).prog 105).name = ("law" : PySem.Str) := by kernel_rfl
      rw [← e]
      exact hmg0
    have e := hmg.symm.trans T.g_law
    obtain ⟨fd, F⟩ := T.d_law
    have b := L2.FunD.bindsA (ps := ["_law_script"]) F fun _ _ _ _ _ _ us hl => match us, hl with | [_], _ => rfl
    cases e
    exact ⟨K, fd, L2.FW.spLaw K, KX, fun s v => b s [v] rfl, fun H a ns hl _ hS => ⟨a, ns, rfl, hS, hl, fun _ => rfl⟩, fun base _ _ => L2.FW.fn_law T L2.FW.supP F⟩
end
theorem PySem.Challenge.cw_fourwalls_k56_whole_meetings_can_come_holds : PySem.Challenge.rw_fourwalls_k56_whole_meetings_can_come.Holds := by
  exact fin_holds L2.FWHd.run
