import PyProof.Rows.All
import Wide.All
import OpenK.AllK
import Wide.FinOn
import HandS.ForMost
import HandS.IsInst
import HandS.TupAny
import HandS.Deep
import HandS.Style
import HandS.Defaults
import HandS.Lambda
import KE.KeyNested
import KE.KDictKeyed
import KE.DataMinMax
import HandS.Star
import HandS.Zip
import KE.DataCmp
import KE.GoesEnum
import HandS.Head0
import HandS.Head1
import HandS.Head2
import HandS.HeadEnd
import HandS.HeadHook1
import HandS.HeadHook2
import HandS.HeadHook3
import HandS.HeadHook4
import HandS.DictComp
import HandS.Small
import KE.KDictWalk
import HandS.SetFor
import KE.KDictDisplayH
import HandS.Conv
import KE.SortData
import PyProof.Claim2Refuses
import HandS.DictTup
import KE.LtSeq
import PyProof.P3Eq
import KE.DataMinKey
import KE.KLam
import HandS.Strs
import HandS.HeadWalk
import PyProof.ReprRoads
import HandS.More
import HandS.TupSets
import HandS.New
import KE.KExcSuper
import KE.KDictPairs
import KE.KDictItemsList
import HandS.MakeKwOnly
import HandS.OwnEq
import KE.KOwnIter
import HandS.ExcValue
import KE.KTryMore
import HandS.ExcIs
import HandS.ExcField
import KE.KRevSl
import HandS.RevTup
import HandS.TupLen
import HandS.TupMul
import PySem.Challenge.RW_latebound_k70_what_is_no_preload
set_option Elab.async false
set_option linter.all false
set_option maxRecDepth 100000
set_option maxHeartbeats 4000000
noncomputable section
namespace Mi
open PySem PySem.Spec PyProof.Rows L2
inductive Mty where
  | int | bool | str | list | tuple | dict | none
  deriving DecidableEq
def Mty.name : Mty → String
  | .int => "int" | .bool => "bool" | .str => "str" | .list => "list" | .tuple => "tuple" | .dict => "dict" | .none => "NoneType"
inductive Mv where
  | non | bl (b : Bool) | int (i : Int) | str (x : Str) | tup (ws : List Mv) | ref (n : Nat) | ty (t : Mty) | fl (ws : List Mv) | cls (c : Nat)
inductive Mo where
  | lst (ws : List Mv)
  | ins (c : Nat) (fs : List (Nat × Mv))
  | dk (kvs : List (Key × Mv))
  /-- a dict whose keys are tuples, each with its key, the tuple itself, its value -/
  | dn (kvs : List (NestedKey × Mv × Mv))
  /-- the same two, locked while they are walked -/
  | lk (kvs : List (Key × Mv))
  | ln (kvs : List (NestedKey × Mv × Mv))
  /-- a source of draws: the next ones, bound and draw -/
  | box (m : Nat) (ds : List (Int × Int))
  /-- a def's table of code objects: none yet, or one (its place in the text; where its code object stands) -/
  | tab (t : Nat) (o : Option (Nat × Nat × Nat))
  | cod (q : Str)
noncomputable def _root_.Option.ob {α β : Type} (o : Option α) (f : α → Option β) : Option β := Option.rec (motive := fun _ => Option β) Option.none (fun a => f a) o
noncomputable def lget {α : Type} (r : List α) : Nat → Option α := List.rec (motive := fun _ => Nat → Option α) (fun _ => Option.none) (fun a _ ih n => Nat.rec (motive := fun _ => Option α) (some a) (fun m _ => ih m) n) r
inductive Mt where
  | nil | nod (l : Mt) (o : Option Mo) (r : Mt)
noncomputable def Mt.get (t : Mt) : Nat → Option Mo := Mt.rec (motive := fun _ => Nat → Option Mo) (fun _ => Option.none)
  (fun _ o _ il ir n => Bool.rec (motive := fun _ => Option Mo) (Bool.rec (motive := fun _ => Option Mo) (ir (Nat.sub (Nat.div n 2) 1)) (il (Nat.div n 2)) (Nat.beq (Nat.mod n 2) 1)) o (Nat.beq n 0)) t
def Mt.fresh : Nat → Nat → Mo → Mt
  | 0, _, _ => .nil
  | f + 1, n, o => cond (Nat.beq n 0) (.nod .nil (some o) .nil) (cond (Nat.beq (n % 2) 1) (.nod (Mt.fresh f (n / 2) o) Option.none .nil) (.nod .nil Option.none (Mt.fresh f (n / 2 - 1) o)))
noncomputable def Mt.set (t : Mt) : Nat → Mo → Mt := Mt.rec (motive := fun _ => Nat → Mo → Mt) (fun n o => Mt.fresh (n + 1) n o)
  (fun l v r il ir n o => Bool.rec (motive := fun _ => Mt) (Bool.rec (motive := fun _ => Mt) (.nod l v (ir (Nat.sub (Nat.div n 2) 1) o)) (.nod (il (Nat.div n 2) o) v r) (Nat.beq (Nat.mod n 2) 1)) (.nod l (some o) r) (Nat.beq n 0)) t
structure Ms where
  sz : Nat
  t : Mt
noncomputable def Ms.get (s : Ms) (n : Nat) : Option Mo := s.t.get n
abbrev Me := List (Option Mv)
abbrev Fa := Me → Ms → Option (List Mv × Ms)
section
variable {X : Cx} {G : Mg} {e : Expr} {pos : Pos}
inductive It0 where
  | lst (n : Nat) | seq (ws : List Mv) | rng (lo : Int) (n : Nat) | zl (n m : Nat) | el (n : Nat)
end
section
variable {X : Cx} {G : Mg} {e : Expr} {pos : Pos}
noncomputable def It0.at : It0 → Nat → Ms → Option (Option Mv)
  | .lst n, i, s => match s.get n with
    | some (.lst ws) => some (lget ws i)
    | _ => none
  | .seq ws, i, _ => some (lget ws i)
  | .rng lo n, i, _ => some (cond (Nat.blt i n) (some (.int (lo + i))) none)
  | .zl n m, i, s => match s.get n, s.get m with
    | some (.lst xs), some (.lst ys) => some (match lget xs i, lget ys i with
      | some x, some y => some (.tup [x, y])
      | _, _ => none)
    | _, _ => none
  | .el n, i, s => match s.get n with
    | some (.lst ws) => some ((lget ws i).map fun w => .tup [.int ((i : Nat) : Int), w])
    | _ => none
end
abbrev XcV : Type := Option (Str × Str × Arguments × FuncBody × Scope × Addr × List Str × Addr)
/-- the start of the class that x names -/
def xcW (K : PySem.W.Frag) (x : Str) : XcV := match K.lookup (He.ma K (He.ga K x) "__init__") with
  | some ⟨_, _, .func fd, _⟩ => some (fd.name, fd.qualname, fd.params, fd.body, fd.scope, fd.globals, fd.closure.map (·.1), fd.builtins)
  | _ => none
/-- a class of exceptions: its name, its field, the class above it, the start's def -/
structure XcD where
  name : Str
  qual : Str
  fld : Str
  B : String
  newId : String
  initId : String
  bmB : List Value
  params : Arguments
  body : List Stmt
  scope : Scope
def XcD.val (d : XcD) : XcV := some ("__init__", d.qual, d.params, .stmts d.body, d.scope, mainGlobals, ["__class__"], builtinsNs)
/-- the code object of the start, the cell: at the right places -/
def xcFn (K : PySem.W.Frag) (C : Addr) (qual file : Str) : Bool := match K.lookup (He.ma K C "__init__") with
  | some ⟨.type t, _, .func fd, _⟩ => (t == "function" && fd.defaults == .none) && (match fd.code with
    | .ref cda => PySem.W.codeIn K (.ref cda) qual && (match K.lookup cda with
      | some ⟨_, _, .fields vs, _⟩ => (match vs.toList with
        | _ :: _ :: .str f _ :: _ => f == file
        | _ => false)
      | _ => false)
    | _ => false) && (match fd.closure with
    | [(_, cc)] => (match K.lookup cc with
      | some ⟨_, _, .cell (some v), _⟩ => v == .ref C
      | _ => false)
    | _ => false)
  | _ => false
def XcD.ok (d : XcD) (file : Str) (K : PySem.W.Frag) : Bool :=
  PySem.W.excInitIn K (He.ga K d.name) d.bmB d.newId && (PySem.W.excOver K (He.ga K d.name) d.bmB && (PySem.W.hasDictIn K (He.ga K d.name) && (decide (PySem.W.subIn K (.ref (He.ga K d.name)) (.type d.B) = some true) &&
  (decide (PySem.W.mroIn K (He.ga K d.name) (.ref (He.ga K d.name)) = some true) && (decide (PySem.W.findIn K (.ref (He.ga K d.name)) "__setattr__" = some (some (.builtin "object.__setattr__"))) && (decide (PySem.W.nsIn K PySem.cStatics "thirdparty.any" = some none) &&
  (decide (PySem.W.ks_superIn K (He.ga K d.name) (He.ga K d.name) "__init__" = some (some (.builtin d.initId))) && ((PySem.W.clsIn K (He.ga K d.name)).isSome && (decide (PySem.W.takerIn K (He.ga K d.name) d.fld = some none) &&
  (decide (PySem.W.findIn K (.ref (He.ga K d.name)) "__init__" = some (some (.ref (He.ma K (He.ga K d.name) "__init__")))) && (xcFn K (He.ga K d.name) d.qual file && (decide (PySem.W.subIn K (.ref (He.ga K d.name)) (.type "BaseException") = some true) && (decide (PySem.W.typeIn K (.ref (He.ga K d.name)) = some (.type "type")) && (PySem.W.keepIn K (.ref (He.ga K d.name)) && decide (PySem.W.exmOne K (.ref (He.ga K d.name)) (.ref (He.ga K d.name)) = some true)))))))))))))))
section
open PySem PySem.Spec PyProof.Rows L2 He
/-- what the names reach, and the statics' own table -/
def asZ (n : Nat) (g : Addr → Option Obj) : List Addr := asD g n ++ [PySem.cStatics]
end
section
open PySem PySem.Spec PyProof.Rows L2 He
structure SaysY (fa : List He.Fa) (fn : List DefD) (ts : List Tab) (tf : List Defn) (ex : PySem.W.Frag → Bool) (xs : List XcD) (file : Str) (w : World) (h : Heap) (K : PySem.W.Frag) : Prop where
  c : SaysX fa fn ts tf ex w h K
  x : (xs.map fun d => xcW K d.name) = xs.map XcD.val
  b : (xs.all fun d => d.ok file K) = true
end
section
open PySem PySem.Spec PyProof.Rows L2 He
abbrev AlY : Type := AlX × (Bool × List XcV)
end
section
open PySem PySem.Spec PyProof.Rows L2 He
def obsY (n : Nat) (fa : List He.Fa) (fn : List DefD) (ts : List Tab) (tf : List Defn) (ex : PySem.W.Frag → Bool) (xs : List XcD) (file : Str) (g : Addr → Option Obj) : AlY :=
  ((obsT fa fn ts (frT g (asZ n g)), ex (frT g (asZ n g)) && tabsB g tf (frT g (asZ n g))), xs.all fun d => d.ok file (frT g (asZ n g)), xs.map fun d => xcW (frT g (asZ n g)) d.name)
end
section
open PySem PySem.Spec PyProof.Rows L2 He
theorem saysZ {as : List Addr} {fa : List He.Fa} {fn : List DefD} {ts : List Tab} {tf : List Defn} {ex : PySem.W.Frag → Bool} {w : World} {h : Heap} (z1 : obsT fa fn ts (frT h.get? as) = valT fn ts w) (z2 : (ex (frT h.get? as) && tabsB h.get? tf (frT h.get? as)) = true) : SaysX fa fn ts tf ex w h (frT h.get? as) := by
  generalize hK : frT h.get? as = K at z1 z2 ⊢
  rw [Bool.and_eq_true] at z2
  have each : ∀ q, q ∈ tf → ∃ o, PySem.W.codeHdIn K (cT K q).1 (cT K q).2 = true ∧ h.get? (cT K q).2 = some o ∧ emptyTab o = true := by
    intro q hq
    have z := List.all_eq_true.mp z2.2 q hq
    rw [Bool.and_eq_true] at z
    obtain ⟨z3, z4⟩ := z
    cases hh : h.get? (cT K q).2 with
    | none => rw [hh] at z4; cases z4
    | some o => rw [hh] at z4; exact ⟨o, z3, rfl, z4⟩
  refine ⟨z1, z2.1, fun q hq => (each q hq).elim fun _ a => a.1, fun q hq => ?_, fun q hq => ?_⟩
  · obtain ⟨o, _, y1, y2⟩ := each q hq
    subst hK
    exact frT_none y1 y2
  · obtain ⟨o, _, y1, y2⟩ := each q hq
    rw [y1, emptyTab_eq y2]
end
section
open PySem PySem.Spec PyProof.Rows L2 He
def hookY (n : Nat) (fa : List He.Fa) (fn : List DefD) (ts : List Tab) (tf : List Defn) (ex : PySem.W.Frag → Bool) (xs : List XcD) (file : Str) : PySem.W.Hook where
  α := AlY
  obs := fun s => obsY n fa fn ts tf ex xs file s.heap.get?
  val := fun w => (valX fn ts w, true, xs.map XcD.val)
  says := fun w h => ∃ K : PySem.W.Frag, K.In h ∧ SaysY fa fn ts tf ex xs file w h K
  of := fun w h e => ⟨_, frT_in, saysZ (congrArg (fun z : AlY => z.1.1) e) (congrArg (fun z : AlY => z.1.2) e), congrArg (fun z : AlY => z.2.2) e, congrArg (fun z : AlY => z.2.1) e⟩
  keeps := fun _ _ _ ⟨K, hK, c⟩ k => ⟨K, PySem.W.Frag.In.keeps hK k, ⟨c.c.t, c.c.more, c.c.hd, c.c.out, fun p hp => k _ _ (c.c.empty p hp)⟩, c.x, c.b⟩
end
section
open PySem.W
def xvB (K : Frag) (x fld : Str) (cs ns : List Str) (tys : List String) : Bool :=
  xfB K (He.ga K x) && (decide (findIn K (.ref (He.ga K x)) "__class__" = some (some (.builtin "object.__class__"))) && (decide (specialIn K (.builtin "object.__class__") "__get__" = some (some (.builtin "getset_descriptor.__get__"))) && (decide (takesIn K (.builtin "object.__class__") = some true) &&
  (decide (mroIn K (He.ga K x) (.type "object") = some true) && (decide (findIn K (.ref (He.ga K x)) fld = some none) && (decide (exmAny K (.ref (He.ga K x)) (cs.map fun c => .ref (He.ga K c)) = some true) && (decide (kitOne K (.ref (He.ga K x)) (.ref (He.ga K x)) = some true) &&
  (decide (kitAny K (.ref (He.ga K x)) (ns.map fun c => .ref (He.ga K c)) = some false) && tys.all fun t => decide (kitOne K (.ref (He.ga K x)) (.type t) = some true)))))))))
end
def top (i : Nat) : Stmt := PySem.Challenge.pw_latebound_k70_what_is_no_preload.main.body.getD i (.Pass ⟨0, 0, 0, 0⟩)
abbrev s_law : Stmt := top 80
abbrev s__law_box : Stmt := top 65
abbrev s__law_right : Stmt := top 79
abbrev s__law_program : Stmt := top 69
abbrev s__law_picked : Stmt := top 68
abbrev s__law_take : Stmt := top 66
abbrev s__law_of : Stmt := top 67
abbrev s__law_odd : Stmt := top 78
abbrev s_shows_preload : Stmt := top 56
abbrev s_looked : Stmt := top 52
abbrev s_as_tuples : Stmt := top 9
abbrev s_use_at : Stmt := top 20
abbrev s_lib_at : Stmt := top 19
abbrev s_lib_of : Stmt := top 12
abbrev s_is_preload : Stmt := top 55
abbrev s_are_names : Stmt := top 11
abbrev s_is_name : Stmt := top 10
abbrev s_others_of : Stmt := top 46
abbrev s_Trial_gives_all : Stmt := inClass (top 51) 5
abbrev s_Trial___init__ : Stmt := inClass (top 51) 0
abbrev s__law_lists : Stmt := top 73
abbrev s__law_same : Stmt := top 72
abbrev s__law_wishes : Stmt := top 76
abbrev s__law_wish : Stmt := top 75
abbrev s__law_calls : Stmt := top 74
abbrev s__law_lib : Stmt := top 70
abbrev s__law_gives : Stmt := top 71
abbrev s__law_refused : Stmt := top 77
abbrev s_gives_all : Stmt := top 53
abbrev s_breach : Stmt := top 54
abbrev s_clash : Stmt := top 63
abbrev s_least_preload : Stmt := top 59
abbrev s_many_preloads : Stmt := top 60
abbrev s_is_lean : Stmt := top 61
def dd_law : He.DefD := ⟨("law", none), "law", "law", defArgs s_law, defBody s_law, defScope s_law, [], []⟩
def dd__law_box : He.DefD := ⟨("_law_box", none), "_law_box", "_law_box", defArgs s__law_box, defBody s__law_box, defScope s__law_box, [], []⟩
def dd__law_right : He.DefD := ⟨("_law_right", none), "_law_right", "_law_right", defArgs s__law_right, defBody s__law_right, defScope s__law_right, [], []⟩
def dd__law_program : He.DefD := ⟨("_law_program", none), "_law_program", "_law_program", defArgs s__law_program, defBody s__law_program, defScope s__law_program, [], []⟩
def dd__law_picked : He.DefD := ⟨("_law_picked", none), "_law_picked", "_law_picked", defArgs s__law_picked, defBody s__law_picked, defScope s__law_picked, [], []⟩
def dd__law_take : He.DefD := ⟨("_law_take", none), "_law_take", "_law_take", defArgs s__law_take, defBody s__law_take, defScope s__law_take, [], []⟩
def dd__law_of : He.DefD := ⟨("_law_of", none), "_law_of", "_law_of", defArgs s__law_of, defBody s__law_of, defScope s__law_of, [], []⟩
def dd__law_odd : He.DefD := ⟨("_law_odd", none), "_law_odd", "_law_odd", defArgs s__law_odd, defBody s__law_odd, defScope s__law_odd, [], []⟩
def dd_shows_preload : He.DefD := ⟨("shows_preload", none), "shows_preload", "shows_preload", defArgs s_shows_preload, defBody s_shows_preload, defScope s_shows_preload, [], []⟩
def dd_looked : He.DefD := ⟨("looked", none), "looked", "looked", defArgs s_looked, defBody s_looked, defScope s_looked, [], []⟩
def dd_as_tuples : He.DefD := ⟨("as_tuples", none), "as_tuples", "as_tuples", defArgs s_as_tuples, defBody s_as_tuples, defScope s_as_tuples, [], []⟩
def dd_use_at : He.DefD := ⟨("use_at", none), "use_at", "use_at", defArgs s_use_at, defBody s_use_at, defScope s_use_at, [], []⟩
def dd_lib_at : He.DefD := ⟨("lib_at", none), "lib_at", "lib_at", defArgs s_lib_at, defBody s_lib_at, defScope s_lib_at, [], []⟩
def dd_lib_of : He.DefD := ⟨("lib_of", none), "lib_of", "lib_of", defArgs s_lib_of, defBody s_lib_of, defScope s_lib_of, [], []⟩
def dd_is_preload : He.DefD := ⟨("is_preload", none), "is_preload", "is_preload", defArgs s_is_preload, defBody s_is_preload, defScope s_is_preload, [], []⟩
def dd_are_names : He.DefD := ⟨("are_names", none), "are_names", "are_names", defArgs s_are_names, defBody s_are_names, defScope s_are_names, [], []⟩
def dd_is_name : He.DefD := ⟨("is_name", none), "is_name", "is_name", defArgs s_is_name, defBody s_is_name, defScope s_is_name, [], []⟩
def dd_others_of : He.DefD := ⟨("others_of", none), "others_of", "others_of", defArgs s_others_of, defBody s_others_of, defScope s_others_of, [], []⟩
def dd_Trial_gives_all : He.DefD := ⟨("Trial", some "gives_all"), "gives_all", "Trial.gives_all", defArgs s_Trial_gives_all, defBody s_Trial_gives_all, defScope s_Trial_gives_all, [], []⟩
def dd_Trial___init__ : He.DefD := ⟨("Trial", some "__init__"), "__init__", "Trial.__init__", defArgs s_Trial___init__, defBody s_Trial___init__, defScope s_Trial___init__, [], []⟩
def dd__law_lists : He.DefD := ⟨("_law_lists", none), "_law_lists", "_law_lists", defArgs s__law_lists, defBody s__law_lists, defScope s__law_lists, [], []⟩
def dd__law_same : He.DefD := ⟨("_law_same", none), "_law_same", "_law_same", defArgs s__law_same, defBody s__law_same, defScope s__law_same, [], []⟩
def dd__law_wishes : He.DefD := ⟨("_law_wishes", none), "_law_wishes", "_law_wishes", defArgs s__law_wishes, defBody s__law_wishes, defScope s__law_wishes, [], []⟩
def dd__law_wish : He.DefD := ⟨("_law_wish", none), "_law_wish", "_law_wish", defArgs s__law_wish, defBody s__law_wish, defScope s__law_wish, [], []⟩
def dd__law_calls : He.DefD := ⟨("_law_calls", none), "_law_calls", "_law_calls", defArgs s__law_calls, defBody s__law_calls, defScope s__law_calls, [], []⟩
def dd__law_lib : He.DefD := ⟨("_law_lib", none), "_law_lib", "_law_lib", defArgs s__law_lib, defBody s__law_lib, defScope s__law_lib, [], []⟩
def dd__law_gives : He.DefD := ⟨("_law_gives", none), "_law_gives", "_law_gives", defArgs s__law_gives, defBody s__law_gives, defScope s__law_gives, [], []⟩
def dd__law_refused : He.DefD := ⟨("_law_refused", none), "_law_refused", "_law_refused", defArgs s__law_refused, defBody s__law_refused, defScope s__law_refused, [], []⟩
def dd_gives_all : He.DefD := ⟨("gives_all", none), "gives_all", "gives_all", defArgs s_gives_all, defBody s_gives_all, defScope s_gives_all, [], []⟩
def dd_breach : He.DefD := ⟨("breach", none), "breach", "breach", defArgs s_breach, defBody s_breach, defScope s_breach, [], []⟩
def dd_clash : He.DefD := ⟨("clash", none), "clash", "clash", defArgs s_clash, defBody s_clash, defScope s_clash, [], []⟩
def dd_least_preload : He.DefD := ⟨("least_preload", none), "least_preload", "least_preload", defArgs s_least_preload, defBody s_least_preload, defScope s_least_preload, [], []⟩
def dd_many_preloads : He.DefD := ⟨("many_preloads", none), "many_preloads", "many_preloads", defArgs s_many_preloads, defBody s_many_preloads, defScope s_many_preloads, [], []⟩
def dd_is_lean : He.DefD := ⟨("is_lean", none), "is_lean", "is_lean", defArgs s_is_lean, defBody s_is_lean, defScope s_is_lean, [], []⟩
def fn : List He.DefD := ([dd_law, dd__law_box, dd__law_right, dd__law_program, dd__law_picked, dd__law_take, dd__law_of, dd__law_odd, dd_shows_preload, dd_looked, dd_as_tuples, dd_use_at, dd_lib_at, dd_lib_of, dd_is_preload, dd_are_names, dd_is_name, dd_others_of, dd_Trial_gives_all, dd_Trial___init__, dd__law_lists, dd__law_same, dd__law_wishes, dd__law_wish, dd__law_calls, dd__law_lib, dd__law_gives, dd__law_refused, dd_gives_all, dd_breach] : List He.DefD) ++ ([dd_clash, dd_least_preload, dd_many_preloads, dd_is_lean] : List He.DefD)
def glos : List Str := (["_law_box", "_law_take", "_law_picked", "_law_of", "_law_program", "_law_odd", "as_tuples", "lib_of", "lib_at", "use_at", "looked", "is_name", "are_names", "others_of", "is_preload", "Trial", "shows_preload", "_law_lists", "_law_same", "_law_calls", "_law_lib", "_law_gives", "_law_wish", "_law_wishes", "NoDoor", "NoLib", "NoUse", "gives_all", "breach", "clash"] : List Str) ++ (["least_preload", "many_preloads", "is_lean", "_law_refused", "_law_right", "law"] : List Str)
def frees : List Str := ["range", "min", "len", "int", "abs", "all", "list", "sorted", "tuple", "isinstance", "str", "set", "zip", "bool", "LookupError", "super"]
def fa : List He.Fa := ([.int "MOST_LETTERS" 8, .str "LETTERS" "abcdefghijklmnopqrstuvwxyz", .cls "Trial", .noat "Trial" "own_program", .noat "Trial" "own_walked", .meth "Trial" "gives_all", .mkr "Trial"] : List He.Fa)
def faAll : List He.Fa := fa ++ (glos.map He.Fa.glo ++ frees.map He.Fa.free)
def tf : List He.Defn := []
def exA (K : PySem.W.Frag) : Bool := (true) && (true)
def exB (K : PySem.W.Frag) : Bool := exA K && (xvB K "NoLib" "name" ["NoDoor", "NoLib", "NoUse"] ["NoDoor"] ["LookupError"] && xvB K "NoUse" "number" ["NoDoor", "NoLib", "NoUse"] ["NoDoor", "NoLib"] ["LookupError"])
def loose0 : List Str := ["_wall", "__name__", "LETTERS", "MOST_LETTERS", "GLOBAL", "DEEP", "OPEN", "CLOSE", "CALL", "as_tuples", "is_name", "are_names", "lib_of", "NoDoor", "NoLib", "NoUse", "NotThere", "lib_at", "use_at", "row", "first_row", "door_row", "serves", "version_of", "MOST", "OPENED", "CLOSED", "FULL", "SHUT", "BOUND"]
def loose1 : List Str := ["NOBODY", "LOST", "TORN", "Ground", "Process", "next_steps", "walk", "first_runs", "bindings", "main_of", "others_of", "with_preload", "server", "doors_of", "rows_to_public", "Trial", "looked", "gives_all", "breach", "is_preload", "shows_preload", "rows_of_names", "names_in", "least_preload", "many_preloads", "is_lean", "parts", "clash", "_law_box", "_law_take"]
def loose2 : List Str := ["_law_of", "_law_picked", "_law_program", "_law_lib", "_law_gives", "_law_same", "_law_lists", "_law_calls", "_law_wish", "_law_wishes", "_law_refused", "_law_odd", "_law_right"]
abbrev sx_NoLib : Stmt := inClass (top 15) 0
def xd_NoLib : XcD := ⟨"NoLib", "NoLib.__init__", "name", "LookupError", "LookupError.__new__", "LookupError.__init__", [.type "LookupError", .type "Exception", .type "BaseException", .type "object"], defArgs sx_NoLib, defBody sx_NoLib, defScope sx_NoLib⟩
abbrev sx_NoUse : Stmt := inClass (top 16) 0
def xd_NoUse : XcD := ⟨"NoUse", "NoUse.__init__", "number", "LookupError", "LookupError.__new__", "LookupError.__init__", [.type "LookupError", .type "Exception", .type "BaseException", .type "object"], defArgs sx_NoUse, defBody sx_NoUse, defScope sx_NoUse⟩
def loose : List Str := loose0 ++ loose1 ++ loose2
def fileX : Str := (PySem.Challenge.rw_latebound_k70_what_is_no_preload).prog.main.file
def xds : List XcD := [xd_NoLib, xd_NoUse]
abbrev R : PySem.W.OpenRow := PySem.W.OpenLaw.row PySem.Challenge.rw_latebound_k70_what_is_no_preload
abbrev hk : PySem.W.Hook := hookY 4 faAll fn [] tf exB xds fileX
def ob (s : PySem.W.SharedT) : AlY := obsY 4 faAll fn [] tf exB xds fileX (HandSHeadRun.getT s)
theorem run (w : World) : HandSHeadRun.RunEq R (PySem.W.view R.prog [80]) hk ob 12000 loose w := by
  intro os
  kernel_rfl
section
/-! ### values, objects, the store of the mirror -/
/-! ### fast words (by recursors), and what they are -/
noncomputable def _root_.Option.om {α β : Type} (o : Option α) (f : α → β) : Option β := Option.rec (motive := fun _ => Option β) Option.none (fun a => some (f a)) o
theorem ob_eq {α β : Type} (o : Option α) (f : α → Option β) : o.ob f = o.bind f := by cases o <;> rfl
theorem om_eq' {α β : Type} (o : Option α) (f : α → β) : o.om f = o.map f := by cases o <;> rfl
theorem ob_some {α β : Type} {o : Option α} {f : α → Option β} {b : β} : o.ob f = some b ↔ ∃ a, o = some a ∧ f a = some b := by rw [ob_eq]; exact Option.bind_eq_some_iff
theorem omap_some {α β : Type} {o : Option α} {f : α → β} {b : β} : o.om f = some b ↔ ∃ a, o = some a ∧ f a = b := by rw [om_eq']; exact Option.map_eq_some_iff
@[simp] theorem ob_of {α β : Type} (a : α) (f : α → Option β) : (some a).ob f = f a := rfl
@[simp] theorem om_of {α β : Type} (a : α) (f : α → β) : (some a).om f = some (f a) := rfl
@[simp] theorem ob_no {α β : Type} (f : α → Option β) : (Option.none : Option α).ob f = Option.none := rfl
@[simp] theorem om_no {α β : Type} (f : α → β) : (Option.none : Option α).om f = Option.none := rfl
theorem lget_eq {α : Type} : ∀ (r : List α) (i : Nat), lget r i = r[i]?
  | [], _ => rfl
  | _ :: _, 0 => rfl
  | _ :: as, i + 1 => lget_eq as i
noncomputable def lset {α : Type} (r : List α) (i : Nat) (v : α) : List α := List.rec (motive := fun _ => Nat → List α) (fun _ => []) (fun a as ih n => Nat.rec (motive := fun _ => List α) (v :: as) (fun m _ => a :: ih m) n) r i
theorem lset_eq {α : Type} (v : α) : ∀ (r : List α) (i : Nat), lset r i v = r.set i v
  | [], _ => rfl
  | _ :: _, 0 => rfl
  | a :: as, i + 1 => congrArg (a :: ·) (lset_eq v as i)
noncomputable def lapp {α : Type} (a b : List α) : List α := List.rec (motive := fun _ => List α) b (fun x _ ih => x :: ih) a
theorem lapp_eq {α : Type} : ∀ a b : List α, lapp a b = a ++ b
  | [], _ => rfl
  | x :: a, b => congrArg (x :: ·) (lapp_eq a b)
noncomputable def lsome {α : Type} (n : Nat) (a : List α) : List (Option α) := List.rec (motive := fun _ => List (Option α)) (Nat.rec (motive := fun _ => List (Option α)) [] (fun _ ih => Option.none :: ih) n) (fun x _ ih => some x :: ih) a
theorem lrep_eq {α : Type} : ∀ n : Nat, (Nat.rec (motive := fun _ => List (Option α)) [] (fun _ ih => Option.none :: ih) n : List (Option α)) = List.replicate n Option.none
  | 0 => rfl
  | n + 1 => by rw [List.replicate_succ, ← lrep_eq n]
theorem lsome_eq {α : Type} (n : Nat) : ∀ a : List α, lsome n a = a.map some ++ List.replicate n Option.none
  | [] => lrep_eq n
  | x :: a => congrArg (some x :: ·) (lsome_eq n a)
theorem cond_t {α : Type} {b : Bool} {x y : α} (h : b = true) : cond b x y = x := by subst h; rfl
theorem cond_f {α : Type} {b : Bool} {x y : α} (h : b = false) : cond b x y = y := by subst h; rfl
theorem beq_f {a b : Nat} (h : a ≠ b) : Nat.beq a b = false := by
  cases e : Nat.beq a b with
  | false => rfl
  | true => exact absurd (Nat.eq_of_beq_eq_true e) h
theorem beq_t {a : Nat} : Nat.beq a a = true := Nat.beq_refl a
theorem Mt.get_nod (l : Mt) (o : Option Mo) (r : Mt) (n : Nat) : (Mt.nod l o r).get n = if n = 0 then o else if n % 2 = 1 then l.get (n / 2) else r.get (n / 2 - 1) := by
  show Bool.rec (motive := fun _ => Option Mo) (Bool.rec (motive := fun _ => Option Mo) (r.get (n / 2 - 1)) (l.get (n / 2)) (Nat.beq (n % 2) 1)) o (Nat.beq n 0) = _
  by_cases h : n = 0
  · subst h; rfl
  · rw [beq_f h, if_neg h]
    by_cases h1 : n % 2 = 1
    · rw [h1, if_pos rfl]; rfl
    · rw [beq_f h1, if_neg h1]
theorem Mt.set_nod (l : Mt) (v : Option Mo) (r : Mt) (n : Nat) (o : Mo) : (Mt.nod l v r).set n o = if n = 0 then .nod l (some o) r else if n % 2 = 1 then .nod (l.set (n / 2) o) v r else .nod l v (r.set (n / 2 - 1) o) := by
  show Bool.rec (motive := fun _ => Mt) (Bool.rec (motive := fun _ => Mt) (.nod l v (r.set (n / 2 - 1) o)) (.nod (l.set (n / 2) o) v r) (Nat.beq (n % 2) 1)) (.nod l (some o) r) (Nat.beq n 0) = _
  by_cases h : n = 0
  · subst h; rfl
  · rw [beq_f h, if_neg h]
    by_cases h1 : n % 2 = 1
    · rw [h1, if_pos rfl]; rfl
    · rw [beq_f h1, if_neg h1]
theorem Mt.get_nil (n : Nat) : Mt.get .nil n = Option.none := rfl
theorem Mt.get_fresh : ∀ (f n : Nat) (o : Mo), n < f → ∀ m, (Mt.fresh f n o).get m = if m = n then some o else Option.none
  | 0, _, _, h, _ => absurd h (by omega)
  | f + 1, n, o, h, m => by
    unfold Mt.fresh
    by_cases h0 : n = 0
    · subst h0
      rw [cond_t beq_t, Mt.get_nod, Mt.get_nil, Mt.get_nil]
      by_cases hm : m = 0
      · rw [if_pos hm, if_pos hm]
      · rw [if_neg hm, if_neg hm]; split <;> rfl
    · rw [cond_f (beq_f h0)]
      by_cases h1 : n % 2 = 1
      · rw [h1, cond_t beq_t, Mt.get_nod, Mt.get_nil]
        by_cases hm : m = 0
        · rw [if_pos hm, if_neg (by omega)]
        · rw [if_neg hm]
          by_cases hm1 : m % 2 = 1
          · rw [if_pos hm1, Mt.get_fresh f (n / 2) o (by omega)]
            by_cases e : m = n
            · rw [if_pos e, if_pos (by rw [e])]
            · rw [if_neg e, if_neg (by omega)]
          · rw [if_neg hm1, if_neg (by intro e; rw [e] at hm1; exact hm1 h1)]
      · rw [cond_f (beq_f h1), Mt.get_nod, Mt.get_nil]
        by_cases hm : m = 0
        · rw [if_pos hm, if_neg (by omega)]
        · rw [if_neg hm]
          by_cases hm1 : m % 2 = 1
          · rw [if_pos hm1, if_neg (by intro e; rw [e] at hm1; exact h1 hm1)]
          · rw [if_neg hm1, Mt.get_fresh f (n / 2 - 1) o (by omega)]
            by_cases e : m = n
            · rw [if_pos e, if_pos (by rw [e])]
            · rw [if_neg e, if_neg (by omega)]
theorem Mt.get_set : ∀ (t : Mt) (n : Nat) (o : Mo) (m : Nat), (t.set n o).get m = if m = n then some o else t.get m
  | .nil, n, o, m => Mt.get_fresh (n + 1) n o (Nat.lt_succ_self n) m
  | .nod l v r, n, o, m => by
    rw [Mt.set_nod]
    by_cases h0 : n = 0
    · subst h0
      rw [if_pos rfl, Mt.get_nod, Mt.get_nod]
      by_cases hm : m = 0
      · rw [if_pos hm, if_pos hm]
      · rw [if_neg hm, if_neg hm, if_neg hm]
    · rw [if_neg h0]
      by_cases h1 : n % 2 = 1
      · rw [if_pos h1, Mt.get_nod, Mt.get_nod]
        by_cases hm : m = 0
        · rw [if_pos hm, if_pos hm, if_neg (by omega)]
        · rw [if_neg hm, if_neg hm]
          by_cases hm1 : m % 2 = 1
          · rw [if_pos hm1, if_pos hm1, Mt.get_set l (n / 2) o]
            by_cases e : m = n
            · rw [if_pos e, if_pos (by rw [e])]
            · rw [if_neg e, if_neg (by omega)]
          · rw [if_neg hm1, if_neg hm1, if_neg (by intro e; rw [e] at hm1; exact hm1 h1)]
      · rw [if_neg h1, Mt.get_nod, Mt.get_nod]
        by_cases hm : m = 0
        · rw [if_pos hm, if_pos hm, if_neg (by omega)]
        · rw [if_neg hm, if_neg hm]
          by_cases hm1 : m % 2 = 1
          · rw [if_pos hm1, if_pos hm1, if_neg (by intro e; rw [e] at hm1; exact h1 hm1)]
          · rw [if_neg hm1, if_neg hm1, Mt.get_set r (n / 2 - 1) o]
            by_cases e : m = n
            · rw [if_pos e, if_pos (by rw [e])]
            · rw [if_neg e, if_neg (by omega)]
noncomputable def Ms.alloc (s : Ms) (o : Mo) : Option (Nat × Ms) := some (s.sz, ⟨Nat.succ s.sz, s.t.set s.sz o⟩)
noncomputable def Ms.put (s : Ms) (n : Nat) (o : Mo) : Ms := ⟨s.sz, s.t.set n o⟩
abbrev Fe := Me → Ms → Option (Mv × Ms)
abbrev Ft := Me → Ms → Option (Bool × Ms)
abbrev Fn := List Mv → Ms → Option (Mv × Ms)

/-! ### what a value of the mirror stands for -/
structure Mg where
  P : Program
  w : World
  K : PySem.W.Frag
  cad : Nat → Addr
  nf : Nat
  nm : Nat → Str
  inj : ∀ i j, i < nf → j < nf → nm i = nm j → i = j
  /-- the next draw below k of a source that holds a, c, n: the draw, and what a and n become -/
  dr : Int → Int → Int → Int → Int × Int × Int
  /-- where a def's table of code objects stands -/
  tad : Nat → Addr
/-- the draws of a source -/
def Dr (dr : Int → Int → Int → Int → Int × Int × Int) : List (Int × Int) → Int → Int → Int → Prop
  | [], _, _, _ => True
  | (k, x) :: ds, a, c, n => (dr k a c n).1 = x ∧ Dr dr ds (dr k a c n).2.1 c (dr k a c n).2.2
/-- what a source holds -/
structure BoxOk (a c n : Int) : Prop where
  a0 : 0 ≤ a
  c0 : 0 ≤ c
  c1 : c < 2 ^ 62
  n0 : 0 ≤ n
/-- a list that nobody changes: known to the object or written -/
def FlAt (K : PySem.W.Frag) (p : List Addr) (H : Hp) (a : Addr) (vs : List V) : Prop := (∃ o, H a = some (.frz o (.lst vs))) ∨ SqL K (fun _ => Option.none) a vs
mutual
inductive Den (G : Mg) (p : List Addr) (H : Hp) : Mv → V → Prop
  | non : Den G p H .non .non
  | bl (b : Bool) : Den G p H (.bl b) (.bl b)
  | int (i : Int) : Den G p H (.int i) (.int i)
  | str (x : Str) : Den G p H (.str x) (.str x)
  | ty (t : Mty) : Den G p H (.ty t) (.ty t.name)
  | cls (c : Nat) : Den G p H (.cls c) (.ref (G.cad c))
  | ref {n : Nat} {a : Addr} : p[n]? = some a → Den G p H (.ref n) (.ref a)
  | tup {a : Addr} {ws : List Mv} {vs : List V} : SqT G.K H a vs → DenL G p H ws vs → Den G p H (.tup ws) (.ref a)
  | fl {a : Addr} {ws : List Mv} {vs : List V} : FlAt G.K p H a vs → DenL G p H ws vs → Den G p H (.fl ws) (.ref a)
inductive DenL (G : Mg) (p : List Addr) (H : Hp) : List Mv → List V → Prop
  | nil : DenL G p H [] []
  | cons {w : Mv} {v : V} {ws : List Mv} {vs : List V} : Den G p H w v → DenL G p H ws vs → DenL G p H (w :: ws) (v :: vs)
end
/-- a dict with tuples as keys, by its object -/
def NDo (P : Program) (w : World) (a : Addr) (xs : List (NestedKey × Addr × V)) : HO := .ext fun h => xs.length ≤ sizeLine ∧ (a == sysModules) = false ∧ ∃ ys : List (NestedKey × Addr × Value),
  Paired (fun (x : NestedKey × Addr × V) (y : NestedKey × Addr × Value) => x.1 = y.1 ∧ x.2.1 = y.2.1 ∧ RelV x.2.2 y.2.2) xs ys ∧
  ∃ o es ep, h.get? a = some o ∧ o.ExactDict ∧ o.data = .dict es ep ∧ es.toList = ys.map (entryOfKey (nestedKind P w)) ∧ (ys.map (·.1)).Nodup
mutual
/-- the key that a value is -/
inductive KeyM : NestedKey → Mv → Prop
  | non : KeyM .none .non
  | bl (b : Bool) : KeyM (.num (if b = true then 1 else 0)) (.bl b)
  | int (i : Int) : KeyM (.num i) (.int i)
  | str (x : Str) : KeyM (.text x) (.str x)
  | tup {ks : List NestedKey} {ws : List Mv} : KeyMs ks ws → KeyM (.tup ks) (.tup ws)
inductive KeyMs : List NestedKey → List Mv → Prop
  | nil : KeyMs [] []
  | cons {k : NestedKey} {w : Mv} {ks : List NestedKey} {ws : List Mv} : KeyM k w → KeyMs ks ws → KeyMs (k :: ks) (w :: ws)
end
/-- entries, one by one -/
inductive DenN (G : Mg) (p : List Addr) (H : Hp) : List (NestedKey × Mv × Mv) → List (NestedKey × Addr × V) → Prop
  | nil : DenN G p H [] []
  | cons {k : NestedKey} {kw w : Mv} {b : Addr} {v : V} {ks : List (NestedKey × Mv × Mv)} {xs : List (NestedKey × Addr × V)} : KeyM k kw → k.depth ≤ 8 → Den G p H kw (.ref b) → Den G p H w v → DenN G p H ks xs → DenN G p H ((k, kw, w) :: ks) ((k, b, v) :: xs)
def DenO (G : Mg) (p : List Addr) (H : Hp) (a : Addr) : Mo → HO → Prop
  | .lst ws, ho => ∃ vs, ho = .lst vs ∧ DenL G p H ws vs ∧ vs.length ≤ sizeLine
  | .ins c fs, ho => ∃ dx fs', ho = .ins (G.cad c) dx fs' ∧ fs'.map (·.1) = fs.map (fun q => G.nm q.1) ∧ DenL G p H (fs.map (·.2)) (fs'.map (·.2)) ∧ ∀ q ∈ fs, q.1 < G.nf
  | .dk kvs, ho => ∃ kvs', ho = .dK kvs' ∧ kvs'.map (·.1) = kvs.map (·.1) ∧ DenL G p H (kvs.map (·.2)) (kvs'.map (·.2))
  | .dn kvs, ho => ∃ xs, ho = NDo G.P G.w a xs ∧ DenN G p H kvs xs
  | .lk kvs, ho => ∃ od kvs', ho = .frz od (.dK kvs') ∧ kvs'.map (·.1) = kvs.map (·.1) ∧ DenL G p H (kvs.map (·.2)) (kvs'.map (·.2))
  | .ln kvs, ho => ∃ od xs, ho = .frz od (NDo G.P G.w a xs) ∧ DenN G p H kvs xs
  | .box m ds, ho => ∃ a c n, ho = .lst [.int a, .int c, .int n] ∧ BoxOk a c n ∧ n ≤ m ∧ m + ds.length ≤ 1000000 ∧ Dr G.dr ds a c n
  | .tab t Option.none, ho => a = G.tad t ∧ ho = .tbl #[]
  | .tab t (some (l, c, n)), ho => a = G.tad t ∧ ∃ b, p[n]? = some b ∧ ho = .tbl #[rawInt l, rawInt c, .ref b]
  | .cod q, ho => ho = LamX.CodeO a q
structure Sim (G : Mg) (p : List Addr) (s : Ms) (H : Hp) : Prop where
  len : p.length = s.sz
  nd : p.Nodup
  ob : ∀ n a, p[n]? = some a → ∃ o ho, s.get n = some o ∧ H a = some ho ∧ DenO G p H a o ho
  out : ∀ n, s.sz ≤ n → s.get n = Option.none
structure Fra (p : List Addr) (H : Hp) (p' : List Addr) (H' : Hp) : Prop where
  pre : ∃ q, p' = p ++ q ∧ ∀ a ∈ q, a ∉ p → H a = Option.none
  kee : ∀ a o, H a = some o → a ∉ p → H' a = some o
  frz : ∀ a o u, H a = some (.frz o u) → H' a = some (.frz o u)
theorem Fra.refl {p : List Addr} {H : Hp} : Fra p H p H := ⟨⟨[], by simp, fun a h => by simp at h⟩, fun _ _ e _ => e, fun _ _ _ e => e⟩
theorem Fra.notin {p p' : List Addr} {H H' : Hp} (f : Fra p H p' H') {a : Addr} {o : HO} (e : H a = some o) (n : a ∉ p) : a ∉ p' := by
  obtain ⟨q, rfl, hq⟩ := f.pre
  intro h
  rcases List.mem_append.mp h with h | h
  · exact n h
  · rw [hq a h n] at e; cases e
theorem Fra.trans {p p1 p2 : List Addr} {H H1 H2 : Hp} (f : Fra p H p1 H1) (g : Fra p1 H1 p2 H2) : Fra p H p2 H2 := by
  obtain ⟨q, e, hq⟩ := f.pre
  obtain ⟨q', e', hq'⟩ := g.pre
  refine ⟨⟨q ++ q', by rw [e', e, List.append_assoc], fun a ha np => ?_⟩, fun a o h n => g.kee a o (f.kee a o h n) (f.notin h n), fun a o u e => g.frz a o u (f.frz a o u e)⟩
  rcases List.mem_append.mp ha with h | h
  · exact hq a h np
  · cases h1 : H a with
    | none => rfl
    | some o =>
      have z := f.kee a o h1 np
      rw [hq' a h (f.notin h1 np)] at z
      cases z
theorem Fra.at {p p' : List Addr} {H H' : Hp} (f : Fra p H p' H') {n : Nat} {a : Addr} (h : p[n]? = some a) : p'[n]? = some a := by
  obtain ⟨q, rfl, _⟩ := f.pre
  rw [List.getElem?_append_left (List.getElem?_eq_some_iff.mp h).1]
  exact h
/-- a list or a tuple -/
def SqU : HO → Prop
  | .lst _ => True
  | .tup _ => True
  | _ => False
/-- no tuple, no locked list or tuple is among the changeable ones -/
theorem Sim.kind {G : Mg} {p : List Addr} {s : Ms} {H : Hp} (S : Sim G p s H) {a : Addr} (h : a ∈ p) : (∀ vs, H a ≠ some (.tup vs)) ∧ ∀ o u, SqU u → H a ≠ some (.frz o u) := by
  obtain ⟨n, hn⟩ := List.mem_iff_getElem?.mp h
  obtain ⟨o, ho, _, h2, d⟩ := S.ob n a hn
  constructor
  · intro vs e
    rw [e] at h2; cases h2
    cases o with
    | lst ws => obtain ⟨_, z, _⟩ := d; cases z
    | ins c fs => obtain ⟨_, _, z, _⟩ := d; cases z
    | dk kvs => obtain ⟨_, z, _⟩ := d; cases z
    | dn kvs => obtain ⟨_, z, _⟩ := d; cases z
    | lk kvs => obtain ⟨_, _, z, _⟩ := d; cases z
    | ln kvs => obtain ⟨_, _, z, _⟩ := d; cases z
    | box m ds => obtain ⟨_, _, _, z, _⟩ := d; cases z
    | tab t o =>
      rcases o with _ | ⟨l, c, n⟩
      · obtain ⟨_, z⟩ := d; cases z
      · obtain ⟨_, _, _, z⟩ := d; cases z
    | cod q => exact nomatch (show _ = LamX.CodeO a q from d)
  · intro ob u hu e
    rw [e] at h2; cases h2
    cases o with
    | lst ws => obtain ⟨_, z, _⟩ := d; cases z
    | ins c fs => obtain ⟨_, _, z, _⟩ := d; cases z
    | dk kvs => obtain ⟨_, z, _⟩ := d; cases z
    | dn kvs => obtain ⟨_, z, _⟩ := d; cases z
    | lk kvs => obtain ⟨_, _, z, _⟩ := d; cases z; exact hu
    | ln kvs => obtain ⟨_, _, z, _⟩ := d; cases z; exact hu
    | box m ds => obtain ⟨_, _, _, z, _⟩ := d; cases z
    | tab t o =>
      rcases o with _ | ⟨l, c, n⟩
      · obtain ⟨_, z⟩ := d; cases z
      · obtain ⟨_, _, _, z⟩ := d; cases z
    | cod q => exact nomatch (show _ = LamX.CodeO a q from d)
/-- what stays: tuples and locked things -/
structure Stays (p : List Addr) (H : Hp) (p' : List Addr) (H' : Hp) : Prop where
  ix : ∀ (n : Nat) (a : Addr), p[n]? = some a → p'[n]? = some a
  tp : ∀ a vs, H a = some (.tup vs) → H' a = some (.tup vs)
  fz : ∀ a o u, SqU u → H a = some (.frz o u) → H' a = some (.frz o u)
theorem Stays.refl {p : List Addr} {H : Hp} : Stays p H p H := ⟨fun _ _ e => e, fun _ _ e => e, fun _ _ _ _ e => e⟩
theorem Stays.trans {p p1 p2 : List Addr} {H H1 H2 : Hp} (a : Stays p H p1 H1) (b : Stays p1 H1 p2 H2) : Stays p H p2 H2 :=
  ⟨fun n x e => b.ix n x (a.ix n x e), fun x vs e => b.tp x vs (a.tp x vs e), fun x o u hu e => b.fz x o u hu (a.fz x o u hu e)⟩
theorem Fra.stays {G : Mg} {p p' : List Addr} {s : Ms} {H H' : Hp} (S : Sim G p s H) (f : Fra p H p' H') : Stays p H p' H' :=
  ⟨fun n a h => f.at h, fun a vs e => f.kee a _ e fun h => (S.kind h).1 vs e, fun a o u hu e => f.kee a _ e fun h => (S.kind h).2 o u hu e⟩
theorem Stays.tup {G : Mg} {p p' : List Addr} {H H' : Hp} {a : Addr} {vs : List V} (z : Stays p H p' H') (h : SqT G.K H a vs) : SqT G.K H' a vs := by
  rcases h with h | h
  · rcases h with h | ⟨o, h⟩
    · exact .inl (.inl (z.tp a vs h))
    · exact .inl (.inr ⟨o, z.fz a o _ trivial h⟩)
  · exact .inr h
theorem Stays.fl {K : PySem.W.Frag} {p p' : List Addr} {H H' : Hp} {a : Addr} {vs : List V} (z : Stays p H p' H') (h : FlAt K p H a vs) : FlAt K p' H' a vs := by
  rcases h with ⟨o, h⟩ | h
  · exact .inl ⟨o, z.fz a o _ trivial h⟩
  · exact .inr h
mutual
theorem Den.stay {G : Mg} {p p' : List Addr} {H H' : Hp} (z : Stays p H p' H') : ∀ {w : Mv} {v : V}, Den G p H w v → Den G p' H' w v
  | _, _, .non => .non
  | _, _, .bl b => .bl b
  | _, _, .int i => .int i
  | _, _, .str x => .str x
  | _, _, .ty t => .ty t
  | _, _, .cls c => .cls c
  | _, _, .ref h => .ref (z.ix _ _ h)
  | _, _, .tup h l => .tup (Stays.tup (G := G) z h) (DenL.stay z l)
  | _, _, .fl h l => .fl (Stays.fl z h) (DenL.stay z l)
theorem DenL.stay {G : Mg} {p p' : List Addr} {H H' : Hp} (z : Stays p H p' H') : ∀ {ws : List Mv} {vs : List V}, DenL G p H ws vs → DenL G p' H' ws vs
  | _, _, .nil => .nil
  | _, _, .cons h l => .cons (Den.stay z h) (DenL.stay z l)
end
theorem DenN.stay {G : Mg} {p p' : List Addr} {H H' : Hp} (z : Stays p H p' H') : ∀ {ks : List (NestedKey × Mv × Mv)} {xs : List (NestedKey × Addr × V)}, DenN G p H ks xs → DenN G p' H' ks xs
  | _, _, .nil => .nil
  | _, _, .cons a b c d l => .cons a b (c.stay z) (d.stay z) (l.stay z)
theorem DenO.stay {G : Mg} {p p' : List Addr} {H H' : Hp} (z : Stays p H p' H') {a : Addr} {o : Mo} {ho : HO} (h : DenO G p H a o ho) : DenO G p' H' a o ho := by
  cases o with
  | lst ws => obtain ⟨vs, e, l, n⟩ := h; exact ⟨vs, e, l.stay z, n⟩
  | ins c fs => obtain ⟨dx, fs', e, n, l, b⟩ := h; exact ⟨dx, fs', e, n, l.stay z, b⟩
  | dk kvs => obtain ⟨kvs', e, n, l⟩ := h; exact ⟨kvs', e, n, l.stay z⟩
  | dn kvs => obtain ⟨xs, e, l⟩ := h; exact ⟨xs, e, l.stay z⟩
  | lk kvs => obtain ⟨od, kvs', e, n, l⟩ := h; exact ⟨od, kvs', e, n, l.stay z⟩
  | ln kvs => obtain ⟨od, xs, e, l⟩ := h; exact ⟨od, xs, e, l.stay z⟩
  | box m ds => exact h
  | tab t o =>
    rcases o with _ | ⟨l, c, n⟩
    · exact h
    · obtain ⟨h0, b, h1, h2⟩ := h; exact ⟨h0, b, z.ix _ _ h1, h2⟩
  | cod q => exact h
theorem Den.fra {G : Mg} {p p' : List Addr} {s : Ms} {H H' : Hp} {w : Mv} {v : V} (h : Den G p H w v) (S : Sim G p s H) (f : Fra p H p' H') : Den G p' H' w v := h.stay (f.stays S)
theorem DenL.fra {G : Mg} {p p' : List Addr} {s : Ms} {H H' : Hp} {w : List Mv} {v : List V} (h : DenL G p H w v) (S : Sim G p s H) (f : Fra p H p' H') : DenL G p' H' w v := h.stay (f.stays S)
theorem DenL.length {G : Mg} {p : List Addr} {H : Hp} : ∀ {ws : List Mv} {vs : List V}, DenL G p H ws vs → ws.length = vs.length
  | _, _, .nil => rfl
  | _, _, .cons _ l => by rw [List.length_cons, List.length_cons, l.length]
theorem DenL.get {G : Mg} {p : List Addr} {H : Hp} : ∀ {ws : List Mv} {vs : List V}, DenL G p H ws vs → ∀ {i : Nat} {w : Mv}, ws[i]? = some w → ∃ v, vs[i]? = some v ∧ Den G p H w v
  | _, _, .nil, i, w, e => by simp at e
  | _, _, .cons h l, 0, w, e => by simp at e; subst e; exact ⟨_, rfl, h⟩
  | _, _, .cons h l, i + 1, w, e => by simpa using l.get (i := i) (by simpa using e)
theorem DenL.append {G : Mg} {p : List Addr} {H : Hp} : ∀ {ws ws' : List Mv} {vs vs' : List V}, DenL G p H ws vs → DenL G p H ws' vs' → DenL G p H (ws ++ ws') (vs ++ vs')
  | _, _, _, _, .nil, h => h
  | _, _, _, _, .cons a l, h => .cons a (l.append h)
theorem DenL.drop {G : Mg} {p : List Addr} {H : Hp} : ∀ (n : Nat) {ws : List Mv} {vs : List V}, DenL G p H ws vs → DenL G p H (ws.drop n) (vs.drop n)
  | 0, _, _, h => h
  | _ + 1, _, _, .nil => .nil
  | n + 1, _, _, .cons _ l => l.drop n
theorem DenL.take {G : Mg} {p : List Addr} {H : Hp} : ∀ (n : Nat) {ws : List Mv} {vs : List V}, DenL G p H ws vs → DenL G p H (ws.take n) (vs.take n)
  | 0, _, _, _ => .nil
  | _ + 1, _, _, .nil => .nil
  | n + 1, _, _, .cons h l => .cons h (l.take n)
theorem DenL.set {G : Mg} {p : List Addr} {H : Hp} {w : Mv} {v : V} (h : Den G p H w v) : ∀ {ws : List Mv} {vs : List V} (i : Nat), DenL G p H ws vs → DenL G p H (ws.set i w) (vs.set i v)
  | _, _, _, .nil => .nil
  | _, _, 0, .cons _ l => .cons h l
  | _, _, i + 1, .cons a l => .cons a (DenL.set h i l)
theorem DenL.erase {G : Mg} {p : List Addr} {H : Hp} : ∀ {ws : List Mv} {vs : List V} (i : Nat), DenL G p H ws vs → DenL G p H (ws.eraseIdx i) (vs.eraseIdx i)
  | _, _, _, .nil => .nil
  | _, _, 0, .cons _ l => l
  | _, _, i + 1, .cons a l => .cons a (l.erase i)
theorem nodup_at {α : Type} {l : List α} (hl : l.Nodup) {i j : Nat} {x : α} (a : l[i]? = some x) (b : l[j]? = some x) : i = j := by
  obtain ⟨h1, e1⟩ := List.getElem?_eq_some_iff.mp a
  obtain ⟨h2, e2⟩ := List.getElem?_eq_some_iff.mp b
  exact (List.getElem_inj hl).mp (e1.trans e2.symm)
/-! ### the store: new objects, changed ones -/
theorem Ms.alloc_eq {s s' : Ms} {o : Mo} {n : Nat} (h : s.alloc o = some (n, s')) : n = s.sz ∧ s'.sz = s.sz + 1 ∧ ∀ m, s'.get m = if m = s.sz then some o else s.get m := by
  cases h
  exact ⟨rfl, rfl, fun m => Mt.get_set s.t s.sz o m⟩
theorem Sim.new {G : Mg} {p : List Addr} {s s' : Ms} {H : Hp} {o : Mo} {ho : HO} {n : Nat} {a : Addr} {H' : Hp} (S : Sim G p s H) (e : s.alloc o = some (n, s')) (ha : H a = Option.none) (d : DenO G p H a o ho) (ha' : H' a = some ho) (hk : ∀ b u, H b = some u → H' b = some u) :
    Sim G (p ++ [a]) s' H' ∧ Fra p H (p ++ [a]) H' ∧ Den G (p ++ [a]) H' (.ref n) (.ref a) := by
  obtain ⟨rfl, h2, h4⟩ := Ms.alloc_eq e
  have nin : a ∉ p := fun h => by
    obtain ⟨k, hk'⟩ := List.mem_iff_getElem?.mp h
    obtain ⟨_, _, _, z, _⟩ := S.ob k a hk'
    rw [ha] at z; cases z
  have f : Fra p H (p ++ [a]) H' := ⟨⟨[a], rfl, fun b hb _ => by rw [List.mem_singleton.mp hb]; exact ha⟩, fun b u e _ => hk b u e, fun b o u e => hk b _ e⟩
  have st := f.stays S
  have hlen : (p ++ [a])[s.sz]? = some a := by rw [← S.len]; simp
  refine ⟨⟨by rw [List.length_append, S.len, h2]; rfl, ?_, fun m b hb => ?_, fun m hm => ?_⟩, f, .ref hlen⟩
  · rw [List.nodup_append]
    exact ⟨S.nd, by simp, fun x hx y hy => by rw [List.mem_singleton.mp hy]; rintro rfl; exact nin hx⟩
  · by_cases hmn : m = s.sz
    · subst hmn
      rw [hlen] at hb; cases hb
      exact ⟨o, ho, by rw [h4, if_pos rfl], ha', d.stay st⟩
    · have hlt : m < p.length := by
        have := (List.getElem?_eq_some_iff.mp hb).1
        rw [List.length_append] at this
        have := S.len
        simp at *
        omega
      rw [List.getElem?_append_left hlt] at hb
      obtain ⟨o1, ho1, q1, q2, q3⟩ := S.ob m b hb
      exact ⟨o1, ho1, by rw [h4, if_neg hmn]; exact q1, hk _ _ q2, q3.stay st⟩
  · rw [h4, if_neg (by omega)]
    exact S.out m (by omega)
theorem Sim.get {G : Mg} {p : List Addr} {s : Ms} {H : Hp} (S : Sim G p s H) {n : Nat} {a : Addr} {o : Mo} (h : p[n]? = some a) (e : s.get n = some o) : ∃ ho, H a = some ho ∧ DenO G p H a o ho := by
  obtain ⟨o', ho, q1, q2, q3⟩ := S.ob n a h
  rw [e] at q1; cases q1
  exact ⟨ho, q2, q3⟩
def unl : Mo → Bool
  | .lk _ => false
  | .ln _ => false
  | _ => true
theorem DenO.unl {G : Mg} {p : List Addr} {H : Hp} {a : Addr} {o : Mo} {ho : HO} (d : DenO G p H a o ho) (hu : unl o = true) : ∀ ob u, ho ≠ .frz ob u := by
  intro ob u e
  subst e
  cases o with
  | lst ws => obtain ⟨_, z, _⟩ := d; cases z
  | ins c fs => obtain ⟨_, _, z, _⟩ := d; cases z
  | dk kvs => obtain ⟨_, z, _⟩ := d; cases z
  | dn kvs => obtain ⟨_, z, _⟩ := d; cases z
  | lk kvs => cases hu
  | ln kvs => cases hu
  | box m ds => obtain ⟨_, _, _, z, _⟩ := d; cases z
  | tab t o =>
    rcases o with _ | ⟨l, c, n⟩
    · obtain ⟨_, z⟩ := d; cases z
    · obtain ⟨_, _, _, z⟩ := d; cases z
  | cod q => exact nomatch (show _ = LamX.CodeO a q from d)
theorem Sim.put {G : Mg} {p : List Addr} {s : Ms} {H : Hp} {o o0 : Mo} {ho : HO} {n : Nat} {a : Addr} (S : Sim G p s H) (h : p[n]? = some a) (e0 : s.get n = some o0) (hu : unl o0 = true) (nt : ∀ vs, ho ≠ .tup vs) (d : DenO G p H a o ho) : Sim G p (s.put n o) (upd H a ho) ∧ Fra p H p (upd H a ho) := by
  have hn : n < s.sz := by rw [← S.len]; exact (List.getElem?_eq_some_iff.mp h).1
  have ham : a ∈ p := List.mem_of_getElem? h
  have f : Fra p H p (upd H a ho) := ⟨⟨[], by simp, fun b hb => by simp at hb⟩, fun b u e nb => by
    have hne : b ≠ a := fun z => nb (by rw [z]; exact ham)
    rw [upd_ne hne]; exact e, fun b ob u e => by
    obtain ⟨ho0, q1, q2⟩ := S.get h e0
    have hne : b ≠ a := fun z => by
      subst z
      rw [q1] at e
      exact q2.unl hu ob u (Option.some.inj e)
    rw [upd_ne hne]; exact e⟩
  have st := f.stays S
  have g : ∀ m, (s.put n o).get m = if m = n then some o else s.get m := fun m => Mt.get_set s.t n o m
  refine ⟨⟨S.len, S.nd, fun m b hb => ?_, fun m hm => ?_⟩, f⟩
  · by_cases hmn : m = n
    · subst hmn
      rw [h] at hb; cases hb
      exact ⟨o, ho, by rw [g, if_pos rfl], upd_same, d.stay st⟩
    · obtain ⟨o1, ho1, q1, q2, q3⟩ := S.ob m b hb
      have hne : b ≠ a := fun z => hmn (nodup_at S.nd (z ▸ hb) h)
      exact ⟨o1, ho1, by rw [g, if_neg hmn]; exact q1, by rw [upd_ne hne]; exact q2, q3.stay st⟩
  · rw [g, if_neg (by have : s.sz ≤ m := hm; omega)]
    exact S.out m hm

end
section
/-! ### readings of mirrored functions -/
structure EnvR (G : Mg) (p : List Addr) (H : Hp) (r : Me) (σ : L2.St) : Prop where
  len : r.length = σ.length
  get : ∀ (i : Nat) (w : Mv), r[i]? = some (some w) → ∃ v, σ[i]? = some (some v) ∧ Den G p H w v
theorem EnvR.fra {G : Mg} {p p' : List Addr} {s : Ms} {H H' : Hp} {r : Me} {σ : L2.St} (e : EnvR G p H r σ) (S : Sim G p s H) (f : Fra p H p' H') : EnvR G p' H' r σ :=
  ⟨e.len, fun i w h => let ⟨v, q, d⟩ := e.get i w h; ⟨v, q, d.fra S f⟩⟩
theorem EnvR.set {G : Mg} {p : List Addr} {H : Hp} {r : Me} {σ : L2.St} {i : Nat} {w : Mv} {v : V} (e : EnvR G p H r σ) (d : Den G p H w v) : EnvR G p H (lset r i (some w)) (σ.set i (some v)) := by
  rw [lset_eq]
  refine ⟨by rw [List.length_set, List.length_set, e.len], fun j x h => ?_⟩
  by_cases hj : i = j
  · subst hj
    have hl : i < r.length := by
      have := (List.getElem?_eq_some_iff.mp h).1
      rwa [List.length_set] at this
    rw [List.getElem?_set_self hl] at h
    cases h
    exact ⟨v, List.getElem?_set_self (by rw [← e.len]; exact hl), d⟩
  · rw [List.getElem?_set_ne hj] at h
    rw [List.getElem?_set_ne hj]
    exact e.get j x h
noncomputable def After (G : Mg) (p : List Addr) (H : Hp) (w : Mv) (s' : Ms) (Q : VK) : Prop := ∀ p' v H', Sim G p' s' H' → Fra p H p' H' → Den G p' H' w v → Q v H'
noncomputable def tI (G : Mg) (F : Fe) : TE := fun σ H Q => ∃ p s r w s', Sim G p s H ∧ EnvR G p H r σ ∧ F r s = some (w, s') ∧ After G p H w s' Q
noncomputable def tT (G : Mg) (F : Ft) : TT := fun σ H Q => ∃ p s r b s', Sim G p s H ∧ EnvR G p H r σ ∧ F r s = some (b, s') ∧ ∀ p' H', Sim G p' s' H' → Fra p H p' H' → Q b H'
noncomputable def tA (G : Mg) (F : Fa) : TA := fun σ H Q => ∃ p s r ws s', Sim G p s H ∧ EnvR G p H r σ ∧ F r s = some (ws, s') ∧ ∀ p' vs H', Sim G p' s' H' → Fra p H p' H' → DenL G p' H' ws vs → Q vs H'
noncomputable def rF (G : Mg) (f : Fn) : List V → Hp → VK → Prop := fun vs H Q => ∃ p s ws w s', Sim G p s H ∧ DenL G p H ws vs ∧ f ws s = some (w, s') ∧ After G p H w s' Q
noncomputable def q1R (G : Mg) (f : Mv → Ms → Option (Mv × Ms)) : V → Hp → VK → Prop := fun x H Q => ∃ p s a w s', Sim G p s H ∧ Den G p H a x ∧ f a s = some (w, s') ∧ After G p H w s' Q
noncomputable def q2R (G : Mg) (f : Mv → Mv → Ms → Option (Mv × Ms)) : R2 := fun x y H Q => ∃ p s a b w s', Sim G p s H ∧ Den G p H a x ∧ Den G p H b y ∧ f a b s = some (w, s') ∧ After G p H w s' Q
noncomputable def spM (G : Mg) (f : Fn) : Sp := fun vs H Q _ => rF G f vs H Q
theorem After.of {G : Mg} {p p1 : List Addr} {H H1 : Hp} {w : Mv} {s' : Ms} {Q : VK} (f : Fra p H p1 H1) (a : After G p H w s' Q) : After G p1 H1 w s' Q := fun p' v H' S' f' d => a p' v H' S' (f.trans f') d

/-! ### the mirror's words -/
noncomputable def mvar (i : Nat) : Fe := fun r s => Option.rec (motive := fun _ => Option (Mv × Ms)) none (fun o => Option.rec (motive := fun _ => Option (Mv × Ms)) none (fun w => some (w, s)) o) (lget r i)
noncomputable def mcon (w : Mv) : Fe := fun _ s => some (w, s)
noncomputable def mno : Fe := fun _ _ => none
noncomputable def mop1 (f : Mv → Ms → Option (Mv × Ms)) (A : Fe) : Fe := fun r s => (A r s).ob fun x => f x.1 x.2
noncomputable def mop2 (f : Mv → Mv → Ms → Option (Mv × Ms)) (A B : Fe) : Fe := fun r s => (A r s).ob fun x => (B r x.2).ob fun y => f x.1 y.1 y.2
noncomputable def mnil : Fa := fun _ s => some ([], s)
noncomputable def mcons (A : Fe) (B : Fa) : Fa := fun r s => (A r s).ob fun x => (B r x.2).ob fun y => some (x.1 :: y.1, y.2)
noncomputable def mcall (f : Fn) (A : Fa) : Fe := fun r s => (A r s).ob fun x => f x.1 x.2
noncomputable def mchain (f g : Mv → Mv → Ms → Option (Mv × Ms)) (A B C : Fe) : Fe := fun r s => (A r s).ob fun x => (B r x.2).ob fun y => (f x.1 y.1 y.2).ob fun z => match z.1 with
  | .bl true => (C r z.2).ob fun u => g y.1 u.1 u.2
  | .bl false => some (.bl false, z.2)
  | _ => none
noncomputable def tru : Mv → Ms → Option Bool
  | .non, _ => some false
  | .bl b, _ => some b
  | .int i, _ => some (i != 0)
  | .str x, _ => cond (Nat.ble x.length 16777216) (some (x.length != 0)) none
  | .tup ws, _ => some (!ws.isEmpty)
  | .ref n, s => match s.get n with
    | some (.lst ws) => some (!ws.isEmpty)
    | _ => none
  | _, _ => none
noncomputable def mtst (A : Fe) : Ft := fun r s => (A r s).ob fun x => (tru x.1 x.2).om fun b => (b, x.2)
noncomputable def mtB (A : Fe) : Ft := fun r s => (A r s).ob fun x => match x.1 with
  | .bl b => some (b, x.2)
  | _ => none
noncomputable def mand (A B : Ft) : Ft := fun r s => (A r s).ob fun x => cond x.1 (B r x.2) (some (false, x.2))
noncomputable def mor (A B : Ft) : Ft := fun r s => (A r s).ob fun x => cond x.1 (some (true, x.2)) (B r x.2)
noncomputable def mnot (A : Ft) : Ft := fun r s => (A r s).om fun x => (!x.1, x.2)
noncomputable def mandV (A B : Fe) : Fe := fun r s => (A r s).ob fun x => match x.1 with
  | .bl true => B r x.2
  | .bl false => some (.bl false, x.2)
  | _ => none
noncomputable def morV (A B : Fe) : Fe := fun r s => (A r s).ob fun x => match x.1 with
  | .bl false => B r x.2
  | .bl true => some (.bl true, x.2)
  | _ => none
noncomputable def mnotV (A : Fe) : Fe := fun r s => (A r s).ob fun x => match x.1 with
  | .bl b => some (.bl (!b), x.2)
  | _ => none
noncomputable def mif (T : Ft) (A B : Fe) : Fe := fun r s => (T r s).ob fun x => cond x.1 (A r x.2) (B r x.2)

/-! ### one lemma a construct -/
section
variable {X : Cx} {G : Mg} {e a b c : Expr} {pos : Pos}
theorem pe_imp {t t' : TE} (h : PE X e t) (i : ∀ σ H Q, t' σ H Q → t σ H Q) : PE X e t' := ⟨fun pins s σ H Q I q => h.run pins s σ H Q I (i σ H Q q)⟩
theorem pt_imp {t t' : TT} (h : PT X e t) (i : ∀ σ H Q, t' σ H Q → t σ H Q) : PT X e t' := ⟨fun pins s σ H Q I q => h.run pins s σ H Q I (i σ H Q q)⟩
theorem pw_imp {t t' : TT} (h : PW X e t) (i : ∀ σ H Q, t' σ H Q → t σ H Q) : PW X e t' := ⟨fun wh pins s σ H Q I q => h.run wh pins s σ H Q I (i σ H Q q)⟩
theorem pa_imp {es : List Expr} {t t' : TA} (h : PA X es t) (i : ∀ σ H Q, t' σ H Q → t σ H Q) : PA X es t' := ⟨fun ps pins s σ H Q I q => h.run ps pins s σ H Q I (i σ H Q q)⟩
theorem pm_no : PE X e (tI G mno) := ⟨fun pins s σ H Q I q => by obtain ⟨_, _, _, _, _, _, _, z, _⟩ := q; cases z⟩
theorem mvar_eq {i : Nat} {r : Me} {s s' : Ms} {w : Mv} (h : mvar i r s = some (w, s')) : r[i]? = some (some w) ∧ s' = s := by
  unfold mvar at h
  rw [lget_eq] at h
  cases e : r[i]? with
  | none => rw [e] at h; cases h
  | some o =>
    rw [e] at h
    cases o with
    | none => cases h
    | some w' =>
      have h' : some (w', s) = some (w, s') := h
      cases h'
      exact ⟨rfl, rfl⟩
theorem pm_var {i : Nat} (h : PE X e (tVar i)) : PE X e (tI G (mvar i)) := pe_imp h fun σ H Q ⟨p, s, r, w, s', S, E, q, k⟩ => by
  obtain ⟨h1, rfl⟩ := mvar_eq q
  obtain ⟨v, h2, d⟩ := E.get i w h1
  exact ⟨v, h2, k p v H S Fra.refl d⟩
theorem pm_con {v : V} {w : Mv} (h : PE X e (tC v)) (d : ∀ p s H, Sim G p s H → Den G p H w v) : PE X e (tI G (mcon w)) := pe_imp h fun σ H Q ⟨p, s, r, w', s', S, E, q, k⟩ => by
  cases q
  exact k p v H S Fra.refl (d p s H S)
theorem t_op1 {f : Mv → Ms → Option (Mv × Ms)} {A : Fe} {σ : L2.St} {H : Hp} {Q : VK} (h : tI G (mop1 f A) σ H Q) : tUn (q1R G f) (tI G A) σ H Q := by
  obtain ⟨p, s, r, w, s', S, E, q, k⟩ := h
  obtain ⟨⟨x, s1⟩, q1, q2⟩ := ob_some.mp q
  exact ⟨p, s, r, x, s1, S, E, q1, fun p1 v1 H1 S1 f1 d1 => ⟨p1, s1, x, w, s', S1, d1, q2, k.of f1⟩⟩
theorem t_op2 {f : Mv → Mv → Ms → Option (Mv × Ms)} {A B : Fe} {σ : L2.St} {H : Hp} {Q : VK} (h : tI G (mop2 f A B) σ H Q) : tOp (q2R G f) (tI G A) (tI G B) σ H Q := by
  obtain ⟨p, s, r, w, s', S, E, q, k⟩ := h
  obtain ⟨⟨x, s1⟩, q1, q2⟩ := ob_some.mp q
  obtain ⟨⟨y, s2⟩, q3, q4⟩ := ob_some.mp q2
  exact ⟨p, s, r, x, s1, S, E, q1, fun p1 v1 H1 S1 f1 d1 => ⟨p1, s1, r, y, s2, S1, E.fra S f1, q3, fun p2 v2 H2 S2 f2 d2 => ⟨p2, s2, x, y, w, s', S2, d1.fra S1 f2, d2, q4, k.of (f1.trans f2)⟩⟩⟩
theorem pm_un {op : UnaryOp} {f : Mv → Ms → Option (Mv × Ms)} {A : Fe} (ho : UnR X (unaryOp op) (q1R G f)) (ha : PE X a (tI G A)) : PE X (.UnaryOp op a pos) (tI G (mop1 f A)) := pe_imp (pe_un ho ha) fun _ _ _ h => t_op1 h
theorem pm_bin {op : Operator} {f : Mv → Mv → Ms → Option (Mv × Ms)} {A B : Fe} (ho : OpR X (binaryOp op) (q2R G f)) (ha : PE X a (tI G A)) (hb : PE X b (tI G B)) : PE X (.BinOp a op b pos) (tI G (mop2 f A B)) := pe_imp (pe_op ho ha hb) fun _ _ _ h => t_op2 h
theorem pm_cmp {op : CmpOp} {f : Mv → Mv → Ms → Option (Mv × Ms)} {A B : Fe} (ho : OpR X (compareOp op) (q2R G f)) (ha : PE X a (tI G A)) (hb : PE X b (tI G B)) (hm : behindInMarks op b = false) : PE X (.Compare a [op] [b] pos) (tI G (mop2 f A B)) := pe_imp (pe_cmpR ho ha hb hm) fun _ _ _ h => t_op2 h
theorem mtB_eq {A : Fe} {r : Me} {s s' : Ms} {b : Bool} (h : mtB A r s = some (b, s')) : A r s = some (.bl b, s') := by
  obtain ⟨⟨x, s1⟩, q1, q2⟩ := ob_some.mp h
  cases x with
  | bl c => cases q2; exact q1
  | _ => cases q2
theorem Den.bl_eq {p : List Addr} {H : Hp} {v : V} {b : Bool} (d : Den G p H (.bl b) v) : v = .bl b := by cases d; rfl
theorem t_B {A : Fe} {σ : L2.St} {H : Hp} {Q : Bool → Hp → Prop} (h : tT G (mtB A) σ H Q) : tTest (tI G A) σ H Q := by
  obtain ⟨p, s, r, b, s', S, E, q, k⟩ := h
  exact ⟨p, s, r, .bl b, s', S, E, mtB_eq q, fun p1 v1 H1 S1 f1 d1 => ⟨b, d1.bl_eq, k p1 H1 S1 f1⟩⟩
theorem pm_tcmp {op : CmpOp} {f : Mv → Mv → Ms → Option (Mv × Ms)} {A B : Fe} (ho : OpR X (compareOp op) (q2R G f)) (ha : PE X a (tI G A)) (hb : PE X b (tI G B)) (hm : behindInMarks op b = false) : PT X (.Compare a [op] [b] pos) (tT G (mtB (mop2 f A B))) :=
  pt_imp (pt_cmpR ho ha hb hm) fun σ H Q h => by
    obtain ⟨p, s, r, c, s', S, E, q, k⟩ := t_B h
    exact t_op2 ⟨p, s, r, c, s', S, E, q, k⟩
theorem t_chain {f g : Mv → Mv → Ms → Option (Mv × Ms)} {A B C : Fe} {σ : L2.St} {H : Hp} {Q : VK} (h : tI G (mchain f g A B C) σ H Q) : tChain (q2R G f) (q2R G g) (tI G A) (tI G B) (tI G C) σ H Q := by
  obtain ⟨p, s, r, w, s', S, E, q, k⟩ := h
  obtain ⟨⟨x, s1⟩, q1, q2⟩ := ob_some.mp q
  obtain ⟨⟨y, s2⟩, q3, q4⟩ := ob_some.mp q2
  obtain ⟨⟨z, s3⟩, q5, q6⟩ := ob_some.mp q4
  refine ⟨p, s, r, x, s1, S, E, q1, fun p1 v1 H1 S1 f1 d1 => ⟨p1, s1, r, y, s2, S1, E.fra S f1, q3, fun p2 v2 H2 S2 f2 d2 => ⟨p2, s2, x, y, z, s3, S2, d1.fra S1 f2, d2, q5, fun p3 v3 H3 S3 f3 d3 => ?_⟩⟩⟩
  cases z with
  | bl c =>
    cases d3
    refine ⟨c, rfl, ?_⟩
    cases c with
    | false => rw [if_neg Bool.false_ne_true]; cases q6; exact k p3 _ H3 S3 ((f1.trans f2).trans f3) (.bl false)
    | true =>
      rw [if_pos rfl]
      obtain ⟨⟨u, s4⟩, q7, q8⟩ := ob_some.mp q6
      exact ⟨p3, s3, r, u, s4, S3, ((E.fra S f1).fra S1 f2).fra S2 f3, q7, fun p4 v4 H4 S4 f4 d4 => ⟨p4, s4, y, u, w, s', S4, (d2.fra S2 f3).fra S3 f4, d4, q8, k.of (((f1.trans f2).trans f3).trans f4)⟩⟩
  | _ => cases q6
theorem pm_tchain {op op' : CmpOp} {f g : Mv → Mv → Ms → Option (Mv × Ms)} {A B C : Fe} (ho : OpR X (compareOp op) (q2R G f)) (ho' : OpR X (compareOp op') (q2R G g)) (ha : PE X a (tI G A)) (hb : PE X b (tI G B)) (hc : PE X c (tI G C)) (hm : lastMarks [op, op'] [b, c] = false := by with_unfolding_all rfl) :
    PT X (.Compare a [op, op'] [b, c] pos) (tT G (mtB (mchain f g A B C))) :=
  pt_imp (pt_chain ho ho' ha hb hc hm) fun σ H Q h => by
    obtain ⟨p, s, r, c, s', S, E, q, k⟩ := t_B h
    exact t_chain ⟨p, s, r, c, s', S, E, q, k⟩
/-! truth of any value -/
theorem tru_den {p : List Addr} {s : Ms} {H : Hp} {w : Mv} {v : V} {k : Bool} (S : Sim G p s H) (d : Den G p H w v) (h : tru w s = some k) (hK : X.K = G.K) : TruV X.K v H k := by
  cases d with
  | non => cases h; rfl
  | bl b => cases h; rfl
  | int i => cases h; rfl
  | str x =>
    simp only [tru] at h
    cases q : Nat.ble x.length 16777216 with
    | false => rw [q] at h; cases h
    | true =>
      rw [q] at h; cases h
      refine ⟨Nat.le_of_ble_eq_true q, ?_⟩
      cases x.length with
      | zero => rfl
      | succ n =>
        have h1 : (n + 1 != 0) = true := by simp
        have h2 : (((n + 1 : Nat) : Int) != 0) = true := by simp; omega
        rw [h1, h2]
  | tup h1 l =>
    cases h
    refine .inr (.inl ⟨_, by rw [hK]; exact h1, ?_⟩)
    cases l with
    | nil => rfl
    | cons _ _ => rfl
  | ref hn =>
    simp only [tru] at h
    split at h
    · rename_i ws e
      cases h
      obtain ⟨ho, h1, vs, rfl, l, _⟩ := S.get hn e
      refine .inl ⟨vs, SqL.of h1, ?_⟩
      cases l with
      | nil => rfl
      | cons _ _ => rfl
    · cases h
  | ty t => cases h
  | cls c => cases h
  | fl _ _ => cases h
theorem pm_tst {A : Fe} (h : PE X e (tI G A)) (hK : X.K = G.K := by rfl) (he : ∀ whole, isTrue e X.env whole = (do let v ← whole; standAt e.pos; holding [v] (truthy v)) := by intro _; rfl) : PT X e (tT G (mtst A)) :=
  pt_imp (pt_truth h he) fun σ H Q ⟨p, s, r, b, s', S, E, q, k⟩ => by
    obtain ⟨⟨x, s1⟩, q1, q2⟩ := ob_some.mp q
    obtain ⟨b', q3, q4⟩ := omap_some.mp q2
    cases q4
    exact ⟨p, s, r, x, s1, S, E, q1, fun p1 v1 H1 S1 f1 d1 => ⟨b, tru_den S1 d1 q3 hK, k p1 H1 S1 f1⟩⟩
/-! and, or, not, if -/
variable {rest : List Expr}
theorem t_and {A B : Ft} {σ : L2.St} {H : Hp} {Q : Bool → Hp → Prop} (h : tT G (mand A B) σ H Q) : tAnd (tT G A) (tT G B) σ H Q := by
  obtain ⟨p, s, r, c, s', S, E, q, k⟩ := h
  obtain ⟨⟨x, s1⟩, q1, q2⟩ := ob_some.mp q
  refine ⟨p, s, r, x, s1, S, E, q1, fun p1 H1 S1 f1 => ?_⟩
  cases x with
  | false => rw [if_neg Bool.false_ne_true]; cases q2; exact k p1 H1 S1 f1
  | true => rw [if_pos rfl]; exact ⟨p1, s1, r, c, s', S1, E.fra S f1, q2, fun p2 H2 S2 f2 => k p2 H2 S2 (f1.trans f2)⟩
theorem t_or {A B : Ft} {σ : L2.St} {H : Hp} {Q : Bool → Hp → Prop} (h : tT G (mor A B) σ H Q) : tOr (tT G A) (tT G B) σ H Q := by
  obtain ⟨p, s, r, c, s', S, E, q, k⟩ := h
  obtain ⟨⟨x, s1⟩, q1, q2⟩ := ob_some.mp q
  refine ⟨p, s, r, x, s1, S, E, q1, fun p1 H1 S1 f1 => ?_⟩
  cases x with
  | true => rw [if_pos rfl]; cases q2; exact k p1 H1 S1 f1
  | false => rw [if_neg Bool.false_ne_true]; exact ⟨p1, s1, r, c, s', S1, E.fra S f1, q2, fun p2 H2 S2 f2 => k p2 H2 S2 (f1.trans f2)⟩
theorem pm_wand1 {A : Ft} (ha : PT X a (tT G A)) : PW X (.BoolOp .And [a] pos) (tT G A) := pw_and1 ha
theorem pm_wor1 {A : Ft} (ha : PT X a (tT G A)) : PW X (.BoolOp .Or [a] pos) (tT G A) := pw_or1 ha
theorem pm_wand {A B : Ft} (ha : PT X a (tT G A)) (hb : PW X (.BoolOp .And (b :: rest) pos) (tT G B)) : PW X (.BoolOp .And (a :: b :: rest) pos) (tT G (mand A B)) := pw_imp (pw_and ha hb) fun _ _ _ h => t_and h
theorem pm_wor {A B : Ft} (ha : PT X a (tT G A)) (hb : PW X (.BoolOp .Or (b :: rest) pos) (tT G B)) : PW X (.BoolOp .Or (a :: b :: rest) pos) (tT G (mor A B)) := pw_imp (pw_or ha hb) fun _ _ _ h => t_or h
theorem pm_tnot {A : Ft} (ha : PT X a (tT G A)) : PT X (.UnaryOp .Not a pos) (tT G (mnot A)) := pt_imp (pt_not ha) fun σ H Q ⟨p, s, r, c, s', S, E, q, k⟩ => by
  obtain ⟨⟨x, s1⟩, q1, q2⟩ := omap_some.mp q
  cases q2
  exact ⟨p, s, r, x, s1, S, E, q1, k⟩
theorem pm_and {A B : Fe} (ha : PE X a (tI G A)) (hb : PE X (.BoolOp .And (b :: rest) pos) (tI G B)) : PE X (.BoolOp .And (a :: b :: rest) pos) (tI G (mandV A B)) := pe_imp (pe_and ha hb) fun σ H Q ⟨p, s, r, w, s', S, E, q, k⟩ => by
  obtain ⟨⟨x, s1⟩, q1, q2⟩ := ob_some.mp q
  refine ⟨p, s, r, x, s1, S, E, q1, fun p1 v1 H1 S1 f1 d1 => ?_⟩
  cases x with
  | bl c =>
    cases d1
    refine ⟨c, rfl, ?_⟩
    cases c with
    | false => rw [if_neg Bool.false_ne_true]; cases q2; exact k p1 _ H1 S1 f1 (.bl false)
    | true => rw [if_pos rfl]; exact ⟨p1, s1, r, w, s', S1, E.fra S f1, q2, k.of f1⟩
  | _ => cases q2
theorem pm_not {A : Fe} (ha : PE X a (tI G A)) : PE X (.UnaryOp .Not a pos) (tI G (mnotV A)) := pe_imp (pe_not ha) fun σ H Q ⟨p, s, r, w, s', S, E, q, k⟩ => by
  obtain ⟨⟨x, s1⟩, q1, q2⟩ := ob_some.mp q
  refine ⟨p, s, r, x, s1, S, E, q1, fun p1 v1 H1 S1 f1 d1 => ?_⟩
  cases x with
  | bl c => cases d1; cases q2; exact ⟨c, rfl, k p1 _ H1 S1 f1 (.bl _)⟩
  | _ => cases q2
theorem pm_one {op} {A : Fe} (h : PE X a (tI G A)) : PE X (.BoolOp op [a] pos) (tI G A) := pe_one h
theorem pm_if {T : Ft} {A B : Fe} (hc : PT X c (tT G T)) (ha : PE X a (tI G A)) (hb : PE X b (tI G B)) : PE X (.IfExp c a b pos) (tI G (mif T A B)) := pe_imp (pe_ifExp hc ha hb) fun σ H Q ⟨p, s, r, w, s', S, E, q, k⟩ => by
  obtain ⟨⟨x, s1⟩, q1, q2⟩ := ob_some.mp q
  refine ⟨p, s, r, x, s1, S, E, q1, fun p1 H1 S1 f1 => ?_⟩
  cases x with
  | true => rw [if_pos rfl]; exact ⟨p1, s1, r, w, s', S1, E.fra S f1, q2, k.of f1⟩
  | false => rw [if_neg Bool.false_ne_true]; exact ⟨p1, s1, r, w, s', S1, E.fra S f1, q2, k.of f1⟩
/-! arguments, calls -/
theorem pm_nil : PA X [] (tA G mnil) := pa_imp pa_nil fun σ H Q ⟨p, s, r, ws, s', S, E, q, k⟩ => by cases q; exact k p [] H S Fra.refl .nil
theorem pm_cons {es : List Expr} {A : Fe} {B : Fa} (ha : PE X e (tI G A)) (hr : PA X es (tA G B)) (hs : starEach (e :: es) X.env = (false, eval e X.env) :: starEach es X.env := by rfl) : PA X (e :: es) (tA G (mcons A B)) :=
  pa_imp (pa_cons ha hr hs) fun σ H Q ⟨p, s, r, ws, s', S, E, q, k⟩ => by
    obtain ⟨⟨x, s1⟩, q1, q2⟩ := ob_some.mp q
    obtain ⟨⟨y, s2⟩, q3, q4⟩ := ob_some.mp q2
    cases q4
    exact ⟨p, s, r, x, s1, S, E, q1, fun p1 v1 H1 S1 f1 d1 => ⟨p1, s1, r, y, s2, S1, E.fra S f1, q3, fun p2 vs H2 S2 f2 d2 => k p2 _ H2 S2 (f1.trans f2) (.cons (d1.fra S1 f2) d2)⟩⟩
theorem t_call {f : Fn} {A : Fa} {σ : L2.St} {H : Hp} {Q : VK} (h : tI G (mcall f A) σ H Q) : tA G A σ H fun vs H1 => rF G f vs H1 Q := by
  obtain ⟨p, s, r, w, s', S, E, q, k⟩ := h
  obtain ⟨⟨x, s1⟩, q1, q2⟩ := ob_some.mp q
  exact ⟨p, s, r, x, s1, S, E, q1, fun p1 vs H1 S1 f1 d1 => ⟨p1, s1, x, w, s', S1, d1, q2, k.of f1⟩⟩
variable {x : Str} {p0 : Pos} {es : List Expr} {id T : String} {f : Fn} {A : Fa}
theorem pm_cB (hc : CallR X (.builtin id) (rF G f)) (hg : Gl X x) (hm : X.mg x = none) (hv : bootBuiltins x = some (.builtin id)) (ha : PA X (e :: es) (tA G A)) (hn : x ≠ "__name__" := by decide) (hdb : (x == ("__debug__" : Str)) = false := by decide)
    (he : starEach (e :: es) X.env = (false, eval e X.env) :: starEach es X.env := by rfl) (hpl : (backTo pos (starEach es X.env)).any (·.1) = false := by rfl) : PE X (.Call (.Name x p0) (e :: es) [] pos) (tI G (mcall f A)) := pe_imp (pe_callB hc hg hm hv ha hn hdb he hpl) fun _ _ _ h => t_call h
theorem pm_cT (hc : CallR X (.type T) (rF G f)) (hg : Gl X x) (hm : X.mg x = none) (hv : bootBuiltins x = some (.type T)) (ha : PA X (e :: es) (tA G A)) (hn : x ≠ "__name__" := by decide) (hdb : (x == ("__debug__" : Str)) = false := by decide)
    (he : starEach (e :: es) X.env = (false, eval e X.env) :: starEach es X.env := by rfl) (hpl : (backTo pos (starEach es X.env)).any (·.1) = false := by rfl) : PE X (.Call (.Name x p0) (e :: es) [] pos) (tI G (mcall f A)) := pe_imp (pe_callTy hc hg hm hv ha hn hdb he hpl) fun _ _ _ h => t_call h
theorem pm_call {CX : CXT} {k : Nat} {fa : Addr} {fd : FuncData} {ps : List Str} {E : XK} (F : FnOk X.prog X.w X.K X.mg X.base CX k fa fd ps (spM G f)) (hr : Room k X.A) (hg : Gl X x) (hm : X.mg x = some (.ref fa)) (hk : PySem.W.keepIn X.K (.ref fa) = true) (hb : Binds X.K fd ps []) (hx : Passes CX X E) (ha : PA X (e :: es) (tA G A))
    (hdb : (x == ("__debug__" : Str)) = false := by decide) (he : starEach (e :: es) X.env = (false, eval e X.env) :: starEach es X.env := by rfl) (hpl : (backTo pos (starEach es X.env)).any (·.1) = false := by rfl) :
    PE X (.Call (.Name x p0) (e :: es) [] pos) (tI G (mcall f A)) := pe_imp (pe_call F hr hg hm hk hb .nil hx ha hdb he hpl) fun σ H Q h => by
  obtain ⟨p, s, r, w, s', S, E, q, k⟩ := t_call h
  exact ⟨p, s, r, w, s', S, E, q, fun p1 vs H1 S1 f1 d1 => by
    show rF G f (vs ++ []) H1 Q
    rw [List.append_nil]
    exact k p1 vs H1 S1 f1 d1⟩
end

end
section
/-! ### statements -/
inductive Fl where
  | nx | bk | ct | rt (w : Mv)
abbrev Fs := Me → Ms → Option (Fl × Me × Ms)
/-- what is wanted behind a statement that ends so -/
noncomputable def Ended (G : Mg) (D : Ends) (p : List Addr) (H : Hp) (r : Me) : Fl → Prop
  | .nx => ∀ σ, EnvR G p H r σ → D.nx σ H
  | .bk => ∀ σ, EnvR G p H r σ → D.bk σ H
  | .ct => ∀ σ, EnvR G p H r σ → D.ct σ H
  | .rt w => ∀ v, Den G p H w v → D.rt v H
noncomputable def tS (G : Mg) (F : Fs) : TS := fun D σ H => ∃ p s r f r' s', Sim G p s H ∧ EnvR G p H r σ ∧ F r s = some (f, r', s') ∧ ∀ p' H', Sim G p' s' H' → Fra p H p' H' → Ended G D p' H' r' f
noncomputable def snx : Fs := fun r s => some (.nx, r, s)
noncomputable def sno : Fs := fun _ _ => none
noncomputable def sseq (A B : Fs) : Fs := fun r s => (A r s).ob fun x => match x.1 with
  | .nx => B x.2.1 x.2.2
  | .bk => some (.bk, x.2)
  | .ct => some (.ct, x.2)
  | .rt w => some (.rt w, x.2)
noncomputable def sret (A : Fe) : Fs := fun r s => (A r s).om fun x => (.rt x.1, r, x.2)
noncomputable def sexp (A : Fe) : Fs := fun r s => (A r s).om fun x => (.nx, r, x.2)
noncomputable def sif (T : Ft) (A B : Fs) : Fs := fun r s => (T r s).ob fun x => cond x.1 (A r x.2) (B r x.2)
section
variable {X : Cx} {G : Mg} {e : Expr} {pos : Pos} {st : Stmt} {rest : List Stmt}
theorem ps_imp {t t' : TS} (h : PS X st t) (i : ∀ D σ H, t' D σ H → t D σ H) : PS X st t' := ⟨fun pins s σ H D I q => h.run pins s σ H D I (i D σ H q)⟩
theorem pss_imp {st : List Stmt} {t t' : TS} (h : PSs X st t) (i : ∀ D σ H, t' D σ H → t D σ H) : PSs X st t' := ⟨fun pins s σ H D I q => h.run pins s σ H D I (i D σ H q)⟩
theorem sm_no : PS X st (tS G sno) := ⟨fun pins s σ H D I q => by obtain ⟨_, _, _, _, _, _, _, _, z, _⟩ := q; cases z⟩
theorem sm_nil : PSs X [] (tS G snx) := pss_imp pss_nil fun D σ H ⟨p, s, r, f, r', s', S, E, q, k⟩ => by
  cases q
  exact k p H S Fra.refl σ E
theorem t_seq {A B : Fs} {D : Ends} {σ : L2.St} {H : Hp} (h : tS G (sseq A B) D σ H) : tSeq (tS G A) (tS G B) D σ H := by
  obtain ⟨p, s, r, f, r', s', S, E, q, k⟩ := h
  obtain ⟨⟨fl, r1, s1⟩, q1, q2⟩ := ob_some.mp q
  refine ⟨p, s, r, fl, r1, s1, S, E, q1, fun p1 H1 S1 f1 => ?_⟩
  cases fl with
  | nx => exact fun σ1 E1 => ⟨p1, s1, r1, f, r', s', S1, E1, q2, fun p2 H2 S2 f2 => k p2 H2 S2 (f1.trans f2)⟩
  | bk => cases q2; exact k p1 H1 S1 f1
  | ct => cases q2; exact k p1 H1 S1 f1
  | rt w => cases q2; exact k p1 H1 S1 f1
theorem sm_cons {A B : Fs} (h1 : PS X st (tS G A)) (h2 : PSs X rest (tS G B)) : PSs X (st :: rest) (tS G (sseq A B)) := pss_imp (pss_cons h1 h2) fun _ _ _ h => t_seq h
theorem sm_one {A : Fs} (h1 : PS X st (tS G A)) : PSs X [st] (tS G A) := pss_one h1
theorem sm_ret {A : Fe} (h : PE X e (tI G A)) : PS X (.Return (some e) pos) (tS G (sret A)) := ps_imp (ps_ret h) fun D σ H ⟨p, s, r, f, r', s', S, E, q, k⟩ => by
  obtain ⟨⟨x, s1⟩, q1, q2⟩ := omap_some.mp q
  cases q2
  exact ⟨p, s, r, x, s1, S, E, q1, fun p1 v1 H1 S1 f1 d1 => k p1 H1 S1 f1 v1 d1⟩
theorem sm_exp {A : Fe} (h : PE X e (tI G A)) (hs : swapsWith e none pos.line X.env = pure false := by rfl) : PS X (.Expr e pos) (tS G (sexp A)) := ps_imp (ps_expr h hs) fun D σ H ⟨p, s, r, f, r', s', S, E, q, k⟩ => by
  obtain ⟨⟨x, s1⟩, q1, q2⟩ := omap_some.mp q
  cases q2
  exact ⟨p, s, r, x, s1, S, E, q1, fun p1 v1 H1 S1 f1 d1 => k p1 H1 S1 f1 σ (E.fra S f1)⟩
theorem sm_if {c : Expr} {a b : List Stmt} {T : Ft} {A B : Fs} (hc : PT X c (tT G T)) (ha : PSs X a (tS G A)) (hb : PSs X b (tS G B)) : PS X (.If c a b pos) (tS G (sif T A B)) := ps_imp (ps_if hc ha hb) fun D σ H ⟨p, s, r, f, r', s', S, E, q, k⟩ => by
  obtain ⟨⟨x, s1⟩, q1, q2⟩ := ob_some.mp q
  refine ⟨p, s, r, x, s1, S, E, q1, fun p1 H1 S1 f1 => ?_⟩
  cases x with
  | true => rw [if_pos rfl]; exact ⟨p1, s1, r, f, r', s', S1, E.fra S f1, q2, fun p2 H2 S2 f2 => k p2 H2 S2 (f1.trans f2)⟩
  | false => rw [if_neg Bool.false_ne_true]; exact ⟨p1, s1, r, f, r', s', S1, E.fra S f1, q2, fun p2 H2 S2 f2 => k p2 H2 S2 (f1.trans f2)⟩
end
/-! ### targets -/
inductive Tg where
  | nm (i : Nat) | tp (is : List Nat) | pr (a b : Tg)
noncomputable def asgs : List Nat → List Mv → Me → Option Me
  | [], [], r => some r
  | i :: is, w :: ws, r => asgs is ws (lset r i (some w))
  | _, _, _ => none
noncomputable def Tg.asg : Tg → Mv → Me → Option Me
  | .nm i, w, r => some (lset r i (some w))
  | .tp is, .tup ws, r => asgs is ws r
  | .pr a b, .tup [x, y], r => (a.asg x r).ob fun r' => b.asg y r'
  | _, _, _ => none
noncomputable def Tg.slots : Tg → List Nat
  | .nm i => [i]
  | .tp is => is
  | .pr a b => a.slots ++ b.slots
noncomputable def tG (G : Mg) (T : Tg) : TG := fun v σ H Q => ∃ p s r w r', Sim G p s H ∧ EnvR G p H r σ ∧ Den G p H w v ∧ T.asg w r = some r' ∧ ∀ σ', EnvR G p H r' σ' → (∀ i, i ∉ T.slots → σ'[i]? = σ[i]?) → Q σ' H
noncomputable def tGs (G : Mg) (is : List Nat) : TGs := fun vs σ H Q => ∃ p s r ws r', Sim G p s H ∧ EnvR G p H r σ ∧ DenL G p H ws vs ∧ asgs is ws r = some r' ∧ ∀ σ', EnvR G p H r' σ' → (∀ i, i ∉ is → σ'[i]? = σ[i]?) → Q σ' H
noncomputable def sasg (A : Fe) (T : Tg) : Fs := fun r s => (A r s).ob fun x => (T.asg x.1 r).om fun r' => (.nx, r', x.2)
noncomputable def sset (i : Nat) (A : Fe) : Fs := fun r s => (A r s).om fun x => (.nx, lset r i (some x.1), x.2)
noncomputable def spar (i j : Nat) (A : Fa) : Fs := fun r s => (A r s).ob fun x => match x.1 with
  | [a, b] => some (.nx, lset (lset r i (some a)) j (some b), x.2)
  | _ => none
noncomputable def spar3 (i j l : Nat) (A : Fa) : Fs := fun r s => (A r s).ob fun x => match x.1 with
  | [a, b, c] => some (.nx, lset (lset (lset r i (some a)) j (some b)) l (some c), x.2)
  | _ => none
section
variable {X : Cx} {G : Mg} {e : Expr} {pos : Pos}
theorem pg_imp {tg : Expr} {t t' : TG} (h : PG X tg t) (i : ∀ v σ H Q, t' v σ H Q → t v σ H Q) : PG X tg t' := ⟨fun pins s σ H v u Q I r q => h.run pins s σ H v u Q I r (i v σ H Q q)⟩
theorem pgs_imp {tg : List Expr} {t t' : TGs} (h : PGs X tg t) (i : ∀ v σ H Q, t' v σ H Q → t v σ H Q) : PGs X tg t' := ⟨fun pins s σ H v u Q I r q => h.run pins s σ H v u Q I r (i v σ H Q q)⟩
theorem gm_name {i : Nat} {tg : Expr} (h : PG X tg (gName i)) : PG X tg (tG G (.nm i)) := pg_imp h fun v σ H Q ⟨p, s, r, w, r', S, E, d, q, k⟩ => by
  cases q
  exact k _ (E.set d) fun j hj => by
    have hij : i ≠ j := fun z => hj (by simp [Tg.slots, z])
    rw [List.getElem?_set_ne hij]
theorem gm_nil : PGs X [] (tGs G []) := pgs_imp pgs_nil fun vs σ H Q ⟨p, s, r, ws, r', S, E, d, q, k⟩ => by
  cases d with
  | nil => cases q; exact ⟨rfl, k σ E fun _ _ => rfl⟩
  | cons a l => cases q
theorem gm_cons {es : List Expr} {i : Nat} {is : List Nat} (h1 : PG X e (gName i)) (h2 : PGs X es (tGs G is)) (hs : (assignEach (e :: es) X.env).map (·.2) = assign e X.env :: (assignEach es X.env).map (·.2) := by rfl) : PGs X (e :: es) (tGs G (i :: is)) :=
  pgs_imp (pgs_cons h1 h2 hs) fun vs σ H Q ⟨p, s, r, ws, r', S, E, d, q, k⟩ => by
    cases d with
    | nil => cases q
    | cons a l =>
      refine ⟨_, _, rfl, p, s, _, _, r', S, E.set (i := i) a, l, q, fun σ2 E2 h2 => k σ2 E2 fun j hj => ?_⟩
      have hj' : j ≠ i ∧ j ∉ is := by simpa using hj
      rw [h2 j hj'.2, List.getElem?_set_ne (Ne.symm hj'.1)]
theorem Den.tup_inv {p : List Addr} {H : Hp} {ws : List Mv} {v : V} (d : Den G p H (.tup ws) v) : ∃ a vs, v = .ref a ∧ SqT G.K H a vs ∧ DenL G p H ws vs := by
  cases d with
  | tup h l => exact ⟨_, _, rfl, h, l⟩
theorem asgs_len : ∀ {is : List Nat} {ws : List Mv} {r r' : Me}, asgs is ws r = some r' → ws.length = is.length
  | [], [], _, _, _ => rfl
  | [], _ :: _, _, _, h => by cases h
  | _ :: _, [], _, _, h => by cases h
  | i :: is, w :: ws, r, r', h => by rw [List.length_cons, List.length_cons, asgs_len (is := is) (ws := ws) h]
theorem gm_tup {es : List Expr} {k : Nat} {is : List Nat} (hc : X.calm = true) (h : PGs X es (tGs G is)) (hn : (assignEach es X.env).length = is.length := by rfl) (hst : (assignEach es X.env).findIdx? (·.1) = none := by rfl) (hK : X.K = G.K := by rfl) : PG X (.Tuple es k pos) (tG G (.tp is)) :=
  pg_imp (pg_tup hc h hn hst) fun v σ H Q ⟨p, s, r, w, r', S, E, d, q, kk⟩ => by
    cases w with
    | tup ws =>
      obtain ⟨a, vs, rfl, h1, l⟩ := d.tup_inv
      refine ⟨a, vs, rfl, by rw [hK]; exact h1, ?_, p, s, r, ws, r', S, E, l, q, fun σ' E' hh => kk σ' E' fun i hi => hh i hi⟩
      rw [← l.length]
      exact asgs_len q
    | _ => cases q
theorem asg_pr {a b : Tg} {w : Mv} {r r' : Me} (h : (Tg.pr a b).asg w r = some r') : ∃ x y r1, w = .tup [x, y] ∧ a.asg x r = some r1 ∧ b.asg y r1 = some r' := by
  cases w with
  | tup ws =>
    match ws, h with
    | [], h => cases h
    | [x], h => cases h
    | [x, y], h =>
      obtain ⟨r1, h1, h2⟩ := ob_some.mp (show (a.asg x r).ob (fun r' => b.asg y r') = some r' from h)
      exact ⟨x, y, r1, rfl, h1, h2⟩
    | _ :: _ :: _ :: _, h => cases h
  | _ => cases h
theorem sm_set {i : Nat} {tg : Expr} {A : Fe} (h : PS X (.Assign [tg] e pos) (tAsg (tI G A) (gName i))) : PS X (.Assign [tg] e pos) (tS G (sset i A)) := ps_imp h fun D σ H ⟨p, s, r, f, r', s', S, E, q, k⟩ => by
  obtain ⟨⟨x, s1⟩, q1, q2⟩ := omap_some.mp q
  cases q2
  exact ⟨p, s, r, x, s1, S, E, q1, fun p1 v1 H1 S1 f1 d1 => k p1 H1 S1 f1 _ ((E.fra S f1).set d1)⟩
theorem sm_asg {tg : Expr} {A : Fe} {T : Tg} (he : PE X e (tI G A)) (hg : PG X tg (tG G T)) (hs : swapsWithSole [tg] e pos.line X.env = pure false := by rfl) (hw : swappedStores [tg] e X.env = pure none := by rfl)
    (h1 : (assignEach [tg] X.env).map (·.2) = [assign tg X.env] := by rfl) : PS X (.Assign [tg] e pos) (tS G (sasg A T)) := ps_imp (ps_asg he hg hs hw h1) fun D σ H ⟨p, s, r, f, r', s', S, E, q, k⟩ => by
  obtain ⟨⟨x, s1⟩, q1, q2⟩ := ob_some.mp q
  obtain ⟨r1, q3, q4⟩ := omap_some.mp q2
  cases q4
  exact ⟨p, s, r, x, s1, S, E, q1, fun p1 v1 H1 S1 f1 d1 => ⟨p1, s1, r, x, _, S1, E.fra S f1, d1, q3, fun σ' E' _ => k p1 H1 S1 f1 σ' E'⟩⟩
theorem sm_par {i j : Nat} {st : Stmt} {A : Fa} (h : PS X st (tPar i j (tA G A))) : PS X st (tS G (spar i j A)) := ps_imp h fun D σ H ⟨p, s, r, f, r', s', S, E, q, k⟩ => by
  obtain ⟨⟨x, s1⟩, q1, q2⟩ := ob_some.mp q
  refine ⟨p, s, r, x, s1, S, E, q1, fun p1 vs H1 S1 f1 d1 => ?_⟩
  match x, q2, d1 with
  | [a, b], q2, .cons da (.cons db .nil) =>
    cases q2
    exact ⟨_, _, rfl, k p1 H1 S1 f1 _ (((E.fra S f1).set da).set db)⟩
/-! ### for, while -/
abbrev Fi := Me → Ms → Option (It0 × Ms)
/-- the walker J does what the mirror's iterator says, as long as what may not change stays -/
noncomputable def ItR (G : Mg) (J : It) (it : It0) (p0 : List Addr) (H0 : Hp) : Prop := ∀ p s H i, Sim G p s H → Stays p0 H0 p H → (∀ a o u, H0 a = some (.frz o u) → H a = some (.frz o u)) → (it.at i s = some none → J.stop i H) ∧ ∀ w, it.at i s = some (some w) → J.go i H ∧ ∀ v H', J.yld i H v H' → Sim G p s H' ∧ Fra p H p H' ∧ Den G p H' w v
noncomputable def tIt (G : Mg) (F : Fi) : TI := fun σ H R => ∃ p s r it s', Sim G p s H ∧ EnvR G p H r σ ∧ F r s = some (it, s') ∧ ∀ p' H' J, Sim G p' s' H' → Fra p H p' H' → ItR G J it p' H' → R J H'

/-! iterators -/
theorem pi_imp {tg it : Expr} {t t' : TI} (h : PI X tg it t) (i : ∀ σ H R, t' σ H R → t σ H R) : PI X tg it t' := ⟨fun pins s σ H R I q => h.run pins s σ H R I (i σ H R q)⟩
theorem itr_list {p0 : List Addr} {H0 : Hp} {n : Nat} {a : Addr} (h : p0[n]? = some a) (hK : X.K = G.K) : ItR G (Itl X.K a) (.lst n) p0 H0 := by
  intro p s H i S st fz
  have ha := st.ix n a h
  constructor
  · intro q
    simp only [It0.at] at q
    split at q
    · rename_i ws e
      obtain ⟨ho, h1, vs, rfl, l, _⟩ := S.get ha e
      have q' : ws[i]? = none := by simpa [lget_eq] using q
      refine ⟨vs, SqL.of h1, ?_⟩
      rw [← l.length]
      exact List.getElem?_eq_none_iff.mp q'
    · cases q
  · intro w q
    simp only [It0.at] at q
    split at q
    · rename_i ws e
      obtain ⟨ho, h1, vs, rfl, l, _⟩ := S.get ha e
      have q' : ws[i]? = some w := by simpa [lget_eq] using q
      obtain ⟨v, hv, d⟩ := l.get q'
      refine ⟨⟨vs, v, SqL.of h1, hv⟩, fun v' H' y => ?_⟩
      obtain ⟨rfl, y2⟩ := y
      have := y2 vs (SqL.of h1)
      rw [hv] at this; cases this
      exact ⟨S, Fra.refl, d⟩
    · cases q
theorem itr_tup {p0 : List Addr} {H0 : Hp} {a : Addr} {ws : List Mv} {vs : List V} (h : SqT G.K H0 a vs) (l0 : DenL G p0 H0 ws vs) (hK : X.K = G.K) : ItR G (Itt X.K a) (.seq ws) p0 H0 := by
  intro p s H i S st fz
  have h1 : SqT X.K H a vs := by rw [hK]; exact Stays.tup (G := G) st h
  have l := l0.stay st
  constructor
  · intro q
    have q' : ws[i]? = none := by simpa [It0.at, lget_eq] using q
    refine ⟨vs, h1, ?_⟩
    rw [← l.length]
    exact List.getElem?_eq_none_iff.mp q'
  · intro w q
    have q' : ws[i]? = some w := by simpa [It0.at, lget_eq] using q
    obtain ⟨v, hv, d⟩ := l.get q'
    refine ⟨⟨vs, v, h1, hv⟩, fun v' H' y => ?_⟩
    obtain ⟨rfl, y2⟩ := y
    have := y2 vs h1
    rw [hv] at this; cases this
    exact ⟨S, Fra.refl, d⟩
theorem FlAt.sq {K : PySem.W.Frag} {p : List Addr} {H : Hp} {a : Addr} {vs : List V} (h : FlAt K p H a vs) : SqL K H a vs := by
  rcases h with ⟨o, h⟩ | h
  · exact .inl (.inr ⟨o, h⟩)
  · rcases h with h | h
    · rcases h with h | ⟨o, h⟩ <;> cases h
    · exact .inr h
theorem itr_fl {p0 : List Addr} {H0 : Hp} {a : Addr} {ws : List Mv} {vs : List V} (h : FlAt G.K p0 H0 a vs) (l0 : DenL G p0 H0 ws vs) (hK : X.K = G.K) : ItR G (Itl X.K a) (.seq ws) p0 H0 := by
  intro p s H i S st fz
  have h1 : SqL X.K H a vs := by rw [hK]; exact (Stays.fl st h).sq
  have l := l0.stay st
  constructor
  · intro q
    have q' : ws[i]? = none := by simpa [It0.at, lget_eq] using q
    refine ⟨vs, h1, ?_⟩
    rw [← l.length]
    exact List.getElem?_eq_none_iff.mp q'
  · intro w q
    have q' : ws[i]? = some w := by simpa [It0.at, lget_eq] using q
    obtain ⟨v, hv, d⟩ := l.get q'
    refine ⟨⟨vs, v, h1, hv⟩, fun v' H' y => ?_⟩
    obtain ⟨rfl, y2⟩ := y
    have := y2 vs h1
    rw [hv] at this; cases this
    exact ⟨S, Fra.refl, d⟩
theorem itr_rng {p0 : List Addr} {H0 : Hp} {lo : Int} {n : Nat} : ItR G (Itr lo n) (.rng lo n) p0 H0 := by
  intro p s H i S st fz
  constructor
  · intro q
    show n ≤ i
    cases e : Nat.blt i n with
    | false =>
      have : ¬ i < n := fun h => by rw [Nat.blt_eq.mpr h] at e; cases e
      omega
    | true => simp [It0.at, e] at q
  · intro w q
    cases e : Nat.blt i n with
    | false => simp [It0.at, e] at q
    | true =>
      refine ⟨Nat.blt_eq.mp e, fun v' H' y => ?_⟩
      obtain ⟨rfl, rfl⟩ := y
      have : w = .int (lo + i) := by simpa [It0.at, e] using q.symm
      subst this
      exact ⟨S, Fra.refl, .int _⟩
/-- a list or a tuple: known only when it is met -/
noncomputable def iSeq (K : PySem.W.Frag) (tl : TE) : TI := fun σ H R => tl σ H fun x H1 => ∃ a, x = .ref a ∧ (((∃ xs, SqL K H1 a xs) ∧ R (Itl K a) H1) ∨ ((∃ xs, SqT K H1 a xs) ∧ R (Itt K a) H1))
theorem pi_seq {tg l : Expr} {tl : TE} (hl : PE X l tl) : PI X tg l (iSeq X.K tl) := by
  refine ⟨fun pins s σ H R I h => ?_⟩
  refine thn (hl.run pins s σ H _ I h) fun v s1 ⟨x, H1, I1, r1, q1⟩ => ?_
  obtain ⟨a, e, q⟩ := q1
  subst e
  cases r1
  have fresh := I1.fpOk (Nat.le_refl _) (I1.hok.fresh (Nat.le_refl s1.heap.objs.size))
  rcases q with ⟨⟨xs, hq⟩, q⟩ | ⟨⟨xs, hq⟩, q⟩
  · obtain ⟨its, rv, p, hz⟩ := I1.list hq
    refine wpAny_pyIter_list p.isList ?_
    refine ⟨s1.heap.objs.size, [s1.heap.objs.size], _, _, H1, rfl, I1.kept (t' := s1.toks) fun b o e => Heap.get?_push_of_some _ e, turn_list a _, ⟨_, Heap.get?_push_size _ rfl, rfl, rfl⟩, fun b hb => ?_, q⟩
    rw [List.mem_singleton.mp hb]
    exact fresh
  · obtain ⟨its, rv, p, hz⟩ := I1.tuple hq
    refine wpAny_pyIter_tuple (show s1.heap.IsTuple a its.toArray from p) ?_
    refine ⟨s1.heap.objs.size, [s1.heap.objs.size], _, _, H1, rfl, I1.kept (t' := s1.toks) fun b o e => Heap.get?_push_of_some _ e, turn_tuple a _, ⟨_, Heap.get?_push_size _ rfl, rfl, rfl⟩, fun b hb => ?_, q⟩
    rw [List.mem_singleton.mp hb]
    exact fresh
noncomputable def miS (A : Fe) : Fi := fun r s => (A r s).ob fun x => match x.1 with
  | .ref n => (match x.2.get n with
    | some (.lst _) => some (.lst n, x.2)
    | _ => none)
  | .fl ws => some (.seq ws, x.2)
  | .tup ws => some (.seq ws, x.2)
  | _ => none
theorem im_seq {tg : Expr} {A : Fe} (h : PE X e (tI G A)) (hK : X.K = G.K := by rfl) : PI X tg e (tIt G (miS A)) := pi_imp (pi_seq h) fun σ H R ⟨p, s, r, it, s', S, E, q, k⟩ => by
  obtain ⟨⟨x, s1⟩, q1, q2⟩ := ob_some.mp q
  refine ⟨p, s, r, x, s1, S, E, q1, fun p1 v1 H1 S1 f1 d1 => ?_⟩
  cases d1 with
  | ref hn =>
    simp only at q2
    split at q2
    · rename_i ws e
      cases q2
      obtain ⟨ho, h1, vs, rfl, l, _⟩ := S1.get hn e
      exact ⟨_, rfl, .inl ⟨⟨vs, SqL.of h1⟩, k p1 H1 _ S1 f1 (itr_list hn hK)⟩⟩
    · cases q2
  | fl h1 l =>
    cases q2
    exact ⟨_, rfl, .inl ⟨⟨_, by rw [hK]; exact h1.sq⟩, k p1 H1 _ S1 f1 (itr_fl h1 l hK)⟩⟩
  | tup h1 l =>
    cases q2
    exact ⟨_, rfl, .inr ⟨⟨_, by rw [hK]; exact h1⟩, k p1 H1 _ S1 f1 (itr_tup h1 l hK)⟩⟩
  | _ => cases q2
noncomputable def okI (i : Int) : Bool := decide (-(2 ^ 62) ≤ i) && decide (i < 2 ^ 62)
theorem okI_iff {i : Int} (h : okI i = true) : -(2 ^ 62) ≤ i ∧ i < 2 ^ 62 := by
  have := Bool.and_eq_true_iff.mp h
  exact ⟨of_decide_eq_true this.1, of_decide_eq_true this.2⟩
noncomputable def miR1 (A : Fa) : Fi := fun r s => (A r s).ob fun x => match x.1 with
  | [.int j] => cond (okI j) (some (.rng 0 j.toNat, x.2)) none
  | _ => none
theorem im_range1 {tg a : Expr} {A : Fa} {p pos : Pos} (hg : Gl X "range") (hm : X.mg "range" = none) (ha : PA X [a] (tA G A)) (hs : starEach [a] X.env = [(false, eval a X.env)] := by rfl) : PI X tg (.Call (.Name "range" p) [a] [] pos) (tIt G (miR1 A)) :=
  pi_imp (pi_range1 hg hm ha hs) fun σ H R ⟨p, s, r, it, s', S, E, q, k⟩ => by
    obtain ⟨⟨x, s1⟩, q1, q2⟩ := ob_some.mp q
    refine ⟨p, s, r, x, s1, S, E, q1, fun p1 v1 H1 S1 f1 d1 => ?_⟩
    match x, q2, d1 with
    | [.int j], q2, .cons (.int _) .nil =>
      cases e : okI j with
      | false => simp only [e] at q2; cases q2
      | true =>
        simp only [e] at q2; cases q2
        exact ⟨j, rfl, (okI_iff e).1, (okI_iff e).2, k p1 H1 _ S1 f1 itr_rng⟩
noncomputable def mloop (it : It0) (T : Tg) (B : Fs) (m : Nat) : Nat → Me → Ms → Option (Fl × Me × Ms) := Nat.rec (motive := fun _ => Nat → Me → Ms → Option (Fl × Me × Ms)) (fun _ _ _ => none)
  (fun _ ih i r s => match it.at i s with
    | none => none
    | some none => some (.nx, r, s)
    | some (some w) => (T.asg w r).ob fun r1 => (B r1 s).ob fun x => match x.1 with
      | .nx => ih (Nat.succ i) x.2.1 x.2.2
      | .ct => ih (Nat.succ i) x.2.1 x.2.2
      | .bk => some (.nx, x.2)
      | .rt w => some (.rt w, x.2)) m
theorem mloop_succ {it : It0} {T : Tg} {B : Fs} {m i : Nat} {r : Me} {s : Ms} : mloop it T B (m + 1) i r s = match it.at i s with
    | none => none
    | some none => some (.nx, r, s)
    | some (some w) => (T.asg w r).ob fun r1 => (B r1 s).ob fun x => match x.1 with
      | .nx => mloop it T B m (i + 1) x.2.1 x.2.2
      | .ct => mloop it T B m (i + 1) x.2.1 x.2.2
      | .bk => some (.nx, x.2)
      | .rt w => some (.rt w, x.2) := rfl
noncomputable def sfor (I : Fi) (T : Tg) (B : Fs) : Fs := fun r s => (I r s).ob fun x => mloop x.1 T B 1000000000 0 r x.2
theorem sm_for {tg iter : Expr} {body : List Stmt} {I : Fi} {T : Tg} {B : Fs} (hp : PassesOwn (model X.prog X.w) X.A X.env X.xe) (hc : X.calm = true) (hi : PI X tg iter (tIt G I)) (hg : PG X tg (tG G T)) (hb : PSs X body (tS G B)) (h : PS X (.For tg iter body [] pos) (tFor (tIt G I) (tG G T) (tS G B))) :
    PS X (.For tg iter body [] pos) (tS G (sfor I T B)) := ps_imp h fun D σ H ⟨p, s, r, f, r', s', S, E, q, k⟩ => by
  obtain ⟨⟨it, s1⟩, q1, q2⟩ := ob_some.mp q
  refine ⟨p, s, r, it, s1, S, E, q1, fun p1 H1 J S1 f1 R => ?_⟩
  refine ⟨fun i m σ2 H2 => ∃ p2 s2 r2, Sim G p2 s2 H2 ∧ EnvR G p2 H2 r2 σ2 ∧ Fra p1 H1 p2 H2 ∧ mloop it T B m i r2 s2 = some (f, r', s'), ⟨1000000000, p1, s1, r, S1, E.fra S f1, Fra.refl, q2⟩, ?_⟩
  rintro i m σ2 H2 ⟨p2, s2, r2, S2, E2, f2, q3⟩
  cases m with
  | zero => cases q3
  | succ m =>
    have R2 := R p2 s2 H2 i S2 (f2.stays S1) f2.frz
    rw [mloop_succ] at q3
    cases e : it.at i s2 with
    | none => rw [e] at q3; cases q3
    | some o =>
      cases o with
      | none =>
        rw [e] at q3
        have q3' : some (Fl.nx, r2, s2) = some (f, r', s') := q3
        cases q3'
        exact .inl ⟨R2.1 e, k p2 H2 S2 (f1.trans f2) σ2 E2⟩
      | some w =>
        rw [e] at q3
        obtain ⟨g, y⟩ := R2.2 w e
        obtain ⟨r3, q4, q5⟩ := ob_some.mp q3
        obtain ⟨⟨fl, r4, s4⟩, q6, q7⟩ := ob_some.mp q5
        refine .inr ⟨g, fun σ3 H3 => ∃ p3 s3 r5, Sim G p3 s3 H3 ∧ EnvR G p3 H3 r5 σ3 ∧ Fra p1 H1 p3 H3 ∧ mloop it T B m (i + 1) r5 s3 = some (f, r', s'), fun σ3 H3 h3 => ⟨m, Nat.lt_succ_self m, h3⟩, fun v H' hy => ?_⟩
        obtain ⟨S2', f2', d⟩ := y v H' hy
        refine ⟨p2, s2, r2, w, r3, S2', E2.fra S2 f2', d, q4, fun σ' E' _ => ⟨p2, s2, r3, fl, r4, s4, S2', E', q6, fun p4 H4 S4 f4 => ?_⟩⟩
        have ff := (f2.trans f2').trans f4
        cases fl with
        | nx => exact fun σ4 E4 => ⟨p4, s4, r4, S4, E4, ff, q7⟩
        | ct => exact fun σ4 E4 => ⟨p4, s4, r4, S4, E4, ff, q7⟩
        | bk =>
          have q7' : some (Fl.nx, r4, s4) = some (f, r', s') := q7
          cases q7'
          exact fun σ4 E4 => k p4 H4 S4 (f1.trans ff) σ4 E4
        | rt w' =>
          have q7' : some (Fl.rt w', r4, s4) = some (f, r', s') := q7
          cases q7'
          exact fun v' d' => k p4 H4 S4 (f1.trans ff) v' d'
end
/-! ### defs -/
noncomputable def fnM (np nl : Nat) (B : Fs) : Fn := fun ws s => cond (Nat.beq ws.length np) ((B (lsome (nl - np) ws) s).ob fun x => match x.1 with
  | .rt w => some (w, x.2.2)
  | .nx => some (.non, x.2.2)
  | _ => none) none
theorem envR_start {G : Mg} {p : List Addr} {H : Hp} (n : Nat) : ∀ {ws : List Mv} {vs : List V}, DenL G p H ws vs → EnvR G p H (ws.map some ++ List.replicate n none) (vs.map some ++ List.replicate n none) := by
  intro ws vs l
  refine ⟨by simp [l.length], fun i w h => ?_⟩
  by_cases hi : i < ws.length
  · rw [List.getElem?_append_left (by simpa using hi)] at h
    rw [List.getElem?_append_left (by simpa [← l.length] using hi)]
    rw [List.getElem?_map] at h ⊢
    cases e : ws[i]? with
    | none => rw [e] at h; cases h
    | some w' =>
      rw [e] at h
      cases h
      obtain ⟨v, hv, d⟩ := l.get e
      exact ⟨v, by rw [hv]; rfl, d⟩
  · rw [List.getElem?_append_right (by simpa using hi)] at h
    have := List.mem_of_getElem? h
    have := List.eq_of_mem_replicate this
    cases this
section
variable {P : Program} {w : World} {K : PySem.W.Frag} {mg : Str → Option Value} {base : Heap} {G : Mg}
end

end
section
/-! ### data -/
noncomputable def toDL (f : Mv → Option PyData) : List Mv → Option (List PyData)
  | [] => some []
  | w :: ws => (f w).ob fun d => (toDL f ws).om fun ds => d :: ds
noncomputable def toD : Nat → Ms → Mv → Option PyData
  | 0, _, _ => none
  | n + 1, s, w => match w with
    | .non => some .none
    | .bl b => some (.bool b)
    | .int i => some (.int i)
    | .str x => cond (PyData.strOk x) (some (.str x)) none
    | .tup ws => (toDL (toD n s) ws).om .tuple
    | .fl ws => (toDL (toD n s) ws).om .list
    | .ref k => match s.get k with
      | some (.lst ws) => (toDL (toD n s) ws).om .list
      | _ => none
    | _ => none
section
variable {G : Mg} {p : List Addr} {s : Ms} {H : Hp}
structure DOk (G : Mg) (H : Hp) (n : Nat) (v : V) (d : PyData) : Prop where
  dp : Dp G.K H v d
  lay : d.canLay0 = true
  dep : d.depth ≤ n
theorem toDL_ok {n : Nat} {f : Mv → Option PyData} (hf : ∀ w v d, Den G p H w v → f w = some d → DOk G H n v d) : ∀ {ws : List Mv} {vs : List V} {ds : List PyData}, DenL G p H ws vs → toDL f ws = some ds →
    DpAll G.K H vs ds ∧ PyData.canLayAll0 ds = true ∧ PyData.depthAll ds ≤ n
  | _, _, _, .nil, h => by
    cases h
    exact ⟨.nil, by simp [PyData.canLayAll0], by simp [PyData.depthAll]⟩
  | _, _, _, .cons (w := w) (ws := ws) d l, h => by
    obtain ⟨x, h1, h2⟩ := ob_some.mp (show (f w).ob (fun d => (toDL f ws).om fun ds => d :: ds) = _ from h)
    obtain ⟨xs, h3, h4⟩ := omap_some.mp h2
    cases h4
    have a := hf _ _ _ d h1
    obtain ⟨b1, b2, b3⟩ := toDL_ok hf l h3
    refine ⟨.cons a.dp b1, by simp [PyData.canLayAll0, a.lay, b2], ?_⟩
    have := a.dep
    simp only [PyData.depthAll]
    omega
theorem toD_ok (S : Sim G p s H) : ∀ (n : Nat) (w : Mv) (v : V) (d : PyData), Den G p H w v → toD n s w = some d → DOk G H n v d
  | 0, _, _, _, _, h => by cases h
  | n + 1, w, v, d, de, h => by
    have ih := toD_ok S n
    cases de with
    | non => cases h; exact ⟨.non, rfl, by simp [PyData.depth]⟩
    | bl b => cases h; exact ⟨.bl b, rfl, by simp [PyData.depth]⟩
    | int i => cases h; exact ⟨.int i, rfl, by simp [PyData.depth]⟩
    | str x =>
      have h' : cond (PyData.strOk x) (some (PyData.str x)) none = some d := h
      cases e : PyData.strOk x with
      | false => rw [e] at h'; cases h'
      | true =>
        rw [e] at h'; cases h'
        exact ⟨.str x, by simp [PyData.canLay0, e], by simp [PyData.depth]⟩
    | ty t => cases h
    | cls c => cases h
    | ref hn =>
      rename_i k a
      have h' : (match s.get k with
        | some (.lst ws) => (toDL (toD n s) ws).om PyData.list
        | _ => none) = some d := h
      split at h'
      · rename_i ws e
        obtain ⟨ho, h1, vs, rfl, l, _⟩ := S.get hn e
        obtain ⟨ds, h3, h4⟩ := omap_some.mp h'
        cases h4
        obtain ⟨b1, b2, b3⟩ := toDL_ok ih l h3
        exact ⟨.lst (SqL.of h1) b1, by simp [PyData.canLay0, b2], by simp only [PyData.depth]; omega⟩
      · cases h'
    | tup h1 l =>
      obtain ⟨ds, h3, h4⟩ := omap_some.mp (show (toDL (toD n s) _).om PyData.tuple = some d from h)
      cases h4
      obtain ⟨b1, b2, b3⟩ := toDL_ok ih l h3
      exact ⟨.tup h1 b1, by simp [PyData.canLay0, b2], by simp only [PyData.depth]; omega⟩
    | fl h1 l =>
      obtain ⟨ds, h3, h4⟩ := omap_some.mp (show (toDL (toD n s) _).om PyData.list = some d from h)
      cases h4
      obtain ⟨b1, b2, b3⟩ := toDL_ok ih l h3
      exact ⟨.lst h1.sq b1, by simp [PyData.canLay0, b2], by simp only [PyData.depth]; omega⟩
theorem DOk.shaped {n : Nat} {v : V} {d : PyData} (h : DOk G H n v d) (hn : n ≤ 64) : SeqAt.shaped d = true := by
  unfold SeqAt.shaped
  rw [h.lay, Bool.true_and]
  exact decide_eq_true (Nat.le_trans h.dep hn)
end
/-! ### operations -/
noncomputable def llen {α : Type} (r : List α) : Nat := List.rec (motive := fun _ => Nat) 0 (fun _ _ ih => Nat.succ ih) r
theorem llen_eq {α : Type} : ∀ r : List α, llen r = r.length
  | [] => rfl
  | _ :: r => congrArg Nat.succ (llen_eq r)
noncomputable def newL (ws : List Mv) (s : Ms) : Option (Mv × Ms) := cond (Nat.ble (llen ws) 16777216) ((s.alloc (.lst ws)).om fun q => (.ref q.1, q.2)) none
noncomputable def newT (ws : List Mv) (s : Ms) : Option (Mv × Ms) := cond (Nat.ble (llen ws) 16777216) (some (.tup ws, s)) none
/-- the items of a list, a tuple -/
noncomputable def items (w : Mv) (s : Ms) : Option (List Mv) := match w with
  | .tup ws => some ws
  | .fl ws => some ws
  | .ref n => match s.get n with
    | some (.lst ws) => some ws
    | _ => none
  | _ => none
noncomputable def iEq (i j : Int) : Bool := Int.rec (motive := fun _ => Bool) (fun n => Int.rec (motive := fun _ => Bool) (fun m => Nat.beq n m) (fun _ => false) j) (fun n => Int.rec (motive := fun _ => Bool) (fun _ => false) (fun m => Nat.beq n m) j) i
theorem nbeq (n m : Nat) : Nat.beq n m = decide (n = m) := by
  cases e : Nat.beq n m with
  | true => rw [decide_eq_true (Nat.eq_of_beq_eq_true e)]
  | false => rw [decide_eq_false (fun h => by subst h; rw [Nat.beq_refl] at e; cases e)]
theorem nblt (n m : Nat) : Nat.blt n m = decide (n < m) := by
  cases e : Nat.blt n m with
  | true => rw [decide_eq_true (Nat.blt_eq.mp e)]
  | false => rw [decide_eq_false (fun h => by rw [Nat.blt_eq.mpr h] at e; cases e)]
theorem iEq_eq (i j : Int) : iEq i j = decide (i = j) := by
  cases i with
  | ofNat n => cases j with
    | ofNat m => show Nat.beq n m = _; rw [nbeq]; exact decide_eq_decide.mpr ⟨fun h => by rw [h], fun h => Int.ofNat.inj h⟩
    | negSucc m => exact (decide_eq_false (fun h => by cases h)).symm
  | negSucc n => cases j with
    | ofNat m => exact (decide_eq_false (fun h => by cases h)).symm
    | negSucc m => show Nat.beq n m = _; rw [nbeq]; exact decide_eq_decide.mpr ⟨fun h => by rw [h], fun h => Int.negSucc.inj h⟩
noncomputable def iLt (i j : Int) : Bool := Int.rec (motive := fun _ => Bool) (fun n => Int.rec (motive := fun _ => Bool) (fun m => Nat.blt n m) (fun _ => false) j) (fun n => Int.rec (motive := fun _ => Bool) (fun _ => true) (fun m => Nat.blt m n) j) i
theorem iLt_eq (i j : Int) : iLt i j = decide (i < j) := by
  cases i with
  | ofNat n => cases j with
    | ofNat m => show Nat.blt n m = _; rw [nblt]; exact decide_eq_decide.mpr ⟨fun h => Int.ofNat_lt.mpr h, fun h => Int.ofNat_lt.mp h⟩
    | negSucc m => exact (decide_eq_false (fun h => by have : (0 : Int) ≤ Int.ofNat n := Int.natCast_nonneg n; have : Int.negSucc m < 0 := Int.negSucc_lt_zero m; omega)).symm
  | negSucc n => cases j with
    | ofNat m => exact (decide_eq_true (by have : (0 : Int) ≤ Int.ofNat m := Int.natCast_nonneg m; have : Int.negSucc n < 0 := Int.negSucc_lt_zero n; omega)).symm
    | negSucc m => show Nat.blt m n = _; rw [nblt]; exact decide_eq_decide.mpr ⟨fun h => by omega, fun h => by omega⟩
noncomputable def natsEq : List Nat → List Nat → Bool
  | [], [] => true
  | a :: as, b :: bs => cond (Nat.beq a b) (natsEq as bs) false
  | _, _ => false
theorem natsEq_eq : ∀ a b : List Nat, natsEq a b = decide (a = b)
  | [], [] => rfl
  | [], _ :: _ => by simp [natsEq]
  | _ :: _, [] => by simp [natsEq]
  | a :: as, b :: bs => by
    unfold natsEq
    by_cases h : a = b
    · subst h
      rw [Nat.beq_refl, cond_true, natsEq_eq as bs]
      simp
    · have : Nat.beq a b = false := by
        cases e : Nat.beq a b with
        | false => rfl
        | true => exact absurd (Nat.eq_of_beq_eq_true e) h
      rw [this, cond_false]
      simp [h]
noncomputable def strEq (x y : Str) : Bool := natsEq x.cps.toList y.cps.toList
theorem strEq_eq (x y : Str) : strEq x y = decide (x = y) := by
  unfold strEq
  rw [natsEq_eq]
  obtain ⟨a⟩ := x
  obtain ⟨b⟩ := y
  simp [Array.toList_inj]
noncomputable def sqEq (a b : Mv) : Option Bool := match a, b with
  | .int i, .int j => some (iEq i j)
  | .str x, .str y => some (strEq x y)
  | .bl x, .bl y => some (decide (x = y))
  | .non, .non => some true
  | .non, .int _ | .int _, .non | .non, .bl _ | .bl _, .non | .non, .str _ | .str _, .non => some false
  | .int _, .str _ | .str _, .int _ | .bl _, .str _ | .str _, .bl _ => some false
  | _, _ => none
noncomputable def eqBo (a b : Mv) (s : Ms) : Option Bool := match sqEq a b with
  | some k => some k
  | none => (toD 24 s a).ob fun d => (toD 24 s b).om fun e => PyData.eqv d e
noncomputable def eqW (a b : Mv) (s : Ms) : Option (Mv × Ms) := (eqBo a b s).om fun k => (.bl k, s)
noncomputable def neW (a b : Mv) (s : Ms) : Option (Mv × Ms) := (eqBo a b s).om fun k => (.bl (!k), s)
noncomputable def addW (a b : Mv) (s : Ms) : Option (Mv × Ms) := match a, b with
  | .int i, .int j => some (.int (Int.add i j), s)
  | .str x, .str y => cond (Nat.ble (x.length + y.length) 16777216) (some (.str (x ++ y), s)) none
  | .tup x, .tup y => newT (x ++ y) s
  | .ref n, .ref m => match s.get n, s.get m with
    | some (.lst x), some (.lst y) => newL (x ++ y) s
    | _, _ => none
  | _, _ => none
noncomputable def subW (a b : Mv) (s : Ms) : Option (Mv × Ms) := match a, b with
  | .int i, .int j => some (.int (Int.sub i j), s)
  | _, _ => none
noncomputable def smI (i : Int) : Bool := decide (-(2 ^ 64) < i) && decide (i < 2 ^ 64)
noncomputable def mulW (a b : Mv) (s : Ms) : Option (Mv × Ms) := match a, b with
  | .int i, .int j => cond (smI i || smI j) (some (.int (i * j), s)) none
  | _, _ => none
noncomputable def modW (a b : Mv) (s : Ms) : Option (Mv × Ms) := match a, b with
  | .int i, .int j => cond (decide (0 < j)) (some (.int (i % j), s)) none
  | _, _ => none
noncomputable def divW (a b : Mv) (s : Ms) : Option (Mv × Ms) := match a, b with
  | .int i, .int j => cond (decide (0 < j) && decide (j < 1073741824)) (some (.int (i / j), s)) none
  | _, _ => none
noncomputable def powW (a b : Mv) (s : Ms) : Option (Mv × Ms) := match a, b with
  | .int i, .int j => cond (decide (0 ≤ j) && decide (j ≤ 1000000) && smI i) (some (.int (i ^ j.toNat), s)) none
  | _, _ => none
noncomputable def cmpI (f : Int → Int → Bool) (g : List Nat → List Nat → Bool) (a b : Mv) (s : Ms) : Option (Mv × Ms) := match a, b with
  | .int i, .int j => some (.bl (f i j), s)
  | .str x, .str y => some (.bl (g x.cps.toList y.cps.toList), s)
  | _, _ => none
noncomputable def ltW := cmpI (fun i j => iLt i j) fun x y => decide (x < y)
noncomputable def leW := cmpI (fun i j => !iLt j i) fun x y => !decide (y < x)
noncomputable def gtW := cmpI (fun i j => iLt j i) fun x y => decide (y < x)
noncomputable def geW := cmpI (fun i j => !iLt i j) fun x y => !decide (x < y)
noncomputable def isW (neg : Bool) (a b : Mv) (s : Ms) : Option (Mv × Ms) := match b with
  | .non => some (.bl (neg != (match a with | .non => true | _ => false)), s)
  | _ => none
theorem sz_eq : sizeLine = 16777216 := sizeLine_eq
theorem ble_sz {n : Nat} (h : Nat.ble n 16777216 = true) : n ≤ sizeLine := by rw [sz_eq]; exact Nat.le_of_ble_eq_true h
section
variable {X : Cx} {G : Mg}
theorem newL_ok {p : List Addr} {s s' : Ms} {H : Hp} {ws : List Mv} {vs : List V} {w : Mv} {Q : VK} (S : Sim G p s H) (l : DenL G p H ws vs) (h : newL ws s = some (w, s')) (k : After G p H w s' Q) : vs.length ≤ sizeLine ∧ ∀ a, H a = none → Q (.ref a) (upd H a (.lst vs)) := by
  unfold newL at h
  rw [llen_eq] at h
  cases e : Nat.ble ws.length 16777216 with
  | false => rw [e] at h; cases h
  | true =>
    rw [e, cond_true] at h
    obtain ⟨⟨n, s1⟩, h1, h2⟩ := omap_some.mp h
    cases h2
    have hl : vs.length ≤ sizeLine := by rw [← l.length]; exact ble_sz e
    refine ⟨hl, fun a ha => ?_⟩
    obtain ⟨S', f', d'⟩ := S.new h1 ha (ho := .lst vs) ⟨vs, rfl, l, hl⟩ (H' := upd H a (.lst vs)) upd_same fun b u eb => by rw [upd_ne (ne_of_none eb ha)]; exact eb
    exact k _ _ _ S' f' d'
theorem fra_new {p : List Addr} {H : Hp} {a : Addr} {o : HO} (ha : H a = none) : Fra p H p (upd H a o) := ⟨⟨[], by simp, fun b hb => by simp at hb⟩, fun b u eb _ => by rw [upd_ne (ne_of_none eb ha)]; exact eb, fun b ob u eb => by rw [upd_ne (ne_of_none eb ha)]; exact eb⟩
theorem Sim.fra_new {p : List Addr} {s : Ms} {H : Hp} {a : Addr} {o : HO} (S : Sim G p s H) (ha : H a = none) : Sim G p s (upd H a o) := by
  have st := (Mi.fra_new (p := p) (o := o) ha).stays S
  refine ⟨S.len, S.nd, fun n b hb => ?_, S.out⟩
  obtain ⟨o1, ho, q1, q2, q3⟩ := S.ob n b hb
  exact ⟨o1, ho, q1, by rw [upd_ne (ne_of_none q2 ha)]; exact q2, q3.stay st⟩
theorem newT_ok {p : List Addr} {s s' : Ms} {H : Hp} {ws : List Mv} {vs : List V} {w : Mv} {Q : VK} (S : Sim G p s H) (l : DenL G p H ws vs) (h : newT ws s = some (w, s')) (k : After G p H w s' Q) : vs.length ≤ sizeLine ∧ (∀ a, H a = none → Q (.ref a) (upd H a (.tup vs))) ∧ ∀ a, SqT G.K H a vs → Q (.ref a) H := by
  unfold newT at h
  rw [llen_eq] at h
  cases e : Nat.ble ws.length 16777216 with
  | false => rw [e] at h; cases h
  | true =>
    rw [e] at h
    have h' : some (Mv.tup ws, s) = some (w, s') := h
    cases h'
    refine ⟨by rw [← l.length]; exact ble_sz e, fun a ha => ?_, fun a ha => k _ _ _ S Fra.refl (.tup ha l)⟩
    have f := Mi.fra_new (p := p) (o := HO.tup vs) ha
    exact k _ _ _ (S.fra_new ha) f (.tup (SqT.of upd_same) (l.fra S f))
noncomputable def mtup (A : Fa) : Fe := fun r s => (A r s).ob fun x => newT x.1 x.2
noncomputable def mlst (A : Fa) : Fe := fun r s => (A r s).ob fun x => newL x.1 x.2
theorem pm_tup {es : List Expr} {k : Nat} {pos : Pos} {A : Fa} (h : PA X es (tA G A)) : PE X (.Tuple es k pos) (tI G (mtup A)) := pe_imp (pe_tup h) fun σ H Q ⟨p, s, r, w, s', S, E, q, k⟩ => by
  obtain ⟨⟨x, s1⟩, q1, q2⟩ := ob_some.mp q
  exact ⟨p, s, r, x, s1, S, E, q1, fun p1 vs H1 S1 f1 l => let ⟨a, b, _⟩ := newT_ok S1 l q2 (k.of f1); ⟨a, b⟩⟩
theorem pm_lst {es : List Expr} {pos : Pos} {A : Fa} (h : PA X es (tA G A)) : PE X (.List es pos) (tI G (mlst A)) := pe_imp (pe_lst h) fun σ H Q ⟨p, s, r, w, s', S, E, q, k⟩ => by
  obtain ⟨⟨x, s1⟩, q1, q2⟩ := ob_some.mp q
  exact ⟨p, s, r, x, s1, S, E, q1, fun p1 vs H1 S1 f1 l => newL_ok S1 l q2 (k.of f1)⟩
theorem items_ok {p : List Addr} {s : Ms} {H : Hp} {w : Mv} {v : V} {ws : List Mv} (S : Sim G p s H) (d : Den G p H w v) (h : items w s = some ws) : ∃ a vs, v = .ref a ∧ (SqL G.K H a vs ∨ SqT G.K H a vs) ∧ DenL G p H ws vs := by
  cases d with
  | tup h1 l => cases h; exact ⟨_, _, rfl, .inr h1, l⟩
  | fl h1 l => cases h; exact ⟨_, _, rfl, .inl h1.sq, l⟩
  | ref hn =>
    simp only [items] at h
    split at h
    · rename_i ws' e
      cases h
      obtain ⟨ho, h1, vs, rfl, l, _⟩ := S.get hn e
      exact ⟨_, _, rfl, .inl (SqL.of h1), l⟩
    · cases h
  | _ => cases h
theorem opr_imp {f : Value → Value → Sem Value} {r r' : R2} (h : OpR X f r) (i : ∀ x y H Q, r' x y H Q → r x y H Q) : OpR X f r' := fun pins s σ H x y v u Q I rx ry q => h pins s σ H x y v u Q I rx ry (i x y H Q q)
theorem cal_imp {f : Value} {r r' : List V → Hp → VK → Prop} (h : CallR X f r) (i : ∀ x H Q, r' x H Q → r x H Q) : CallR X f r' := fun pins s σ H xs us Q I rv q => h pins s σ H xs us Q I rv (i xs H Q q)
theorem sqEq_ok {a b : Mv} {k : Bool} (h : sqEq a b = some k) {p : List Addr} {H : Hp} {x y : V} (da : Den G p H a x) (db : Den G p H b y) : scal x y = true ∧ decide (x = y) = k := by
  cases da <;> cases db <;> first
    | (cases h; done)
    | (cases h; exact ⟨rfl, by simp [strEq_eq, iEq_eq]⟩)
    | (cases h; exact ⟨rfl, by simp⟩)
    | (cases h; exact ⟨rfl, rfl⟩)
theorem om_eq (hu : X.A.units + 64 < cLine) (hK : X.K = G.K := by rfl) : OpR X (compareOp .Eq) (q2R G eqW) := opr_imp (OpR.or op_eq (op_eqD hu)) fun x y H Q ⟨p, s, a, b, w, s', S, da, db, q, k⟩ => by
  obtain ⟨c, q1, q2⟩ := omap_some.mp q
  cases q2
  unfold eqBo at q1
  split at q1
  · rename_i c' e
    cases q1
    obtain ⟨h1, h2⟩ := sqEq_ok e da db
    exact .inl ⟨h1, by rw [h2]; exact k p _ H S Fra.refl (.bl _)⟩
  · obtain ⟨d, h1, h2⟩ := ob_some.mp q1
    obtain ⟨e, h3, h4⟩ := omap_some.mp h2
    subst h4
    have o1 := toD_ok S 24 _ _ _ da h1
    have o2 := toD_ok S 24 _ _ _ db h3
    exact .inr ⟨d, e, by rw [hK]; exact o1.dp, by rw [hK]; exact o2.dp, o1.shaped (by decide), o2.shaped (by decide), k p _ H S Fra.refl (.bl _)⟩
theorem om_ne (hu : X.A.units + 64 < cLine) (hK : X.K = G.K := by rfl) : OpR X (compareOp .NotEq) (q2R G neW) := opr_imp (OpR.or op_ne (op_neD hu)) fun x y H Q ⟨p, s, a, b, w, s', S, da, db, q, k⟩ => by
  obtain ⟨c, q1, q2⟩ := omap_some.mp q
  cases q2
  unfold eqBo at q1
  split at q1
  · rename_i c' e
    cases q1
    obtain ⟨h1, h2⟩ := sqEq_ok e da db
    exact .inl ⟨h1, by rw [h2]; exact k p _ H S Fra.refl (.bl _)⟩
  · obtain ⟨d, h1, h2⟩ := ob_some.mp q1
    obtain ⟨e, h3, h4⟩ := omap_some.mp h2
    subst h4
    have o1 := toD_ok S 24 _ _ _ da h1
    have o2 := toD_ok S 24 _ _ _ db h3
    exact .inr ⟨d, e, by rw [hK]; exact o1.dp, by rw [hK]; exact o2.dp, o1.shaped (by decide), o2.shaped (by decide), k p _ H S Fra.refl (.bl _)⟩
theorem om_add (hK : X.K = G.K := by rfl) : OpR X (binaryOp .Add) (q2R G addW) := opr_imp (OpR.or (OpR.or op_add op_add_str) (OpR.or op_cat op_catA)) fun x y H Q ⟨p, s, a, b, w, s', S, da, db, q, k⟩ => by
  cases da <;> cases db <;> try (cases q; done)
  · cases q
    exact .inl (.inl ⟨_, _, rfl, rfl, k p _ H S Fra.refl (.int _)⟩)
  · rename_i x y _
    have q' : cond (Nat.ble (x.length + y.length) 16777216) (some (Mv.str (x ++ y), s)) none = some (w, s') := q
    cases e : Nat.ble (x.length + y.length) 16777216 with
    | false => rw [e] at q'; cases q'
    | true =>
      rw [e] at q'; cases q'
      exact .inl (.inr ⟨_, _, rfl, rfl, ble_sz e, k p _ H S Fra.refl (.str _)⟩)
  · rename_i n a h1 m b h2 _
    simp only [addW] at q
    split at q
    · rename_i u v e1 e2
      obtain ⟨ho, g1, vs, rfl, l1, _⟩ := S.get h1 e1
      obtain ⟨ho, g2, us, rfl, l2, _⟩ := S.get h2 e2
      obtain ⟨z1, z2⟩ := newL_ok S (l1.append l2) q k
      exact .inr (.inl ⟨_, _, _, _, rfl, rfl, g1, g2, by rw [← List.length_append]; exact z1, z2⟩)
    · cases q
  · rename_i a u vs h1 l1 b v us h2 l2 _
    obtain ⟨z1, z2, z3⟩ := newT_ok S (l1.append l2) q k
    refine .inr (.inr ⟨_, _, _, _, rfl, rfl, by rw [hK]; exact h1, by rw [hK]; exact h2, by rw [← List.length_append]; exact z1, fun e => ?_, fun _ e => ?_, fun _ _ => z2⟩)
    · subst e; exact z3 _ h2
    · subst e; exact z3 _ (by rw [List.append_nil]; exact h1)
theorem om_sub : OpR X (binaryOp .Sub) (q2R G subW) := opr_imp op_sub fun x y H Q ⟨p, s, a, b, w, s', S, da, db, q, k⟩ => by
  cases da <;> cases db <;> try (cases q; done)
  cases q
  exact ⟨_, _, rfl, rfl, k p _ H S Fra.refl (.int _)⟩
theorem smI_iff {i : Int} (h : smI i = true) : -(2 ^ 64) < i ∧ i < 2 ^ 64 := by
  have := Bool.and_eq_true_iff.mp h
  exact ⟨of_decide_eq_true this.1, of_decide_eq_true this.2⟩
theorem om_mul : OpR X (binaryOp .Mult) (q2R G mulW) := opr_imp op_mul fun x y H Q ⟨p, s, a, b, w, s', S, da, db, q, k⟩ => by
  cases da <;> cases db <;> try (cases q; done)
  rename_i i j _
  have q' : cond (smI i || smI j) (some (Mv.int (i * j), s)) none = some (w, s') := q
  cases e : (smI i || smI j) with
  | false => rw [e] at q'; cases q'
  | true =>
    rw [e] at q'; cases q'
    refine ⟨_, _, rfl, rfl, ?_, k p _ H S Fra.refl (.int _)⟩
    rcases Bool.or_eq_true_iff.mp e with e | e
    · exact .inl (smI_iff e)
    · exact .inr (smI_iff e)
theorem om_mod : OpR X (binaryOp .Mod) (q2R G modW) := opr_imp op_mod fun x y H Q ⟨p, s, a, b, w, s', S, da, db, q, k⟩ => by
  cases da <;> cases db <;> try (cases q; done)
  rename_i i j _
  have q' : cond (decide (0 < j)) (some (Mv.int (i % j), s)) none = some (w, s') := q
  cases e : decide (0 < j) with
  | false => rw [e] at q'; cases q'
  | true =>
    rw [e] at q'; cases q'
    exact ⟨_, _, rfl, rfl, of_decide_eq_true e, k p _ H S Fra.refl (.int _)⟩
theorem om_div : OpR X (binaryOp .FloorDiv) (q2R G divW) := opr_imp op_fdiv fun x y H Q ⟨p, s, a, b, w, s', S, da, db, q, k⟩ => by
  cases da <;> cases db <;> try (cases q; done)
  rename_i i j _
  have q' : cond (decide (0 < j) && decide (j < 1073741824)) (some (Mv.int (i / j), s)) none = some (w, s') := q
  cases e : (decide (0 < j) && decide (j < 1073741824)) with
  | false => rw [e] at q'; cases q'
  | true =>
    rw [e] at q'; cases q'
    have e' := Bool.and_eq_true_iff.mp e
    exact ⟨_, _, rfl, rfl, ⟨of_decide_eq_true e'.1, of_decide_eq_true e'.2⟩, k p _ H S Fra.refl (.int _)⟩
theorem om_pow : OpR X (binaryOp .Pow) (q2R G powW) := opr_imp op_pow fun x y H Q ⟨p, s, a, b, w, s', S, da, db, q, k⟩ => by
  cases da <;> cases db <;> try (cases q; done)
  rename_i i j _
  have q' : cond (decide (0 ≤ j) && decide (j ≤ 1000000) && smI i) (some (Mv.int (i ^ j.toNat), s)) none = some (w, s') := q
  cases e : (decide (0 ≤ j) && decide (j ≤ 1000000) && smI i) with
  | false => rw [e] at q'; cases q'
  | true =>
    rw [e] at q'; cases q'
    have e' := Bool.and_eq_true_iff.mp e
    have e2 := Bool.and_eq_true_iff.mp e'.1
    have h3 := smI_iff e'.2
    exact ⟨_, _, rfl, rfl, ⟨of_decide_eq_true e2.1, of_decide_eq_true e2.2, by omega⟩, k p _ H S Fra.refl (.int _)⟩
theorem den_bl {p : List Addr} {H : Hp} {a b : Bool} (e : a = b) : Den G p H (.bl a) (.bl b) := e ▸ .bl a
theorem om_lt : OpR X (compareOp .Lt) (q2R G ltW) := opr_imp (OpR.or op_lt op_lt_str) fun x y H Q ⟨p, s, a, b, w, s', S, da, db, q, k⟩ => by
  cases da <;> cases db <;> try (cases q; done)
  · cases q; exact .inl ⟨_, _, rfl, rfl, k p _ H S Fra.refl (den_bl (by simp [iLt_eq, ← decide_not, Int.not_lt]))⟩
  · cases q; exact .inr ⟨_, _, rfl, rfl, k p _ H S Fra.refl (.bl _)⟩
theorem om_le : OpR X (compareOp .LtE) (q2R G leW) := opr_imp (OpR.or op_le op_le_str) fun x y H Q ⟨p, s, a, b, w, s', S, da, db, q, k⟩ => by
  cases da <;> cases db <;> try (cases q; done)
  · cases q; exact .inl ⟨_, _, rfl, rfl, k p _ H S Fra.refl (den_bl (by simp [iLt_eq, ← decide_not, Int.not_lt]))⟩
  · cases q; exact .inr ⟨_, _, rfl, rfl, k p _ H S Fra.refl (.bl _)⟩
theorem om_gt : OpR X (compareOp .Gt) (q2R G gtW) := opr_imp (OpR.or op_gt op_gt_str) fun x y H Q ⟨p, s, a, b, w, s', S, da, db, q, k⟩ => by
  cases da <;> cases db <;> try (cases q; done)
  · cases q; exact .inl ⟨_, _, rfl, rfl, k p _ H S Fra.refl (den_bl (by simp [iLt_eq, ← decide_not, Int.not_lt]))⟩
  · cases q; exact .inr ⟨_, _, rfl, rfl, k p _ H S Fra.refl (.bl _)⟩
theorem om_ge : OpR X (compareOp .GtE) (q2R G geW) := opr_imp (OpR.or op_ge op_ge_str) fun x y H Q ⟨p, s, a, b, w, s', S, da, db, q, k⟩ => by
  cases da <;> cases db <;> try (cases q; done)
  · cases q; exact .inl ⟨_, _, rfl, rfl, k p _ H S Fra.refl (den_bl (by simp [iLt_eq, ← decide_not, Int.not_lt]))⟩
  · cases q; exact .inr ⟨_, _, rfl, rfl, k p _ H S Fra.refl (.bl _)⟩
theorem om_is : OpR X (compareOp .Is) (q2R G (isW false)) := opr_imp op_isN fun x y H Q ⟨p, s, a, b, w, s', S, da, db, q, k⟩ => by
  cases db <;> try (cases q; done)
  refine ⟨rfl, ?_⟩
  cases da <;> (cases q; exact k p _ H S Fra.refl (.bl _))
theorem om_isnot : OpR X (compareOp .IsNot) (q2R G (isW true)) := opr_imp op_notN fun x y H Q ⟨p, s, a, b, w, s', S, da, db, q, k⟩ => by
  cases db <;> try (cases q; done)
  refine ⟨rfl, ?_⟩
  cases da <;> (cases q; exact k p _ H S Fra.refl (.bl _))
end

end
section
/-! ### comprehensions -/
theorem itF {P Q : Prop} (h : Q) : if false = true then P else Q := by rw [if_neg Bool.false_ne_true]; exact h
theorem itT {P Q : Prop} (h : P) : if true = true then P else Q := by rw [if_pos rfl]; exact h
noncomputable def mwipe (r : Me) : List Nat → Me
  | [] => r
  | v :: vs => lset (mwipe r vs) v none
theorem EnvR.unset {G : Mg} {p : List Addr} {H : Hp} {r : Me} {σ : L2.St} {i : Nat} (e : EnvR G p H r σ) : EnvR G p H (lset r i none) (σ.set i none) := by
  rw [lset_eq]
  refine ⟨by rw [List.length_set, List.length_set, e.len], fun j x h => ?_⟩
  by_cases hj : i = j
  · subst hj
    have hl : i < r.length := by
      have := (List.getElem?_eq_some_iff.mp h).1
      rwa [List.length_set] at this
    rw [List.getElem?_set_self hl] at h
    cases h
  · rw [List.getElem?_set_ne hj] at h
    rw [List.getElem?_set_ne hj]
    exact e.get j x h
theorem EnvR.wipe {G : Mg} {p : List Addr} {H : Hp} {r : Me} {σ : L2.St} (e : EnvR G p H r σ) : ∀ vs : List Nat, EnvR G p H (mwipe r vs) (L2.wipe σ vs)
  | [] => e
  | v :: vs => (e.wipe vs).unset
/-- the items of all turns, one turn giving some -/
noncomputable def mflat (it : It0) (st : Mv → Ms → Option (List Mv × Ms)) (m : Nat) : Nat → Ms → Option (List Mv × Ms) := Nat.rec (motive := fun _ => Nat → Ms → Option (List Mv × Ms)) (fun _ _ => none)
  (fun _ ih i s => match it.at i s with
    | none => none
    | some none => some ([], s)
    | some (some w) => (st w s).ob fun x => (ih (Nat.succ i) x.2).om fun y => (lapp x.1 y.1, y.2)) m
theorem mflat_succ {it : It0} {st : Mv → Ms → Option (List Mv × Ms)} {m i : Nat} {s : Ms} : mflat it st (m + 1) i s = match it.at i s with
    | none => none
    | some none => some ([], s)
    | some (some w) => (st w s).ob fun x => (mflat it st m (i + 1) x.2).om fun y => (x.1 ++ y.1, y.2) := by
  show (match it.at i s with
    | none => none
    | some none => some ([], s)
    | some (some w) => (st w s).ob fun x => (mflat it st m (i + 1) x.2).om fun y => (lapp x.1 y.1, y.2)) = _
  cases it.at i s with
  | none => rfl
  | some o => cases o with
    | none => rfl
    | some w => simp only [lapp_eq]
noncomputable def mstep (T : Tg) (C : Ft) (E : Fe) (r : Me) (w : Mv) (s : Ms) : Option (List Mv × Ms) := (T.asg w r).ob fun r1 => (C r1 s).ob fun c => cond c.1 ((E r1 c.2).om fun x => ([x.1], x.2)) (some ([], c.2))
noncomputable def mlc (I : Fi) (T : Tg) (C : Ft) (E : Fe) (vs : List Nat) : Fe := fun r s => (I r s).ob fun x => (mflat x.1 (mstep T C E (mwipe r vs)) 1000000000 0 x.2).ob fun y => newL y.1 y.2
noncomputable def myes : Ft := fun _ s => some (true, s)
section
variable {X : Cx} {G : Mg}
theorem t_yes {σ : L2.St} {H : Hp} {Q : Bool → Hp → Prop} (h : tT G myes σ H Q) : tYes σ H Q := by
  obtain ⟨p, s, r, b, s', S, E, q, k⟩ := h
  cases q
  exact k p H S Fra.refl
theorem pts_imp {ifs : List Expr} {t t' : TT} (h : PTs X ifs t) (i : ∀ σ H Q, t' σ H Q → t σ H Q) : PTs X ifs t' := ⟨fun pins s σ H Q I q => h.run pins s σ H Q I (i σ H Q q)⟩
theorem tm_nil : PTs X [] (tT G myes) := pts_imp pts_nil fun _ _ _ h => t_yes h
theorem tm_one {c : Expr} {C : Ft} (h : PT X c (tT G C)) : PTs X [c] (tT G C) := pts_one h
theorem getElem?_wipe {σ : L2.St} {i : Nat} : ∀ {vs : List Nat}, i ∉ vs → (L2.wipe σ vs)[i]? = σ[i]?
  | [], _ => rfl
  | v :: vs, h => by
    have h' : i ≠ v ∧ i ∉ vs := by simpa using h
    show ((L2.wipe σ vs).set v none)[i]? = _
    rw [List.getElem?_set_ne (Ne.symm h'.1), getElem?_wipe h'.2]
theorem getElem?_wipe_in {σ : L2.St} {i : Nat} (hi : i < σ.length) : ∀ {vs : List Nat}, i ∈ vs → (L2.wipe σ vs)[i]? = some none
  | [], h => by cases h
  | v :: vs, h => by
    show ((L2.wipe σ vs).set v none)[i]? = _
    by_cases e : v = i
    · subst e
      rw [List.getElem?_set_self (by rw [wipe_length]; exact hi)]
    · rw [List.getElem?_set_ne e]
      exact getElem?_wipe_in hi (by simpa [Ne.symm e] using h)
theorem wipe_same {σ σ2 : L2.St} {vs : List Nat} (hl : σ2.length = σ.length) (h : ∀ i, i ∉ vs → σ2[i]? = (L2.wipe σ vs)[i]?) : L2.wipe σ2 vs = L2.wipe σ vs := by
  apply List.ext_getElem?
  intro i
  by_cases hi : i ∈ vs
  · by_cases hl2 : i < σ.length
    · rw [getElem?_wipe_in hl2 hi, getElem?_wipe_in (by omega) hi]
    · rw [List.getElem?_eq_none (by rw [wipe_length]; omega), List.getElem?_eq_none (by rw [wipe_length]; omega)]
  · rw [getElem?_wipe hi, h i hi]
theorem Sim.upd_out {p : List Addr} {s : Ms} {H : Hp} {D : Addr} {xs ys : List V} (S : Sim G p s H) (hD : H D = some (.lst xs)) (n : D ∉ p) : Sim G p s (upd H D (.lst ys)) ∧ Stays p H p (upd H D (.lst ys)) := by
  have st : Stays p H p (upd H D (.lst ys)) := by
    refine ⟨fun _ _ e => e, fun a vs e => ?_, fun a o u _ e => ?_⟩
    · rw [upd_ne (by rintro rfl; rw [hD] at e; cases e)]; exact e
    · rw [upd_ne (by rintro rfl; rw [hD] at e; cases e)]; exact e
  refine ⟨⟨S.len, S.nd, fun m b hb => ?_, S.out⟩, st⟩
  obtain ⟨o1, ho, q1, q2, q3⟩ := S.ob m b hb
  have hne : b ≠ D := by rintro rfl; exact n (List.mem_of_getElem? hb)
  exact ⟨o1, ho, q1, by rw [upd_ne hne]; exact q2, q3.stay st⟩
theorem Sim.adopt {p : List Addr} {s s' : Ms} {H : Hp} {D : Addr} {ws : List Mv} {vs : List V} {n : Nat} (S : Sim G p s H) (hD : H D = some (.lst vs)) (nin : D ∉ p) (l : DenL G p H ws vs) (hz : vs.length ≤ sizeLine) (e : s.alloc (.lst ws) = some (n, s')) : Sim G (p ++ [D]) s' H ∧ Den G (p ++ [D]) H (.ref n) (.ref D) := by
  obtain ⟨rfl, h2, h4⟩ := Ms.alloc_eq e
  have st : Stays p H (p ++ [D]) H := ⟨fun n a h => by rw [List.getElem?_append_left (List.getElem?_eq_some_iff.mp h).1]; exact h, fun _ _ e => e, fun _ _ _ _ e => e⟩
  have hlen : (p ++ [D])[s.sz]? = some D := by rw [← S.len]; simp
  refine ⟨⟨by rw [List.length_append, S.len, h2]; rfl, ?_, fun m b hb => ?_, fun m hm => ?_⟩, .ref hlen⟩
  · rw [List.nodup_append]
    exact ⟨S.nd, by simp, fun x hx y hy => by rw [List.mem_singleton.mp hy]; rintro rfl; exact nin hx⟩
  · by_cases hmn : m = s.sz
    · subst hmn
      rw [hlen] at hb; cases hb
      exact ⟨.lst ws, .lst vs, by rw [h4, if_pos rfl], hD, vs, rfl, l.stay st, hz⟩
    · have hlt : m < p.length := by
        have := (List.getElem?_eq_some_iff.mp hb).1
        rw [List.length_append] at this
        have := S.len
        simp at *
        omega
      rw [List.getElem?_append_left hlt] at hb
      obtain ⟨o1, ho1, q1, q2, q3⟩ := S.ob m b hb
      exact ⟨o1, ho1, by rw [h4, if_neg hmn]; exact q1, q2, q3.stay st⟩
  · rw [h4, if_neg (by omega)]
    exact S.out m (by omega)
theorem asgs_rlen : ∀ {is : List Nat} {ws : List Mv} {r r' : Me}, asgs is ws r = some r' → r'.length = r.length
  | [], [], _, _, h => by cases h; rfl
  | [], _ :: _, _, _, h => by cases h
  | _ :: _, [], _, _, h => by cases h
  | i :: is, w :: ws, r, r', h => by rw [asgs_rlen (is := is) (ws := ws) h, lset_eq, List.length_set]
theorem asg_len {T : Tg} {w : Mv} {r r' : Me} (h : T.asg w r = some r') : r'.length = r.length := by
  induction T generalizing w r r' with
  | nm i => cases h; rw [lset_eq, List.length_set]
  | tp is =>
    cases w with
    | tup ws => exact asgs_rlen h
    | _ => cases h
  | pr a b iha ihb =>
    obtain ⟨x, y, r1, rfl, h1, h2⟩ := asg_pr h
    exact (ihb h2).trans (iha h1)
/-- while a comprehension runs: its list at D stands outside -/
structure Mid (G : Mg) (D : Addr) (p1 : List Addr) (H1 : Hp) (acc : List Mv) (p : List Addr) (s : Ms) (H : Hp) : Prop where
  S : Sim G p s H
  f : Fra p1 H1 p H
  n : D ∉ p
  a : ∃ vs, H D = some (.lst vs) ∧ DenL G p H acc vs
theorem Mid.fra {D : Addr} {p1 p p' : List Addr} {H1 H H' : Hp} {acc : List Mv} {s s' : Ms} (M : Mid G D p1 H1 acc p s H) (S' : Sim G p' s' H') (f : Fra p H p' H') : Mid G D p1 H1 acc p' s' H' := by
  obtain ⟨vs, h1, h2⟩ := M.a
  exact ⟨S', M.f.trans f, f.notin h1 M.n, vs, f.kee D _ h1 M.n, h2.fra M.S f⟩
theorem Mid.app {D : Addr} {p1 p : List Addr} {H1 H : Hp} {acc : List Mv} {s : Ms} {w : Mv} {v : V} (M : Mid G D p1 H1 acc p s H) (hD : H1 D = none) (d : Den G p H w v) : ∃ vs, H D = some (.lst vs) ∧ vs.length = acc.length ∧ Mid G D p1 H1 (acc ++ [w]) p s (upd H D (.lst (vs ++ [v]))) := by
  obtain ⟨vs, h1, h2⟩ := M.a
  obtain ⟨S', st⟩ := M.S.upd_out (ys := vs ++ [v]) h1 M.n
  refine ⟨vs, h1, h2.length.symm, S', ⟨M.f.pre, fun a o e n => ?_, fun a o u e => ?_⟩, M.n, _, upd_same, (h2.stay st).append (.cons (d.stay st) .nil)⟩
  · rw [upd_ne (by rintro rfl; rw [hD] at e; cases e)]
    exact M.f.kee a o e n
  · rw [upd_ne (by rintro rfl; rw [hD] at e; cases e)]
    exact M.f.frz a o u e
theorem newL_end {D : Addr} {p1 p : List Addr} {H1 H : Hp} {acc : List Mv} {s s' : Ms} {w : Mv} {Q : VK} (M : Mid G D p1 H1 acc p s H) (hD : H1 D = none) (h : newL acc s = some (w, s')) (k : After G p1 H1 w s' Q) : Q (.ref D) H := by
  obtain ⟨vs, h1, h2⟩ := M.a
  unfold newL at h
  rw [llen_eq] at h
  cases e : Nat.ble acc.length 16777216 with
  | false => rw [e] at h; cases h
  | true =>
    rw [e, cond_true] at h
    obtain ⟨⟨n, s1⟩, g1, g2⟩ := omap_some.mp h
    cases g2
    obtain ⟨S', d'⟩ := M.S.adopt h1 M.n h2 (by rw [← h2.length]; exact ble_sz e) g1
    obtain ⟨q, eq, hq⟩ := M.f.pre
    refine k _ _ _ S' ⟨⟨q ++ [D], by rw [eq, List.append_assoc], fun a ha np => ?_⟩, M.f.kee, M.f.frz⟩ d'
    rcases List.mem_append.mp ha with z | z
    · exact hq a z np
    · rw [List.mem_singleton.mp z]; exact hD
theorem newL_len {acc : List Mv} {s s' : Ms} {w : Mv} (h : newL acc s = some (w, s')) : acc.length ≤ sizeLine := by
  unfold newL at h
  rw [llen_eq] at h
  cases e : Nat.ble acc.length 16777216 with
  | false => rw [e] at h; cases h
  | true => exact ble_sz e
theorem Sim.free {p : List Addr} {s : Ms} {H : Hp} {D : Addr} (S : Sim G p s H) (hD : H D = none) : D ∉ p := fun h => by
  obtain ⟨k, hk⟩ := List.mem_iff_getElem?.mp h
  obtain ⟨_, _, _, z, _⟩ := S.ob k D hk
  rw [hD] at z; cases z
theorem Mid.start {D : Addr} {p1 : List Addr} {H1 : Hp} {s1 : Ms} (S : Sim G p1 s1 H1) (hD : H1 D = none) : Mid G D p1 H1 [] p1 s1 (upd H1 D (.lst [])) :=
  ⟨S.fra_new hD, fra_new hD, S.free hD, ⟨[], upd_same, .nil⟩⟩
theorem t_lc {I : Fi} {T : Tg} {C : Ft} {E : Fe} {vs : List Nat} (hT : ∀ i ∈ T.slots, i ∈ vs) {σ : L2.St} {H : Hp} {Q : VK} (h : tI G (mlc I T C E vs) σ H Q) : tLc (tIt G I) (tG G T) (tT G C) (tI G E) vs σ H Q := by
  obtain ⟨p, s, r, w, s', S, Er, q, k⟩ := h
  obtain ⟨⟨it, s1⟩, q1, q2⟩ := ob_some.mp q
  obtain ⟨⟨tot, s9⟩, q3, q4⟩ := ob_some.mp q2
  have hlen : tot.length ≤ sizeLine := newL_len q4
  refine ⟨p, s, r, it, s1, S, Er, q1, fun p1 H1 J S1 f1 R D hD => ?_⟩
  have k1 := k.of f1
  have E1 := Er.fra S f1
  refine ⟨fun i m H2 => ∃ p2 s2 acc rest, Mid G D p1 H1 acc p2 s2 H2 ∧ mflat it (mstep T C E (mwipe r vs)) m i s2 = some (rest, s9) ∧ acc ++ rest = tot, ⟨1000000000, p1, s1, [], tot, Mid.start S1 hD, q3, rfl⟩, ?_⟩
  rintro i m H2 ⟨p2, s2, acc, rest, M, q5, e5⟩
  cases m with
  | zero => cases q5
  | succ m =>
    have st2 := M.f.stays S1
    have R2 := R p2 s2 H2 i M.S st2 M.f.frz
    rw [mflat_succ] at q5
    cases e : it.at i s2 with
    | none => rw [e] at q5; cases q5
    | some o =>
      cases o with
      | none =>
        rw [e] at q5
        have q5' : some (([] : List Mv), s2) = some (rest, s9) := q5
        cases q5'
        rw [List.append_nil] at e5
        subst e5
        exact .inl ⟨R2.1 e, newL_end M hD q4 k1⟩
      | some x =>
        rw [e] at q5
        obtain ⟨⟨xs, s3⟩, q6, q7⟩ := ob_some.mp q5
        obtain ⟨⟨ys, s4⟩, q8, q9⟩ := omap_some.mp q7
        cases q9
        obtain ⟨g, y⟩ := R2.2 x e
        refine .inr ⟨g, fun H3 => ∃ p3 s3', Mid G D p1 H1 (acc ++ xs) p3 s3' H3 ∧ s3' = s3, fun H3 ⟨p3, s3', M3, e3⟩ => ⟨m, Nat.lt_succ_self m, p3, s3', acc ++ xs, ys, M3, by rw [e3]; exact q8, by rw [List.append_assoc]; exact e5⟩, fun v H' hy => ?_⟩
        obtain ⟨S2', f2', d⟩ := y v H' hy
        have M2 := M.fra S2' f2'
        unfold mstep at q6
        obtain ⟨r1, a1, a2⟩ := ob_some.mp q6
        obtain ⟨⟨c, s5⟩, a3, a4⟩ := ob_some.mp a2
        have E2 : EnvR G p2 H' (mwipe r vs) (L2.wipe σ vs) := (((E1.fra S1 M.f).fra M.S f2').wipe vs)
        refine ⟨p2, s2, _, x, r1, S2', E2, d, a1, fun σ2 E3 hs => ⟨?_, p2, s2, r1, c, s5, S2', E3, a3, fun p5 H5 S5 f5 => ?_⟩⟩
        · refine wipe_same ?_ fun i hi => hs i fun z => hi (hT i z)
          rw [← E3.len, asg_len a1]
          have := E2.len
          rw [wipe_length] at this
          exact this
        · have M5 := M2.fra S5 f5
          cases c with
          | false =>
            refine itF ?_
            have a4' : some (([] : List Mv), s5) = some (xs, s3) := a4
            cases a4'
            exact ⟨p5, _, by rw [List.append_nil]; exact M5, rfl⟩
          | true =>
            refine itT ?_
            obtain ⟨⟨z, s6⟩, a5, a6⟩ := omap_some.mp (show (E r1 s5).om _ = some (xs, s3) from a4)
            cases a6
            refine ⟨p5, s5, r1, z, s6, S5, E3.fra S2' f5, a5, fun p6 v6 H6 S6 f6 d6 => ?_⟩
            obtain ⟨vs', b1, b2, b3⟩ := (M5.fra S6 f6).app hD d6
            refine ⟨vs', b1, ?_, p6, _, b3, rfl⟩
            rw [b2]
            have : (acc ++ ([z] ++ ys)).length = tot.length := by rw [e5]
            simp at this
            omega
theorem pm_lc {elt tg iter : Expr} {ifs : List Expr} {scope : Scope} {own : List (Str × Nat)} {pos : Pos} {I : Fi} {T : Tg} {C : Ft} {E : Fe} (hc : X.calm = true) (hN : X.N.Nodup) (hi : PI X tg iter (tIt G I)) (ok : BlkOk X.N X.env.scope scope own)
    (hg : ∀ (s : Shared) (H : Hp) (C : Addr) (cl : List (Str × Addr)) (fp : List Addr), PG (X.blk s H scope (compEnvC scope cl C X.env) fp) tg (tG G T)) (ht : ∀ (s : Shared) (H : Hp) (C0 : Addr) (cl : List (Str × Addr)) (fp : List Addr), PTs (X.blk s H scope (compEnvC scope cl C0 X.env) fp) ifs (tT G C))
    (he : ∀ (s : Shared) (H : Hp) (C : Addr) (cl : List (Str × Addr)) (fp : List Addr), PE (X.blk s H scope (compEnvC scope cl C X.env) fp) elt (tI G E)) (hT : ∀ i ∈ T.slots, i ∈ own.map (·.2) := by decide) (hs : ∀ x, foldedSetIterable iter X.env x = pure x := by intro _; rfl) :
    PE X (.ListComp elt [⟨tg, iter, ifs, 0⟩] scope pos) (tI G (mlc I T C E (own.map (·.2)))) := pe_imp (pe_lc hc hN hi ok hg ht he hs) fun _ _ _ h => t_lc hT h
theorem sm_setLc {i : Nat} {y : Str} {py : Pos} {elt tg iter : Expr} {ifs : List Expr} {scope : Scope} {own : List (Str × Nat)} {pos spos : Pos} {I : Fi} {T : Tg} {C : Ft} {E : Fe} (hc : X.calm = true) (hN : X.N.Nodup) (hy : X.N[i]? = some y) (hyl : X.env.scope.names.lookup y = some .local)
    (hsw : swapsWith (.ListComp elt [⟨tg, iter, ifs, 0⟩] scope pos) (some (.Name y py)) spos.line X.env = pure true) (hi : PI X tg iter (tIt G I)) (ok : BlkOk X.N X.env.scope scope own)
    (hg : ∀ (s : Shared) (H : Hp) (C : Addr) (cl : List (Str × Addr)) (fp : List Addr), PG (X.blk s H scope (compEnvC scope cl C X.env) fp) tg (tG G T)) (ht : ∀ (s : Shared) (H : Hp) (C0 : Addr) (cl : List (Str × Addr)) (fp : List Addr), PTs (X.blk s H scope (compEnvC scope cl C0 X.env) fp) ifs (tT G C))
    (he : ∀ (s : Shared) (H : Hp) (C : Addr) (cl : List (Str × Addr)) (fp : List Addr), PE (X.blk s H scope (compEnvC scope cl C X.env) fp) elt (tI G E)) (hT : ∀ i ∈ T.slots, i ∈ own.map (·.2) := by decide) (hs : ∀ x, foldedSetIterable iter X.env x = pure x := by intro _; rfl) :
    PS X (.Assign [.Name y py] (.ListComp elt [⟨tg, iter, ifs, 0⟩] scope pos) spos) (tS G (sset i (mlc I T C E (own.map (·.2))))) :=
  ps_imp (ps_setLc hc hN hy hyl hsw hi ok hg ht he hs) fun D σ H ⟨p, s, r, f, r', s', S, E, q, k⟩ => by
    obtain ⟨⟨x, s1⟩, q1, q2⟩ := omap_some.mp q
    cases q2
    exact t_lc hT ⟨p, s, r, x, s1, S, E, q1, fun p1 v1 H1 S1 f1 d1 => k p1 H1 S1 f1 _ ((E.fra S f1).set d1)⟩
/-! two fors -/
theorem Mid.eqv {D : Addr} {p1 p : List Addr} {H1 H : Hp} {acc acc' : List Mv} {s : Ms} (M : Mid G D p1 H1 acc p s H) (e : acc = acc') : Mid G D p1 H1 acc' p s H := e ▸ M
end

end
section
/-! ### subscripts, slices, membership -/
noncomputable def atF {α : Type} (ws : List α) (i : Int) : Option α := Int.rec (motive := fun _ => Option α) (fun n => lget ws n) (fun n => cond (Nat.blt n (llen ws)) (lget ws (Nat.sub (llen ws) (Nat.succ n))) none) i
theorem atF_eq {α : Type} (ws : List α) (i : Int) : atF ws i = L2.atI ws i := by
  unfold L2.atI L2.ixN
  cases i with
  | ofNat n =>
    show lget ws n = _
    rw [lget_eq, if_pos (show (0 : Int) ≤ Int.ofNat n from Int.natCast_nonneg n)]
    by_cases h : n < ws.length
    · rw [if_pos (show (Int.ofNat n : Int) < (ws.length : Int) from Int.ofNat_lt.mpr h)]; rfl
    · rw [if_neg (show ¬ (Int.ofNat n : Int) < (ws.length : Int) from fun z => h (Int.ofNat_lt.mp z))]
      exact List.getElem?_eq_none_iff.mpr (by omega)
  | negSucc n =>
    show cond (Nat.blt n (llen ws)) (lget ws (llen ws - (n + 1))) none = _
    rw [llen_eq, if_neg (by simp)]
    cases e : Nat.blt n ws.length with
    | false =>
      have h : ¬ n < ws.length := fun z => by rw [Nat.blt_eq.mpr z] at e; cases e
      rw [cond_false]
      split
      · omega
      · rfl
    | true =>
      have h : n < ws.length := Nat.blt_eq.mp e
      rw [cond_true, lget_eq]
      split
      · rename_i z
        have : (ws.length : Int) + Int.negSucc n = ((ws.length - (n + 1) : Nat) : Int) := by omega
        show _ = ws[(((ws.length : Int) + Int.negSucc n).toNat)]?
        rw [this]; rfl
      · rename_i z
        exfalso; apply z; omega
theorem DenL.atI {G : Mg} {p : List Addr} {H : Hp} {ws : List Mv} {vs : List V} (l : DenL G p H ws vs) {i : Int} {w : Mv} (h : L2.atI ws i = some w) : ∃ v, L2.atI vs i = some v ∧ Den G p H w v := by
  unfold L2.atI at h ⊢
  rw [← l.length]
  obtain ⟨j, h1, h2⟩ := Option.bind_eq_some_iff.mp h
  obtain ⟨v, h3, d⟩ := l.get h2
  exact ⟨v, by rw [h1]; exact h3, d⟩
noncomputable def ixW (a b : Mv) (s : Ms) : Option (Mv × Ms) := match b with
  | .int i => (items a s).ob fun ws => (atF ws i).om fun w => (w, s)
  | _ => none
noncomputable def cutM (ws : List Mv) (lo hi : Option Int) : List Mv := (ws.drop (HT.sIx ws.length 0 lo)).take (HT.sIx ws.length ws.length hi - HT.sIx ws.length 0 lo)
noncomputable def slW (w : Mv) (lo hi : Option Int) (s : Ms) : Option (Mv × Ms) := match w with
  | .tup ws => newT (cutM ws lo hi) s
  | .fl ws => newL (cutM ws lo hi) s
  | .ref n => match s.get n with
    | some (.lst ws) => newL (cutM ws lo hi) s
    | _ => none
  | _ => none
abbrev Fo := Me → Ms → Option (Option Int × Ms)
noncomputable def onone : Fo := fun _ s => some (none, s)
noncomputable def osome (A : Fe) : Fo := fun r s => (A r s).ob fun x => match x.1 with
  | .int i => some (some i, x.2)
  | _ => none
noncomputable def mslice (A : Fe) (L U : Fo) : Fe := fun r s => (A r s).ob fun x => (L r x.2).ob fun l => (U r l.2).ob fun u => slW x.1 l.1 u.1 u.2
noncomputable def tO (G : Mg) (F : Fo) : TO := fun σ H Q => ∃ p s r o s', Sim G p s H ∧ EnvR G p H r σ ∧ F r s = some (o, s') ∧ ∀ p' H', Sim G p' s' H' → Fra p H p' H' → Q o H'
/-- a text in a list of texts -/
noncomputable def strsOf : List Mv → Option (List Str)
  | [] => some []
  | .str x :: ws => (strsOf ws).om fun r => x :: r
  | _ => none
noncomputable def inBo (x : Mv) (y : Mv) (s : Ms) : Option Bool := (items y s).ob fun ws => match x, strsOf ws with
  | .str z, some ys => some (ys.any fun y => strEq y z)
  | _, _ => (toD 24 s x).ob fun d => (toDL (toD 23 s) ws).om fun ds => ds.any fun z => PyData.eqv z d
noncomputable def inW (x y : Mv) (s : Ms) : Option (Mv × Ms) := (inBo x y s).om fun k => (.bl k, s)
noncomputable def ninW (x y : Mv) (s : Ms) : Option (Mv × Ms) := (inBo x y s).om fun k => (.bl (!k), s)
section
variable {X : Cx} {G : Mg} {e a b : Expr} {pos : Pos}
theorem ixr_imp {r r' : R2} (h : IxR X r) (i : ∀ x y H Q, r' x y H Q → r x y H Q) : IxR X r' := fun v sl pins s σ H x y u w Q I rx ry q => h v sl pins s σ H x y u w Q I rx ry (i x y H Q q)
theorem ixm (hK : X.K = G.K := by rfl) : IxR X (q2R G ixW) := ixr_imp ix_seq fun x y H Q ⟨p, s, a, b, w, s', S, da, db, q, k⟩ => by
  cases db <;> try (cases q; done)
  rename_i i _
  obtain ⟨ws, q1, q2⟩ := ob_some.mp (show (items a s).ob _ = some (w, s') from q)
  obtain ⟨w', q3, q4⟩ := omap_some.mp q2
  cases q4
  obtain ⟨ad, vs, rfl, h1, l⟩ := items_ok S da q1
  obtain ⟨v, h2, d⟩ := l.atI (atF_eq ws _ ▸ q3)
  rcases h1 with h1 | h1
  · exact .inl ⟨ad, vs, i, v, rfl, rfl, by rw [hK]; exact h1, h2, k p v H S Fra.refl d⟩
  · exact .inr (.inl ⟨ad, vs, i, v, rfl, rfl, by rw [hK]; exact h1, h2, k p v H S Fra.refl d⟩)
theorem po_imp {e : Option Expr} {t t' : TO} (h : PO X e t) (i : ∀ σ H Q, t' σ H Q → t σ H Q) : PO X e t' := ⟨fun pins s σ H Q I q => h.run pins s σ H Q I (i σ H Q q)⟩
theorem om_none : PO X none (tO G onone) := po_imp po_none fun σ H Q ⟨p, s, r, o, s', S, E, q, k⟩ => by cases q; exact k p H S Fra.refl
theorem om_some {A : Fe} (h : PE X e (tI G A)) : PO X (some e) (tO G (osome A)) := po_imp (po_some h) fun σ H Q ⟨p, s, r, o, s', S, E, q, k⟩ => by
  obtain ⟨⟨x, s1⟩, q1, q2⟩ := ob_some.mp q
  refine ⟨p, s, r, x, s1, S, E, q1, fun p1 v1 H1 S1 f1 d1 => ?_⟩
  cases d1 <;> try (cases q2; done)
  cases q2
  exact ⟨_, rfl, k p1 H1 S1 f1⟩
theorem cut_den {p : List Addr} {H : Hp} {ws : List Mv} {vs : List V} (l : DenL G p H ws vs) (lo hi : Option Int) : DenL G p H (cutM ws lo hi) (cutV vs lo hi) := by
  unfold cutM cutV
  rw [← l.length]
  exact (l.drop _).take _
theorem cut_whole {vs : List V} {lo hi : Option Int} (h : HT.sIx vs.length 0 lo = 0 ∧ HT.sIx vs.length vs.length hi = vs.length) : cutV vs lo hi = vs := by
  unfold cutV
  rw [h.1, h.2]
  simp
theorem pm_slice {A : Fe} {L U : Fo} {lo hi : Option Expr} {p2 : Pos} (he : PE X e (tI G A)) (hl : PO X lo (tO G L)) (hu : PO X hi (tO G U)) (hK : X.K = G.K := by rfl) : PE X (.Subscript e (.Slice lo hi none p2) pos) (tI G (mslice A L U)) :=
  pe_imp (pe_slice (SlR.or sl_list sl_tupA) he hl hu) fun σ H Q ⟨p, s, r, w, s', S, E, q, k⟩ => by
    obtain ⟨⟨x, s1⟩, q1, q2⟩ := ob_some.mp q
    obtain ⟨⟨l, s2⟩, q3, q4⟩ := ob_some.mp q2
    obtain ⟨⟨u, s3⟩, q5, q6⟩ := ob_some.mp q4
    refine ⟨p, s, r, x, s1, S, E, q1, fun p1 v1 H1 S1 f1 d1 => ⟨p1, s1, r, l, s2, S1, E.fra S f1, q3, fun p2 H2 S2 f2 => ⟨p2, s2, r, u, s3, S2, (E.fra S f1).fra S1 f2, q5, fun p3 H3 S3 f3 => ?_⟩⟩⟩
    have d3 := (d1.fra S1 f2).fra S2 f3
    have k3 := k.of ((f1.trans f2).trans f3)
    cases d3 with
    | tup h1 ll =>
      obtain ⟨z1, z2, z3⟩ := newT_ok S3 (cut_den ll l u) q6 k3
      refine .inr ⟨_, _, rfl, by rw [hK]; exact h1, fun e => ?_, fun _ => z2⟩
      rw [cut_whole e] at z3
      exact z3 _ h1
    | fl h1 ll =>
      obtain ⟨z1, z2⟩ := newL_ok S3 (cut_den ll l u) q6 k3
      exact .inl ⟨_, _, rfl, by rw [hK]; exact h1.sq, z2⟩
    | ref hn =>
      simp only [slW] at q6
      split at q6
      · rename_i ws e
        obtain ⟨ho, h1, vs, rfl, ll, _⟩ := S3.get hn e
        obtain ⟨z1, z2⟩ := newL_ok S3 (cut_den ll l u) q6 k3
        exact .inl ⟨_, _, rfl, SqL.of h1, z2⟩
      · cases q6
    | _ => cases q6
theorem strsOf_ok {p : List Addr} {H : Hp} : ∀ {ws : List Mv} {vs : List V} {ys : List Str}, DenL G p H ws vs → strsOf ws = some ys → vs = ys.map V.str ∧ ws = ys.map Mv.str
  | _, _, _, .nil, h => by cases h; exact ⟨rfl, rfl⟩
  | _, _, _, .cons (w := w) (ws := ws) d l, h => by
    cases d <;> try (cases h; done)
    rename_i x
    obtain ⟨r, h1, h2⟩ := omap_some.mp (show (strsOf ws).om _ = _ from h)
    cases h2
    obtain ⟨e1, e2⟩ := strsOf_ok l h1
    exact ⟨by rw [e1]; rfl, by rw [e2]; rfl⟩
/-- x in a tuple of data -/
noncomputable def rInDT (K : PySem.W.Frag) (neg : Bool) : R2 := fun x y H Q => ∃ d ds, Dp K H x d ∧ Dp K H y (.tuple ds) ∧ SeqAt.shaped d = true ∧ SeqAt.shaped (.tuple ds) = true ∧ Q (.bl (neg != ds.any fun z => PyData.eqv z d)) H
theorem op_inDT (hu : X.A.units + 65 < cLine) : OpR X (compareOp .In) (rInDT X.K false) := by
  intro pins s σ H x y v u Q I rx ry h
  obtain ⟨d, ds, hd, he, sd, se, q⟩ := h
  obtain ⟨as, r1⟩ := Dp.reads I d x v hd rx
  obtain ⟨bs, r2⟩ := Dp.reads I (.tuple ds) y u he ry
  exact SeqAt.in_tuple_reads r2 r1 (SeqAt.canLay_of_shaped se) (SeqAt.canLay_of_shaped sd) (room_in_shaped sd hu) ⟨.bl _, H, I, rfl, by simpa using q⟩
theorem op_ninDT (hu : X.A.units + 65 < cLine) : OpR X (compareOp .NotIn) (rInDT X.K true) := by
  intro pins s σ H x y v u Q I rx ry h
  obtain ⟨d, ds, hd, he, sd, se, q⟩ := h
  obtain ⟨as, r1⟩ := Dp.reads I d x v hd rx
  obtain ⟨bs, r2⟩ := Dp.reads I (.tuple ds) y u he ry
  exact SeqAt.notIn_tuple_reads r2 r1 (SeqAt.canLay_of_shaped se) (SeqAt.canLay_of_shaped sd) (room_in_shaped sd hu) ⟨.bl _, H, I, rfl, by simpa using q⟩
theorem in_core (hK : X.K = G.K) {p : List Addr} {s : Ms} {H : Hp} {x y : Mv} {vx vy : V} {c : Bool} {neg : Bool} {Q : VK} (S : Sim G p s H) (dx : Den G p H x vx) (dy : Den G p H y vy) (h : inBo x y s = some c) (q : Q (.bl (neg != c)) H) :
    rIn X.K neg vx vy H Q ∨ (∃ d ds, Dp X.K H vx d ∧ Dp X.K H vy (.list ds) ∧ SeqAt.shaped d = true ∧ SeqAt.shaped (.list ds) = true ∧ Q (.bl (neg != ds.any fun z => PyData.eqv z d)) H) ∨ rInDT X.K neg vx vy H Q := by
  obtain ⟨ws, h1, h2⟩ := ob_some.mp h
  obtain ⟨ad, vs, rfl, hs, l⟩ := items_ok S dy h1
  split at h2
  · rename_i z ys e
    cases h2
    obtain ⟨e1, e2⟩ := strsOf_ok l e
    cases dx
    refine .inl ⟨ad, vs, rfl, by rw [hK]; exact hs, rfl, by rw [e1]; simp [flatV], ?_⟩
    have e3 : inV (V.str z) vs = ys.any fun y => decide (y = z) := by
      rw [e1]
      unfold inV
      rw [List.any_map]
      have e4 : ((fun y => eqV y (V.str z)) ∘ V.str) = fun y => decide (y = z) := by
        funext y
        exact Bool.beq_eq_decide_eq y z
      rw [e4]
    rw [e3]
    simp only [strEq_eq] at q
    cases neg
    · simpa using q
    · simpa using q
  · obtain ⟨d, g1, g2⟩ := ob_some.mp h2
    obtain ⟨ds, g3, g4⟩ := omap_some.mp g2
    subst g4
    have o1 := toD_ok S 24 _ _ _ dx g1
    obtain ⟨b1, b2, b3⟩ := toDL_ok (toD_ok S 23) l g3
    have sh : ∀ c : List PyData → PyData, (c = PyData.list ∨ c = PyData.tuple) → SeqAt.shaped (c ds) = true := fun c hc => by
      unfold SeqAt.shaped
      rcases hc with rfl | rfl
      · simp only [PyData.canLay0, b2, PyData.depth, Bool.true_and]; exact decide_eq_true (by omega)
      · simp only [PyData.canLay0, b2, PyData.depth, Bool.true_and]; exact decide_eq_true (by omega)
    rcases hs with hs | hs
    · exact .inr (.inl ⟨d, ds, by rw [hK]; exact o1.dp, by rw [hK]; exact .lst hs b1, o1.shaped (by decide), sh _ (.inl rfl), q⟩)
    · exact .inr (.inr ⟨d, ds, by rw [hK]; exact o1.dp, by rw [hK]; exact .tup hs b1, o1.shaped (by decide), sh _ (.inr rfl), q⟩)
theorem om_in (hu : X.A.units + 65 < cLine) (hK : X.K = G.K := by rfl) : OpR X (compareOp .In) (q2R G inW) := opr_imp (OpR.or op_in_seq (OpR.or (op_inD hu) (op_inDT hu))) fun x y H Q ⟨p, s, a, b, w, s', S, da, db, q, k⟩ => by
  obtain ⟨c, q1, q2⟩ := omap_some.mp q
  cases q2
  rcases in_core hK (neg := false) S da db q1 (Q := Q) (by simpa using k p _ H S Fra.refl (.bl _)) with h | ⟨d, ds, h1, h2, h3, h4, h5⟩ | h
  · exact .inl h
  · exact .inr (.inl ⟨d, ds, h1, h2, h3, h4, by simpa using h5⟩)
  · exact .inr (.inr h)
theorem om_nin (hu : X.A.units + 65 < cLine) (hK : X.K = G.K := by rfl) : OpR X (compareOp .NotIn) (q2R G ninW) := opr_imp (OpR.or op_notIn_seq (OpR.or (op_notInD hu) (op_ninDT hu))) fun x y H Q ⟨p, s, a, b, w, s', S, da, db, q, k⟩ => by
  obtain ⟨c, q1, q2⟩ := omap_some.mp q
  cases q2
  rcases in_core hK (neg := true) S da db q1 (Q := Q) (by simpa using k p _ H S Fra.refl (.bl _)) with h | ⟨d, ds, h1, h2, h3, h4, h5⟩ | h
  · exact .inl h
  · exact .inr (.inl ⟨d, ds, h1, h2, h3, h4, by simpa using h5⟩)
  · exact .inr (.inr h)
/-! ### stars -/
end
/-! ### built-ins -/
noncomputable def lenB (w : Mv) (s : Ms) : Option Nat := match w with
  | .str x => cond (Nat.ble x.length 16777216) (some x.length) none
  | .tup ws => some ws.length
  | .fl ws => some ws.length
  | .ref n => match s.get n with
    | some (.lst ws) => some ws.length
    | _ => none
  | _ => none
noncomputable def lenW : Fn := fun ws s => match ws with
  | [w] => (lenB w s).om fun (n : Nat) => (Mv.int (n : Int), s)
  | _ => none
noncomputable def listW : Fn := fun ws s => match ws with
  | [w] => (items w s).ob fun xs => newL xs s
  | _ => none
noncomputable def tupleW : Fn := fun ws s => match ws with
  | [w] => (items w s).ob fun xs => newT xs s
  | _ => none
noncomputable def boolsOf : List Mv → Option (List Bool)
  | [] => some []
  | .bl x :: ws => (boolsOf ws).om fun r => x :: r
  | _ => none
noncomputable def lstOf (w : Mv) (s : Ms) : Option (List Mv) := match w with
  | .tup _ => none
  | _ => items w s
noncomputable def allW : Fn := fun ws s => match ws with
  | [w] => (lstOf w s).ob fun xs => (boolsOf xs).om fun bs => (.bl (bs.all id), s)
  | _ => none
noncomputable def absW : Fn := fun ws s => match ws with
  | [.int i] => some (.int (if i < 0 then -i else i), s)
  | _ => none
noncomputable def min2W : Fn := fun ws s => match ws with
  | [.int i, .int j] => some (.int (if j < i then j else i), s)
  | _ => none
noncomputable def intW : Fn := fun ws s => match ws with
  | [.int i] => some (.int i, s)
  | [.bl k] => some (.int (if k then 1 else 0), s)
  | _ => none
noncomputable def tyOf : Mv → Ms → Option Mty
  | .non, _ => some .none
  | .bl _, _ => some .bool
  | .int _, _ => some .int
  | .str _, _ => some .str
  | .tup _, _ => some .tuple
  | .fl _, _ => some .list
  | .ref n, s => match s.get n with
    | some (.lst _) => some .list
    | some (.dk _) => some .dict
    | _ => none
  | _, _ => none
noncomputable def isaT (t c : Mty) : Bool := decide (t = c) || (decide (t = .bool) && decide (c = .int))
noncomputable def isiW : Fn := fun ws s => match ws with
  | [w, .ty c] => (tyOf w s).om fun t => (.bl (isaT t c), s)
  | _ => none
noncomputable def insS (x : Str) : List Str → List Str
  | [] => [x]
  | y :: r => cond (decide (y.cps.toList < x.cps.toList)) (y :: insS x r) (x :: y :: r)
noncomputable def sortS (l : List Str) : List Str := l.foldr insS []
noncomputable def sortedW : Fn := fun ws s => match ws with
  | [w] => (lstOf w s).ob fun xs => (strsOf xs).ob fun ys => cond (Nat.blt ys.length 64) (newL ((sortS ys).map .str) s) none
  | _ => none
noncomputable def minS (x : Str) (xs : List Str) : Str := xs.foldl (fun a y => if decide (y.cps.toList < a.cps.toList) = true then y else a) x
section
variable {X : Cx} {G : Mg} {e a b : Expr} {pos : Pos}
theorem lstOf_ok {p : List Addr} {s : Ms} {H : Hp} {w : Mv} {v : V} {ws : List Mv} (S : Sim G p s H) (d : Den G p H w v) (h : lstOf w s = some ws) : ∃ a vs, v = .ref a ∧ SqL G.K H a vs ∧ DenL G p H ws vs := by
  cases d with
  | tup h1 l => cases h
  | fl h1 l => cases h; exact ⟨_, _, rfl, h1.sq, l⟩
  | ref hn =>
    simp only [lstOf, items] at h
    split at h
    · rename_i ws' e
      cases h
      obtain ⟨ho, h1, vs, rfl, l, _⟩ := S.get hn e
      exact ⟨_, _, rfl, SqL.of h1, l⟩
    · cases h
  | _ => cases h
theorem lenB_ok {p : List Addr} {s : Ms} {H : Hp} {w : Mv} {v : V} {n : Nat} (S : Sim G p s H) (d : Den G p H w v) (h : lenB w s = some n) : LenV G.K v H n := by
  cases d with
  | str x =>
    have q' : cond (Nat.ble x.length 16777216) (some x.length) none = some n := h
    cases e : Nat.ble x.length 16777216 with
    | false => rw [e] at q'; cases q'
    | true => rw [e] at q'; cases q'; exact ⟨ble_sz e, rfl⟩
  | tup h1 l => cases h; exact .inr ⟨_, h1, l.length⟩
  | fl h1 l => cases h; exact .inl ⟨_, h1.sq, l.length⟩
  | ref hn =>
    simp only [lenB] at h
    split at h
    · rename_i ws e
      cases h
      obtain ⟨ho, h1, vs, rfl, l, _⟩ := S.get hn e
      exact .inl ⟨_, SqL.of h1, l.length⟩
    · cases h
  | _ => cases h
theorem cm_len (hK : X.K = G.K := by rfl) : CallR X (.builtin "len") (rF G lenW) := cal_imp call_len fun xs H Q ⟨p, s, ws, w, s', S, l, q, k⟩ => by
  match ws, l, q with
  | [w0], .cons d .nil, q =>
    obtain ⟨n, g1, g2⟩ := omap_some.mp (show (lenB w0 s).om (fun (n : Nat) => (Mv.int (n : Int), s)) = some (w, s') from q)
    cases g2
    exact ⟨_, n, rfl, by rw [hK]; exact lenB_ok S d g1, k p _ H S Fra.refl (.int _)⟩
theorem cm_list (hK : X.K = G.K := by rfl) : CallR X (.type "list") (rF G listW) := cal_imp call_list_of fun xs H Q ⟨p, s, ws, w, s', S, l, q, k⟩ => by
  match ws, l, q with
  | [w0], .cons d .nil, q =>
    obtain ⟨ys, g1, g2⟩ := ob_some.mp (show (items w0 s).ob _ = some (w, s') from q)
    obtain ⟨ad, vs, rfl, hs, ll⟩ := items_ok S d g1
    exact ⟨ad, vs, rfl, by rw [hK]; exact hs, (newL_ok S ll g2 k).2⟩
theorem cm_tuple (hK : X.K = G.K := by rfl) : CallR X (.type "tuple") (rF G tupleW) := cal_imp call_tuple_of fun xs H Q ⟨p, s, ws, w, s', S, l, q, k⟩ => by
  match ws, l, q with
  | [w0], .cons d .nil, q =>
    obtain ⟨ys, g1, g2⟩ := ob_some.mp (show (items w0 s).ob _ = some (w, s') from q)
    obtain ⟨ad, vs, rfl, hs, ll⟩ := items_ok S d g1
    obtain ⟨z1, z2, z3⟩ := newT_ok S ll g2 k
    refine ⟨ad, vs, rfl, ?_⟩
    rcases hs with hs | hs
    · exact .inl ⟨by rw [hK]; exact hs, z2⟩
    · exact .inr ⟨by rw [hK]; exact hs, z3 _ hs⟩
theorem boolsOf_ok {p : List Addr} {H : Hp} : ∀ {ws : List Mv} {vs : List V} {ys : List Bool}, DenL G p H ws vs → boolsOf ws = some ys → vs = ys.map V.bl
  | _, _, _, .nil, h => by cases h; rfl
  | _, _, _, .cons (w := w) (ws := ws) d l, h => by
    cases d <;> try (cases h; done)
    obtain ⟨r, h1, h2⟩ := omap_some.mp (show (boolsOf ws).om _ = _ from h)
    cases h2
    rw [boolsOf_ok l h1]
    rfl
theorem cm_all (hc : X.calm = true := by rfl) (hK : X.K = G.K := by rfl) : CallR X (.builtin "all") (rF G allW) := cal_imp (cr_all hc) fun xs H Q ⟨p, s, ws, w, s', S, l, q, k⟩ => by
  match ws, l, q with
  | [w0], .cons d .nil, q =>
    obtain ⟨ys, g1, g2⟩ := ob_some.mp (show (lstOf w0 s).ob _ = some (w, s') from q)
    obtain ⟨bs, g3, g4⟩ := omap_some.mp g2
    cases g4
    obtain ⟨ad, vs, rfl, hs, ll⟩ := lstOf_ok S d g1
    refine ⟨ad, bs, rfl, ?_, k p _ H S Fra.refl (.bl _)⟩
    rw [hK, ← boolsOf_ok ll g3]
    exact hs
theorem cm_abs : CallR X (.builtin "abs") (rF G absW) := cal_imp call_abs fun xs H Q ⟨p, s, ws, w, s', S, l, q, k⟩ => by
  match ws, l, q with
  | [.int i], .cons (.int _) .nil, q => cases q; exact ⟨i, rfl, k p _ H S Fra.refl (.int _)⟩
theorem cm_min2 (hc : X.calm = true := by rfl) : CallR X (.builtin "min") (rF G min2W) := cal_imp (call_min2 hc) fun xs H Q ⟨p, s, ws, w, s', S, l, q, k⟩ => by
  match ws, l, q with
  | [.int i, .int j], .cons (.int _) (.cons (.int _) .nil), q => cases q; exact ⟨i, j, rfl, k p _ H S Fra.refl (.int _)⟩
theorem cm_int : CallR X (.type "int") (rF G intW) := cal_imp call_int1 fun xs H Q ⟨p, s, ws, w, s', S, l, q, k⟩ => by
  match ws, l, q with
  | [.int i], .cons (.int _) .nil, q => cases q; exact .inl ⟨i, rfl, k p _ H S Fra.refl (.int _)⟩
  | [.bl b], .cons (.bl _) .nil, q => cases q; exact .inr ⟨b, rfl, k p _ H S Fra.refl (.int _)⟩
/-! isinstance -/
theorem tyOf_ok {p : List Addr} {s : Ms} {H : Hp} {w : Mv} {v : V} {t : Mty} (S : Sim G p s H) (d : Den G p H w v) (h : tyOf w s = some t) : TyX G.K H v (.type t.name) := by
  cases d with
  | non => cases h; exact .base .non
  | bl b => cases h; exact .base (.bl b)
  | int i => cases h; exact .base (.int i)
  | str x => cases h; exact .base (.str x)
  | tup h1 l =>
    cases h
    rcases h1 with h1 | ⟨o, its, n, h1, h2, _⟩
    · rcases h1 with h1 | ⟨o, h1⟩
      · exact .base (.tup h1)
      · exact .fTuple h1
    · exact .kTuple h1 h2
  | fl h1 l =>
    cases h
    rcases h1.sq with h1 | ⟨o, its, n, h1, h2, _⟩
    · rcases h1 with h1 | ⟨o, h1⟩
      · exact .base (.lst h1)
      · exact .base (.frz h1)
    · exact .kList h1 h2
  | ref hn =>
    simp only [tyOf] at h
    split at h
    · rename_i ws e
      cases h
      obtain ⟨ho, h1, vs, rfl, _⟩ := S.get hn e
      exact .base (.lst h1)
    · rename_i ws e
      cases h
      obtain ⟨ho, h1, vs, rfl, _⟩ := S.get hn e
      exact .base (.dK h1)
    · cases h
  | ty t => cases h
  | cls c => cases h
theorem isaT_ok (t c : Mty) : kitB t.name c.name = some (isaT t c) := by cases t <;> cases c <;> decide +kernel
theorem kitAny_ok {K : PySem.W.Frag} (t : Mty) : ∀ ts : List Mty, PySem.W.kitAny K (.type t.name) (ts.map fun t => Value.type t.name) = some (ts.any fun c => isaT t c)
  | [] => kitAny_nil
  | c :: ts => by
    refine kitAny_cons (b := isaT t c) (kit_ty (isaT_ok t c)) (fun h => ?_) (fun h => ?_)
    · rw [kitAny_ok t ts]; simp [h]
    · simp [h]
theorem cm_isi (hK : X.K = G.K := by rfl) : CallR X (.builtin "isinstance") (rF G isiW) := cal_imp call_isi fun xs H Q ⟨p, s, ws, w, s', S, l, q, k⟩ => by
  match ws, l, q with
  | [w0, .ty c], .cons d (.cons (.ty _) .nil), q =>
    obtain ⟨t, g1, g2⟩ := omap_some.mp (show (tyOf w0 s).om _ = some (w, s') from q)
    cases g2
    exact ⟨_, _, _, _, _, rfl, .ty _, by rw [hK]; exact tyOf_ok S d g1, kit_ty (isaT_ok t c), k p _ H S Fra.refl (.bl _)⟩
noncomputable def tTys (ts : List Mty) : TA := fun _ H Q => Q (ts.map fun t => V.ty t.name) H
theorem py_nil : PA X [] (tTys []) := pa_nil
theorem py_cons {es : List Expr} {t : Mty} {ts : List Mty} (h : PE X e (tC (.ty t.name))) (hr : PA X es (tTys ts)) (hs : starEach (e :: es) X.env = (false, eval e X.env) :: starEach es X.env := by rfl) : PA X (e :: es) (tTys (t :: ts)) := pa_imp (pa_cons h hr hs) fun σ H Q q => q
noncomputable def misiT (A : Fe) (ts : List Mty) : Fe := fun r s => (A r s).ob fun x => (tyOf x.1 x.2).om fun t => (.bl (ts.any fun c => isaT t c), x.2)
theorem paired_ty : ∀ ts : List Mty, Paired ClsV (ts.map fun t => V.ty t.name) (ts.map fun t => Value.type t.name)
  | [] => .nil
  | t :: ts => .cons (.ty _) (paired_ty ts)
theorem pm_isiT {A : Fe} {ts : List Mty} {es : List Expr} {k0 : Nat} {p1 p2 : Pos} (ha : PE X a (tI G A)) (hes : PA X es (tTys ts)) (hg : Gl X "isinstance") (hm : X.mg "isinstance" = none) (hl : ts.length ≤ 1000 := by decide) (hs : starEach [a, .Tuple es k0 p2] X.env = (false, eval a X.env) :: starEach [.Tuple es k0 p2] X.env := by rfl) (hK : X.K = G.K := by rfl) (hpl : (backTo pos (starEach [.Tuple es k0 p2] X.env)).any (·.1) = false := by rfl) :
    PE X (.Call (.Name "isinstance" p1) [a, .Tuple es k0 p2] [] pos) (tI G (misiT A ts)) :=
  pe_imp (pe_callB call_isiT hg hm (by decide +kernel) (pa_cons ha (pa_cons (pe_tup hes) pa_nil) hs) (he := hs) (hpl := hpl)) fun σ H Q ⟨p, s, r, w, s', S, E, q, k⟩ => by
    obtain ⟨⟨x, s1⟩, q1, q2⟩ := ob_some.mp q
    obtain ⟨t, q3, q4⟩ := omap_some.mp q2
    cases q4
    refine ⟨p, s, r, x, s1, S, E, q1, fun p1 v1 H1 S1 f1 d1 => ⟨by rw [List.length_map]; exact Nat.le_trans hl (by rw [sz_eq]; decide), fun T hT => ?_⟩⟩
    have f2 := Mi.fra_new (p := p1) (o := HO.tup (ts.map fun t => V.ty t.name)) hT
    have S2 := S1.fra_new (o := HO.tup (ts.map fun t => V.ty t.name)) hT
    exact ⟨_, T, _, _, _, _, rfl, upd_same, paired_ty ts, by rw [hK]; exact tyOf_ok S2 (d1.fra S1 f2) q3, kitAny_ok t ts, k _ _ _ S2 (f1.trans f2) (.bl _)⟩
/-! sorted texts, the least text -/
theorem ltCps_eq : ∀ x y : List Nat, ltCps x y = decide (x < y)
  | [], [] => by simp [ltCps]
  | [], _ :: _ => by simp [ltCps]
  | _ :: _, [] => by simp [ltCps]
  | a :: x, b :: y => by
    have ih := ltCps_eq x y
    unfold ltCps
    rw [ih]
    by_cases h1 : a < b
    · simp [h1, List.cons_lt_cons_iff]
    · by_cases h2 : a = b
      · simp [h2, List.cons_lt_cons_iff]
      · simp [h1, h2, List.cons_lt_cons_iff]
noncomputable def leS (a b : Str) : Prop := ¬ b.cps.toList < a.cps.toList
theorem leS_trans {a b c : Str} (h1 : leS a b) (h2 : leS b c) : leS a c := fun h => absurd h (List.not_lt.mpr (List.le_trans (List.not_lt.mp h1) (List.not_lt.mp h2)))
theorem leS_anti {a b : Str} (h1 : leS a b) (h2 : leS b a) : a = b := PySem.W.str_of_cps (List.le_antisymm (List.not_lt.mp h1) (List.not_lt.mp h2))
theorem leS_of {a b : Str} (h : b.cps.toList < a.cps.toList) : leS b a := fun z => absurd h (List.lt_asymm z)
theorem rising_pw : ∀ (x : Str) (l : List Str), risingS x l = true → (x :: l).Pairwise leS
  | x, [], _ => by simp
  | x, y :: l, h => by
    simp only [risingS, Bool.and_eq_true, Bool.not_eq_true'] at h
    have hxy : leS x y := fun z => by
      have := h.1
      rw [ltCps_eq, decide_eq_true z] at this
      cases this
    have ih := rising_pw y l h.2
    refine List.pairwise_cons.mpr ⟨fun z hz => ?_, ih⟩
    rcases List.mem_cons.mp hz with rfl | hz
    · exact hxy
    · exact leS_trans hxy (List.rel_of_pairwise_cons ih hz)
theorem sorted_pw : ∀ (l : List Str), sortedS l = true → l.Pairwise leS
  | [], _ => List.Pairwise.nil
  | x :: l, h => rising_pw x l h
theorem ins_perm (x : Str) : ∀ l : List Str, (insS x l).Perm (x :: l)
  | [] => List.Perm.refl _
  | y :: r => by
    unfold insS
    cases decide (y.cps.toList < x.cps.toList) with
    | true => exact ((ins_perm x r).cons y).trans (List.Perm.swap x y r)
    | false => exact List.Perm.refl _
theorem ins_pw (x : Str) : ∀ l : List Str, l.Pairwise leS → (insS x l).Pairwise leS
  | [], _ => by simp [insS]
  | y :: r, h => by
    unfold insS
    cases e : decide (y.cps.toList < x.cps.toList) with
    | true =>
      have hyx : leS y x := leS_of (of_decide_eq_true e)
      show (y :: insS x r).Pairwise leS
      refine List.pairwise_cons.mpr ⟨fun z hz => ?_, ins_pw x r (List.pairwise_cons.mp h).2⟩
      rcases List.mem_cons.mp ((ins_perm x r).mem_iff.mp hz) with rfl | hz
      · exact hyx
      · exact List.rel_of_pairwise_cons h hz
    | false =>
      have hxy : leS x y := of_decide_eq_false e
      show (x :: y :: r).Pairwise leS
      refine List.pairwise_cons.mpr ⟨fun z hz => ?_, h⟩
      rcases List.mem_cons.mp hz with rfl | hz
      · exact hxy
      · exact leS_trans hxy (List.rel_of_pairwise_cons h hz)
theorem sortS_perm : ∀ l : List Str, (sortS l).Perm l
  | [] => List.Perm.refl _
  | x :: l => (ins_perm x (sortS l)).trans ((sortS_perm l).cons x)
theorem sortS_pw : ∀ l : List Str, (sortS l).Pairwise leS
  | [] => List.Pairwise.nil
  | x :: l => ins_pw x _ (sortS_pw l)
theorem sortS_uniq {ys l : List Str} (hp : ys.Perm l) (hs : sortedS ys = true) : ys = sortS l :=
  List.Perm.eq_of_pairwise (fun a b _ _ h1 h2 => leS_anti h1 h2) (sorted_pw ys hs) (sortS_pw l) (hp.trans (sortS_perm l).symm)
theorem denL_strs {p : List Addr} {H : Hp} : ∀ ys : List Str, DenL G p H (ys.map .str) (ys.map .str)
  | [] => .nil
  | y :: ys => .cons (.str y) (denL_strs ys)
theorem cm_sorted (hK : X.K = G.K := by rfl) : CallR X (.builtin "sorted") (rF G sortedW) := cal_imp cr_sortedS fun xs H Q ⟨p, s, ws, w, s', S, l, q, k⟩ => by
  match ws, l, q with
  | [w0], .cons d .nil, q =>
    obtain ⟨ys, g1, g2⟩ := ob_some.mp (show (lstOf w0 s).ob _ = some (w, s') from q)
    obtain ⟨zs, g3, g4⟩ := ob_some.mp g2
    obtain ⟨ad, vs, rfl, hs, ll⟩ := lstOf_ok S d g1
    have e1 := (strsOf_ok ll g3).1
    cases e : Nat.blt zs.length 64 with
    | false => rw [e] at g4; cases g4
    | true =>
      rw [e] at g4
      refine ⟨ad, zs, rfl, by rw [hK, ← e1]; exact hs, Nat.blt_eq.mp e, fun us P hp hsrt hP => ?_⟩
      rw [sortS_uniq hp hsrt]
      exact (newL_ok S (denL_strs (sortS zs)) g4 k).2 P hP
end

end
section
/-! ### instances: fields by number -/
noncomputable def getM (k : Nat) : List (Nat × Mv) → Option Mv
  | [] => none
  | (j, w) :: r => cond (Nat.beq j k) (some w) (getM k r)
noncomputable def putM (k : Nat) (w : Mv) : List (Nat × Mv) → List (Nat × Mv)
  | [] => [(k, w)]
  | (j, x) :: r => cond (Nat.beq j k) ((j, w) :: r) ((j, x) :: putM k w r)
noncomputable def fldW (c k : Nat) (a : Mv) (s : Ms) : Option (Mv × Ms) := match a with
  | .ref n => match s.get n with
    | some (.ins c' fs) => cond (Nat.beq c' c) ((getM k fs).om fun w => (w, s)) none
    | _ => none
  | _ => none
noncomputable def sfld (c k : Nat) (O A : Fe) : Fs := fun r s => (A r s).ob fun y => (O r y.2).ob fun x => match x.1 with
  | .ref n => match x.2.get n with
    | some (.ins c' fs) => cond (Nat.beq c' c && Nat.blt fs.length 1000) (some (.nx, r, x.2.put n (.ins c (putM k y.1 fs)))) none
    | _ => none
  | _ => none
/-- o.m(args): the receiver is of class c -/
noncomputable def mmeth (c : Nat) (f : Fn) (O : Fe) (A : Fa) : Fe := fun r s => (O r s).ob fun x => match x.1 with
  | .ref n => match x.2.get n with
    | some (.ins c' _) => cond (Nat.beq c' c) ((A r x.2).ob fun y => f (.ref n :: y.1) y.2) none
    | _ => none
  | _ => none
noncomputable def mmake (c : Nat) (f : Fn) (A : Fa) : Fe := fun r s => (A r s).ob fun y => (y.2.alloc (.ins c [])).ob fun q => (f (.ref q.1 :: y.1) q.2).ob fun z => match z.1 with
  | .non => some (.ref q.1, z.2)
  | _ => none
section
variable {X : Cx} {G : Mg} {e o : Expr} {pos : Pos}
/-- the fields of the mirror and of the object -/
noncomputable def FsR (G : Mg) (p : List Addr) (H : Hp) (fs : List (Nat × Mv)) (fs' : List (Str × V)) : Prop := fs'.map (·.1) = fs.map (fun q => G.nm q.1) ∧ DenL G p H (fs.map (·.2)) (fs'.map (·.2)) ∧ ∀ q ∈ fs, q.1 < G.nf
theorem FsR.cons {p : List Addr} {H : Hp} {q : Nat × Mv} {q' : Str × V} {fs : List (Nat × Mv)} {fs' : List (Str × V)} (h : FsR G p H (q :: fs) (q' :: fs')) : q'.1 = G.nm q.1 ∧ Den G p H q.2 q'.2 ∧ q.1 < G.nf ∧ FsR G p H fs fs' := by
  obtain ⟨h1, h2, h3⟩ := h
  simp only [List.map_cons, List.cons.injEq] at h1
  cases h2 with
  | cons d l => exact ⟨h1.1, d, h3 q (by simp), h1.2, l, fun z hz => h3 z (by simp [hz])⟩
theorem FsR.mk {p : List Addr} {H : Hp} {q : Nat × Mv} {q' : Str × V} {fs : List (Nat × Mv)} {fs' : List (Str × V)} (h1 : q'.1 = G.nm q.1) (d : Den G p H q.2 q'.2) (hb : q.1 < G.nf) (h : FsR G p H fs fs') : FsR G p H (q :: fs) (q' :: fs') := by
  obtain ⟨g1, g2, g3⟩ := h
  refine ⟨by simp [h1, g1], .cons d g2, fun z hz => ?_⟩
  rcases List.mem_cons.mp hz with rfl | hz
  · exact hb
  · exact g3 z hz
theorem FsR.get {p : List Addr} {H : Hp} {k : Nat} (hk : k < G.nf) : ∀ {fs : List (Nat × Mv)} {fs' : List (Str × V)} {w : Mv}, FsR G p H fs fs' → getM k fs = some w → ∃ v, fs'.lookup (G.nm k) = some v ∧ Den G p H w v
  | [], fs', w, h, e => by cases e
  | (j, x) :: fs, [], w, h, e => by simp [FsR] at h
  | (j, x) :: fs, (n, v) :: fs', w, h, e => by
    obtain ⟨h1, d, hb, h2⟩ := h.cons
    have h1' : n = G.nm j := h1
    unfold getM at e
    by_cases hjk : j = k
    · subst hjk
      rw [cond_t beq_t] at e
      cases e
      exact ⟨v, by rw [h1']; simp [List.lookup], d⟩
    · rw [cond_f (beq_f hjk)] at e
      obtain ⟨v', g1, g2⟩ := FsR.get hk h2 e
      refine ⟨v', ?_, g2⟩
      have hne : (G.nm k == n) = false := by
        rw [h1']
        exact beq_eq_false_iff_ne.mpr fun z => hjk (G.inj j k hb hk z.symm)
      simp only [List.lookup, hne]
      exact g1
theorem FsR.put {p : List Addr} {H : Hp} {k : Nat} {w : Mv} {v : V} (hk : k < G.nf) (d : Den G p H w v) : ∀ {fs : List (Nat × Mv)} {fs' : List (Str × V)}, FsR G p H fs fs' → FsR G p H (putM k w fs) (putF (G.nm k) v fs')
  | [], [], h => .mk rfl d hk ⟨rfl, .nil, fun z hz => by cases hz⟩
  | [], _ :: _, h => by simp [FsR] at h
  | _ :: _, [], h => by simp [FsR] at h
  | (j, x) :: fs, (n, u) :: fs', h => by
    obtain ⟨h1, d1, hb, h2⟩ := h.cons
    have h1' : n = G.nm j := h1
    unfold putM putF
    by_cases hjk : j = k
    · subst hjk
      rw [cond_t beq_t, if_pos h1']
      exact .mk h1 d hb h2
    · have hne : ¬ n = G.nm k := fun z => hjk (G.inj j k hb hk (h1'.symm.trans z))
      rw [cond_f (beq_f hjk), if_neg hne]
      exact .mk h1 d1 hb (FsR.put hk d h2)
theorem FsR.len {p : List Addr} {H : Hp} {fs : List (Nat × Mv)} {fs' : List (Str × V)} (h : FsR G p H fs fs') : fs'.length = fs.length := by
  have := congrArg List.length h.1
  simpa using this
theorem FsR.no {p : List Addr} {H : Hp} {m : Str} (hm : ∀ k, k < G.nf → G.nm k ≠ m) : ∀ {fs : List (Nat × Mv)} {fs' : List (Str × V)}, FsR G p H fs fs' → fs'.lookup m = none
  | _, [], _ => rfl
  | [], _ :: _, h => by simp [FsR] at h
  | (j, x) :: fs, (n, u) :: fs', h => by
    obtain ⟨h1, d1, hb, h2⟩ := h.cons
    have h1' : n = G.nm j := h1
    have hne : (m == n) = false := beq_eq_false_iff_ne.mpr fun z => hm j hb (h1'.symm.trans z.symm)
    simp only [List.lookup, hne]
    exact FsR.no hm h2
theorem sm_fld {A O : Fe} {f : Str} {c k : Nat} {value : Expr} {pos' : Pos} (ha : PE X o (tI G O)) (hv : PE X value (tI G A)) (hs : swapsWith value (some (.Attribute o f pos')) pos.line X.env = pure false) (cl : Cls X.K (G.cad c)) (na : NoAttr X.K (G.cad c) f) (hf : f = G.nm k) (hk : k < G.nf) :
    PS X (.Assign [.Attribute o f pos'] value pos) (tS G (sfld c k O A)) := ps_imp (ps_fld ha hv hs) fun D σ H ⟨p, s, r, fl, r', s', S, E, q, kk⟩ => by
  obtain ⟨⟨y, s1⟩, q1, q2⟩ := ob_some.mp q
  obtain ⟨⟨x, s2⟩, q3, q4⟩ := ob_some.mp q2
  refine ⟨p, s, r, y, s1, S, E, q1, fun p1 v1 H1 S1 f1 d1 => ⟨p1, s1, r, x, s2, S1, E.fra S f1, q3, fun p2 v2 H2 S2 f2 d2 => ?_⟩⟩
  cases d2 <;> try (cases q4; done)
  rename_i n a hn
  simp only at q4
  split at q4
  · rename_i c' fs e
    cases ec : (Nat.beq c' c && Nat.blt fs.length 1000) with
    | false => rw [ec] at q4; cases q4
    | true =>
      rw [ec] at q4
      have q4' : some (Fl.nx, r, s2.put n (.ins c (putM k y fs))) = some (fl, r', s') := q4
      cases q4'
      have ec' := Bool.and_eq_true_iff.mp ec
      have hc := Nat.eq_of_beq_eq_true ec'.1
      subst hc
      obtain ⟨ho, h1, dx, fs', rfl, hfs⟩ := S2.get hn e
      have hfs' : FsR G p2 H2 fs fs' := hfs
      have hp := hfs'.put hk (d1.fra S1 f2)
      obtain ⟨S3, f3⟩ := S2.put hn e rfl (ho := .ins (G.cad c') dx (putF (G.nm k) v1 fs')) (o := .ins c' (putM k y fs)) (fun vs z => by cases z) ⟨dx, _, rfl, hp⟩
      refine ⟨a, _, dx, fs', rfl, h1, cl, na, by rw [hfs'.len]; exact Nat.blt_eq.mp ec'.2, ?_⟩
      rw [hf]
      exact kk p2 _ S3 ((f1.trans f2).trans f3) σ (((E.fra S f1).fra S1 f2).fra S2 f3)
  · cases q4
theorem mmeth_inv {c : Nat} {f : Fn} {O : Fe} {A : Fa} {σ : L2.St} {H : Hp} {Q : VK} (h : tI G (mmeth c f O A) σ H Q) : tI G O σ H fun x H1 => ∃ a dx fs, x = .ref a ∧ H1 a = some (.ins (G.cad c) dx fs) ∧ (∃ p fs0, FsR G p H1 fs0 fs) ∧ tA G A σ H1 fun vs H2 => rF G f (x :: vs) H2 Q := by
  obtain ⟨p, s, r, w, s', S, E, q, k⟩ := h
  obtain ⟨⟨x, s1⟩, q1, q2⟩ := ob_some.mp q
  refine ⟨p, s, r, x, s1, S, E, q1, fun p1 v1 H1 S1 f1 d1 => ?_⟩
  cases d1 <;> try (cases q2; done)
  rename_i n a hn
  simp only at q2
  split at q2
  · rename_i c' fs e
    cases ec : Nat.beq c' c with
    | false => rw [ec] at q2; cases q2
    | true =>
      rw [ec] at q2
      have hc := Nat.eq_of_beq_eq_true ec
      subst hc
      obtain ⟨⟨ys, s2⟩, q3, q4⟩ := ob_some.mp (show (A r s1).ob _ = some (w, s') from q2)
      obtain ⟨ho, h1, dx, fs', rfl, hfs⟩ := S1.get hn e
      exact ⟨a, dx, fs', rfl, h1, ⟨p1, fs, hfs⟩, p1, s1, r, ys, s2, S1, E.fra S f1, q3, fun p2 vs H2 S2 f2 l2 => ⟨p2, s2, .ref n :: ys, w, s', S2, .cons (.ref (f2.at hn)) l2, q4, k.of (f1.trans f2)⟩⟩
  · cases q2
variable {CX : CXT} {k : Nat} {fa : Addr} {fd : FuncData} {ps : List Str} {E : XK} {f : Fn} {A : Fa} {c : Nat}
theorem pm_meth {O : Fe} {m : Str} {es : List Expr} {apos : Pos} (h : PE X (.Call (.Attribute o m apos) (e :: es) [] pos) (tMeth (G.cad c) m (spM G f) [] E (tI G O) (tA G A))) (hno : ∀ j, j < G.nf → G.nm j ≠ m) : PE X (.Call (.Attribute o m apos) (e :: es) [] pos) (tI G (mmeth c f O A)) :=
  pe_imp h fun σ H Q q => by
    obtain ⟨p, s, r, w, s', S, E, q, kk⟩ := mmeth_inv q
    refine ⟨p, s, r, w, s', S, E, q, fun p1 v1 H1 S1 f1 d1 => ?_⟩
    obtain ⟨a, dx, fs, rfl, h1, ⟨p0, fs0, hfs⟩, h2⟩ := kk p1 v1 H1 S1 f1 d1
    refine ⟨a, dx, fs, rfl, h1, FsR.no hno hfs, ?_⟩
    obtain ⟨p2, s2, r2, ws, s3, S2, E2, q2, k2⟩ := h2
    exact ⟨p2, s2, r2, ws, s3, S2, E2, q2, fun p3 vs H3 S3 f3 l3 => by
      show rF G f (.ref a :: (vs ++ [])) H3 Q
      rw [List.append_nil]
      exact k2 p3 vs H3 S3 f3 l3⟩
theorem pm_make {x : Str} {p0 : Pos} {es : List Expr} (h : PE X (.Call (.Name x p0) (e :: es) [] pos) (tMake (G.cad c) (spM G f) [] E (tA G A))) : PE X (.Call (.Name x p0) (e :: es) [] pos) (tI G (mmake c f A)) :=
  pe_imp h fun σ H Q ⟨p, s, r, w, s', S, E, q, kk⟩ => by
    obtain ⟨⟨ys, s1⟩, q1, q2⟩ := ob_some.mp q
    obtain ⟨⟨n, s2⟩, q3, q4⟩ := ob_some.mp q2
    obtain ⟨⟨z, s3⟩, q5, q6⟩ := ob_some.mp q4
    refine ⟨p, s, r, ys, s1, S, E, q1, fun p1 vs H1 S1 f1 l1 x dx hx hdx hne => ?_⟩
    have hkeep : ∀ b u, H1 b = some u → upd (upd H1 dx (.own x)) x (.ins (G.cad c) dx []) b = some u := fun b u eb => by
      rw [upd_ne (ne_of_none eb hx), upd_ne (ne_of_none eb hdx)]; exact eb
    obtain ⟨S2, f2, d2⟩ := S1.new q3 hx (ho := .ins (G.cad c) dx []) ⟨dx, [], rfl, rfl, .nil, fun q hq => by cases hq⟩ upd_same hkeep
    have hfr : Den G (p1 ++ [x]) _ (.ref n) (.ref x) := d2
    refine ⟨p1 ++ [x], s2, .ref n :: ys, z, s3, S2, ?_, q5, fun p3 v3 H3 S3 f3 d3 => ?_⟩
    · show DenL G _ _ (.ref n :: ys) (.ref x :: (vs ++ []))
      rw [List.append_nil]
      exact .cons d2 (l1.fra S1 f2)
    · cases z <;> try (cases q6; done)
      cases q6
      cases d3
      exact ⟨rfl, kk p3 _ H3 S3 ((f1.trans f2).trans f3) (hfr.fra S2 f3)⟩
end

end
section
/-! ### methods of lists, stores by place -/
noncomputable def mbmL (f : Nat → List Mv → List Mv → Ms → Option (Mv × Ms)) (O : Fe) (A : Fa) : Fe := fun r s => (O r s).ob fun x => match x.1 with
  | .ref n => match x.2.get n with
    | some (.lst _) => (A r x.2).ob fun y => match y.2.get n with
      | some (.lst xs) => f n xs y.1 y.2
      | _ => none
    | _ => none
  | _ => none
noncomputable def appW (n : Nat) (xs ws : List Mv) (s : Ms) : Option (Mv × Ms) := match ws with
  | [w] => cond (Nat.blt xs.length 16777216) (some (.non, s.put n (.lst (xs ++ [w])))) none
  | _ => none
noncomputable def popW (n : Nat) (xs ws : List Mv) (s : Ms) : Option (Mv × Ms) := match ws with
  | [.int i] => (ixN xs.length i).ob fun j => (xs[j]?).om fun w => (w, s.put n (.lst (xs.eraseIdx j)))
  | _ => none
section
variable {X : Cx} {G : Mg} {e o : Expr} {pos : Pos}
/-- what the mirror's list method must be, over the abstract heap -/
noncomputable def LmR (G : Mg) (f : Nat → List Mv → List Mv → Ms → Option (Mv × Ms)) (r : V → List V → Hp → VK → Prop) : Prop := ∀ p s H n a xs vs ws us w s' Q, Sim G p s H → p[n]? = some a → s.get n = some (.lst xs) → H a = some (.lst vs) → DenL G p H xs vs → vs.length ≤ sizeLine → DenL G p H ws us → f n xs ws s = some (w, s') → After G p H w s' Q → r (.ref a) us H Q
theorem pm_bmL {f : Nat → List Mv → List Mv → Ms → Option (Mv × Ms)} {r : V → List V → Hp → VK → Prop} {O : Fe} {A : Fa} {name : Str} {es : List Expr} {apos : Pos} (hf : LmR G f r)
    (h : PE X (.Call (.Attribute o name apos) (e :: es) [] pos) (tBM X.K "list" r (tI G O) (tA G A))) : PE X (.Call (.Attribute o name apos) (e :: es) [] pos) (tI G (mbmL f O A)) := pe_imp h fun σ H Q ⟨p, s, rr, w, s', S, E, q, k⟩ => by
  obtain ⟨⟨x, s1⟩, q1, q2⟩ := ob_some.mp q
  refine ⟨p, s, rr, x, s1, S, E, q1, fun p1 v1 H1 S1 f1 d1 => ?_⟩
  cases d1 <;> try (cases q2; done)
  rename_i n a hn
  simp only at q2
  split at q2
  · rename_i zs e
    obtain ⟨ho, h1, vs, rfl, _, _⟩ := S1.get hn e
    obtain ⟨⟨ys, s2⟩, q3, q4⟩ := ob_some.mp q2
    refine ⟨.inl ⟨rfl, vs, SqL.of h1⟩, p1, s1, rr, ys, s2, S1, E.fra S f1, q3, fun p2 us H2 S2 f2 l2 => ?_⟩
    simp only at q4
    split at q4
    · rename_i xs e2
      obtain ⟨ho, h2, vs2, rfl, ll, hz⟩ := S2.get (f2.at hn) e2
      exact hf p2 s2 H2 n a xs vs2 ys us w s' Q S2 (f2.at hn) e2 h2 ll hz l2 q4 (k.of (f1.trans f2))
    · cases q4
  · cases q2
theorem lm_app : LmR G appW rAppend := by
  intro p s H n a xs vs ws us w s' Q S hn en ha l hz lw q k
  match ws, lw, q with
  | [w0], .cons d .nil, q =>
    have q' : cond (Nat.blt xs.length 16777216) (some (Mv.non, s.put n (.lst (xs ++ [w0])))) none = some (w, s') := q
    cases e : Nat.blt xs.length 16777216 with
    | false => rw [e] at q'; cases q'
    | true =>
      rw [e] at q'; cases q'
      have hlt : vs.length < sizeLine := by rw [← l.length, sz_eq]; exact Nat.blt_eq.mp e
      obtain ⟨S2, f2⟩ := S.put hn en rfl (ho := .lst (vs ++ [_])) (o := .lst (xs ++ [w0])) (fun _ z => by cases z) ⟨_, rfl, l.append (.cons d .nil), by rw [List.length_append]; exact hlt⟩
      exact ⟨a, vs, _, rfl, rfl, ha, hlt, k p _ _ S2 f2 .non⟩
theorem lm_pop : LmR G popW rPopAt := by
  intro p s H n a xs vs ws us w s' Q S hn en ha l hz lw q k
  match ws, lw, q with
  | [.int i], .cons (.int _) .nil, q =>
    obtain ⟨j, g1, g2⟩ := ob_some.mp (show (ixN xs.length i).ob _ = some (w, s') from q)
    obtain ⟨x, g3, g4⟩ := omap_some.mp g2
    cases g4
    obtain ⟨v, g5, d⟩ := l.get g3
    rw [l.length] at g1
    obtain ⟨h1, h2, h3, h4⟩ := ixN_seq g1
    have hl := line63
    obtain ⟨S2, f2⟩ := S.put hn en rfl (ho := .lst (vs.eraseIdx j)) (o := .lst (xs.eraseIdx j)) (fun _ z => by cases z) ⟨_, rfl, l.erase j, Nat.le_trans (List.length_eraseIdx_le ..) hz⟩
    exact ⟨a, vs, i, j, v, rfl, rfl, ha, by omega, by omega, h1, g5, k p _ _ S2 f2 (d.fra S f2)⟩
/-! ### zip -/
noncomputable def zipM : List Mv → List Mv → List Mv
  | a :: x, b :: y => .tup [a, b] :: zipM x y
  | _, _ => []
end

end
section
theorem new_tup {G : Mg} {p : List Addr} {s : Ms} {H : Hp} {T : Addr} {ws : List Mv} {vs : List V} (S : Sim G p s H) (hT : H T = none) (l : DenL G p H ws vs) : Sim G p s (upd H T (.tup vs)) ∧ Fra p H p (upd H T (.tup vs)) ∧ Den G p (upd H T (.tup vs)) (.tup ws) (.ref T) := by
  have f := Mi.fra_new (p := p) (o := HO.tup vs) hT
  exact ⟨S.fra_new hT, f, .tup (SqT.of upd_same) (l.fra S f)⟩
theorem zipM_get : ∀ (xs ys : List Mv) (i : Nat), (zipM xs ys)[i]? = match xs[i]?, ys[i]? with
    | some x, some y => some (.tup [x, y])
    | _, _ => none
  | [], ys, i => by simp [zipM]
  | x :: xs, [], i => by simp [zipM]
  | x :: xs, y :: ys, 0 => by simp [zipM]
  | x :: xs, y :: ys, i + 1 => by simpa [zipM] using zipM_get xs ys i
section
variable {X : Cx} {G : Mg} {e : Expr} {pos : Pos}
theorem itr_zl {p0 : List Addr} {H0 : Hp} {n m : Nat} {a b : Addr} (h : p0[n]? = some a) (h' : p0[m]? = some b) : ItR G (Itz X.K a b) (.zl n m) p0 H0 := by
  intro p s H i S st fz
  have ha := st.ix n a h
  have hb := st.ix m b h'
  have key : ∀ o, It0.at (.zl n m) i s = some o → ∃ xs ys vs us, s.get n = some (.lst xs) ∧ s.get m = some (.lst ys) ∧ H a = some (.lst vs) ∧ H b = some (.lst us) ∧ DenL G p H xs vs ∧ DenL G p H ys us ∧ o = match xs[i]?, ys[i]? with
      | some x, some y => some (.tup [x, y])
      | _, _ => none := by
    intro o q
    simp only [It0.at, lget_eq] at q
    split at q
    · rename_i xs ys e1 e2
      obtain ⟨ho, h1, vs, rfl, l1, _⟩ := S.get ha e1
      obtain ⟨ho, h2, us, rfl, l2, _⟩ := S.get hb e2
      exact ⟨xs, ys, vs, us, e1, e2, h1, h2, l1, l2, (Option.some.inj q).symm⟩
    · cases q
  constructor
  · intro q
    obtain ⟨xs, ys, vs, us, e1, e2, h1, h2, l1, l2, eo⟩ := key _ q
    refine ⟨vs, us, SqL.of h1, SqL.of h2, ?_⟩
    cases ex : xs[i]? with
    | none => exact .inl (by rw [← l1.length]; exact List.getElem?_eq_none_iff.mp ex)
    | some x =>
      cases ey : ys[i]? with
      | none => exact .inr (by rw [← l2.length]; exact List.getElem?_eq_none_iff.mp ey)
      | some y => rw [ex, ey] at eo; cases eo
  · intro w q
    obtain ⟨xs, ys, vs, us, e1, e2, h1, h2, l1, l2, eo⟩ := key _ q
    cases ex : xs[i]? with
    | none => rw [ex] at eo; cases eo
    | some x =>
      cases ey : ys[i]? with
      | none => rw [ex, ey] at eo; cases eo
      | some y =>
        rw [ex, ey] at eo
        cases eo
        obtain ⟨v, hv, dv⟩ := l1.get ex
        obtain ⟨u, hu, du⟩ := l2.get ey
        refine ⟨⟨vs, us, v, u, SqL.of h1, SqL.of h2, hv, hu⟩, fun v' H' yl => ?_⟩
        obtain ⟨T, x', y', rfl, hT, rfl, g1, g2⟩ := yl
        have e3 := g1 vs (SqL.of h1)
        have e4 := g2 us (SqL.of h2)
        rw [hv] at e3; cases e3
        rw [hu] at e4; cases e4
        exact new_tup S hT (.cons dv (.cons du .nil))
theorem itr_zt {p0 : List Addr} {H0 : Hp} {xs ys : List Mv} {a b : Addr} {vs us : List V} (h : SqT G.K H0 a vs) (h' : SqT G.K H0 b us) (l : DenL G p0 H0 xs vs) (l' : DenL G p0 H0 ys us) (hK : X.K = G.K) : ItR G (RZ.ItzT X.K a b) (.seq (zipM xs ys)) p0 H0 := by
  intro p s H i S st fz
  have h1 : SqT X.K H a vs := by rw [hK]; exact Stays.tup (G := G) st h
  have h2 : SqT X.K H b us := by rw [hK]; exact Stays.tup (G := G) st h'
  have l1 := l.stay st
  have l2 := l'.stay st
  constructor
  · intro q
    have q' : (zipM xs ys)[i]? = none := by simpa [It0.at, lget_eq] using q
    rw [zipM_get] at q'
    refine ⟨vs, us, h1, h2, ?_⟩
    cases ex : xs[i]? with
    | none => exact .inl (by rw [← l1.length]; exact List.getElem?_eq_none_iff.mp ex)
    | some x =>
      cases ey : ys[i]? with
      | none => exact .inr (by rw [← l2.length]; exact List.getElem?_eq_none_iff.mp ey)
      | some y => rw [ex, ey] at q'; cases q'
  · intro w q
    have q' : (zipM xs ys)[i]? = some w := by simpa [It0.at, lget_eq] using q
    rw [zipM_get] at q'
    cases ex : xs[i]? with
    | none => rw [ex] at q'; cases q'
    | some x =>
      cases ey : ys[i]? with
      | none => rw [ex, ey] at q'; cases q'
      | some y =>
        rw [ex, ey] at q'
        cases q'
        obtain ⟨v, hv, dv⟩ := l1.get ex
        obtain ⟨u, hu, du⟩ := l2.get ey
        refine ⟨⟨vs, us, v, u, h1, h2, hv, hu⟩, fun v' H' yl => ?_⟩
        obtain ⟨T, x', y', rfl, hT, rfl, g1, g2⟩ := yl
        have e3 := g1 vs h1
        have e4 := g2 us h2
        rw [hv] at e3; cases e3
        rw [hu] at e4; cases e4
        exact new_tup S hT (.cons dv (.cons du .nil))
noncomputable def miZ (A : Fa) : Fi := fun r s => (A r s).ob fun x => match x.1 with
  | [.ref n, .ref m] => match x.2.get n, x.2.get m with
    | some (.lst _), some (.lst _) => some (.zl n m, x.2)
    | _, _ => none
  | [.tup xs, .tup ys] => some (.seq (zipM xs ys), x.2)
  | _ => none
theorem im_zip {e2 : Expr} {A : Fa} {q tpos : Pos} {elts : List Expr} {kk : Nat} (hg : Gl X "zip") (hm : X.mg "zip" = none) (ha : PA X [e, e2] (tA G A))
    (hs : starEach [e, e2] X.env = (false, eval e X.env) :: starEach [e2] X.env := by rfl) (hpl : (backTo pos (starEach [e2] X.env)).any (·.1) = false := by rfl) (hK : X.K = G.K := by rfl) :
    PI X (.Tuple elts kk tpos) (.Call (.Name "zip" q) [e, e2] [] pos) (tIt G (miZ A)) := pi_imp (RZ.pi_zipA hg hm ha hs hpl) fun σ H R ⟨p, s, r, it, s', S, E, q, k⟩ => by
  obtain ⟨⟨x, s1⟩, q1, q2⟩ := ob_some.mp q
  refine ⟨p, s, r, x, s1, S, E, q1, fun p1 vs H1 S1 f1 l1 => ?_⟩
  simp only at q2
  split at q2
  · rename_i n m
    match l1 with
    | .cons (.ref hn) (.cons (.ref hm') .nil) =>
      split at q2
      · rename_i xs ys e1 e2
        cases q2
        obtain ⟨ho, h1, vs, rfl, _, _⟩ := S1.get hn e1
        obtain ⟨ho, h2, us, rfl, _, _⟩ := S1.get hm' e2
        exact ⟨_, _, vs, us, rfl, .inl ⟨SqL.of h1, SqL.of h2, k p1 H1 _ S1 f1 (itr_zl hn hm')⟩⟩
      · cases q2
  · rename_i xs ys
    cases q2
    match l1 with
    | .cons (.tup h1 l2) (.cons (.tup h2 l3) .nil) => exact ⟨_, _, _, _, rfl, .inr ⟨by rw [hK]; exact h1, by rw [hK]; exact h2, k p1 H1 _ S1 f1 (itr_zt h1 h2 l2 l3 hK)⟩⟩
  · cases q2
/-! ### enumerate of a tuple -/
end

end
section
section
variable {X : Cx} {G : Mg} {pos : Pos}
theorem pm_int {i j} : PE X (.Constant (.int i) j pos) (tI G (mcon (.int i))) := pm_con pe_int fun _ _ _ _ => .int _
theorem pm_bl {b j} : PE X (.Constant (.bool b) j pos) (tI G (mcon (.bl b))) := pm_con pe_bl fun _ _ _ _ => .bl _
theorem pm_non {j} : PE X (.Constant .none j pos) (tI G (mcon .non)) := pm_con pe_non fun _ _ _ _ => .non
theorem pm_str {x y : Str} {j} (h : x = y) : PE X (.Constant (.str x) j pos) (tI G (mcon (.str y))) := by subst h; exact pm_con pe_str fun _ _ _ _ => .str _
theorem pm_gint {x : Str} {i : Int} (hm : ∃ t, X.mg x = some (.int i t)) (hg : Gl X x) (hd : (x == ("__debug__" : Str)) = false := by decide) : PE X (.Name x pos) (tI G (mcon (.int i))) := by
  obtain ⟨t, hm⟩ := hm
  exact pm_con (v := .int i) (pe_glob (v := .int i) hg hm ⟨t, rfl⟩ hd) fun _ _ _ _ => .int _
theorem pm_gstr {x y z : Str} (hm : ∃ t, X.mg x = some (.str y t)) (h : y = z) (hg : Gl X x) (hd : (x == ("__debug__" : Str)) = false := by decide) : PE X (.Name x pos) (tI G (mcon (.str z))) := by
  subst h
  obtain ⟨t, hm⟩ := hm
  exact pm_con (v := .str y) (pe_glob (v := .str y) hg hm ⟨t, rfl⟩ hd) fun _ _ _ _ => .str _
theorem fn_none {P : Program} {w : World} {K : PySem.W.Frag} {mg : Str → Option Value} {base : Heap} {CX : CXT} {k : Nat} {f : Addr} {fd : FuncData} {ps : List Str} : FnOk P w K mg base CX k f fd ps (spM G (fun _ _ => none)) :=
  ⟨fun vs H Q E h => (by obtain ⟨_, _, _, _, _, _, _, z, _⟩ := h; cases z), fun A outer s H args us vs Q E hr he hb hv h => (by obtain ⟨_, _, _, _, _, _, _, z, _⟩ := h; cases z)⟩
theorem u65 {k : Nat} {A : Around} (r : Room k A) : A.units + 65 < cLine := by have := r.un; omega
theorem sm_for' {tg iter : Expr} {body : List Stmt} {I : Fi} {T : Tg} {B : Fs} (hp : PassesOwn (model X.prog X.w) X.A X.env X.xe) (hc : X.calm = true) (hi : PI X tg iter (tIt G I)) (hg : PG X tg (tG G T)) (hb : PSs X body (tS G B)) (hs : ∀ x, foldedSetIterable iter X.env x = pure x := by intro _; rfl) : PS X (.For tg iter body [] pos) (tS G (sfor I T B)) := sm_for hp hc hi hg hb (ps_for hp hc hi hg hb hs)
noncomputable def mdn : Fe := fun _ s => (s.alloc (.dk [])).om fun q => (.ref q.1, q.2)
theorem pm_dn : PE X (.Dict [] [] pos) (tI G mdn) := pe_imp pe_dnewK fun σ H Q ⟨p, s, r, w, s', S, E, q, k⟩ => by
  obtain ⟨⟨n, s1⟩, q1, q2⟩ := omap_some.mp q
  cases q2
  intro a ha
  obtain ⟨S2, f2, d2⟩ := S.new q1 ha (ho := .dK []) (H' := upd H a (.dK [])) ⟨[], rfl, rfl, .nil⟩ upd_same fun b u eb => by rw [upd_ne (ne_of_none eb ha)]; exact eb
  exact k _ _ _ S2 f2 d2
/-- a def's promise by its body, its code object known -/
theorem FunD_okC {P : Program} {w : World} {K : PySem.W.Frag} {mg : Str → Option Value} {base : Heap} {x qual : Str} {params : Arguments} {body : List Stmt} {scope : Scope} {dvs : List V} {kws : List (Str × V)} {f : Addr} {fd : FuncData} {CX : CXT} {N ps : List Str} {k : Nat} {sp : Sp} (F : FunD K x qual params body scope dvs kws f fd) (S : FnScope N ps scope)
    (len : ∀ vs H Q E, sp vs H Q E → vs.length = ps.length) (hb : ∀ (cdv : Value) (_ : cdv = fd.code) (A : Around) (outer : List Env) (s : Shared) (H : Hp) (vs : List V) (Q : VK) (E : XK), Room k (A.deeper (envOfC qual scope s.heap.objs.size f cdv)) → sp vs H Q E → ∃ t, PSs (cxOf CX P w K mg base N qual scope f cdv A outer s H E) body t ∧ t { nx := fun _ H' => Q .non H', rt := Q } (start N vs) H) :
    FnOk P w K mg base CX (k + 1) f fd ps sp := by
  obtain ⟨_, _, _, _, _, _, _, cd, _, _, rfl, lk, hcd, _, _⟩ := F.ex
  exact fn_of lk hcd S len fun A outer s H vs Q E hr h => hb cd rfl A outer s H vs Q E hr h
theorem fn_okC {P : Program} {w : World} {K : PySem.W.Frag} {mg : Str → Option Value} {base : Heap} {x qual : Str} {st : Stmt} {f : Addr} {fd : FuncData} {N ps : List Str} {k : Nat} {B : Fs} {dvs : List V} {kws : List (Str × V)} (F : FunD K x qual (defArgs st) (defBody st) (defScope st) dvs kws f fd) (sc : FnScope N ps (defScope st)) {np nl : Nat} (hnp : ps.length = np := by rfl) (hnl : N.length = nl := by rfl)
    (hb : ∀ (cdv : Value) (_ : cdv = fd.code) (A : Around) (outer : List Env) (s : Shared) (H : Hp) (E : XK), Room k (A.deeper (envOfC qual (defScope st) s.heap.objs.size f cdv)) → PSs (cxOf CX0 P w K mg base N qual (defScope st) f cdv A outer s H E).nox (defBody st) (tS G B)) :
    FnOk P w K mg base CX0 (k + 1) f fd ps (spM G (fnM np nl B)) := by
  subst hnp hnl
  have len : ∀ vs H Q E, spM G (fnM ps.length N.length B) vs H Q E → vs.length = ps.length := by
    rintro vs H Q E ⟨p, s, ws, u, s', S, l, q, k'⟩
    rw [← l.length]
    unfold fnM at q
    cases e : Nat.beq ws.length ps.length with
    | false => rw [e] at q; cases q
    | true => exact Nat.eq_of_beq_eq_true e
  refine FunD_okC F sc len fun cdv hcode A outer s H vs Q E hr h => ⟨_, PSs.nox (hb cdv hcode A outer s H E hr), ?_⟩
  have hlen := len vs H Q E h
  obtain ⟨p, s0, ws, u, s', S, l, q, k'⟩ := h
  unfold fnM at q
  cases e : Nat.beq ws.length ps.length with
  | false => rw [e] at q; cases q
  | true =>
    rw [e] at q
    obtain ⟨⟨fl, r', s1⟩, q1, q2⟩ := ob_some.mp q
    refine ⟨p, s0, _, fl, r', s1, S, ?_, q1, fun p1 H1 S1 f1 => ?_⟩
    · show EnvR G p H _ (L2.start N vs)
      unfold L2.start
      rw [hlen]
      rw [lsome_eq]
      exact envR_start _ l
    · cases fl with
      | rt w' =>
        have q2' : some (w', s1) = some (u, s') := q2
        cases q2'
        exact fun v d => k' p1 v H1 S1 f1 d
      | nx =>
        have q2' : some (Mv.non, s1) = some (u, s') := q2
        cases q2'
        exact fun σ E => k' p1 _ H1 S1 f1 .non
      | bk => cases q2
      | ct => cases q2
theorem fn_okD {P : Program} {w : World} {K : PySem.W.Frag} {mg : Str → Option Value} {base : Heap} {x qual : Str} {st : Stmt} {f : Addr} {fd : FuncData} {N ps : List Str} {k : Nat} {B : Fs} {dvs : List V} {kws : List (Str × V)} (F : FunD K x qual (defArgs st) (defBody st) (defScope st) dvs kws f fd) (sc : FnScope N ps (defScope st)) {np nl : Nat} (hnp : ps.length = np := by rfl) (hnl : N.length = nl := by rfl)
    (hb : ∀ (cdv : Value) (A : Around) (outer : List Env) (s : Shared) (H : Hp) (E : XK), Room k (A.deeper (envOfC qual (defScope st) s.heap.objs.size f cdv)) → PSs (cxOf CX0 P w K mg base N qual (defScope st) f cdv A outer s H E).nox (defBody st) (tS G B)) :
    FnOk P w K mg base CX0 (k + 1) f fd ps (spM G (fnM np nl B)) := fn_okC F sc hnp hnl fun cdv _ => hb cdv
end
theorem bb_len : bootBuiltins "len" = some (.builtin "len") := by decide +kernel
theorem bb_all : bootBuiltins "all" = some (.builtin "all") := by decide +kernel
theorem bb_abs : bootBuiltins "abs" = some (.builtin "abs") := by decide +kernel
theorem bb_min : bootBuiltins "min" = some (.builtin "min") := by decide +kernel
theorem bb_sorted : bootBuiltins "sorted" = some (.builtin "sorted") := by decide +kernel
theorem bb_isinstance : bootBuiltins "isinstance" = some (.builtin "isinstance") := by decide +kernel
theorem bb_list : bootBuiltins "list" = some (.type "list") := by decide +kernel
theorem bb_tuple : bootBuiltins "tuple" = some (.type "tuple") := by decide +kernel
theorem bb_int : bootBuiltins "int" = some (.type "int") := by decide +kernel
theorem bb_bool : bootBuiltins "bool" = some (.type "bool") := by decide +kernel
theorem bb_str : bootBuiltins "str" = some (.type "str") := by decide +kernel

end
section
/-! ### a def that touches one object alone, run over a store that holds this object alone -/
noncomputable def one (o : Mo) : Ms := ⟨1, .nod .nil (some o) .nil⟩
theorem one_get (o : Mo) (n : Nat) : (one o).get n = if n = 0 then some o else none := by
  show (Mt.nod .nil (some o) .nil).get n = _
  rw [Mt.get_nod, Mt.get_nil, Mt.get_nil]
  by_cases h : n = 0
  · rw [if_pos h, if_pos h]
  · rw [if_neg h, if_neg h]; split <;> rfl
section
variable {G : Mg}
theorem Sim.one {H : Hp} {a : Addr} {o : Mo} {ho : HO} (ha : H a = some ho) (d : DenO G [a] H a o ho) : Sim G [a] (one o) H := by
  refine ⟨rfl, by simp, fun n b hb => ?_, fun n hn => ?_⟩
  · have h0 : n = 0 := by
      have := (List.getElem?_eq_some_iff.mp hb).1
      simp at this
      exact this
    subst h0
    cases hb
    exact ⟨o, ho, by rw [one_get, if_pos rfl], ha, d⟩
  · have h1 : 1 ≤ n := hn
    rw [one_get, if_neg (by omega)]
theorem Sim.nil {H : Hp} : Sim G [] ⟨0, .nil⟩ H := ⟨rfl, by simp, fun n b hb => by simp at hb, fun _ _ => rfl⟩
variable {P : Program} {w : World} {K : PySem.W.Frag} {mg : Str → Option Value} {base : Heap} {k : Nat} {fa : Addr} {fd : FuncData} {ps : List Str}
noncomputable def DrIn (dr : Int → Int → Int → Int → Int × Int × Int) : Prop := ∀ a c n k : Int, BoxOk a c n → 1 ≤ k → 0 ≤ (dr k a c n).1 ∧ (dr k a c n).1 < k ∧ BoxOk (dr k a c n).2.1 c (dr k a c n).2.2
end

end
section
/-! ### calls whose arguments and answers name no object: run over an empty store -/
/-- hands on a value that names no object, written out anew -/
noncomputable def cp {β : Type} (w : Mv) : (Mv → Option β) → Option β :=
  @Mv.rec (fun _ => (Mv → Option β) → Option β) (fun _ => (List Mv → Option β) → Option β)
    (fun k => k .non) (fun b k => k (.bl b)) (fun i k => k (.int i)) (fun x k => k (.str x)) (fun ws ih k => ih fun ws' => k (.tup ws')) (fun _ _ => none) (fun t k => k (.ty t)) (fun ws ih k => ih fun ws' => k (.fl ws')) (fun c k => k (.cls c))
    (fun k => k []) (fun w ws ih1 ih2 k => ih1 fun w' => ih2 fun ws' => k (w' :: ws')) w
noncomputable def cpL {β : Type} (ws : List Mv) : (List Mv → Option β) → Option β :=
  @Mv.rec_1 (fun _ => (Mv → Option β) → Option β) (fun _ => (List Mv → Option β) → Option β)
    (fun k => k .non) (fun b k => k (.bl b)) (fun i k => k (.int i)) (fun x k => k (.str x)) (fun ws ih k => ih fun ws' => k (.tup ws')) (fun _ _ => none) (fun t k => k (.ty t)) (fun ws ih k => ih fun ws' => k (.fl ws')) (fun c k => k (.cls c))
    (fun k => k []) (fun w ws ih1 ih2 k => ih1 fun w' => ih2 fun ws' => k (w' :: ws')) ws
/-- what a value that names no object stands for hangs on no list of objects -/
noncomputable def Fl1 (w : Mv) : Prop := ∀ (G : Mg) p p' H v, Den G p H w v → Den G p' H w v
noncomputable def FlL (ws : List Mv) : Prop := ∀ (G : Mg) p p' H vs, DenL G p H ws vs → DenL G p' H ws vs
theorem FlL.nil : FlL [] := fun G p p' H vs h => by cases h; exact .nil
theorem FlL.cons {w : Mv} {ws : List Mv} (a : Fl1 w) (b : FlL ws) : FlL (w :: ws) := fun G p p' H vs h => by
  cases h with
  | cons h1 h2 => exact .cons (a G p p' H _ h1) (b G p p' H _ h2)
theorem Sim.keep {G : Mg} {p : List Addr} {s : Ms} {H H' : Hp} (S : Sim G p s H) (k : ∀ a o, H a = some o → H' a = some o) : Sim G p s H' ∧ Fra p H p H' := by
  have f : Fra p H p H' := ⟨⟨[], by simp, fun a h => by simp at h⟩, fun a o e _ => k a o e, fun a o u e => k a _ e⟩
  exact ⟨⟨S.len, S.nd, fun n a h => let ⟨o, ho, q1, q2, q3⟩ := S.ob n a h; ⟨o, ho, q1, k a ho q2, q3.stay (f.stays S)⟩, S.out⟩, f⟩
/-- one more object is named -/
theorem Sim.add {G : Mg} {p : List Addr} {s s' : Ms} {H : Hp} {o : Mo} {ho : HO} {n : Nat} {a : Addr} (S : Sim G p s H) (e : s.alloc o = some (n, s')) (nin : a ∉ p) (ha : H a = some ho) (d : DenO G p H a o ho) : Sim G (p ++ [a]) s' H ∧ Den G (p ++ [a]) H (.ref n) (.ref a) := by
  obtain ⟨rfl, h2, h4⟩ := Ms.alloc_eq e
  have st : Stays p H (p ++ [a]) H := ⟨fun n b h => by rw [List.getElem?_append_left (List.getElem?_eq_some_iff.mp h).1]; exact h, fun _ _ e => e, fun _ _ _ _ e => e⟩
  have hlen : (p ++ [a])[s.sz]? = some a := by rw [← S.len]; simp
  refine ⟨⟨by rw [List.length_append, S.len, h2]; rfl, ?_, fun m b hb => ?_, fun m hm => ?_⟩, .ref hlen⟩
  · rw [List.nodup_append]
    exact ⟨S.nd, by simp, fun x hx y hy => by rw [List.mem_singleton.mp hy]; rintro rfl; exact nin hx⟩
  · by_cases hmn : m = s.sz
    · subst hmn
      rw [hlen] at hb; cases hb
      exact ⟨o, ho, by rw [h4, if_pos rfl], ha, d.stay st⟩
    · have hlt : m < p.length := by
        have := (List.getElem?_eq_some_iff.mp hb).1
        rw [List.length_append, S.len] at this
        simp at this
        have := S.len
        omega
      rw [List.getElem?_append_left hlt] at hb
      obtain ⟨o1, ho1, q1, q2, q3⟩ := S.ob m b hb
      exact ⟨o1, ho1, by rw [h4, if_neg hmn]; exact q1, q2, q3.stay st⟩
  · rw [h4, if_neg (by omega)]
    exact S.out m (by omega)
/-- an answer out of the small store, told over the great one -/
noncomputable def bk (lo : Nat) (w : Mv) (s1 s : Ms) : Option (Mv × Ms) := match w with
  | .ref j => cond (Nat.ble lo j) (match s1.get j with
    | some (.lst xs) => cpL xs fun xs' => (s.alloc (.lst xs')).om fun y => (.ref y.1, y.2)
    | _ => none) none
  | w => cp w fun w' => some (w', s)
variable {P : Program} {w : World} {K : PySem.W.Frag} {mg : Str → Option Value} {base : Heap} {k : Nat} {fa : Addr} {fd : FuncData} {ps : List Str} {G : Mg}
end
section
/-! ### a law that asks some sources for some laps each -/
/-- what the law's making of a source must be -/
noncomputable def BoxFn (bx : Fn) : Prop := ∀ (ns : List Int) (k : Int) (s : Ms), 0 ≤ k → k < 1000 → ∃ A C : Int, 0 ≤ A ∧ 0 ≤ C ∧ C < 2 ^ 62 ∧ bx [.fl (ns.map .int), .int k] s = newL [.int A, .int C, .int 0] s
noncomputable def lapB (rt : Fn) (L : Int) : Fs := sif (mnot (mtst (mcall allW (mcons (mlc (miR1 (mcons (mcon (.int L)) (mnil))) (.nm 3) (myes) (mcall rt (mcons (mvar 2) (mnil))) [3]) (mnil))))) (sret (mcon (.bl false))) (snx)
noncomputable def lawB (bx rt : Fn) (R L : Int) : Fs := sseq (sfor (miR1 (mcons (mop2 addW (mcon (.int 1)) (mcall min2W (mcons (mcon (.int R)) (mcons (mcall lenW (mcons (mvar 0) (mnil))) (mnil))))) (mnil))) (.nm 1) (sseq (sset 2 (mcall bx (mcons (mvar 0) (mcons (mvar 1) (mnil))))) (lapB rt L))) (sret (mcon (.bl true)))
theorem bools_rep : ∀ n : Nat, boolsOf (List.replicate n (.bl true)) = some (List.replicate n true)
  | 0 => rfl
  | n + 1 => by
    rw [List.replicate_succ, List.replicate_succ]
    show (boolsOf (List.replicate n (.bl true))).om (fun r => true :: r) = _
    rw [bools_rep n]
    rfl
end
section
/-! ### keys of dicts -/
noncomputable def kEq (a : NestedKey) : NestedKey → Bool :=
  @NestedKey.rec (fun _ => NestedKey → Bool) (fun _ => List NestedKey → Bool)
    (fun b => NestedKey.casesOn (motive_1 := fun _ => Bool) b true (fun _ => false) (fun _ => false) (fun _ => false))
    (fun i b => NestedKey.casesOn (motive_1 := fun _ => Bool) b false (fun j => iEq i j) (fun _ => false) (fun _ => false))
    (fun x b => NestedKey.casesOn (motive_1 := fun _ => Bool) b false (fun _ => false) (fun y => strEq x y) (fun _ => false))
    (fun _ ih b => NestedKey.casesOn (motive_1 := fun _ => Bool) b false (fun _ => false) (fun _ => false) (fun ls => ih ls))
    (fun l => List.casesOn (motive := fun _ => Bool) l true (fun _ _ => false))
    (fun _ _ ih1 ih2 l => List.casesOn (motive := fun _ => Bool) l false (fun b bs => cond (ih1 b) (ih2 bs) false)) a
noncomputable def kEqs (a : List NestedKey) : List NestedKey → Bool :=
  @NestedKey.rec_1 (fun _ => NestedKey → Bool) (fun _ => List NestedKey → Bool)
    (fun b => NestedKey.casesOn (motive_1 := fun _ => Bool) b true (fun _ => false) (fun _ => false) (fun _ => false))
    (fun i b => NestedKey.casesOn (motive_1 := fun _ => Bool) b false (fun j => iEq i j) (fun _ => false) (fun _ => false))
    (fun x b => NestedKey.casesOn (motive_1 := fun _ => Bool) b false (fun _ => false) (fun y => strEq x y) (fun _ => false))
    (fun _ ih b => NestedKey.casesOn (motive_1 := fun _ => Bool) b false (fun _ => false) (fun _ => false) (fun ls => ih ls))
    (fun l => List.casesOn (motive := fun _ => Bool) l true (fun _ _ => false))
    (fun _ _ ih1 ih2 l => List.casesOn (motive := fun _ => Bool) l false (fun b bs => cond (ih1 b) (ih2 bs) false)) a
mutual
theorem kEq_beq : ∀ a b : NestedKey, kEq a b = NestedKey.beq a b
  | .none, b => by cases b <;> rfl
  | .num i, b => by
    cases b with
    | num j => exact iEq_eq i j
    | _ => rfl
  | .text x, b => by
    cases b with
    | text y => exact strEq_eq x y
    | _ => rfl
  | .tup ks, b => by
    cases b with
    | tup ls => exact kEqs_beq ks ls
    | _ => rfl
theorem kEqs_beq : ∀ a b : List NestedKey, kEqs a b = NestedKey.beqAll a b
  | [], b => by cases b <;> rfl
  | k :: ks, b => by
    cases b with
    | nil => rfl
    | cons l ls =>
      show cond (kEq k l) (kEqs ks ls) false = (NestedKey.beq k l && NestedKey.beqAll ks ls)
      rw [kEq_beq k l, kEqs_beq ks ls]
      cases NestedKey.beq k l <;> rfl
end
theorem kEq_eq (a b : NestedKey) : kEq a b = decide (a = b) := by rw [kEq_beq, NestedKey.decide_eq]
noncomputable def toK (w : Mv) : Nat → Option NestedKey :=
  @Mv.rec (fun _ => Nat → Option NestedKey) (fun _ => Nat → Option (List NestedKey))
    (fun _ => some .none) (fun b _ => some (.num (if b = true then 1 else 0))) (fun i _ => some (.num i)) (fun x _ => some (.text x))
    (fun _ ih n => Nat.rec (motive := fun _ => Option NestedKey) none (fun m _ => (ih m).om fun ks => .tup ks) n)
    (fun _ _ => none) (fun _ _ => none) (fun _ _ _ => none) (fun _ _ => none)
    (fun _ => some []) (fun _ _ ih1 ih2 n => (ih1 n).ob fun k => (ih2 n).om fun ks => k :: ks) w
noncomputable def toKs (ws : List Mv) : Nat → Option (List NestedKey) :=
  @Mv.rec_1 (fun _ => Nat → Option NestedKey) (fun _ => Nat → Option (List NestedKey))
    (fun _ => some .none) (fun b _ => some (.num (if b = true then 1 else 0))) (fun i _ => some (.num i)) (fun x _ => some (.text x))
    (fun _ ih n => Nat.rec (motive := fun _ => Option NestedKey) none (fun m _ => (ih m).om fun ks => .tup ks) n)
    (fun _ _ => none) (fun _ _ => none) (fun _ _ _ => none) (fun _ _ => none)
    (fun _ => some []) (fun _ _ ih1 ih2 n => (ih1 n).ob fun k => (ih2 n).om fun ks => k :: ks) ws
mutual
theorem toK_ok : ∀ (w : Mv) (n : Nat) (k : NestedKey), toK w n = some k → KeyM k w ∧ k.depth ≤ n
  | .non, n, k, h => by cases h; exact ⟨.non, Nat.zero_le _⟩
  | .bl b, n, k, h => by cases h; exact ⟨.bl b, Nat.zero_le _⟩
  | .int i, n, k, h => by cases h; exact ⟨.int i, Nat.zero_le _⟩
  | .str x, n, k, h => by cases h; exact ⟨.str x, Nat.zero_le _⟩
  | .tup ws, 0, k, h => by cases h
  | .tup ws, n + 1, k, h => by
    obtain ⟨ks, h1, h2⟩ := omap_some.mp (show (toKs ws n).om (fun ks => NestedKey.tup ks) = some k from h)
    subst h2
    obtain ⟨a, b⟩ := toKs_ok ws n ks h1
    exact ⟨.tup a, by show NestedKey.depthAll ks + 1 ≤ n + 1; omega⟩
  | .ref _, n, k, h => by cases h
  | .ty _, n, k, h => by cases h
  | .fl _, n, k, h => by cases h
  | .cls _, n, k, h => by cases h
theorem toKs_ok : ∀ (ws : List Mv) (n : Nat) (ks : List NestedKey), toKs ws n = some ks → KeyMs ks ws ∧ NestedKey.depthAll ks ≤ n
  | [], n, ks, h => by cases h; exact ⟨.nil, Nat.zero_le _⟩
  | w :: ws, n, ks, h => by
    obtain ⟨k, h1, h2⟩ := ob_some.mp (show (toK w n).ob (fun k => (toKs ws n).om fun ks => k :: ks) = some ks from h)
    obtain ⟨ls, h3, h4⟩ := omap_some.mp h2
    subst h4
    obtain ⟨a, b⟩ := toK_ok w n k h1
    obtain ⟨c, d⟩ := toKs_ok ws n ls h3
    exact ⟨.cons a c, by show max k.depth (NestedKey.depthAll ls) ≤ n; omega⟩
end
section
variable {X : Cx} {pins : List (Addr × Obj)} {σ : L2.St} {H : Hp} {s : Shared} {G : Mg} {p : List Addr}
mutual
theorem KeyM.is (I : Inv X pins σ H s) (hK : X.K = G.K) : ∀ {k : NestedKey} {w : Mv} {v : V} {u : Value}, KeyM k w → Den G p H w v → RelV v u → NestedIs s.heap k u
  | _, _, _, _, .non, d, r => by cases d; cases r; exact .none
  | _, _, _, _, .bl b, d, r => by cases d; cases r; exact .bool rfl
  | _, _, _, _, .int i, d, r => by cases d; obtain ⟨t, rfl⟩ := r; exact .int i t
  | _, _, _, _, .str x, d, r => by cases d; obtain ⟨t, rfl⟩ := r; exact .text x t
  | _, _, _, _, .tup h, d, r => by
    cases d with
    | tup h1 l =>
      cases r
      obtain ⟨its, rv, ⟨o, e, c, n, q⟩, _⟩ := I.tuple (by rw [hK]; exact h1)
      exact .tup e c q (KeyMs.is I hK h l rv)
theorem KeyMs.is (I : Inv X pins σ H s) (hK : X.K = G.K) : ∀ {ks : List NestedKey} {ws : List Mv} {vs : List V} {us : List Value}, KeyMs ks ws → DenL G p H ws vs → Vals vs us → NestedAll s.heap ks us
  | _, _, _, _, .nil, l, r => by cases l; cases r; exact .nil
  | _, _, _, _, .cons h hs, l, r => by
    cases l with
    | cons d l =>
      cases r with
      | cons r rs => exact .cons (KeyM.is I hK h d r) (KeyMs.is I hK hs l rs)
end
theorem KeyM.at (I : Inv X pins σ H s) (hK : X.K = G.K) {k : NestedKey} {w : Mv} {b : Addr} (h : KeyM k w) (hd : k.depth ≤ 8) (d : Den G p H w (.ref b)) : (nestedKind X.prog X.w).is s.heap k b := ⟨KeyM.is I hK h d rfl, hd⟩
/-! ### a dict with tuples as keys, read -/
abbrev PN := Paired (fun (x : NestedKey × Addr × V) (y : NestedKey × Addr × Value) => x.1 = y.1 ∧ x.2.1 = y.2.1 ∧ RelV x.2.2 y.2.2)
theorem DenN.keys (I : Inv X pins σ H s) (hK : X.K = G.K) : ∀ {kvs : List (NestedKey × Mv × Mv)} {xs : List (NestedKey × Addr × V)} {ys : List (NestedKey × Addr × Value)}, DenN G p H kvs xs → PN xs ys → ∀ y ∈ ys, (nestedKind X.prog X.w).is s.heap y.1 y.2.1
  | _, _, _, .nil, q, y, hy => by cases q; cases hy
  | _, _, _, .cons a b c d l, q, y, hy => by
    cases q with
    | cons r t =>
      rcases List.mem_cons.mp hy with e | hy
      · subst e
        obtain ⟨r1, r2, _⟩ := r
        rw [← r1, ← r2]
        exact a.at I hK b c
      · exact l.keys I hK t y hy
theorem nd_rd (I : Inv X pins σ H s) (hK : X.K = G.K) {a : Addr} {kvs : List (NestedKey × Mv × Mv)} {xs : List (NestedKey × Addr × V)} (e : Rd H a (NDo X.prog X.w a xs)) (l : DenN G p H kvs xs) :
    xs.length ≤ sizeLine ∧ (a == sysModules) = false ∧ ∃ ys, PN xs ys ∧ s.heap.DictOfH (nestedKind X.prog X.w) a ys := by
  obtain ⟨⟨z, y, ys, r, o, es, ep, h1, h2, h3, h4, h5⟩, _⟩ := e.ok I.hok
  exact ⟨z, y, ys, r, o, es, ep, h1, h2, h3, h4, l.keys I hK r, h5⟩
noncomputable def dnGet (nk : NestedKey) (kvs : List (NestedKey × Mv × Mv)) : Option Mv := List.rec (motive := fun _ => Option Mv) none (fun e _ ih => cond (kEq e.1 nk) (some e.2.2) ih) kvs
noncomputable def dnPut (nk : NestedKey) (kw v : Mv) (kvs : List (NestedKey × Mv × Mv)) : List (NestedKey × Mv × Mv) := List.rec (motive := fun _ => List (NestedKey × Mv × Mv)) [(nk, kw, v)] (fun e es ih => cond (kEq e.1 nk) ((e.1, e.2.1, v) :: es) (e :: ih)) kvs
theorem dnGet_cons {nk : NestedKey} {e : NestedKey × Mv × Mv} {es : List (NestedKey × Mv × Mv)} : dnGet nk (e :: es) = if e.1 = nk then some e.2.2 else dnGet nk es := by
  show cond (kEq e.1 nk) (some e.2.2) (dnGet nk es) = _
  rw [kEq_eq]
  by_cases h : e.1 = nk
  · rw [if_pos h, decide_eq_true h]; rfl
  · rw [if_neg h, decide_eq_false h]; rfl
theorem dnPut_cons {nk : NestedKey} {kw v : Mv} {e : NestedKey × Mv × Mv} {es : List (NestedKey × Mv × Mv)} : dnPut nk kw v (e :: es) = if e.1 = nk then (e.1, e.2.1, v) :: es else e :: dnPut nk kw v es := by
  show cond (kEq e.1 nk) ((e.1, e.2.1, v) :: es) (e :: dnPut nk kw v es) = _
  rw [kEq_eq]
  by_cases h : e.1 = nk
  · rw [if_pos h, decide_eq_true h]; rfl
  · rw [if_neg h, decide_eq_false h]; rfl
theorem atKey_cons {k : NestedKey} {y : NestedKey × Addr × Value} {ys : List (NestedKey × Addr × Value)} : atKey (y :: ys) k = if y.1 = k then some y.2 else atKey ys k := by
  unfold atKey
  rw [List.find?_cons]
  by_cases h : y.1 = k
  · rw [if_pos h, decide_eq_true h]; rfl
  · rw [if_neg h, decide_eq_false h]
theorem dn_get {nk : NestedKey} : ∀ {kvs : List (NestedKey × Mv × Mv)} {xs : List (NestedKey × Addr × V)} {ys : List (NestedKey × Addr × Value)}, DenN G p H kvs xs → PN xs ys →
    (dnGet nk kvs = none → atKey ys nk = none) ∧ ∀ w, dnGet nk kvs = some w → ∃ q v, atKey ys nk = some q ∧ Den G p H w v ∧ RelV v q.2
  | _, _, _, .nil, q => by cases q; exact ⟨fun _ => rfl, fun w h => by cases h⟩
  | _, _, _, .cons (k := k) (kw := kw) (w := w0) a b c d l, q => by
    cases q with
    | cons r t =>
      obtain ⟨r1, r2, r3⟩ := r
      have ih := dn_get (nk := nk) l t
      rw [dnGet_cons, atKey_cons]
      by_cases h : k = nk
      · rw [if_pos h, if_pos (r1.symm.trans h)]
        exact ⟨fun z => (by cases z), fun w z => by cases z; exact ⟨_, _, rfl, d, r3⟩⟩
      · rw [if_neg h, if_neg (fun z => h (r1.trans z))]
        exact ih
def stRec (k : NestedKey) (a : Addr) {α : Type} (v : α) : List (NestedKey × Addr × α) → List (NestedKey × Addr × α)
  | [] => [(k, a, v)]
  | y :: ys => if y.1 = k then (y.1, y.2.1, v) :: ys else y :: stRec k a v ys
theorem storedH_rec {k : NestedKey} {a : Addr} {v : Value} : ∀ {ys : List (NestedKey × Addr × Value)}, (ys.map (·.1)).Nodup → storedH ys k a v = stRec k a v ys
  | [], _ => rfl
  | y :: ys, nd => by
    rw [List.map_cons, List.nodup_cons] at nd
    have ih := storedH_rec (k := k) (a := a) (v := v) nd.2
    unfold stRec
    by_cases h : y.1 = k
    · have e : atKey (y :: ys) k = some y.2 := by rw [atKey_cons, if_pos h]
      rw [storedH_old e, if_pos h, List.map_cons]
      have e2 : ys.map (putAt k v) = ys := by
        rw [List.map_congr_left (g := id), List.map_id]
        intro x hx
        exact if_neg fun z => nd.1 (by rw [h, ← z]; exact List.mem_map_of_mem hx)
      rw [e2]
      unfold putAt
      rw [if_pos h]
    · rw [if_neg h, ← ih]
      have e : atKey (y :: ys) k = atKey ys k := by rw [atKey_cons, if_neg h]
      cases q : atKey ys k with
      | none => rw [storedH_new (e.trans q), storedH_new q]; rfl
      | some z =>
        rw [storedH_old (e.trans q), storedH_old q, List.map_cons]
        unfold putAt
        rw [if_neg h]
theorem PN.put {k : NestedKey} {a : Addr} {v : V} {u : Value} (rv : RelV v u) : ∀ {xs : List (NestedKey × Addr × V)} {ys : List (NestedKey × Addr × Value)}, PN xs ys → PN (stRec k a v xs) (stRec k a u ys)
  | _, _, .nil => .cons ⟨rfl, rfl, rv⟩ .nil
  | _, _, .cons (a := x) (b := y) r t => by
    unfold stRec
    by_cases h : x.1 = k
    · rw [if_pos h, if_pos (r.1.symm.trans h)]
      exact .cons ⟨r.1, r.2.1, rv⟩ t
    · rw [if_neg h, if_neg (fun z => h (r.1.trans z))]
      exact .cons r (PN.put rv t)
theorem DenN.put {k : NestedKey} {kw w : Mv} {b : Addr} {v : V} (hk : KeyM k kw) (hd : k.depth ≤ 8) (dk : Den G p H kw (.ref b)) (dv : Den G p H w v) : ∀ {kvs : List (NestedKey × Mv × Mv)} {xs : List (NestedKey × Addr × V)}, DenN G p H kvs xs → DenN G p H (dnPut k kw w kvs) (stRec k b v xs)
  | _, _, .nil => .cons hk hd dk dv .nil
  | _, _, .cons (k := k') a1 a2 a3 a4 l => by
    rw [dnPut_cons]
    unfold stRec
    by_cases h : k' = k
    · rw [if_pos h, if_pos h]; exact .cons a1 a2 a3 dv l
    · rw [if_neg h, if_neg h]; exact .cons a1 a2 a3 a4 (DenN.put hk hd dk dv l)
theorem stRec_len {k : NestedKey} {a : Addr} {α : Type} {v : α} : ∀ (ys : List (NestedKey × Addr × α)), (stRec k a v ys).length ≤ ys.length + 1
  | [] => Nat.le_refl _
  | y :: ys => by
    unfold stRec
    split
    · simp
    · have := stRec_len (k := k) (a := a) (v := v) ys
      simp only [List.length_cons]; omega
theorem DenN.length : ∀ {kvs : List (NestedKey × Mv × Mv)} {xs : List (NestedKey × Addr × V)}, DenN G p H kvs xs → kvs.length = xs.length
  | _, _, .nil => rfl
  | _, _, .cons _ _ _ _ l => congrArg Nat.succ l.length
end

end
section
/-! ### dicts: the mirror's words -/
noncomputable def kyEq (a b : Key) : Bool := Sum.rec (motive := fun _ => Bool) (fun i => Sum.rec (motive := fun _ => Bool) (fun j => iEq i j) (fun _ => false) b) (fun x => Sum.rec (motive := fun _ => Bool) (fun _ => false) (fun y => strEq x y) b) a
theorem kyEq_eq (a b : Key) : kyEq a b = decide (a = b) := by
  cases a with
  | inl i => cases b with
    | inl j => show iEq i j = _; rw [iEq_eq]; exact decide_eq_decide.mpr ⟨fun h => by rw [h], fun h => Sum.inl.inj h⟩
    | inr y => exact (decide_eq_false (fun h => by cases h)).symm
  | inr x => cases b with
    | inl j => exact (decide_eq_false (fun h => by cases h)).symm
    | inr y => show strEq x y = _; rw [strEq_eq]; exact decide_eq_decide.mpr ⟨fun h => by rw [h], fun h => Sum.inr.inj h⟩
noncomputable def key1 : Mv → Option Key
  | .int i => some (.inl i)
  | .str x => some (.inr x)
  | _ => none
noncomputable def keyT (w : Mv) : Option NestedKey := match w with
  | .tup _ => toK w 8
  | _ => none
noncomputable def dkGet (k : Key) (kvs : List (Key × Mv)) : Option Mv := List.rec (motive := fun _ => Option Mv) none (fun e _ ih => cond (kyEq e.1 k) (some e.2) ih) kvs
noncomputable def dkRep (k : Key) (v : Mv) (kvs : List (Key × Mv)) : List (Key × Mv) := List.rec (motive := fun _ => List (Key × Mv)) [] (fun e _ ih => cond (kyEq e.1 k) (e.1, v) e :: ih) kvs
noncomputable def dkPut (k : Key) (v : Mv) (kvs : List (Key × Mv)) : List (Key × Mv) := Option.rec (motive := fun _ => List (Key × Mv)) (lapp kvs [(k, v)]) (fun _ => dkRep k v kvs) (dkGet k kvs)
/-- what a dict holds at a key: no answer where the mirror does not know -/
noncomputable def dgetO (o : Mo) (k : Mv) : Option (Option Mv) := match o with
  | .dk kvs => match key1 k with
    | some ky => some (dkGet ky kvs)
    | none => match kvs with
      | [] => (keyT k).om fun _ => none
      | _ => none
  | .lk kvs => match key1 k with
    | some ky => some (dkGet ky kvs)
    | none => none
  | .dn kvs => (keyT k).om fun nk => dnGet nk kvs
  | .ln kvs => (keyT k).om fun nk => dnGet nk kvs
  | _ => none
noncomputable def dputO (o : Mo) (k v : Mv) : Option Mo := match o with
  | .dk kvs => match key1 k with
    | some ky => cond (Nat.blt (llen kvs) 16777216) (some (.dk (dkPut ky v kvs))) none
    | none => match kvs with
      | [] => (keyT k).om fun nk => .dn [(nk, k, v)]
      | _ => none
  | .dn kvs => cond (Nat.blt (llen kvs) 16777216) ((keyT k).om fun nk => .dn (dnPut nk k v kvs)) none
  | _ => none
section
variable {X : Cx} {pins : List (Addr × Obj)} {σ : L2.St} {H : Hp} {s : Shared} {G : Mg} {p : List Addr}
theorem keyT_ok {w : Mv} {k : NestedKey} (h : keyT w = some k) : (∃ ws, w = .tup ws) ∧ KeyM k w ∧ k.depth ≤ 8 := by
  cases w with
  | tup ws => exact ⟨⟨ws, rfl⟩, toK_ok _ _ _ h⟩
  | _ => cases h
theorem key1_ok {w : Mv} {k : Key} (h : key1 w = some k) {v : V} (d : Den G p H w v) : v = kV k := by
  cases w with
  | int i => cases h; cases d; rfl
  | str x => cases h; cases d; rfl
  | _ => cases h
/-- keys alike, values denoted -/
abbrev DK (G : Mg) (p : List Addr) (H : Hp) (kvs : List (Key × Mv)) (kvs' : List (Key × V)) : Prop := kvs'.map (·.1) = kvs.map (·.1) ∧ DenL G p H (kvs.map (·.2)) (kvs'.map (·.2))
theorem DK.inv {kvs : List (Key × Mv)} {kvs' : List (Key × V)} (h : DK G p H kvs kvs') : Paired (fun (a : Key × Mv) (b : Key × V) => a.1 = b.1 ∧ Den G p H a.2 b.2) kvs kvs' := by
  obtain ⟨h1, h2⟩ := h
  induction kvs generalizing kvs' with
  | nil =>
    cases kvs' with
    | nil => exact .nil
    | cons _ _ => cases h1
  | cons e es ih =>
    cases kvs' with
    | nil => cases h1
    | cons e' es' =>
      rw [List.map_cons, List.map_cons] at h1
      injection h1 with g1 g2
      cases h2 with
      | cons d l => exact .cons ⟨g1.symm, d⟩ (ih g2 l)
theorem DK.of {kvs : List (Key × Mv)} {kvs' : List (Key × V)} (h : Paired (fun (a : Key × Mv) (b : Key × V) => a.1 = b.1 ∧ Den G p H a.2 b.2) kvs kvs') : DK G p H kvs kvs' := by
  induction h with
  | nil => exact ⟨rfl, .nil⟩
  | cons r t ih => exact ⟨by rw [List.map_cons, List.map_cons, ih.1, r.1], .cons r.2 ih.2⟩
theorem dkGet_cons {k : Key} {e : Key × Mv} {es : List (Key × Mv)} : dkGet k (e :: es) = if e.1 = k then some e.2 else dkGet k es := by
  show cond (kyEq e.1 k) (some e.2) (dkGet k es) = _
  rw [kyEq_eq]
  by_cases h : e.1 = k
  · rw [if_pos h, decide_eq_true h]; rfl
  · rw [if_neg h, decide_eq_false h]; rfl
theorem dk_get {k : Key} {kvs : List (Key × Mv)} {kvs' : List (Key × V)} (h : Paired (fun (a : Key × Mv) (b : Key × V) => a.1 = b.1 ∧ Den G p H a.2 b.2) kvs kvs') : (dkGet k kvs = none → valV kvs' k = none) ∧ ∀ w, dkGet k kvs = some w → ∃ v, valV kvs' k = some v ∧ Den G p H w v := by
  induction h with
  | nil => exact ⟨fun _ => rfl, fun w z => by cases z⟩
  | cons r t ih =>
    rename_i a b as bs
    rw [dkGet_cons]
    by_cases h : a.1 = k
    · rw [if_pos h, valV_pos (r.1.symm.trans h)]
      exact ⟨fun z => (by cases z), fun w z => by cases z; exact ⟨_, rfl, r.2⟩⟩
    · rw [if_neg h, valV_neg (fun z => h (r.1.trans z))]
      exact ih
theorem dkRep_den {k : Key} {w : Mv} {v : V} (d : Den G p H w v) {kvs : List (Key × Mv)} {kvs' : List (Key × V)} (h : Paired (fun (a : Key × Mv) (b : Key × V) => a.1 = b.1 ∧ Den G p H a.2 b.2) kvs kvs') :
    Paired (fun (a : Key × Mv) (b : Key × V) => a.1 = b.1 ∧ Den G p H a.2 b.2) (dkRep k w kvs) (kvs'.map fun kv => if kv.1 = k then (kv.1, v) else kv) := by
  induction h with
  | nil => exact .nil
  | cons r t ih =>
    rename_i a b as bs
    rw [List.map_cons]
    show Paired _ (cond (kyEq a.1 k) (a.1, w) a :: dkRep k w as) _
    refine .cons ?_ ih
    rw [kyEq_eq]
    by_cases h : a.1 = k
    · rw [decide_eq_true h, if_pos (r.1.symm.trans h)]; exact ⟨r.1, d⟩
    · rw [decide_eq_false h, if_neg (fun z => h (r.1.trans z))]; exact r
theorem dk_put {k : Key} {w : Mv} {v : V} (d : Den G p H w v) {kvs : List (Key × Mv)} {kvs' : List (Key × V)} (h : DK G p H kvs kvs') : DK G p H (dkPut k w kvs) (putK kvs' k v) := by
  have P := h.inv
  have g := dk_get (k := k) P
  unfold dkPut putK
  rw [valV_any]
  cases e : dkGet k kvs with
  | none =>
    rw [g.1 e, if_neg (by simp), lapp_eq]
    refine DK.of (Paired.snoc P ⟨rfl, d⟩)
  | some z =>
    obtain ⟨v', h1, _⟩ := g.2 z e
    rw [h1, if_pos (by rfl)]
    exact DK.of (dkRep_den d P)
/-- the heap behind a store: what stands at the dict then -/
def DPA (G : Mg) (X : Cx) (H : Hp) (a : Addr) (y v : V) (ho' : HO) : Prop :=
  (∃ kvs k, H a = some (.dK kvs) ∧ y = kV k ∧ kvs.length < sizeLine ∧ ho' = .dK (putK kvs k v)) ∨
  ∃ p nk kw b, y = .ref b ∧ KeyM nk kw ∧ nk.depth ≤ 8 ∧ Den G p H kw (.ref b) ∧ ((H a = some (.dK []) ∧ ho' = NDo X.prog X.w a [(nk, b, v)]) ∨
    ∃ kvs xs, H a = some (NDo X.prog X.w a xs) ∧ DenN G p H kvs xs ∧ xs.length < sizeLine ∧ ho' = NDo X.prog X.w a (stRec nk b v xs))
/-- a dict with no entries, for tuples as keys -/
theorem dk_none {P : Program} {w : World} {h : Heap} {a : Addr} (dd : h.DictOf (mixKind P w) a []) : h.DictOfH (nestedKind P w) a [] := by
  obtain ⟨o, es, ep, h1, h2, h3, _, h5, _⟩ := dd
  refine ⟨o, es, ep, h1, h2, h3, ?_, (fun x hx => absurd hx (by simp)), List.nodup_nil⟩
  have := h5.length
  simp only [List.length_nil, Array.length_toList, Array.size_eq_zero_iff] at this
  rw [this]; rfl
theorem nd_new {P : Program} {w : World} {H' : Hp} {h' : Heap} {a : Addr} {xs : List (NestedKey × Addr × V)} {ys : List (NestedKey × Addr × Value)} (z : xs.length ≤ sizeLine) (hd : (a == sysModules) = false) (r : PN xs ys) (dd : h'.DictOfH (nestedKind P w) a ys) :
    ObjOk P w H' h' a (NDo P w a xs) := by
  obtain ⟨o, es, ep, h1, h2, h3, h4, _, h6⟩ := dd
  exact ⟨⟨z, hd, ys, r, o, es, ep, h1, h2, h3, h4, h6⟩, ⟨o, h1⟩, fun g1 g2 ⟨z, hd, ys, r, o, es, ep, h1, q⟩ k => ⟨z, hd, ys, r, o, es, ep, k o h1, q⟩⟩
theorem dpa_core {A : Around} {E : Value → Shared → Prop} {a : Addr} {y v : V} {u r : Value} {ho' : HO} {Q : Unit → Shared → Prop} {f : Value → Value → Sem Unit} (I : Inv X pins σ H s) (hK : X.K = G.K) (g : DPA G X H a y v ho') (ry : RelV y u) (rv : RelV v r) (h : ∀ s', Inv X pins σ (upd H a ho') s' → Q () s')
    (w1 : ∀ {kvs : List (Key × Value)} {k : Key} {key w : Value}, (mixKind X.prog X.w).is k key = true → s.heap.DictOf (mixKind X.prog X.w) a kvs → kvs.length ≤ sizeLine → (∀ h' t', h'.DictOf (mixKind X.prog X.w) a (stored kvs k w) → Heap.SameBut a s.heap h' → Q () { s with heap := h', toks := t' }) → wpAny (model X.prog X.w) A (f key w) Q E s)
    (w2 : ∀ {xs : List (NestedKey × Addr × Value)} {k : NestedKey} {b : Addr} {w : Value}, (nestedKind X.prog X.w).is s.heap k b → s.heap.DictOfH (nestedKind X.prog X.w) a xs → xs.length ≤ sizeLine → (∀ h' t', h'.DictOfH (nestedKind X.prog X.w) a (storedH xs k b w) → Heap.SameBut a s.heap h' → Q () { s with heap := h', toks := t' }) → wpAny (model X.prog X.w) A (f (.ref b) w) Q E s) :
    wpAny (model X.prog X.w) A (f u r) Q E s := by
  rcases g with ⟨kvs, k, e, ey, l, eH⟩ | ⟨p, nk, kw, b, ey, km, kd, dk, g⟩
  · subst ey eH
    obtain ⟨z, hd, vs, rel, dd⟩ := dk_of I.hok e
    have hl : (putK kvs k v).length ≤ sizeLine := by have := length_putK kvs k v; omega
    refine w1 (kV_is ry) dd (by rw [← rel.length]; exact z) fun h' t' dd' hs => h _ ?_
    exact d_write I (by rw [e]; exact True.intro) hs (let ⟨q, _, _, hq, _⟩ := dd'; ⟨q, hq⟩) (dk_new hl hd (rel.put k rv) dd')
  · subst ey
    cases (show u = Value.ref b from ry)
    have key := km.at I hK kd dk
    rcases g with ⟨e, eH⟩ | ⟨kvs, xs, e, l, hz, eH⟩
    · subst eH
      obtain ⟨z, hd, vs, rel, dd⟩ := dk_of I.hok e
      cases rel
      refine w2 key (dk_none dd) (Nat.zero_le _) fun h' t' dd' hs => h _ ?_
      exact d_write I (by rw [e]; exact True.intro) hs (let ⟨q, _, _, hq, _⟩ := dd'; ⟨q, hq⟩) (nd_new (by show 1 ≤ sizeLine; decide) hd (.cons ⟨rfl, rfl, rv⟩ .nil) dd')
    · subst eH
      obtain ⟨z, hd, ys, rel, dd⟩ := nd_rd I hK (.inl e) l
      have hl : (stRec nk b v xs).length ≤ sizeLine := by have := stRec_len (k := nk) (a := b) (v := v) xs; omega
      refine w2 key dd (by rw [← Paired.length rel]; exact z) fun h' t' dd' hs => h _ ?_
      rw [storedH_rec (by obtain ⟨_, _, _, _, _, _, _, _, q⟩ := dd; exact q)] at dd'
      exact d_write I (by rw [e]; exact True.intro) hs (let ⟨q, _, _, hq, _⟩ := dd'; ⟨q, hq⟩) (nd_new hl hd (PN.put rv rel) dd')
theorem dpa_setItem {A : Around} {E : Value → Shared → Prop} {a : Addr} {y v : V} {u r : Value} {ho' : HO} {Q : Unit → Shared → Prop} (hu : A.units + 64 < cLine) (I : Inv X pins σ H s) (hK : X.K = G.K) (g : DPA G X H a y v ho') (ry : RelV y u) (rv : RelV v r) (h : ∀ s', Inv X pins σ (upd H a ho') s' → Q () s') :
    wpAny (model X.prog X.w) A (setItem (.ref a) u r) Q E s :=
  dpa_core (f := fun u r => setItem (.ref a) u r) I hK g ry rv h (fun k d z q => wpAny_setItem_pairs (hsz := z) k d fun h' dd hs => q h' _ dd hs)
    (fun k d z q => wpAny_setItem_heap (hsz := z) (show A.in1.units + 8 < cLine by rw [Around.in1_units]; omega) k d fun h' dd hs => q h' _ dd hs)
/-- a store of the mirror is a store of the heap -/
theorem dputO_at {a : Addr} {ho : HO} {o o' : Mo} {kw w : Mv} {y v : V} (hP : X.prog = G.P) (hw : X.w = G.w) (h1 : H a = some ho) (d : DenO G p H a o ho) (q : dputO o kw w = some o') (dk : Den G p H kw y) (dv : Den G p H w v) :
    ∃ ho', DPA G X H a y v ho' ∧ DenO G p H a o' ho' ∧ (∀ vs, ho' ≠ .tup vs) ∧ unl o = true := by
  cases o with
  | dk kvs =>
    obtain ⟨kvs', rfl, c1, c2⟩ := d
    have c : DK G p H kvs kvs' := ⟨c1, c2⟩
    have hl : kvs.length = kvs'.length := by have := congrArg List.length c1; simpa using this.symm
    unfold dputO at q
    simp only at q
    cases ek : key1 kw with
    | some ky =>
      rw [ek] at q
      simp only [llen_eq] at q
      cases eb : Nat.blt kvs.length 16777216 with
      | false => rw [eb] at q; cases q
      | true =>
        rw [eb] at q; cases q
        have hz : kvs'.length < sizeLine := by rw [sz_eq, ← hl]; exact Nat.blt_eq.mp eb
        have := key1_ok ek dk
        exact ⟨_, .inl ⟨kvs', ky, h1, this, hz, rfl⟩, ⟨_, rfl, (dk_put dv c).1, (dk_put dv c).2⟩, fun _ z => (by cases z), rfl⟩
    | none =>
      rw [ek] at q
      cases kvs with
      | cons _ _ => cases q
      | nil =>
        cases kvs' with
        | cons _ _ => cases c1
        | nil =>
          obtain ⟨nk, g1, g2⟩ := omap_some.mp q
          subst g2
          obtain ⟨⟨ws, rfl⟩, km, kd⟩ := keyT_ok g1
          obtain ⟨b, vs, rfl, _, _⟩ := dk.tup_inv
          exact ⟨_, .inr ⟨p, nk, _, b, rfl, km, kd, dk, .inl ⟨h1, rfl⟩⟩, ⟨_, by rw [hP, hw], .cons km kd dk dv .nil⟩, fun _ z => (by cases z), rfl⟩
  | dn kvs =>
    obtain ⟨xs, rfl, l⟩ := d
    unfold dputO at q
    simp only [llen_eq] at q
    cases eb : Nat.blt kvs.length 16777216 with
    | false => rw [eb] at q; cases q
    | true =>
      rw [eb] at q
      obtain ⟨nk, g1, g2⟩ := omap_some.mp (show (keyT kw).om _ = some o' from q)
      subst g2
      obtain ⟨⟨ws, rfl⟩, km, kd⟩ := keyT_ok g1
      obtain ⟨b, vs, rfl, _, _⟩ := dk.tup_inv
      have hz : xs.length < sizeLine := by rw [sz_eq, ← l.length]; exact Nat.blt_eq.mp eb
      exact ⟨_, .inr ⟨p, nk, _, b, rfl, km, kd, dk, .inr ⟨kvs, xs, by rw [hP, hw]; exact h1, l, hz, rfl⟩⟩, ⟨_, by rw [hP, hw], DenN.put km kd dk dv l⟩, fun _ z => (by cases z), rfl⟩
  | _ => cases q
theorem dputO_ok {n : Nat} {a : Addr} {ms : Ms} {o o' : Mo} {kw w : Mv} {y v : V} (hP : X.prog = G.P) (hw : X.w = G.w) (S : Sim G p ms H) (hn : p[n]? = some a) (e : ms.get n = some o) (q : dputO o kw w = some o') (dk : Den G p H kw y) (dv : Den G p H w v) :
    ∃ ho', DPA G X H a y v ho' ∧ DenO G p H a o' ho' ∧ (∀ vs, ho' ≠ .tup vs) ∧ unl o = true :=
  let ⟨_, h1, d⟩ := S.get hn e
  dputO_at hP hw h1 d q dk dv
/-! ### d[k] = v -/
def rSetM (G : Mg) (X : Cx) : TSet := fun o i v H Q => rSetL o i v H Q ∨ ∃ a ho', o = .ref a ∧ DPA G X H a i v ho' ∧ Q (upd H a ho')
theorem set_any (hu : X.A.units + 64 < cLine) (hK : X.K = G.K) : PSet X (rSetM G X) := by
  intro pins s σ H o i v ov iv u Q I ro ri rv h
  rcases h with h | ⟨a, ho', rfl, g, q⟩
  · exact set_list pins s σ H o i v ov iv u Q I ro ri rv h
  · cases (show ov = Value.ref a from ro)
    exact dpa_setItem hu I hK g ri rv fun s' I' => ⟨_, I', q⟩
noncomputable def ssubA (O I A : Fe) : Fs := fun r s => (A r s).ob fun v => (O r v.2).ob fun o => (I r o.2).ob fun i => match o.1 with
  | .ref n => match i.2.get n with
    | some (.lst xs) => (match i.1 with
      | .int k => (ixN xs.length k).om fun j => (.nx, r, i.2.put n (.lst (xs.set j v.1)))
      | _ => none)
    | some d => (dputO d i.1 v.1).om fun d' => (.nx, r, i.2.put n d')
    | none => none
  | _ => none
variable {o : Expr} {pos : Pos}
theorem sm_subA {O I A : Fe} {i v : Expr} {tp : Pos} (h : PS X (.Assign [.Subscript o i tp] v pos) (tAsg (tI G A) (gSub (tI G O) (tI G I) (rSetM G X)))) (hP : X.prog = G.P := by rfl) (hw : X.w = G.w := by rfl) : PS X (.Assign [.Subscript o i tp] v pos) (tS G (ssubA O I A)) := ps_imp h fun D σ H ⟨p, s, r, fl, r', s', S, E, q, k⟩ => by
  obtain ⟨⟨y, s1⟩, q1, q2⟩ := ob_some.mp q
  obtain ⟨⟨x, s2⟩, q3, q4⟩ := ob_some.mp q2
  obtain ⟨⟨z, s3⟩, q5, q6⟩ := ob_some.mp q4
  refine ⟨p, s, r, y, s1, S, E, q1, fun p1 v1 H1 S1 f1 d1 => ⟨p1, s1, r, x, s2, S1, E.fra S f1, q3, fun p2 v2 H2 S2 f2 d2 => ⟨p2, s2, r, z, s3, S2, (E.fra S f1).fra S1 f2, q5, fun p3 v3 H3 S3 f3 d3 => ?_⟩⟩⟩
  have d1' := (d1.fra S1 f2).fra S2 f3
  have d2' := d2.fra S2 f3
  have E3 := ((E.fra S f1).fra S1 f2).fra S2 f3
  have ff := (f1.trans f2).trans f3
  cases x with
  | ref n =>
    cases d2'
    rename_i a hn
    simp only at q6
    cases e : s3.get n with
    | none => rw [e] at q6; cases q6
    | some ob =>
      rw [e] at q6
      have dict : (dputO ob z y).om (fun d' => (Fl.nx, r, s3.put n d')) = some (fl, r', s') → gSub (tI G O) (tI G I) (rSetM G X) v1 σ H1 (fun σ' H' => D.nx σ' H') → True := fun _ _ => trivial
      cases ob with
      | lst xs =>
        simp only at q6
        cases z with
        | int k0 =>
          cases d3
          obtain ⟨j, g1, g2⟩ := omap_some.mp q6
          cases g2
          obtain ⟨ho, h1, vs, rfl, l, hz⟩ := S3.get hn e
          rw [l.length] at g1
          obtain ⟨S4, f4⟩ := S3.put hn e rfl (ho := .lst (vs.set j v1)) (o := .lst (xs.set j y)) (fun _ z => by cases z) ⟨_, rfl, DenL.set d1' j l, by rw [List.length_set]; exact hz⟩
          refine .inl ⟨a, vs, k0, j, rfl, rfl, h1, g1, ?_⟩
          exact k p3 _ S4 (ff.trans f4) σ (E3.fra S3 f4)
        | _ => cases q6
      | _ =>
        obtain ⟨d', g1, g2⟩ := omap_some.mp q6
        cases g2
        obtain ⟨ho', g, dd, nt, ul⟩ := dputO_ok (X := X) hP hw S3 hn e g1 d3 d1'
        obtain ⟨S4, f4⟩ := S3.put hn e ul nt dd
        exact .inr ⟨a, ho', rfl, g, k p3 _ S4 (ff.trans f4) σ (E3.fra S3 f4)⟩
  | _ => cases q6
end

end
section
section
variable {X : Cx} {pins : List (Addr × Obj)} {σ : L2.St} {H : Hp} {s : Shared} {G : Mg} {p : List Addr}
end
section
variable {X : Cx} {pins : List (Addr × Obj)} {σ : L2.St} {H : Hp} {s : Shared} {G : Mg} {p : List Addr}
/-- the dict of the mirror at hand, with the heap behind it -/
inductive DAt (G : Mg) (X : Cx) (p : List Addr) (H : Hp) (a : Addr) : Mo → Prop
  | k {kvs : List (Key × Mv)} {kvs' : List (Key × V)} : Rd H a (.dK kvs') → DK G p H kvs kvs' → DAt G X p H a (.dk kvs)
  | lk {kvs : List (Key × Mv)} {kvs' : List (Key × V)} : Rd H a (.dK kvs') → DK G p H kvs kvs' → DAt G X p H a (.lk kvs)
  | n {kvs : List (NestedKey × Mv × Mv)} {xs : List (NestedKey × Addr × V)} : Rd H a (NDo X.prog X.w a xs) → DenN G p H kvs xs → DAt G X p H a (.dn kvs)
  | ln {kvs : List (NestedKey × Mv × Mv)} {xs : List (NestedKey × Addr × V)} : Rd H a (NDo X.prog X.w a xs) → DenN G p H kvs xs → DAt G X p H a (.ln kvs)
def isDict : Mo → Bool
  | .dk _ | .lk _ | .dn _ | .ln _ => true
  | _ => false
theorem Sim.dict {n : Nat} {a : Addr} {ms : Ms} {o : Mo} (hP : X.prog = G.P) (hw : X.w = G.w) (S : Sim G p ms H) (hn : p[n]? = some a) (e : ms.get n = some o) (hd : isDict o = true) : DAt G X p H a o := by
  obtain ⟨ho, h1, d⟩ := S.get hn e
  cases o with
  | dk kvs => obtain ⟨kvs', rfl, c⟩ := d; exact .k (.inl h1) c
  | lk kvs => obtain ⟨od, kvs', rfl, c⟩ := d; exact .lk (.inr ⟨od, h1⟩) c
  | dn kvs => obtain ⟨xs, rfl, l⟩ := d; exact .n (.inl (by rw [hP, hw]; exact h1)) l
  | ln kvs => obtain ⟨od, xs, rfl, l⟩ := d; exact .ln (.inr ⟨od, by rw [hP, hw]; exact h1⟩) l
  | _ => cases hd
/-- how the raw dict answers -/
inductive RawD (X : Cx) (s : Shared) (a : Addr) (u : Value) : Option Value → Prop
  | k {vs : List (Key × Value)} {k : Key} : (a == sysModules) = false → s.heap.DictOf (mixKind X.prog X.w) a vs → (mixKind X.prog X.w).is k u = true → RawD X s a u (valueAt vs k)
  | n {ys : List (NestedKey × Addr × Value)} {k : NestedKey} {b : Addr} : (a == sysModules) = false → s.heap.DictOfH (nestedKind X.prog X.w) a ys → u = .ref b → (nestedKind X.prog X.w).is s.heap k b → RawD X s a u ((atKey ys k).map (·.2))
theorem dget_raw {a : Addr} {o : Mo} {kw : Mv} {ow : Option Mv} {y : V} {u : Value} (I : Inv X pins σ H s) (hK : X.K = G.K) (D : DAt G X p H a o) (q : dgetO o kw = some ow) (dk : Den G p H kw y) (ry : RelV y u) :
    ∃ r, RawD X s a u r ∧ (ow = none → r = none) ∧ ∀ w, ow = some w → ∃ v r', r = some r' ∧ Den G p H w v ∧ RelV v r' := by
  have plain : ∀ {kvs : List (Key × Mv)} {kvs' : List (Key × V)} {ky : Key}, Rd H a (.dK kvs') → DK G p H kvs kvs' → key1 kw = some ky → ow = dkGet ky kvs → ∃ r, RawD X s a u r ∧ (ow = none → r = none) ∧ ∀ w, ow = some w → ∃ v r', r = some r' ∧ Den G p H w v ∧ RelV v r' := fun {kvs kvs' ky} rd c ek e => by
    obtain ⟨z, hd, vs, rel, dd⟩ := dk_rd I.hok rd
    have ey := key1_ok ek dk
    subst ey e
    have g := dk_get (k := ky) c.inv
    have rv := rel.val ky
    refine ⟨_, .k hd dd (kV_is ry), fun h => ?_, fun w h => ?_⟩
    · rw [g.1 h] at rv
      cases e2 : valueAt vs ky with
      | none => rfl
      | some _ => rw [e2] at rv; exact rv.elim
    · obtain ⟨v, g1, g2⟩ := g.2 w h
      rw [g1] at rv
      cases e2 : valueAt vs ky with
      | none => rw [e2] at rv; exact rv.elim
      | some r' => rw [e2] at rv; exact ⟨v, r', rfl, g2, rv⟩
  have nest : ∀ {kvs : List (NestedKey × Mv × Mv)} {xs : List (NestedKey × Addr × V)} {nk : NestedKey}, Rd H a (NDo X.prog X.w a xs) → DenN G p H kvs xs → keyT kw = some nk → ow = dnGet nk kvs → ∃ r, RawD X s a u r ∧ (ow = none → r = none) ∧ ∀ w, ow = some w → ∃ v r', r = some r' ∧ Den G p H w v ∧ RelV v r' := fun {kvs xs nk} rd l ek e => by
    obtain ⟨z, hd, ys, rel, dd⟩ := nd_rd I hK rd l
    obtain ⟨⟨ws, rfl⟩, km, kd⟩ := keyT_ok ek
    obtain ⟨b, vs, rfl, _, _⟩ := dk.tup_inv
    cases (show u = Value.ref b from ry)
    have g := dn_get (nk := nk) l rel
    subst e
    refine ⟨_, .n hd dd rfl (km.at I hK kd dk), fun h => by rw [g.1 h]; rfl, fun w h => ?_⟩
    obtain ⟨q', v, g1, g2, g3⟩ := g.2 w h
    exact ⟨v, q'.2, by rw [g1]; rfl, g2, g3⟩
  cases D with
  | k rd c =>
    rename_i kvs kvs'
    unfold dgetO at q
    simp only at q
    cases ek : key1 kw with
    | some ky => rw [ek] at q; cases q; exact plain rd c ek rfl
    | none =>
      rw [ek] at q
      cases kvs with
      | cons _ _ => cases q
      | nil =>
        obtain ⟨nk, g1, g2⟩ := omap_some.mp q
        subst g2
        have e0 : kvs' = [] := List.map_eq_nil_iff.mp c.1
        subst e0
        obtain ⟨z, hd, vs, rel, dd⟩ := dk_rd I.hok rd
        cases rel
        obtain ⟨⟨ws, rfl⟩, km, kd⟩ := keyT_ok g1
        obtain ⟨b, vs, rfl, _, _⟩ := dk.tup_inv
        cases (show u = Value.ref b from ry)
        exact ⟨_, .n hd (dk_none dd) rfl (km.at I hK kd dk), fun _ => rfl, fun w h => by cases h⟩
  | lk rd c =>
    unfold dgetO at q
    simp only at q
    cases ek : key1 kw with
    | some ky => rw [ek] at q; cases q; exact plain rd c ek rfl
    | none => rw [ek] at q; cases q
  | n rd l =>
    obtain ⟨nk, g1, g2⟩ := omap_some.mp (show (keyT kw).om _ = some ow from q)
    exact nest rd l g1 g2.symm
  | ln rd l =>
    obtain ⟨nk, g1, g2⟩ := omap_some.mp (show (keyT kw).om _ = some ow from q)
    exact nest rd l g1 g2.symm
variable {A : Around} {E : Value → Shared → Prop}
theorem RawD.typeIs {a : Addr} {u : Value} {r : Option Value} (R : RawD X s a u r) : s.TypeIs (.ref a) "dict" := by
  cases R with
  | k _ dd _ => exact dd.typeIs
  | n _ dd _ _ => exact dd.typeIs
theorem raw_in {a : Addr} {u : Value} {r : Option Value} {Q : Value → Shared → Prop} (hu : A.units + 64 < cLine) (I : Inv X pins σ H s) (R : RawD X s a u r) (h : ∀ s', Inv X pins σ H s' → Q (.bool r.isSome) s') : wpAny (model X.prog X.w) A (compareOp .In u (.ref a)) Q E s := by
  cases R with
  | k hd dd ku => exact wpAny_in_of ku hd dd.mapOf (h _ (I.tok _))
  | n hd dd eu ku =>
    subst eu
    refine in_keyed (show A.in1.units + 8 < cLine by rw [Around.in1_units]; omega) ku hd ⟨_, dd, rfl⟩ ?_
    rw [valueAt_pairsH]
    exact h _ (I.tok _)
theorem raw_nin {a : Addr} {u : Value} {r : Option Value} {Q : Value → Shared → Prop} (hu : A.units + 64 < cLine) (I : Inv X pins σ H s) (R : RawD X s a u r) (h : ∀ s', Inv X pins σ H s' → Q (.bool (!r.isSome)) s') : wpAny (model X.prog X.w) A (compareOp .NotIn u (.ref a)) Q E s := by
  cases R with
  | k hd dd ku => exact wpAny_notIn_of ku hd dd.mapOf (h _ (I.tok _))
  | n hd dd eu ku =>
    subst eu
    refine notIn_keyed (show A.in1.units + 8 < cLine by rw [Around.in1_units]; omega) ku hd ⟨_, dd, rfl⟩ ?_
    rw [valueAt_pairsH]
    exact h _ (I.tok _)
theorem raw_item {a : Addr} {u : Value} {r' : Value} {Q : Value → Shared → Prop} (hu : A.units + 64 < cLine) (I : Inv X pins σ H s) {r : Option Value} (R : RawD X s a u r) (er : r = some r') (h : ∀ s', Inv X pins σ H s' → Q r' s') : wpAny (model X.prog X.w) A (getItem (.ref a) u) Q E s := by
  cases R with
  | k hd dd ku => exact wpAny_getItem_of ku dd.mapOf er (h _ (I.tok _))
  | n hd dd eu ku =>
    subst eu
    exact getItem_keyed (show A.in1.units + 8 < cLine by rw [Around.in1_units]; omega) ku ⟨_, dd, rfl⟩ (by rw [valueAt_pairsH]; exact er) (h _ (I.tok _))
end
/-! ### k in d, d[k], d.get(k) -/
section
variable {X : Cx} {G : Mg} {a b e : Expr} {pos : Pos}
noncomputable def dinW (neg : Bool) (x y : Mv) (s : Ms) : Option (Mv × Ms) := match y with
  | .ref n => match s.get n with
    | some o => (dgetO o x).om fun r => (.bl (neg != r.isSome), s)
    | none => none
  | _ => none
noncomputable def inA (x y : Mv) (s : Ms) : Option (Mv × Ms) := Option.rec (motive := fun _ => Option (Mv × Ms)) (inW x y s) (fun r => some r) (dinW false x y s)
noncomputable def ninA (x y : Mv) (s : Ms) : Option (Mv × Ms) := Option.rec (motive := fun _ => Option (Mv × Ms)) (ninW x y s) (fun r => some r) (dinW true x y s)
theorem dgetO_dict {o : Mo} {k : Mv} {r : Option Mv} (h : dgetO o k = some r) : isDict o = true := by
  cases o with
  | lst _ => cases h
  | ins _ _ => cases h
  | box _ _ => cases h
  | tab _ _ => cases h
  | cod _ => cases h
  | _ => rfl
def rDI (G : Mg) (neg : Bool) : R2 := fun x y H Q => ∃ p s a b w s', Sim G p s H ∧ Den G p H a x ∧ Den G p H b y ∧ dinW neg a b s = some (w, s') ∧ After G p H w s' Q
theorem din_core {pins : List (Addr × Obj)} {σ : L2.St} {H : Hp} {s : Shared} {x y : V} {v u : Value} {neg : Bool} {Q : VK} (hK : X.K = G.K) (hP : X.prog = G.P) (hw : X.w = G.w) (I : Inv X pins σ H s) (rx : RelV x v) (ry : RelV y u) (h : rDI G neg x y H Q) :
    ∃ a r, u = .ref a ∧ RawD X s a v r ∧ ∀ s', Inv X pins σ H s' → EP X pins σ Q (.bool (neg != r.isSome)) s' := by
  obtain ⟨p, ms, a, b, w, ms', S, da, db, q, k⟩ := h
  cases b with
  | ref n =>
    cases db
    rename_i ad hn
    cases ry
    simp only [dinW] at q
    cases e : ms.get n with
    | none => rw [e] at q; cases q
    | some o =>
      rw [e] at q
      obtain ⟨r, q1, q2⟩ := omap_some.mp q
      cases q2
      obtain ⟨r', R, h1, h2⟩ := dget_raw I hK (S.dict hP hw hn e (dgetO_dict q1)) q1 da rx
      have er : r'.isSome = r.isSome := by
        cases r with
        | none => rw [h1 rfl]; rfl
        | some w =>
          obtain ⟨v', r2, g, _⟩ := h2 w rfl
          rw [g]; rfl
      refine ⟨ad, r', rfl, R, fun s' I' => ?_⟩
      rw [er]
      exact ⟨.bl (neg != r.isSome), H, I', rfl, k p _ H S Fra.refl (.bl _)⟩
  | _ => cases q
theorem op_din (hu : X.A.units + 64 < cLine) (hK : X.K = G.K) (hP : X.prog = G.P) (hw : X.w = G.w) : OpR X (compareOp .In) (rDI G false) := fun pins s σ H x y v u Q I rx ry h => by
  obtain ⟨a, r, rfl, R, f⟩ := din_core hK hP hw I rx ry h
  exact raw_in hu I R fun s' I' => by have := f s' I'; simpa using this
theorem op_dnin (hu : X.A.units + 64 < cLine) (hK : X.K = G.K) (hP : X.prog = G.P) (hw : X.w = G.w) : OpR X (compareOp .NotIn) (rDI G true) := fun pins s σ H x y v u Q I rx ry h => by
  obtain ⟨a, r, rfl, R, f⟩ := din_core hK hP hw I rx ry h
  exact raw_nin hu I R fun s' I' => by have := f s' I'; simpa using this
theorem om_inA (hu : X.A.units + 65 < cLine) (hK : X.K = G.K := by rfl) (hP : X.prog = G.P := by rfl) (hw : X.w = G.w := by rfl) : OpR X (compareOp .In) (q2R G inA) := opr_imp (OpR.or (op_din (by omega) hK hP hw) (om_in hu hK)) fun x y H Q ⟨p, s, a, b, w, s', S, da, db, q, k⟩ => by
  unfold inA at q
  cases e : dinW false a b s with
  | some z => rw [e] at q; cases q; exact .inl ⟨p, s, a, b, w, s', S, da, db, e, k⟩
  | none => rw [e] at q; exact .inr ⟨p, s, a, b, w, s', S, da, db, q, k⟩
theorem om_ninA (hu : X.A.units + 65 < cLine) (hK : X.K = G.K := by rfl) (hP : X.prog = G.P := by rfl) (hw : X.w = G.w := by rfl) : OpR X (compareOp .NotIn) (q2R G ninA) := opr_imp (OpR.or (op_dnin (by omega) hK hP hw) (om_nin hu hK)) fun x y H Q ⟨p, s, a, b, w, s', S, da, db, q, k⟩ => by
  unfold ninA at q
  cases e : dinW true a b s with
  | some z => rw [e] at q; cases q; exact .inl ⟨p, s, a, b, w, s', S, da, db, e, k⟩
  | none => rw [e] at q; exact .inr ⟨p, s, a, b, w, s', S, da, db, q, k⟩
/-- a[b] of lists, tuples, dicts, texts -/
noncomputable def dixW (a b : Mv) (s : Ms) : Option (Mv × Ms) := match a with
  | .ref n => match s.get n with
    | some o => (dgetO o b).ob fun r => r.om fun w => (w, s)
    | none => none
  | _ => none
noncomputable def sixW (a b : Mv) (s : Ms) : Option (Mv × Ms) := match a, b with
  | .str x, .int i => cond (Nat.ble x.length 16777216) ((atF x.cps.toList i).om fun c => (.str ⟨#[c]⟩, s)) none
  | _, _ => none
noncomputable def ixA (a b : Mv) (s : Ms) : Option (Mv × Ms) := Option.rec (motive := fun _ => Option (Mv × Ms)) (Option.rec (motive := fun _ => Option (Mv × Ms)) (sixW a b s) (fun r => some r) (dixW a b s)) (fun r => some r) (ixW a b s)
theorem ix_dictM (hu : X.A.units + 64 < cLine) (hK : X.K = G.K) (hP : X.prog = G.P) (hw : X.w = G.w) : IxR X (q2R G dixW) := by
  intro value slice pins s σ H x y v u Q I rx ry ⟨p, ms, a, b, w, ms', S, da, db, q, k⟩ hs
  cases a with
  | ref n =>
    cases da
    rename_i ad hn
    cases rx
    simp only [dixW] at q
    cases e : ms.get n with
    | none => rw [e] at q; cases q
    | some o =>
      rw [e] at q
      obtain ⟨r, q1, q2⟩ := ob_some.mp q
      obtain ⟨w', q3, q4⟩ := omap_some.mp q2
      cases q4
      obtain ⟨r', R, _, h2⟩ := dget_raw I hK (S.dict hP hw hn e (dgetO_dict q1)) q1 db ry
      obtain ⟨v', r2, g1, g2, g3⟩ := h2 w q3
      exact subscriptTail_builtinR (x := r2) R.typeIs PySem.F.slot_dict_getitem.lookup (raw_item hu I R g1 fun s' I' => ⟨rfl, v', H, I', g3, k p v' H S Fra.refl g2⟩) hs
  | _ => cases q
theorem ix_strM : IxR X (q2R G sixW) := ixr_imp ix_str fun x y H Q ⟨p, s, a, b, w, s', S, da, db, q, k⟩ => by
  cases a with
  | str z =>
    cases b with
    | int i =>
      cases da; cases db
      simp only [sixW] at q
      cases e : Nat.ble z.length 16777216 with
      | false => rw [e] at q; cases q
      | true =>
        rw [e] at q
        obtain ⟨c, q1, q2⟩ := omap_some.mp (show (atF z.cps.toList i).om _ = some (w, s') from q)
        cases q2
        exact ⟨z, i, c, rfl, rfl, ble_sz e, by rw [← atF_eq]; exact q1, k p _ H S Fra.refl (.str _)⟩
    | _ => cases q
  | _ => cases q
theorem ix_any (hu : X.A.units + 64 < cLine) (hK : X.K = G.K) (hP : X.prog = G.P) (hw : X.w = G.w) : IxR X (q2R G ixA) := ixr_imp (IxR.or (ixm hK) (IxR.or (ix_dictM hu hK hP hw) ix_strM)) fun x y H Q ⟨p, s, a, b, w, s', S, da, db, q, k⟩ => by
  unfold ixA at q
  cases e : ixW a b s with
  | some z => rw [e] at q; cases q; exact .inl ⟨p, s, a, b, w, s', S, da, db, e, k⟩
  | none =>
    rw [e] at q
    cases e2 : dixW a b s with
    | some z => rw [e2] at q; cases q; exact .inr (.inl ⟨p, s, a, b, w, s', S, da, db, e2, k⟩)
    | none => rw [e2] at q; exact .inr (.inr ⟨p, s, a, b, w, s', S, da, db, q, k⟩)
theorem pm_ixA {A B : Fe} (hu : X.A.units + 64 < cLine) (ha : PE X a (tI G A)) (hb : PE X b (tI G B)) (hs : PlainIx b := by exact fun _ _ => rfl) (hK : X.K = G.K := by rfl) (hP : X.prog = G.P := by rfl) (hw : X.w = G.w := by rfl) : PE X (.Subscript a b pos) (tI G (mop2 ixA A B)) := pe_imp (pe_ix (ix_any hu hK hP hw) ha hb hs) fun _ _ _ h => t_op2 h
end

end
section
/-! ### dicts that are walked: keys and items of a locked one -/
/-- a raw dict's entries, by values -/
structure EntRel (es : Array DictEntry) (ks : List (V × V)) : Prop where
  sz : es.size = ks.length
  get : ∀ (i : Nat) (kv : V × V), ks[i]? = some kv → ∃ h : i < es.size, RelV kv.1 es[i].key ∧ RelV kv.2 es[i].val
section
variable {P : Program} {w : World} {K : PySem.W.Frag} {d : Addr} {o : Obj} {u : HO} {es : Array DictEntry} {ep : Nat} {ks : List (V × V)}
end
section
variable {X : Cx} {pins : List (Addr × Obj)} {σ : L2.St} {H : Hp} {s : Shared} {G : Mg} {p : List Addr}
/-- the walker's view of a locked dict -/
structure Lkd (X : Cx) (s : Shared) (H : Hp) (d : Addr) (o : Obj) (u : HO) (es : Array DictEntry) (ep : Nat) (ks : List (V × V)) : Prop where
  at_ : H d = some (.frz o u)
  get : s.heap.get? d = some o
  ex : o.ExactDict
  da : o.data = .dict es ep
  sys : (d == sysModules) = false
  R : EntRel es ks
/-- pairs that are denoted -/
abbrev DenP (G : Mg) (p : List Addr) (H : Hp) : List (Mv × Mv) → List (V × V) → Prop := Paired (fun (a : Mv × Mv) (b : V × V) => Den G p H a.1 b.1 ∧ Den G p H a.2 b.2)
abbrev EntL := Paired (fun (e : DictEntry) (kv : V × V) => RelV kv.1 e.key ∧ RelV kv.2 e.val)
theorem paired_at {α β : Type} {R : α → β → Prop} : ∀ {l : List α} {m : List β}, Paired R l m → ∀ {i : Nat} {b : β}, m[i]? = some b → ∃ a, l[i]? = some a ∧ R a b
  | _, _, .nil, i, b, h => by simp at h
  | _, _, .cons r t, 0, b, h => by simp at h; subst h; exact ⟨_, rfl, r⟩
  | _, _, .cons r t, i + 1, b, h => by simpa using paired_at t (i := i) (by simpa using h)
theorem EntRel.of {es : Array DictEntry} {ks : List (V × V)} (h : EntL es.toList ks) : EntRel es ks := by
  refine ⟨by have := Paired.length h; simpa using this, fun i kv hk => ?_⟩
  obtain ⟨e, h1, h2⟩ := paired_at h hk
  rw [Array.getElem?_toList] at h1
  obtain ⟨hi, he⟩ := Array.getElem?_eq_some_iff.mp h1
  exact ⟨hi, by rw [he]; exact h2⟩
theorem DenP.stay {p' : List Addr} {H' : Hp} (z : Stays p H p' H') : ∀ {qs : List (Mv × Mv)} {ks : List (V × V)}, DenP G p H qs ks → DenP G p' H' qs ks
  | _, _, .nil => .nil
  | _, _, .cons r t => .cons ⟨r.1.stay z, r.2.stay z⟩ (DenP.stay z t)
end
/-! ### e.items(), a dict by its keys -/
section
variable {X : Cx} {G : Mg} {e : Expr} {apos cpos : Pos}
end
/-! ### the lock -/
section
variable {X : Cx} {G : Mg} {e : Expr} {p : List Addr} {H : Hp}
end

end
section
/-! ### dict comprehensions, keys of any kind -/
section
variable {X : Cx} {G : Mg}
end

end
section
/-! ### dict comprehensions in the mirror -/
noncomputable def newO (o : Mo) (s : Ms) : Option (Mv × Ms) := (s.alloc o).om fun q => (.ref q.1, q.2)
section
variable {X : Cx} {G : Mg}
/-- a thing outside of the store is changed -/
theorem Sim.out_upd {p : List Addr} {s : Ms} {H : Hp} {D : Addr} {ho ho' : HO} (S : Sim G p s H) (hD : H D = some ho) (nt : ∀ vs, ho ≠ .tup vs) (nf : ∀ o u, ho ≠ .frz o u) (n : D ∉ p) : Sim G p s (upd H D ho') ∧ Stays p H p (upd H D ho') ∧ ∀ a o u, H a = some (.frz o u) → upd H D ho' a = some (.frz o u) := by
  have fz : ∀ a o u, H a = some (.frz o u) → upd H D ho' a = some (.frz o u) := fun a o u e => by rw [upd_ne (by rintro rfl; rw [hD] at e; exact nf o u (Option.some.inj e))]; exact e
  have st : Stays p H p (upd H D ho') := ⟨fun _ _ e => e, fun a vs e => by rw [upd_ne (by rintro rfl; rw [hD] at e; exact nt vs (Option.some.inj e))]; exact e, fun a o u _ e => fz a o u e⟩
  refine ⟨⟨S.len, S.nd, fun m b hb => ?_, S.out⟩, st, fz⟩
  obtain ⟨o1, ho1, q1, q2, q3⟩ := S.ob m b hb
  have hne : b ≠ D := by rintro rfl; exact n (List.mem_of_getElem? hb)
  exact ⟨o1, ho1, q1, by rw [upd_ne hne]; exact q2, q3.stay st⟩
/-- while the dict at D grows, outside of the store -/
structure MidD (G : Mg) (D : Addr) (p1 : List Addr) (H1 : Hp) (acc : Mo) (p : List Addr) (s : Ms) (H : Hp) : Prop where
  S : Sim G p s H
  f : Fra p1 H1 p H
  n : D ∉ p
  a : ∃ ho, H D = some ho ∧ DenO G p H D acc ho ∧ unl acc = true ∧ ∀ vs, ho ≠ .tup vs
theorem MidD.fra {D : Addr} {p1 p p' : List Addr} {H1 H H' : Hp} {acc : Mo} {s s' : Ms} (M : MidD G D p1 H1 acc p s H) (S' : Sim G p' s' H') (f : Fra p H p' H') : MidD G D p1 H1 acc p' s' H' := by
  obtain ⟨ho, h1, h2, h3, h4⟩ := M.a
  exact ⟨S', M.f.trans f, f.notin h1 M.n, ho, f.kee D _ h1 M.n, h2.stay (f.stays M.S), h3, h4⟩
theorem MidD.start {D : Addr} {p1 : List Addr} {H1 : Hp} {s1 : Ms} (S : Sim G p1 s1 H1) (hD : H1 D = none) : MidD G D p1 H1 (.dk []) p1 s1 (upd H1 D (.dK [])) :=
  ⟨S.fra_new hD, fra_new hD, S.free hD, ⟨_, upd_same, ⟨[], rfl, rfl, .nil⟩, rfl, fun _ z => by cases z⟩⟩
theorem dput_unl {o o' : Mo} {k v : Mv} (h : dputO o k v = some o') : unl o' = true := by
  unfold dputO at h
  cases o with
  | dk kvs =>
    simp only at h
    cases e : key1 k with
    | some ky =>
      rw [e] at h
      simp only at h
      cases e2 : Nat.blt (llen kvs) 16777216 with
      | false => rw [e2] at h; cases h
      | true => rw [e2] at h; cases h; rfl
    | none =>
      rw [e] at h
      cases kvs with
      | cons _ _ => cases h
      | nil => obtain ⟨_, _, g⟩ := omap_some.mp h; subst g; rfl
  | dn kvs =>
    simp only at h
    cases e2 : Nat.blt (llen kvs) 16777216 with
    | false => rw [e2] at h; cases h
    | true => rw [e2] at h; obtain ⟨_, _, g⟩ := omap_some.mp (show (keyT k).om _ = some o' from h); subst g; rfl
  | _ => cases h
theorem MidD.put {D : Addr} {p1 p : List Addr} {H1 H : Hp} {acc acc' : Mo} {s : Ms} {kw w : Mv} {y v : V} (hP : X.prog = G.P) (hw : X.w = G.w) (M : MidD G D p1 H1 acc p s H) (hD : H1 D = none) (q : dputO acc kw w = some acc') (dk : Den G p H kw y) (dv : Den G p H w v) :
    ∃ ho', DPA G X H D y v ho' ∧ MidD G D p1 H1 acc' p s (upd H D ho') := by
  obtain ⟨ho, h1, h2, h3, h4⟩ := M.a
  obtain ⟨ho', g1, g2, g3, _⟩ := dputO_at (X := X) hP hw h1 h2 q dk dv
  obtain ⟨S', st, fz⟩ := M.S.out_upd (ho' := ho') h1 h4 (h2.unl h3) M.n
  refine ⟨ho', g1, S', ⟨M.f.pre, fun a o e n => ?_, fun a o u e => fz a o u (M.f.frz a o u e)⟩, M.n, ho', upd_same, g2.stay st, dput_unl q, g3⟩
  rw [upd_ne (by rintro rfl; rw [hD] at e; cases e)]
  exact M.f.kee a o e n
end

end
section
/-! ### further methods of lists; xs[i] += e -/
section
variable {X : Cx} {G : Mg} {e o : Expr} {pos : Pos}
end

end
section
/-! ### a dict displayed with one entry -/
section
variable {X : Cx} {G : Mg} {e o : Expr} {pos : Pos}
/-! ### methods of dicts with one argument -/
/-! ### d.update(d2) -/
end

end
section
/-! ### isinstance with an own class -/
structure IsC (K : PySem.W.Frag) (C : Addr) : Prop where
  tu : PySem.W.kitOne K (.type "tuple") (.ref C) = some false
  ls : PySem.W.kitOne K (.type "list") (.ref C) = some false
  ha : PySem.W.findIn K (.ref C) "__class__" = some (some (.builtin "object.__class__"))
  hn : PySem.W.specialIn K (.builtin "object.__class__") "__get__" = some (some (.builtin "getset_descriptor.__get__"))
  tk : PySem.W.takesIn K (.builtin "object.__class__") = some true
  hm : PySem.W.mroIn K C (.type "object") = some true
section
variable {X : Cx} {G : Mg} {a e o : Expr} {pos : Pos}
/-! ### dict(d), keys whole numbers and texts -/
theorem newO_fresh {p : List Addr} {s s' : Ms} {H : Hp} {o : Mo} {ho : HO} {w : Mv} {Q : VK} (S : Sim G p s H) (h : newO o s = some (w, s')) (k : After G p H w s' Q) {a : Addr} (ha : H a = none) (d : DenO G p H a o ho) : Q (.ref a) (upd H a ho) := by
  obtain ⟨⟨n, s1⟩, q1, q2⟩ := omap_some.mp h
  cases q2
  obtain ⟨S2, f2, d2⟩ := S.new q1 ha (ho := ho) (H' := upd H a ho) d upd_same fun b u eb => by rw [upd_ne (ne_of_none eb ha)]; exact eb
  exact k _ _ _ S2 f2 d2
/-! ### list(range(..)), tuple(range(..)) -/
/-! ### calls that leave parameters to their defaults -/
end

end
section
open PyProof.Rows.H
open PySem.W (EachIs alike alikeAll keyToks keyToksAll dataLt dataKind SortsAt dataType)
/-! ### sorting tuples that can be compared up to their first unlike places -/
/-- the two rows can be compared: alike up to the first place where they differ -/
def lz : List PyData → List PyData → Bool
  | x :: xs, y :: ys => alike x y && (!PyData.eqv x y || lz xs ys)
  | [], _ => true
  | _ :: _, [] => true
section
variable {prog : Program} {w : World} {A : Around} {s : Shared}
theorem katLex_lz {b fin : Bool} {Q : Bool → Shared → Prop} (xs : List PyData) : ∀ (ys : List PyData) (i : Nat) {vs ws : List Value} {as bs : List Addr}, ReadsAll s.heap vs xs as → ReadsAll s.heap ws ys bs → lz xs ys = true →
    A.units + min (PyData.depthAll xs) (PyData.depthAll ys) < cLine → (b = true → i = 0 → ∀ x r t, xs = x :: r → x ≠ .tuple t) → fin = decide (xs.length < ys.length) → Q (PyProof.Rows.lexLt itemOrd (keyToksAll xs) (keyToksAll ys)) s → PySem.W.KatLex prog w A b fin Q (vs.zip ws) i s := by
  induction xs with
  | nil => intro ys i vs ws as bs ra rb _ hu hb hf hq; exact PySem.W.katLex_alike [] ys i _ _ _ _ ra rb rfl hu hb hf hq
  | cons x xs ih =>
    intro ys i vs ws as bs ra rb h hu hb hf hq
    cases ys with
    | nil => exact PySem.W.katLex_alike (x :: xs) [] i _ _ _ _ ra rb rfl hu hb hf hq
    | cons y ys =>
      obtain ⟨h1, h2⟩ := He.ba h
      cases ra with
      | cons r rs =>
        cases rb with
        | cons r' rs' =>
          refine PySem.W.kat_cons (PySem.W.eqAt_alike x y A s _ _ _ _ r r' h1 (SeqAt.room_head hu) prog w _ _ ?_)
          cases hx : PyData.eqv x y with
          | true =>
            rw [PySem.W.dataLt_all_yes h1 hx] at hq
            rw [hx] at h2
            refine PySem.W.kat_yes (ih ys (i + 1) rs rs' h2 (SeqAt.room_tail hu) (fun _ z => absurd z (Nat.succ_ne_zero i)) ?_ hq)
            rw [hf, List.length_cons, List.length_cons]
            exact decide_eq_decide.mpr (by omega)
          | false =>
            rw [PySem.W.dataLt_all_no h1 hx] at hq
            refine PySem.W.kat_no (PySem.W.oneLt_alike (fun z t => ?_) r r' h1 (PySem.W.ne_none_of h1 hx) (SeqAt.room_head hu) hq)
            obtain ⟨z1, z2⟩ := He.ba z
            exact hb z1 (by simpa using z2) x xs t rfl
/-- tuples with an item at least, each two of which can be compared -/
structure LzAll (ds : List PyData) : Prop where
  tp : ∀ d, d ∈ ds → ∃ x r, d = .tuple (x :: r)
  lz : ∀ xs, PyData.tuple xs ∈ ds → ∀ ys, PyData.tuple ys ∈ ds → lz xs ys = true
theorem kind_of {h : Heap} {ds : List PyData} {v : Value} {d : PyData} {as : List Addr} (hd : d ∈ ds) (r : Reads h v d as) : (dataKind h ds).keyOf v = some (keyToks d) := by
  have q : ∃ d, d ∈ ds ∧ ∃ as, Reads h v d as := ⟨d, hd, as, r⟩
  cases e : (dataKind h ds).keyOf v with
  | none =>
    have z : (open Classical in if q : ∃ d, d ∈ ds ∧ ∃ as, Reads h v d as then some (keyToks q.choose) else none) = none := e
    rw [dif_pos q] at z
    cases z
  | some k =>
    obtain ⟨d', as', _, r', rfl⟩ := PySem.W.dataKind_inv e
    rw [(PySem.Reads.unique r _ _ r').1]; rfl
theorem sorts_lz {vs : List Value} {ds : List PyData} (e : EachIs (fun v d => ∃ as, Reads s.heap v d as) vs ds) (L : LzAll ds) (hu : ∀ d, d ∈ ds → A.units + d.depth < cLine) : SortsAt prog w A s (dataKind s.heap ds) vs := by
  refine ⟨fun v hv => ?_, ?_⟩
  · obtain ⟨d, hd, as, r⟩ := e.left v hv
    exact ⟨_, kind_of hd r⟩
  cases ds with
  | nil =>
    cases e
    refine ⟨general', fun E x y a b Q ha => ?_, fun z => absurd z (by simp)⟩
    obtain ⟨_, _, z, _⟩ := PySem.W.dataKind_inv ha
    cases z
  | cons d₀ ds₀ =>
    obtain ⟨x₀, r₀, e₀⟩ := L.tp d₀ (List.mem_cons_self ..)
    have first : ∀ x r, PyData.tuple (x :: r) ∈ d₀ :: ds₀ → dataType x = dataType x₀ := fun x r hm => by
      have z := L.lz _ hm (x₀ :: r₀) (by rw [← e₀]; exact List.mem_cons_self ..)
      exact PySem.W.dataType_alike (He.ba z).1
    refine ⟨tuples' (dataType x₀ != Value.type "tuple"), fun E x y a b Q ha hb hq => ?_, fun h2 E Q hq => ?_⟩
    · obtain ⟨d, as, hd, ra, rfl⟩ := PySem.W.dataKind_inv ha
      obtain ⟨d', as', hd', rb, rfl⟩ := PySem.W.dataKind_inv hb
      obtain ⟨x1, r1, rfl⟩ := L.tp d hd
      obtain ⟨x2, r2, rfl⟩ := L.tp d' hd'
      have hroom : A.units + min (PyData.tuple (x1 :: r1)).depth (PyData.tuple (x2 :: r2)).depth < cLine := Nat.lt_of_le_of_lt (Nat.add_le_add_left (Nat.min_le_left _ _) _) (hu _ hd)
      have hq' : Q (dataLt (.tuple (x1 :: r1)) (.tuple (x2 :: r2))) s := hq
      rw [PySem.W.dataLt_tuple] at hq'
      cases ra with
      | tuple a1 a2 a3 a4 =>
        cases rb with
        | tuple b1 b2 b3 b4 =>
          have n1 := SeqAt.ReadsAll.length _ _ _ a4
          have n2 := SeqAt.ReadsAll.length _ _ _ b4
          rw [Array.length_toList] at n1 n2
          refine PySem.W.kat_lt a1 a3 b1 b3 (katLex_lz (x1 :: r1) (x2 :: r2) 0 a4 b4 (L.lz _ hd _ hd') (by have := SeqAt.room_in hroom; omega) (fun z _ x r t ex => ?_) (by rw [n1, n2]) hq')
          cases ex
          rw [← first _ _ hd] at z
          exact PySem.W.dataType_tuple z t
    · obtain ⟨fs, t1, t2, t3⟩ := PySem.W.each_katTups e L.tp
      refine PySem.W.kat_kind (T := dataType x₀) t1 (by omega) (fun f hf => ?_) (beq_self_eq_true _) hq
      obtain ⟨x, r, as, m1, m2⟩ := t3 f hf
      rw [← first x r m1]
      exact PySem.W.looks_reads m2
end
/-! ### a sort that the kernel can run -/
section
variable {α : Type} {le : α → α → Bool}
noncomputable def ins1 (le : α → α → Bool) (x : α) (l : List α) : List α := List.rec (motive := fun _ => List α) [x] (fun y ys ih => cond (le x y) (x :: y :: ys) (y :: ih)) l
noncomputable def isort (le : α → α → Bool) (l : List α) : List α := List.rec (motive := fun _ => List α) [] (fun x _ ih => ins1 le x ih) l
theorem ins1_cons {x y : α} {ys : List α} : ins1 le x (y :: ys) = cond (le x y) (x :: y :: ys) (y :: ins1 le x ys) := rfl
theorem ins1_mem {x z : α} : ∀ {l : List α}, z ∈ ins1 le x l → z = x ∨ z ∈ l
  | [], h => .inl (by simpa [ins1] using h)
  | y :: ys, h => by
    rw [ins1_cons] at h
    cases e : le x y with
    | true => rw [e] at h; simpa using h
    | false =>
      rw [e] at h
      rcases List.mem_cons.mp (show z ∈ y :: ins1 le x ys from h) with z1 | z1
      · exact .inr (by rw [z1]; exact List.mem_cons_self ..)
      · rcases ins1_mem z1 with z2 | z2
        · exact .inl z2
        · exact .inr (List.mem_cons_of_mem _ z2)
theorem ins1_pw (T : PySem.W.TotalLe le) {x : α} : ∀ {l : List α}, l.Pairwise (fun a b => le a b = true) → (ins1 le x l).Pairwise fun a b => le a b = true
  | [], _ => by simp [ins1]
  | y :: ys, h => by
    rw [ins1_cons]
    obtain ⟨h1, h2⟩ := List.pairwise_cons.mp h
    cases e : le x y with
    | true =>
      refine List.pairwise_cons.mpr ⟨fun z hz => ?_, h⟩
      rcases List.mem_cons.mp hz with rfl | hz
      · exact e
      · exact T.trans _ _ _ e (h1 z hz)
    | false =>
      refine List.pairwise_cons.mpr ⟨fun z hz => ?_, ins1_pw T h2⟩
      rcases ins1_mem hz with rfl | hz
      · exact (T.total y z).elim id fun q => by rw [e] at q; cases q
      · exact h1 z hz
theorem ins1_filter (T : PySem.W.TotalLe le) (c x : α) : ∀ l : List α, (ins1 le x l).filter (PySem.W.sameRank le c) = (x :: l).filter (PySem.W.sameRank le c)
  | [] => rfl
  | y :: ys => by
    rw [ins1_cons]
    cases e : le x y with
    | true => rfl
    | false =>
      show (y :: ins1 le x ys).filter _ = _
      have ih := ins1_filter T c x ys
      rw [List.filter_cons, List.filter_cons, List.filter_cons, ih, List.filter_cons]
      cases e1 : PySem.W.sameRank le c x with
      | false => simp
      | true =>
        cases e2 : PySem.W.sameRank le c y with
        | false => simp
        | true =>
          have z : le x y = true := T.trans _ _ _ (He.ba e1).2 (He.ba e2).1
          rw [e] at z; cases z
theorem isort_eq (T : PySem.W.TotalLe le) (l : List α) : isort le l = l.mergeSort le := by
  refine PySem.W.sort_unique T ?_ fun c => ?_
  · induction l with
    | nil => exact .nil
    | cons x l ih => exact ins1_pw T ih
  · induction l with
    | nil => rfl
    | cons x l ih =>
      show (ins1 le x (isort le l)).filter _ = _
      rw [ins1_filter T, List.filter_cons, ih, List.filter_cons]
end
/-! ### data compared -/
noncomputable def tkLt (a b : Int ⊕ List Nat) : Bool := Sum.rec (motive := fun _ => Bool) (fun i => Sum.rec (motive := fun _ => Bool) (fun j => iLt i j) (fun _ => true) b) (fun x => Sum.rec (motive := fun _ => Bool) (fun _ => false) (fun y => ltCps x y) b) a
theorem tkLt_eq (a b : Int ⊕ List Nat) : tkLt a b = itemLt a b := by
  cases a <;> cases b
  · exact iLt_eq _ _
  · rfl
  · rfl
  · rename_i x y
    show ltCps x y = strKind.blt x y
    rw [ltCps_eq]
noncomputable def tksLt (a : List (Int ⊕ List Nat)) : List (Int ⊕ List Nat) → Bool := List.rec (motive := fun _ => List (Int ⊕ List Nat) → Bool) (fun b => List.rec (motive := fun _ => Bool) false (fun _ _ _ => true) b)
  (fun x _ ih b => List.rec (motive := fun _ => Bool) false (fun y t _ => cond (tkLt x y) true (cond (tkLt y x) false (ih t))) b) a
theorem tksLt_eq : ∀ a b : List (Int ⊕ List Nat), tksLt a b = PyProof.Rows.lexLt itemOrd a b
  | [], [] => rfl
  | [], _ :: _ => rfl
  | _ :: _, [] => rfl
  | x :: r, y :: t => by
    show cond (tkLt x y) true (cond (tkLt y x) false (tksLt r t)) = (itemLt x y || (!itemLt y x && PyProof.Rows.lexLt itemOrd r t))
    rw [tkLt_eq, tkLt_eq, tksLt_eq r t]
    cases itemLt x y <;> cases itemLt y x <;> rfl
noncomputable def dLt (x y : PyData) : Bool := tksLt (keyToks x) (keyToks y)
theorem dLt_eq (x y : PyData) : dLt x y = dataLt x y := tksLt_eq _ _
noncomputable def leD {α : Type} (a b : α × PyData) : Bool := !dLt b.2 a.2
theorem leD_eq {α : Type} : (leD : α × PyData → α × PyData → Bool) = PySem.W.sortLe (listOrd itemOrd) false fun b => keyToks b.2 := by
  funext a b
  show (!dLt b.2 a.2) = cond false _ (!PyProof.Rows.lexLt itemOrd (keyToks b.2) (keyToks a.2))
  rw [dLt_eq]; rfl
theorem leD_total {α : Type} : PySem.W.TotalLe (leD : α × PyData → α × PyData → Bool) := by rw [leD_eq]; exact PySem.W.sortLe_total _ _ _
section
variable {X : Cx} {G : Mg} {p : List Addr} {H : Hp}
theorem triples {h : Heap} : ∀ {ws : List Mv} {vs : List V} {its : List Value} {ds : List PyData} {as : List Addr}, DenL G p H ws vs → Vals vs its → ReadsAll h its ds as →
    ∃ T : List (V × Mv × PyData), EachIs (fun u t => RelV t.1 u ∧ Den G p H t.2.1 t.1) its T ∧ EachIs (fun u t => ∃ as, Reads h u t.2.2 as) its T ∧ T.map (·.2) = ws.zip ds ∧ T.map (·.2.2) = ds
  | [], _, _, ds, _, .nil, .nil, r => by cases r; exact ⟨[], .nil, .nil, rfl, rfl⟩
  | w :: ws, _, _, ds, _, .cons d l, .cons rv rs, r => by
    cases r with
    | cons r1 r2 =>
      obtain ⟨T, t1, t2, t3, t4⟩ := triples l rs r2
      exact ⟨(_, _, _) :: T, .cons ⟨rv, d⟩ t1, .cons ⟨_, r1⟩ t2, by rw [List.map_cons, t3]; rfl, by rw [List.map_cons, t4]⟩
theorem each_zip {α β : Type} {R R' : α → β → Prop} : ∀ {as : List α} {bs : List β}, EachIs R as bs → (∀ a b, b ∈ bs → R a b → R' a b) → EachIs R' as bs
  | _, _, .nil, _ => .nil
  | _, _, .cons h t, k => .cons (k _ _ (List.mem_cons_self ..) h) (each_zip t fun a b hb => k a b (List.mem_cons_of_mem _ hb))
theorem each_out : ∀ {us : List Value} {T : List (V × Mv × PyData)}, EachIs (fun u t => RelV t.1 u ∧ Den G p H t.2.1 t.1) us T → Vals (T.map (·.1)) us ∧ DenL G p H (T.map (·.2.1)) (T.map (·.1))
  | _, _, .nil => ⟨.nil, .nil⟩
  | _, _, .cons h t => ⟨.cons h.1 (each_out t).1, .cons h.2 (each_out t).2⟩
theorem data_sorted {h : Heap} {ws : List Mv} {vs : List V} {its : List Value} {ds : List PyData} {as : List Addr} (l : DenL G p H ws vs) (rv : Vals vs its) (r : ReadsAll h its ds as) :
    ∃ xs, Vals xs (PySem.W.sortVals (dataKind h ds) false its its) ∧ DenL G p H ((isort leD (ws.zip ds)).map (·.1)) xs := by
  obtain ⟨T, t1, t2, t3, t4⟩ := triples l rv r
  have key : EachIs (fun v b => (dataKind h ds).keyOf v = some (keyToks b.2.2)) its T := each_zip t2 fun a b hb ⟨as, q⟩ => kind_of (by rw [← t4]; exact List.mem_map.mpr ⟨b, hb, rfl⟩) q
  have out := PySem.W.sortVals_each (κ := dataKind h ds) (rev := false) (fun b : V × Mv × PyData => keyToks b.2.2) t1 key
  obtain ⟨o1, o2⟩ := each_out out
  refine ⟨_, o1, ?_⟩
  have e : (T.mergeSort (PySem.W.sortLe (dataKind h ds).toKeyOrd false fun b => keyToks b.2.2)).map (·.2) = isort leD (ws.zip ds) := by
    rw [isort_eq leD_total, ← t3]
    exact PySem.W.sort_maps (fun b : V × Mv × PyData => b.2) fun a _ b _ => by rw [leD_eq]; rfl
  rw [← e, List.map_map]
  exact o2
noncomputable def lzOk (ds : List PyData) : Bool := ds.all fun d => match d with
  | .tuple (x :: xs) => ds.all fun e => match e with
    | .tuple ys => lz (x :: xs) ys
    | _ => false
  | _ => false
theorem lzOk_ok {ds : List PyData} (h : lzOk ds = true) : LzAll ds := by
  have h1 := List.all_eq_true.mp h
  refine ⟨fun d hd => ?_, fun xs hx ys hy => ?_⟩
  · have := h1 d hd
    split at this
    · exact ⟨_, _, rfl⟩
    · cases this
  · have := h1 _ hx
    split at this
    · rename_i x r e
      cases e
      have z := List.all_eq_true.mp this _ hy
      exact z
    · cases this
noncomputable def sortedDW : Fn := fun ws s => match ws with
  | [w0] => (lstOf w0 s).ob fun xs => (toDL (toD 24 s) xs).ob fun ds => cond (lzOk ds) (newO (.lst ((isort leD (xs.zip ds)).map (·.1))) s) none
  | _ => none
theorem readsAll_each : ∀ {h : Heap} {us : List Value} {ds : List PyData} {as : List Addr}, ReadsAll h us ds as → EachIs (fun v d => ∃ as, Reads h v d as) us ds
  | _, [], _, _, r => by cases r; exact .nil
  | _, _ :: _, _, _, r => by cases r with | cons r1 r2 => exact .cons ⟨_, r1⟩ (readsAll_each r2)
theorem depth_in : ∀ {ds : List PyData} {n : Nat}, PyData.depthAll ds ≤ n → ∀ d ∈ ds, d.depth ≤ n
  | [], _, _, _, h => nomatch h
  | x :: xs, n, hd, d, h => by
    simp only [PyData.depthAll] at hd
    rcases List.mem_cons.mp h with rfl | h
    · omega
    · exact depth_in (n := n) (by omega) d h
theorem cm_sortedD (hu : X.A.units + 64 < cLine) (hK : X.K = G.K := by rfl) : CallR X (.builtin "sorted") (rF G sortedDW) := by
  intro pins s σ H vs us Q I r h
  obtain ⟨p, ms, ws, w, ms', S, l, q, k⟩ := h
  match ws, l, q with
  | [w0], .cons d .nil, q =>
    obtain ⟨xs, q1, q2⟩ := ob_some.mp (show (lstOf w0 ms).ob _ = some (w, ms') from q)
    obtain ⟨ds, q3, q4⟩ := ob_some.mp q2
    cases eb : lzOk ds with
    | false => rw [eb] at q4; cases q4
    | true =>
      rw [eb] at q4
      obtain ⟨a, vs, rfl, hq, lx⟩ := lstOf_ok S d q1
      rw [← hK] at hq
      obtain ⟨its, rv, pl, hz⟩ := I.list hq
      obtain ⟨o1, o2, o3⟩ := toDL_ok (n := 24) (toD_ok S 24) lx q3
      rw [← hK] at o1
      obtain ⟨as, ra⟩ := Dp.readsAll I ds vs its o1 rv
      have hlen := rv.length
      rw [Vals.ref1 r]
      have keepS : ∀ b ob, s.heap.get? b = some ob → (PySem.W.sortingHeap (PySem.W.copyHeap s.heap its) (s.heap.objs.size + 1) its).get? b = some ob := fun b ob e => PySem.W.sorting_copy_old e
      have er : ∃ as, ReadsAll (PySem.W.sortingHeap (PySem.W.copyHeap s.heap its) (s.heap.objs.size + 1) its) its ds as := ⟨as, PyProof.Rows.ReadsAll.keeps keepS ra⟩
      obtain ⟨as', ra'⟩ := er
      have srt : SortsAt X.prog X.w X.A.in1.in1 { s with heap := PySem.W.sortingHeap (PySem.W.copyHeap s.heap its) (s.heap.objs.size + 1) its } (dataKind (PySem.W.sortingHeap (PySem.W.copyHeap s.heap its) (s.heap.objs.size + 1) its) ds) its :=
        sorts_lz (readsAll_each ra') (lzOk_ok eb) fun d hd => by
          have := depth_in o3 d hd
          rw [Around.in1_units, Around.in1_units]; omega
      obtain ⟨zs, z1, z2⟩ := data_sorted lx rv ra'
      refine PySem.W.sorted_vals pl.isList srt (by rw [← hlen]; exact hz) ?_
      obtain ⟨ep, he'⟩ := PyProof.Rows.sortedAll_at s.heap its (PySem.W.sortVals (dataKind (PySem.W.sortingHeap (PySem.W.copyHeap s.heap its) (s.heap.objs.size + 1) its) ds) false its its).toArray
      have hl2 : zs.length ≤ sizeLine := by
        rw [z1.length, PySem.W.sortVals_length false rfl, ← hlen]; exact hz
      exact ⟨.ref _, upd H (s.heap.objs.size + 1) (.lst zs), I.laid (t' := s.toks) (fun _ _ => PyProof.Rows.sortedAll_old) (Nat.le_succ _) ⟨hl2, _, ep, z1, he'⟩, rfl, newO_fresh S q4 k (I.hok.fresh (Nat.le_succ _)) ⟨zs, rfl, z2, hl2⟩⟩
end

end
section
open PyProof.Rows.H
open PySem.W (EachIs alike alikeAll keyToks keyToksAll dataLt dataKind SortsAt dataType)
/-! ### sorted(d.items()) -/
section
variable {X : Cx} {pins : List (Addr × Obj)} {σ : L2.St} {H : Hp} {s : Shared} {G : Mg} {p : List Addr}
end

end
section
open PySem.SeqAt PySem.MeetsSeq
/-! ### x < y of tuples, asked up to the first unlike place -/
/-- the places of two tuples, one after the other: the first unlike one answers -/
inductive Lex (A : Around) (s : Shared) (fin : Bool) : List (Value × Value) → Bool → Prop
  | nil : Lex A s fin [] fin
  | yes {y x : Value} {t : List (Value × Value)} {k : Bool} : EqAt A s y x true → Lex A s fin t k → Lex A s fin ((y, x) :: t) k
  | no {y x : Value} {t : List (Value × Value)} {k : Bool} : EqAt A s y x false → RcLt A s y x k → Lex A s fin ((y, x) :: t) k
section
variable {A : Around} {s : Shared}
end
end
section
/-! ### a lambda of one parameter and no free names is called -/
/-! ### a lambda is made -/
section
variable {X : Cx} {pins : List (Addr × Obj)} {σ : L2.St} {H : Hp} {s : Shared} {G : Mg} {p : List Addr}
end

end
section
/-! ### min(xs, key=lambda x: (len(x), x)) -/
section
variable {X : Cx} {pins : List (Addr × Obj)} {σ : L2.St} {H : Hp} {s : Shared} {h' : Heap}
/-- what is known of a lambda that was made, and of the list that is asked -/
structure Lm (X : Cx) (pins : List (Addr × Obj)) (σ : L2.St) (H : Hp) (s0 : Shared) (f d l : Addr) (q : Str) (fo : Obj) (as : List Addr) : Prop where
  inv : Inv X pins σ H s0
  fo : s0.heap.get? f = some fo
  nf : H f = none
  fr : f ∉ frs X.stack
  cd : H d = some (LamX.CodeO d q)
  li : H l = some (.lst (as.map V.ref))
/-- while the keys are asked: H' has tuples more -/
structure JJ (X : Cx) (pins : List (Addr × Obj)) (σ : L2.St) (H : Hp) (f : Addr) (fo : Obj) (it S : Addr) (H' : Hp) (s : Shared) : Prop where
  inv : Inv X pins σ H' s
  ext : ∀ b o, H b = some o → H' b = some o
  hi : ∀ b, H b = none → H' b = none ∨ ∃ xs, H' b = some (.tup xs)
  nI : H' it = none
  nS : H' S = none
  fo : s.heap.get? f = some fo
  nf : H' f = none
end

end
section
/-! ### min(xs, key=lambda x: (len(x), x)) in the mirror -/
section
variable {X : Cx} {G : Mg} {p : List Addr} {H : Hp}
end

end
section
/-! ### texts, sign by sign; a sign in a text -/
noncomputable def signs (x : Str) : List Mv := x.cps.toList.map fun c => .str ⟨#[c]⟩
noncomputable def miX (A : Fe) : Fi := fun r s => (A r s).ob fun x => match x.1 with
  | .str y => some (.seq (signs y), x.2)
  | _ => none
section
variable {X : Cx} {G : Mg} {e : Expr}
theorem itr_txt {p0 : List Addr} {H0 : Hp} {x : Str} : ItR G (Its x) (.seq (signs x)) p0 H0 := by
  intro p s H i S st fz
  have key : ∀ o, lget (signs x) i = o → o = (x.cps[i]?).map fun c => Mv.str ⟨#[c]⟩ := fun o h => by
    rw [← h, lget_eq]
    unfold signs
    rw [List.getElem?_map, Array.getElem?_toList]
  constructor
  · intro q
    have q' : lget (signs x) i = none := by simpa [It0.at] using q
    have := key _ q'
    cases e : x.cps[i]? with
    | some c => rw [e] at this; cases this
    | none => exact Array.getElem?_eq_none_iff.mp e
  · intro w q
    have q' : lget (signs x) i = some w := by simpa [It0.at] using q
    have := key _ q'
    cases e : x.cps[i]? with
    | none => rw [e] at this; cases this
    | some c =>
      rw [e] at this
      cases this
      refine ⟨(Array.getElem?_eq_some_iff.mp e).1, fun v H' yl => ?_⟩
      obtain ⟨rfl, c', e', rfl⟩ := yl
      rw [e] at e'; cases e'
      exact ⟨S, Fra.refl, .str _⟩
theorem im_txt {tg : Expr} {A : Fe} (h : PE X e (tI G A)) : PI X tg e (tIt G (miX A)) := pi_imp (pi_str h) fun σ H R ⟨p, s, r, it, s', S, E, q, k⟩ => by
  obtain ⟨⟨x, s1⟩, q1, q2⟩ := ob_some.mp q
  refine ⟨p, s, r, x, s1, S, E, q1, fun p1 v1 H1 S1 f1 d1 => ?_⟩
  cases d1 <;> try (cases q2; done)
  cases q2
  exact ⟨_, rfl, k p1 H1 _ S1 f1 itr_txt⟩
noncomputable def sgIn (x y : Mv) (s : Ms) : Option (Mv × Ms) := match x, y with
  | .str a, .str z => match a.cps.toList with
    | [c] => some (.bl (z.cps.toList.any fun d => Nat.beq d c), s)
    | _ => none
  | _, _ => none
theorem any_beq (c : Nat) : ∀ l : List Nat, (l.any fun d => Nat.beq d c) = decide (c ∈ l)
  | [] => by simp
  | d :: l => by
    rw [List.any_cons, any_beq c l]
    by_cases h : d = c
    · subst h; rw [beq_t]; simp
    · rw [beq_f h]
      have : ¬ c = d := fun z => h z.symm
      simp [this]
theorem om_sgIn : OpR X (compareOp .In) (q2R G sgIn) := opr_imp op_in_sign fun x y H Q ⟨p, s, a, b, w, s', S, da, db, q, k⟩ => by
  cases a with
  | str a =>
   cases b with
   | str z =>
    cases da
    cases db
    simp only [sgIn] at q
    split at q
    · rename_i c ec
      cases q
      have e : a = ⟨#[c]⟩ := by
        cases a with
        | mk cps =>
          have : cps.toList = [c] := ec
          have : cps = #[c] := by cases cps; simp_all
          rw [this]
      subst e
      exact ⟨c, z, rfl, rfl, by rw [← any_beq]; exact k p _ H S Fra.refl (.bl _)⟩
    · cases q
   | _ => cases q
  | _ => cases q
end

end
section
/-! ### len(set(t)), t a tuple of texts -/
/-- each once, by its first place -/
def ddS (l : List Str) : List Str := l.foldl (fun acc x => if x ∈ acc then acc else acc ++ [x]) []
theorem ddS_snoc (l : List Str) (x : Str) : ddS (l ++ [x]) = if x ∈ ddS l then ddS l else ddS l ++ [x] := by
  unfold ddS
  rw [List.foldl_append]
  rfl
theorem ddS_mem (l : List Str) : ∀ y, y ∈ ddS l ↔ y ∈ l := by
  suffices h : ∀ (n : Nat) (l : List Str), l.length = n → ∀ y, y ∈ ddS l ↔ y ∈ l from h _ l rfl
  intro n
  induction n with
  | zero => intro l hl y; rw [List.length_eq_zero_iff.mp hl]; exact Iff.rfl
  | succ n ih =>
    intro l hl y
    obtain ⟨l', x, rfl⟩ : ∃ l' x, l = l' ++ [x] := by
      have hne : l ≠ [] := fun z => by rw [z] at hl; cases hl
      exact ⟨l.dropLast, l.getLast hne, (List.dropLast_concat_getLast hne).symm⟩
    have ihl := ih l' (by rw [List.length_append] at hl; simpa using hl)
    rw [ddS_snoc]
    split
    · rename_i hx
      rw [ihl, List.mem_append, List.mem_singleton]
      refine ⟨.inl, fun z => z.elim id fun e => ?_⟩
      rw [e]; exact (ihl x).mp hx
    · rw [List.mem_append, ihl, List.mem_append]
theorem ddS_le (l : List Str) : (ddS l).length ≤ l.length := by
  suffices h : ∀ (l acc : List Str), (l.foldl (fun acc x => if x ∈ acc then acc else acc ++ [x]) acc).length ≤ acc.length + l.length by
    simpa [ddS] using h l []
  intro l
  induction l with
  | nil => intro acc; simp
  | cons x l ih =>
    intro acc
    rw [List.foldl_cons]
    refine Nat.le_trans (ih _) ?_
    rw [List.length_cons]
    split
    · omega
    · rw [List.length_append, List.length_singleton]; omega
section
variable {prog : Program} {w : World} {A : Around} {R : Result → Shared → Prop} {I : Addr} {fp wr : List Addr} {G : Array GenState → Array GenState → Prop} {n : Nat} {P : Nat → Value → Prop} {St : Nat → Shared → Prop}
theorem loop_txts (W : WalksS prog w A.in1 I fp wr G n P St) (S : Addr) (hSf : S ∉ fp) (xs : List Str) (hn : xs.length = n) (hb : n + 1 < scanBound) (hval : ∀ i v, P i v → ∃ y t, xs[i]? = some y ∧ v = .str y t) (k : Nat) :
    ∀ (i : Nat) (s : Shared), n - i = k → i ≤ n → St i s → s.heap.SetOf (PySem.strKind prog w) S (fun y => decide (y ∈ xs.take i)) (ddS (xs.take i)).length →
      (∀ s', Moved (S :: wr) G s s' → s'.heap.SetOf (PySem.strKind prog w) S (fun y => decide (y ∈ xs)) (ddS xs).length → R (.ok (.ret .none)) s') → codeAny (model prog w) A (.builtin "set.update.loop" ⟨[.ref S, .ref I], []⟩) R s := by
  have nw : S ∉ wr := fun z => hSf (W.sub _ z)
  have into : ∀ b ∈ wr, b ∈ S :: wr := fun b z => List.mem_cons_of_mem _ z
  have carry : ∀ {s s' : Shared} {F : Str → Bool} {c : Nat}, Moved wr G s s' → s.heap.SetOf (PySem.strKind prog w) S F c → s'.heap.SetOf (PySem.strKind prog w) S F c := fun m ⟨o, es, ep, t, ho, rest⟩ => ⟨o, es, ep, t, m.heap S _ nw ho, rest⟩
  induction k with
  | zero =>
    intro i s hk hi st hS hR
    have e : i = n := by omega
    have et : xs.take i = xs := List.take_of_length_le (by omega)
    rw [et] at hS
    refine codeAny_builtin PyProof.Rows.F.entry_set_update_loop ?_
    rw [Around.under_plainId PyProof.Rows.F.plain_set_update_loop]
    refine wpAny_bind (m := pyNext (.ref I)) (W.done s _ _ (e ▸ st) fun s' m => ?_)
    exact wpAny_pure (hR s' (m.mono into) (carry m hS))
  | succ k ih =>
    intro i s hk hi st hS hR
    have lt : i < n := by omega
    refine codeAny_builtin PyProof.Rows.F.entry_set_update_loop ?_
    rw [Around.under_plainId PyProof.Rows.F.plain_set_update_loop]
    refine wpAny_bind (m := pyNext (.ref I)) (W.item i s _ _ lt st fun v s' hP st' m => ?_)
    obtain ⟨y, t, hy, rfl⟩ := hval i v hP
    refine wpAny_bind (m := holding [Value.str y t] (setAdd S (.str y t))) (wpAny_holding ?_)
    unfold setAdd
    refine wpAny_holding (wpAny_bind ((PySem.strKind prog w).pyHash (k := y) (strKind_is _ _ _ _) ?_))
    have hSm := carry m hS
    have hle := ddS_le (xs.take i)
    rw [List.length_take] at hle
    refine wpAny_setAddHashed_of (knd := PySem.strKind prog w) (s := { s' with toks := s'.toks + 1 }) (strKind_is _ _ _ _) rfl hSm (by omega) fun h' sb hS2 => ?_
    have tk : xs.take (i + 1) = xs.take i ++ [y] := by rw [List.take_add_one, hy]; rfl
    have hS3 : h'.SetOf (PySem.strKind prog w) S (fun z => decide (z ∈ xs.take (i + 1))) (ddS (xs.take (i + 1))).length := by
      refine SetOf_congr hS2 (fun z => ?_) ?_
      · rw [tk]; simp [List.mem_append]
      · rw [tk, ddS_snoc]
        by_cases h : y ∈ xs.take i
        · rw [if_pos ((ddS_mem _ y).mpr h), if_pos (decide_eq_true h)]
        · rw [if_neg (fun z => h ((ddS_mem _ y).mp z)), if_neg (by simpa using h), List.length_append]; rfl
    refine wpAny_pure ⟨plainId_quiet PyProof.Rows.F.plain_set_update_loop _, ih (i + 1) _ (by omega) lt (W.frame _ s' _ _ st' (Nat.le_succ _) fun b hb o eo => ?_) hS3 fun s2 m2 hS4 => ?_⟩
    · rw [sb.2 b (fun z => hSf (z ▸ hb))]; exact eo
    · refine hR s2 (Moved.trans W.gtrans ((m.mono into).then_heap (Nat.le_succ _) fun b o hb eo => ?_) m2) hS4
      rw [sb.2 b (fun z => hb (by rw [z]; exact List.mem_cons_self))]; exact eo
end
section
variable {prog : Program} {w : World} {A : Around} {E : Value → Shared → Prop} {s : Shared}
abbrev newSetO (b : Bool) : Obj := { cls := .type "set", dict := none, data := .set #[] 0 (.fresh 0 0 b) }
theorem call_set_txt {l : Addr} {us : Array Value} {xs : List Str} {Q : Value → Shared → Prop} (hh : A.handled = none) (hl : s.heap.IsTuple l us) (hx : PyProof.Rows.StrsAre us.toList xs) (hb : xs.length + 1 < scanBound)
    (h : ∀ (h' : Heap) (tk : Nat), h'.SetOf (PySem.strKind prog w) s.heap.objs.size (fun y => decide (y ∈ xs)) (ddS xs).length → (∀ b o, s.heap.get? b = some o → h'.get? b = some o) → Q (.ref s.heap.objs.size) { s with heap := h', toks := tk }) :
    wpAny (model prog w) A (call (.type "set") [.ref l]) Q E s := by
  obtain ⟨c0, t0, m0⟩ := PySem.F.called_set.mro
  have m1 := PySem.F.called_set.made
  have m2 := PySem.F.called_set.sub
  have m3 := PySem.F.called_set.notType
  have m4 := PySem.F.called_set.canCreate
  have m5 := PySem.F.typeCall_set_1 (.ref l)
  apply wpAny_call
  apply codeAny_of_tree
  show wpAny _ _ (callAny (.type "set") ⟨[.ref l], []⟩) _ _ s
  refine wpAny_pure ⟨Code.quiet_builtin _ (by decide +kernel), ?_⟩
  refine codeAny_builtin PySem.F.entry_type_call ?_
  rw [Around.under_plain (weight_type_call_type "set" [Value.ref l] []) rfl]
  repeat any_goals (first | assumption | wp_step)
  refine codeAny_mono (code_set_new_1 (.ref l) (E := E) (Q₁ := fun v s1 => ∃ b : Bool, v = .ref s.heap.objs.size ∧ s1 = { s with heap := s.heap.push (newSetO b) }) fun b => ⟨b, rfl, rfl⟩) fun r s1 hr => ?_
  cases r with
  | error e => exact hr
  | ok fl =>
    cases fl with
    | ret v =>
      obtain ⟨b, rfl, rfl⟩ := hr
      have gS : (s.heap.push (newSetO b)).get? s.heap.objs.size = some (newSetO b) := Heap.get?_push_size _ rfl
      have tS : Shared.TypeIs { s with heap := s.heap.push (newSetO b) } (.ref s.heap.objs.size) "set" := ⟨_, gS, rfl⟩
      have i1 := PySem.F.called_set.init.lookup
      have i2 := PySem.F.called_set.init.bind (.ref s.heap.objs.size)
      repeat any_goals (first | assumption | wp_step)
      refine codeAny_mono (codeAny_call_builtin (R := wants (fun r s2 => r = .none ∧ ∃ h' tk, s2 = { s with heap := h', toks := tk } ∧ h'.SetOf (PySem.strKind prog w) s.heap.objs.size (fun y => decide (y ∈ xs)) (ddS xs).length ∧ ∀ b o, s.heap.get? b = some o → h'.get? b = some o) E)
        PySem.F.called_set.init.plain PySem.F.entry_set_init (check_set_init_1 tS ?_)) fun r2 s2 hr2 => ?_
      · obtain ⟨⟨oc, od, oa, os⟩, g, c1, m, c2⟩ := hl
        simp only at c1 c2
        subst c1 c2
        have g1 : (s.heap.push (newSetO b)).get? l = some { cls := .type "tuple", dict := od, data := .seq us m, slots := os } := Heap.get?_push_of_some _ g
        have j1 := PySem.F.sub_tuple_set
        have j2 := PySem.F.sub_tuple_frozenset
        have j3 : (Value.type "tuple" == Value.type "dict") = false := by decide
        have hl1 : (s.heap.push (newSetO b)).IsTuple l us := ⟨_, g1, rfl, m, rfl⟩
        unfold Builtin.«set.__init__» noKeywords Builtin.Frozenset.updateFrom
        generalize eI : pyIter = PI
        wp_walk
        subst eI
        refine wpAny_pyIter_tuple hl1 (wpAny_bind (wpAny_runValue ?_))
        have ll : l < s.heap.objs.size := Heap.lt_size g
        have sz1 : (s.heap.push (newSetO b)).objs.size = s.heap.objs.size + 1 := Heap.size_push _ _
        have nl : l ≠ (s.heap.push (newSetO b)).objs.size := by rw [sz1]; exact Nat.ne_of_lt (Nat.lt_succ_of_lt ll)
        have nS : s.heap.objs.size ∉ [(s.heap.push (newSetO b)).objs.size, l] := fun z => by
          rcases List.mem_cons.mp z with z | z
          · rw [sz1] at z; exact Nat.ne_of_lt (Nat.lt_succ_self _) z
          · exact Nat.ne_of_gt ll (List.mem_singleton.mp z)
        have len : xs.length = us.size := by rw [← StrsAre.len_eq hx, Array.length_toList]
        have vals : ∀ (i : Nat) (v : Value), us[i]? = some v → ∃ y t, xs[i]? = some y ∧ v = .str y t := fun i v hv => by
          obtain ⟨t, e⟩ := SS.strs_at hx i v (by rw [Array.getElem?_toList]; exact hv)
          have lt : i < xs.length := by rw [len]; exact (Array.getElem?_eq_some_iff.mp hv).1
          exact ⟨xs[i], t, List.getElem?_eq_getElem lt, by rw [e, List.getD_eq_getElem?_getD, List.getElem?_eq_getElem lt]; rfl⟩
        refine loop_txts ((Walks.tuple (show A.in1.in1.in1.handled = none from hh) _ l nl us).toS) s.heap.objs.size nS xs len (by rw [← len]; exact hb) vals (us.size - 0) 0 _ rfl (Nat.zero_le _) ⟨⟨_, Heap.get?_push_size _ rfl, rfl, rfl⟩, hl1.push _⟩ ?_ fun s3 mv hS3 => ?_
        · have g2 : ((s.heap.push (newSetO b)).push { cls := .type "tuple_iterator", data := .fields #[.ref l, .int 0 0] }).get? s.heap.objs.size = some (newSetO b) := Heap.get?_push_of_some _ gS
          exact SetOf_congr ((PyProof.Rows.setObjOf_fresh (knd := PySem.strKind prog w) b).setOf g2 (by unfold scanBound; omega)) (fun _ => by simp) rfl
        · obtain ⟨h3, g3, d3, k3, o3⟩ := s3
          obtain rfl : g3 = s.gens := mv.gens
          obtain rfl : d3 = s.drawn := mv.drawn
          obtain rfl : o3 = s.os := mv.os
          refine wpAny_pure (show wpAny _ _ (ret Value.none) _ _ _ from wpAny_pure ⟨rfl, h3, k3, rfl, hS3, fun a o ho => ?_⟩)
          refine mv.heap a o (fun z => ?_) (Heap.get?_push_of_some _ (Heap.get?_push_of_some _ ho))
          have la := Heap.lt_size ho
          rcases List.mem_cons.mp z with z | z
          · rw [z] at la; exact Nat.lt_irrefl _ la
          · rw [List.mem_singleton.mp z, sz1] at la; exact Nat.not_lt.mpr (Nat.le_succ _) la
      · cases r2 with
        | error e => exact hr2
        | ok fl2 =>
          cases fl2 with
          | ret v2 =>
            obtain ⟨rfl, h', tk, rfl, hS, hk⟩ := hr2
            repeat any_goals (first | assumption | wp_step)
            exact h _ _ hS hk
          | _ => exact hr2.elim
    | _ => exact hr.elim
end

end
section
noncomputable def ddF (l : List Str) : List Str := l.foldl (fun acc x => cond (acc.any fun y => strEq y x) acc (acc ++ [x])) []
theorem any_str (x : Str) : ∀ l : List Str, (l.any fun y => strEq y x) = decide (x ∈ l)
  | [] => by simp
  | y :: l => by
    rw [List.any_cons, any_str x l, strEq_eq]
    by_cases h : y = x
    · subst h; simp
    · have : ¬ x = y := fun z => h z.symm
      simp [h, this]
theorem ddF_eq (l : List Str) : ddF l = ddS l := by
  unfold ddF ddS
  congr 1
  funext acc x
  rw [any_str]
  by_cases h : x ∈ acc
  · rw [if_pos h, decide_eq_true h]; rfl
  · rw [if_neg h, decide_eq_false h]; rfl
noncomputable def mlenS (A : Fe) : Fe := fun r s => (A r s).ob fun x => match x.1 with
  | .tup ws => (strsOf ws).ob fun ys => cond (Nat.ble (llen ys) 1000) (some (.int ((ddF ys).length : Nat), x.2)) none
  | _ => none
section
variable {X : Cx} {G : Mg} {a : Expr}
theorem pm_lenS {A : Fe} {p p2 q pos : Pos} (hc : X.calm = true) (hg : Gl X "len") (hm : X.mg "len" = none) (hg2 : Gl X "set") (hm2 : X.mg "set" = none) (ha : PE X a (tI G A)) (na : starEach [a] X.env = (false, eval a X.env) :: starEach [] X.env := by rfl) (hK : X.K = G.K := by rfl) :
    PE X (.Call (.Name "len" p) [.Call (.Name "set" p2) [a] [] q] [] pos) (tI G (mlenS A)) := by
  refine ⟨fun pins s σ H Q I ⟨p0, ms, r, w, ms', S, Er, q0, kk⟩ => ?_⟩
  obtain ⟨⟨xv, s1⟩, q1, q2⟩ := ob_some.mp q0
  refine Call_ (ld_blt I hg hm boot_len (PyProof.Rows.callWith_builtin1 (PyProof.Rows.args_cons (Call_ (ld_blt I hg2 hm2 boot_set ?_)) rfl) rfl rfl))
  refine PyProof.Rows.callWith_type1 (PyProof.Rows.args_cons (thn (ha.run pins s σ H (fun v1 H1 => ∃ p1, Sim G p1 s1 H1 ∧ Fra p0 H p1 H1 ∧ Den G p1 H1 xv v1) I ⟨p0, ms, r, xv, s1, S, Er, q1, fun p1 v1 H1 S1 f1 d1 => ⟨p1, S1, f1, d1⟩⟩) fun u t1 ⟨vx, H1, I1, rx, p1, S1, f1, d1⟩ => PyProof.Rows.args_nil ?_) na) na rfl
  cases xv with
  | tup ws =>
    obtain ⟨ys, q3, q4⟩ := ob_some.mp q2
    cases eb : Nat.ble (llen ys) 1000 with
    | false => rw [eb] at q4; cases q4
    | true =>
      rw [eb] at q4; cases q4
      obtain ⟨l, vs, rfl, sq, lx⟩ := d1.tup_inv
      cases rx
      rw [← hK] at sq
      have ev := (strsOf_ok lx q3).1
      subst ev
      obtain ⟨its, rv, tp, _⟩ := I1.tuple sq
      have hlen : ys.length ≤ 1000 := by rw [← llen_eq]; exact Nat.le_of_ble_eq_true eb
      refine call_set_txt (I1.ok.hd hc) tp (by simpa using strsAre_of rv) (by unfold scanBound; omega) fun h' tk hS hk => ?_
      obtain ⟨o, es, ep, t, ho, hex, hd, _, _, _, hf, hn⟩ := hS
      have I2 : Inv X pins σ H1 { t1 with heap := h', toks := tk } := I1.kept hk
      refine PyProof.Rows.args_nil (call_len_set ho hex hd hf (by have := ddS_le ys; rw [hn]; omega) ⟨.int ((ddF ys).length : Nat), H1, I2.tok _, ⟨_, by rw [hn, ddF_eq]⟩, kk p1 _ H1 S1 f1 (.int _)⟩)
  | _ => cases q2
end

end
section
/-! ### xs[::k], k a written number above nought -/
section
variable {X : Cx} {G : Mg} {e : Expr} {pos : Pos}
end

end
section
/-! ### a small store, written out; a run over a part of the store -/
noncomputable def push (s : Ms) (o : Mo) : Ms := ⟨Nat.succ s.sz, s.t.set s.sz o⟩
theorem push_get (s : Ms) (o : Mo) (n : Nat) : (push s o).get n = if n = s.sz then some o else s.get n := Mt.get_set s.t s.sz o n
theorem put_get' (s : Ms) (b : Nat) (o : Mo) (n : Nat) : (s.put b o).get n = if n = b then some o else s.get n := Mt.get_set s.t b o n
section
variable {G : Mg}
theorem Sim.part {p p0 q x : List Addr} {s s1 s' : Ms} {H H' : Hp} (S : Sim G p s H) (h0 : ∀ a ∈ p0, a ∈ p) (S1 : Sim G (p0 ++ q) s1 H') (f1 : Fra p0 H (p0 ++ q) H') (hx : ∀ a ∈ x, a ∈ q) (xnd : x.Nodup) (hlen : s'.sz = s.sz + x.length) (hout : ∀ n, s'.sz ≤ n → s'.get n = none)
    (hold : ∀ n a, p[n]? = some a → a ∉ p0 → s'.get n = s.get n) (hnew : ∀ n a, (p ++ x)[n]? = some a → a ∈ p0 ∨ a ∈ x → ∃ o ho, s'.get n = some o ∧ H' a = some ho ∧ DenO G (p ++ x) H' a o ho) : Sim G (p ++ x) s' H' ∧ Fra p H (p ++ x) H' := by
  have fresh : ∀ a ∈ q, H a = none := fun a ha => by
    obtain ⟨q', e, hq⟩ := f1.pre
    have e' : q = q' := List.append_cancel_left e
    subst e'
    refine hq a ha fun z => ?_
    have := S1.nd
    rw [List.nodup_append] at this
    exact this.2.2 a z a ha rfl
  have nin : ∀ a ∈ q, a ∉ p := fun a ha z => by
    obtain ⟨n, hn⟩ := List.mem_iff_getElem?.mp z
    obtain ⟨_, _, _, e, _⟩ := S.ob n a hn
    rw [fresh a ha] at e; cases e
  have ff : Fra p H (p ++ x) H' := ⟨⟨x, rfl, fun a ha _ => fresh a (hx a ha)⟩, fun a o e n => f1.kee a o e fun z => n (h0 a z), f1.frz⟩
  have st := ff.stays S
  refine ⟨⟨by rw [List.length_append, S.len, hlen], ?_, fun n a ha => ?_, hout⟩, ff⟩
  · rw [List.nodup_append]
    exact ⟨S.nd, xnd, fun a ha b hb => by rintro rfl; exact nin a (hx a hb) ha⟩
  · by_cases c : a ∈ p0 ∨ a ∈ x
    · exact hnew n a ha c
    · have hn : n < p.length := by
        refine Nat.lt_of_not_le fun z => ?_
        rw [List.getElem?_append_right z] at ha
        exact c (.inr (List.mem_of_getElem? ha))
      have ha' : p[n]? = some a := by rw [← List.getElem?_append_left hn]; exact ha
      obtain ⟨o, ho, q1, q2, q3⟩ := S.ob n a ha'
      have c0 : a ∉ p0 := fun z => c (.inl z)
      exact ⟨o, ho, by rw [hold n a ha' c0]; exact q1, f1.kee a ho q2 c0, q3.stay st⟩
/-! ### a def that makes a lambda: its table, made or not yet -/
noncomputable def tmade (l c : Nat) (q : Str) (s : Ms) (j : Nat) : Prop := s.get 0 = some (.tab 0 (some (l, c, j))) ∧ s.get j = some (.cod q)
noncomputable def isCod (q : Str) : Option Mo → Bool
  | some (.cod q') => strEq q q'
  | _ => false
noncomputable def mkTab (l c : Nat) (q : Str) (s : Ms) : Ms := push (s.put 0 (.tab 0 (some (l, c, s.sz)))) (.cod q)
theorem mkTab_get {l c : Nat} {q : Str} {s : Ms} (n : Nat) : (mkTab l c q s).get n = if n = s.sz then some (.cod q) else if n = 0 then some (.tab 0 (some (l, c, s.sz))) else s.get n := by
  unfold mkTab
  rw [push_get, put_get']
  rfl
/-- the state behind a run that leaves the table made; which tables it began with -/
noncomputable def behind (l c : Nat) (q : Str) (s : Ms) : Option Ms := match s.get 0 with
  | some (.tab 0 none) => some (mkTab l c q s)
  | some (.tab 0 (some x)) => cond (Nat.beq l x.1 && (Nat.beq c x.2.1 && isCod q (s.get x.2.2))) (some s) none
  | _ => none
variable {P : Program} {w : World} {K : PySem.W.Frag} {mg : Str → Option Value} {base : Heap} {k : Nat} {fa : Addr} {fd : FuncData} {ps : List Str}
/-! ### a def of plain arguments that tells True -/
end

end
section
/-! ### a def of one source that makes some draws, tells True and leaves the table made -/
noncomputable def boxN (ks : List Int) : Option Mo → Option Nat
  | some (.box m []) => cond (Nat.ble (m + ks.length) 1000000) (some (m + ks.length)) none
  | some (.lst [.int a, .int c, .int n]) => cond (decide (0 ≤ a) && (decide (0 ≤ c) && (decide (c < 2 ^ 62) && (decide (n = 0) && Nat.ble ks.length 1000000)))) (some ks.length) none
  | _ => none
section
variable {G : Mg} {P : Program} {w : World} {K : PySem.W.Frag} {mg : Str → Option Value} {base : Heap} {k : Nat} {fa : Addr} {fd : FuncData} {ps : List Str}
noncomputable def rightT (l c : Nat) (q : Str) (ks : List Int) : Fn := fun ws s => match ws with
  | [.ref b] => (boxN ks (s.get b)).ob fun m => (behind l c q (s.put b (.box m []))).om fun s' => (.bl true, s')
  | _ => none
end
/-! ### the law's loop, with a table and a script of either kind -/
/-- the source b stands behind m draws -/
noncomputable def Bx (s : Ms) (b m : Nat) : Prop := (m = 0 ∧ ∃ A C : Int, s.get b = some (.lst [.int A, .int C, .int 0]) ∧ 0 ≤ A ∧ 0 ≤ C ∧ C < 2 ^ 62) ∨ s.get b = some (.box m [])
theorem boxN_bx {ks : List Int} {s : Ms} {b m : Nat} (h : Bx s b m) (hm : m + ks.length ≤ 1000000) : boxN ks (s.get b) = some (m + ks.length) := by
  rcases h with ⟨rfl, A, C, h, h1, h2, h3⟩ | h
  · rw [h]
    show cond (decide (0 ≤ A) && (decide (0 ≤ C) && (decide (C < 2 ^ 62) && (decide ((0 : Int) = 0) && Nat.ble ks.length 1000000)))) (some ks.length) none = _
    rw [decide_eq_true h1, decide_eq_true h2, decide_eq_true h3, decide_eq_true rfl, Nat.ble_eq_true_of_le (by omega), Nat.zero_add]
    rfl
  · rw [h]
    show cond (Nat.ble (m + ks.length) 1000000) (some (m + ks.length)) none = _
    rw [cond_t (Nat.ble_eq_true_of_le hm)]
/-- what stands while the law runs: the table, the script -/
structure LInv (l c : Nat) (q : Str) (lo : Nat) (sv : Mv) (ns : List Int) (s : Ms) : Prop where
  sz : lo ≤ s.sz
  lo0 : 0 < lo
  tab : s.get 0 = some (.tab 0 none) ∨ ∃ j, j < s.sz ∧ tmade l c q s j
  scr : sv = .fl (ns.map .int) ∨ ∃ i, sv = .ref i ∧ i ≠ 0 ∧ i < lo ∧ s.get i = some (.lst (ns.map .int))
theorem LInv.push {l c : Nat} {q : Str} {lo : Nat} {sv : Mv} {ns : List Int} {s : Ms} (h : LInv l c q lo sv ns s) (o : Mo) : LInv l c q lo sv ns (push s o) := by
  have z := h.sz
  have z0 := h.lo0
  refine ⟨by show lo ≤ s.sz + 1; omega, h.lo0, ?_, ?_⟩
  · rcases h.tab with e | ⟨j, hj, e1, e2⟩
    · exact .inl (by rw [push_get, if_neg (by omega)]; exact e)
    · exact .inr ⟨j, by show j < s.sz + 1; omega, by rw [push_get, if_neg (by omega)]; exact e1, by rw [push_get, if_neg (by omega)]; exact e2⟩
  · rcases h.scr with e | ⟨i, e, h0, hi, e2⟩
    · exact .inl e
    · exact .inr ⟨i, e, h0, hi, by rw [push_get, if_neg (by omega)]; exact e2⟩
theorem LInv.right {l c : Nat} {q : Str} {lo : Nat} {sv : Mv} {ns : List Int} {s : Ms} {ks : List Int} {b m : Nat} (h : LInv l c q lo sv ns s) (hlo : lo ≤ b) (hb : b < s.sz) (B : Bx s b m) (hm : m + ks.length ≤ 1000000) : ∃ s', rightT l c q ks [.ref b] s = some (.bl true, s') ∧ LInv l c q lo sv ns s' ∧ b < s'.sz ∧ Bx s' b (m + ks.length) := by
  have z := h.sz
  have z0 := h.lo0
  have run : ∀ s', behind l c q (s.put b (.box (m + ks.length) [])) = some s' → rightT l c q ks [.ref b] s = some (.bl true, s') := fun s' e => by
    show (boxN ks (s.get b)).ob (fun m => (behind l c q (s.put b (.box m []))).om fun s' => (Mv.bl true, s')) = _
    rw [boxN_bx B hm, ob_of, e]
    rfl
  rcases h.tab with e | ⟨j, hj, e1, e2⟩
  · refine ⟨mkTab l c q (s.put b (.box (m + ks.length) [])), run _ ?_, ⟨?_, z0, .inr ⟨s.sz, Nat.lt_succ_self _, ?_, ?_⟩, ?_⟩, ?_, .inr ?_⟩
    · unfold behind
      have e' : (s.put b (.box (m + ks.length) [])).get 0 = some (.tab 0 none) := by rw [put_get', if_neg (by omega)]; exact e
      rw [e']
      rfl
    · show lo ≤ s.sz + 1; omega
    · rw [mkTab_get]
      show (if 0 = s.sz then _ else if 0 = 0 then some (Mo.tab 0 (some (l, c, s.sz))) else _) = _
      rw [if_neg (by omega), if_pos rfl]
    · rw [mkTab_get]
      exact if_pos rfl
    · rcases h.scr with e | ⟨i, e, h0, hi, e2⟩
      · exact .inl e
      · exact .inr ⟨i, e, h0, hi, by rw [mkTab_get, if_neg (show i ≠ (s.put b (.box (m + ks.length) [])).sz from Nat.ne_of_lt (show i < s.sz by omega)), if_neg h0, put_get', if_neg (by omega)]; exact e2⟩
    · show b < s.sz + 1; omega
    · rw [mkTab_get, if_neg (show b ≠ (s.put b (.box (m + ks.length) [])).sz from Nat.ne_of_lt hb), if_neg (by omega), put_get', if_pos rfl]
  · have hjb : j ≠ b := by
      rintro rfl
      rcases B with ⟨_, A, C, h, _⟩ | h
      · rw [h] at e2; cases e2
      · rw [h] at e2; cases e2
    refine ⟨s.put b (.box (m + ks.length) []), run _ ?_, ⟨z, z0, .inr ⟨j, hj, ?_, ?_⟩, ?_⟩, hb, .inr ?_⟩
    · unfold behind
      have e' : (s.put b (.box (m + ks.length) [])).get 0 = some (.tab 0 (some (l, c, j))) := by rw [put_get', if_neg (by omega)]; exact e1
      rw [e']
      show cond (Nat.beq l l && (Nat.beq c c && isCod q ((s.put b (.box (m + ks.length) [])).get j))) _ none = _
      rw [put_get', if_neg hjb, e2]
      show cond (Nat.beq l l && (Nat.beq c c && strEq q q)) _ none = _
      rw [strEq_eq, decide_eq_true rfl, Nat.beq_refl, Nat.beq_refl]
      rfl
    · rw [put_get', if_neg (by omega)]; exact e1
    · rw [put_get', if_neg hjb]; exact e2
    · rcases h.scr with e | ⟨i, e, h0, hi, e2⟩
      · exact .inl e
      · exact .inr ⟨i, e, h0, hi, by rw [put_get', if_neg (by omega)]; exact e2⟩
    · rw [put_get', if_pos rfl]
theorem LInv.len {l c : Nat} {q : Str} {lo : Nat} {sv : Mv} {ns : List Int} {s : Ms} (h : LInv l c q lo sv ns s) : lenW [sv] s = some (.int (ns.length : Int), s) := by
  rcases h.scr with e | ⟨i, e, _, _, e2⟩
  · subst e
    show (some (ns.map Mv.int).length).om (fun (n : Nat) => (Mv.int (n : Int), s)) = _
    rw [List.length_map]
    rfl
  · subst e
    show (match s.get i with
      | some (.lst ws) => some ws.length
      | _ => none).om (fun (n : Nat) => (Mv.int (n : Int), s)) = _
    rw [e2]
    show (some (ns.map Mv.int).length).om (fun (n : Nat) => (Mv.int (n : Int), s)) = _
    rw [List.length_map]
    rfl
end
section
/-! ### -x of an int; a, b, c = x, y, z; small things -/
section
variable {X : Cx} {G : Mg}
noncomputable def negW (a : Mv) (s : Ms) : Option (Mv × Ms) := match a with
  | .int i => some (.int (-i), s)
  | _ => none
theorem um_neg : UnR X (unaryOp .USub) (q1R G negW) := by
  intro pins s σ H x v Q I r h
  obtain ⟨p, ms, a, w, ms', S, da, q, k⟩ := h
  cases a with
  | int i =>
    cases q
    cases da
    exact un_neg pins s σ H _ v Q I r ⟨i, rfl, k p _ H S Fra.refl (.int _)⟩
  | _ => cases q
end
end
section
/-! ### a call over the least store that will do -/
section
variable {P : Program} {w : World} {K : PySem.W.Frag} {mg : Str → Option Value} {base : Heap} {k : Nat} {fa : Addr} {fd : FuncData} {ps : List Str} {G : Mg}
end

end
section
/-! ### calls over the least store, with words that the kernel can keep: a value written out, an answer -/
noncomputable def ob2 {α β γ : Type} (o : Option (α × β)) (k : α → β → Option γ) : Option γ := Option.rec (motive := fun _ => Option γ) none (fun x => Prod.rec (motive := fun _ => Option γ) k x) o
noncomputable def nf (w : Mv) : Option Mv := cp w some
inductive Res where
  | v (w : Mv) | l (ws : List Mv)
noncomputable def resOf (lo : Nat) (w : Mv) (s1 : Ms) : Option Res := match w with
  | .ref j => cond (Nat.ble lo j) (match s1.get j with
    | some (.lst xs) => cpL xs fun xs' => some (.l xs')
    | _ => none) none
  | w => cp w fun w' => some (.v w')
section
variable {P : Program} {w : World} {K : PySem.W.Frag} {mg : Str → Option Value} {base : Heap} {k : Nat} {fa : Addr} {fd : FuncData} {ps : List Str} {G : Mg}
noncomputable def gF (f : Fn) (ws : List Mv) : Option Res := ob2 (f ws ⟨0, .nil⟩) (resOf 0)
noncomputable def g1 (f : Fn) (ws xs : List Mv) : Option (Res × List Mv) := ob2 (f ws (one (.lst xs))) fun w s => match s.get 0 with
  | some (.lst ys) => (resOf 1 w s).ob fun r => cpL ys fun ys' => some (r, ys')
  | _ => none
end

end
section
/-! ### promises of defs that are called while nothing is being shown (repr's own guards are empty) -/
structure FnG (P : Program) (w : World) (K : PySem.W.Frag) (mg : Str → Option Value) (base : Heap) (k : Nat) (f : Addr) (fd : FuncData) (ps : List Str) (sp : Sp) : Prop where
  len : ∀ vs H Q E, sp vs H Q E → vs.length = ps.length
  run : ∀ B : Around, B.guards = some [] → ∀ (ou : List Env) (st : Shared) (H : Hp) (ar : Args) (us : List Value) (vs : List V) (Q : VK) (E : XK), Room k B → Env0 P w K mg base B ou st H → BindsTo st fd ar (ps.zip us) → Vals vs us → sp vs H Q E →
    codeAny (model P w) B (.call (.ref f) ar) (CR CX0 ou P w H st Q E) st
section
variable {P : Program} {w : World} {K : PySem.W.Frag} {mg : Str → Option Value} {base : Heap} {k : Nat} {f : Addr} {fd : FuncData} {ps : List Str} {sp sp' : Sp}
theorem fnG_of {x qual : Str} {params : Arguments} {body : List Stmt} {scope : Scope} {dvs : List V} {kws : List (Str × V)} {N : List Str} (F : FunD K x qual params body scope dvs kws f fd) (S : FnScope N ps scope) (len : ∀ vs H Q E, sp vs H Q E → vs.length = ps.length)
    (hb : ∀ (cd : Value) (B : Around), B.guards = some [] → ∀ (ou : List Env) (st : Shared) (H : Hp) (vs : List V) (Q : VK) (E : XK), Room k (B.deeper (envOfC qual scope st.heap.objs.size f cd)) → sp vs H Q E →
      ∃ t, PSs (cxOf CX0 P w K mg base N qual scope f cd B ou st H E) body t ∧ t { nx := fun _ H' => Q .non H', rt := Q } (L2.start N vs) H) : FnG P w K mg base (k + 1) f fd ps sp := by
  obtain ⟨_, _, _, _, _, _, _, cd, _, _, rfl, look, hcode, _, _⟩ := F.ex
  refine ⟨len, fun B g ou st H ar us vs Q E room env bind rel pre => ?_⟩
  have inK : K.In st.heap := env.mod.kin.keeps fun b o z => (env.bs b o z).1
  have noLim : st.heap.NoLimit := env.mod.nolimit.keeps fun b o z => (env.bs b o z).1
  have kinds : ∀ y ∈ ps.zip us, scope.names.lookup y.1 = some .local ∨
      (scope.names.lookup y.1 = some .cell ∧ ((cellsFrom (st.heap.objs.size + 1) scope.names []).lookup y.1).isSome = true) := by
    rintro ⟨nm, v⟩ hy
    cases S.par nm (List.of_mem_zip hy).1 with
    | inl z => exact .inl z
    | inr z => exact .inr ⟨z, PySem.W.cellsFrom_some _ _ _ (.inl z)⟩
  refine codeAny_call_function room.depth (inK _ _ look) rfl S.co S.gen rfl (PySem.W.codeRec_of inK hcode) (bind _ _ _ _ ?_)
  refine wpAny_newFunctionEnv_cells S.kind kinds fun en hen s2 z => ?_
  subst hen
  refine ⟨noLim.keeps z.toInCall.keep, codeAny_func ?_⟩
  obtain ⟨t, ht, hq⟩ := hb cd B g ou st H vs Q E (room.deeper _) pre
  have I0 := inv_start (CX := CX0) (E := E) S room.hd env (len _ _ _ _ pre) rel z
  refine wpAny_mono (ht.run [] s2 (L2.start N vs) H _ I0 hq) (fun fl s3 hs => ?_) fun _ _ hs => hs
  cases fl with
  | ret u =>
    obtain ⟨v, _, H3, J, rv, q⟩ := hs
    exact ⟨v, H3, J.os, J.bare, J.base, J.hok, rv, q⟩
  | next =>
    obtain ⟨_, H3, J, q⟩ := hs
    exact ⟨V.non, H3, J.os, J.bare, J.base, J.hok, rfl, q⟩
  | brk => obtain ⟨_, _, _, q⟩ := hs; exact q.elim
  | cont => obtain ⟨_, _, _, q⟩ := hs; exact q.elim
end
section
variable {X : Cx} {G : Mg} {x : Str} {p0 pos : Pos} {e : Expr} {es : List Expr} {A : Fa} {f : Fn}
theorem fn_okG {P : Program} {w : World} {K : PySem.W.Frag} {mg : Str → Option Value} {base : Heap} {x qual : Str} {st : Stmt} {f : Addr} {fd : FuncData} {N ps : List Str} {k : Nat} {B : Fs} {dvs : List V} {kws : List (Str × V)} (F : FunD K x qual (defArgs st) (defBody st) (defScope st) dvs kws f fd) (sc : FnScope N ps (defScope st)) {np nl : Nat} (hnp : ps.length = np := by rfl) (hnl : N.length = nl := by rfl)
    (hb : ∀ (cdv : Value) (A : Around) (_ : A.guards = some []) (outer : List Env) (s : Shared) (H : Hp) (E : XK), Room k (A.deeper (envOfC qual (defScope st) s.heap.objs.size f cdv)) → PSs (cxOf CX0 P w K mg base N qual (defScope st) f cdv A outer s H E).nox (defBody st) (tS G B)) :
    FnG P w K mg base (k + 1) f fd ps (spM G (fnM np nl B)) := by
  subst hnp hnl
  have len : ∀ vs H Q E, spM G (fnM ps.length N.length B) vs H Q E → vs.length = ps.length := by
    rintro vs H Q E ⟨p, s, ws, u, s', S, l, q, k'⟩
    rw [← l.length]
    unfold fnM at q
    cases e : Nat.beq ws.length ps.length with
    | false => rw [e] at q; cases q
    | true => exact Nat.eq_of_beq_eq_true e
  refine fnG_of F sc len fun cdv A gd outer s H vs Q E hr h => ⟨_, PSs.nox (hb cdv A gd outer s H E hr), ?_⟩
  have hlen := len vs H Q E h
  obtain ⟨p, s0, ws, u, s', S, l, q, k'⟩ := h
  unfold fnM at q
  cases e : Nat.beq ws.length ps.length with
  | false => rw [e] at q; cases q
  | true =>
    rw [e] at q
    obtain ⟨⟨fl, r', s1⟩, q1, q2⟩ := ob_some.mp q
    refine ⟨p, s0, _, fl, r', s1, S, ?_, q1, fun p1 H1 S1 f1 => ?_⟩
    · show EnvR G p H _ (L2.start N vs)
      unfold L2.start
      rw [hlen]
      rw [lsome_eq]
      exact envR_start _ l
    · cases fl with
      | rt w' =>
        have q2' : some (w', s1) = some (u, s') := q2
        cases q2'
        exact fun v d => k' p1 v H1 S1 f1 d
      | nx =>
        have q2' : some (Mv.non, s1) = some (u, s') := q2
        cases q2'
        exact fun σ E => k' p1 _ H1 S1 f1 .non
      | bk => cases q2
      | ct => cases q2
end

end
section
/-! ### repr of a list, a tuple; a try that runs through -/
section
variable {X : Cx} {G : Mg}
/-! sorted(d), d's keys being texts -/
end

end
section
/-! ### the end of a law whose def wants empty guards -/
theorem law_callG {P : Program} {w : World} {K : PySem.W.Frag} {mg mb : Str → Option Value} {k : Nat} {fa a : Addr} {fd : FuncData} {x : Str} {sp : Sp} {st : Shared} {vs : List Value} {ns : List Int}
    (KX : K.In st.heap) (gl : st.heap.Ns mainGlobals mg) (bl : st.heap.Ns builtinsNs mb) (boot : ∀ y : Str, y ≠ "__name__" → mb y = bootBuiltins y) (lim : st.heap.NoLimit) (gens : st.gens = #[])
    (ha : st.heap.get? a = some { cls := .type "list", data := .seq vs.toArray }) (hi : IntsAre vs ns) (hl : ns.length ≤ sizeLine) (room : Room k callerA)
    (F : ∀ base : Heap, K.In base → base.Ns mainGlobals mg → FnG P w K mg base k fa fd [x] sp) (bind : ∀ (s : Shared) (u : Value), BindsTo s fd ⟨[u], []⟩ [(x, u)])
    (pre : ∀ H : Hp, Only H → SqL K H a (ns.map V.int) → sp [.ref a] H (fun v _ => v = .bl true) fun _ _ _ => False) :
    codeAny (model P w) callerA (.call (.ref fa) ⟨[.ref a], []⟩) (fun r s2 => r = .ok (.ret (.bool true)) ∧ OldK st.heap s2.heap ∧ s2.os = st.os ∧ AllBare s2.gens) st := by
  have rel := vals_ints hi
  have main : ∀ H : Hp, (∀ b o, H b = some o → b = a ∧ K.lookup a = none ∧ o = .frz { cls := .type "list", data := .seq vs.toArray } (.lst (ns.map V.int))) → SqL K H a (ns.map V.int) →
      codeAny (model P w) callerA (.call (.ref fa) ⟨[.ref a], []⟩) (fun r s2 => r = .ok (.ret (.bool true)) ∧ OldK st.heap s2.heap ∧ s2.os = st.os ∧ AllBare s2.gens) st := by
    intro H hH hS
    have free : ∀ {b : Addr} {o : Obj}, st.heap.get? b = some o → (∀ us m, o.data ≠ .seq us m) → H b = none := by
      intro b o e hd
      cases q : H b with
      | none => rfl
      | some u =>
        obtain ⟨rfl, _, _⟩ := hH b u q
        rw [ha] at e
        cases e
        exact (hd _ _ rfl).elim
    have spaces : ∀ {b : Addr} {m : Str → Option Value}, st.heap.Ns b m → (hidT st.heap H).Ns b m := by
      rintro b m ⟨o, es, ep, e, d, r⟩
      exact ⟨o, es, ep, hidT_get e (free e fun us m z => by rw [d] at z; cases z), d, r⟩
    have inB : K.In (hidT st.heap H) := fun b o e => by
      refine hidT_get (KX b o e) ?_
      cases q : H b with
      | none => rfl
      | some u =>
        obtain ⟨rfl, z, _⟩ := hH b u q
        rw [z] at e
        cases e
    have md : L2.Mod K mg (hidT st.heap H) := by
      obtain ⟨mc, l1, l2⟩ := lim
      exact ⟨inB, spaces gl, ⟨mb, spaces bl, boot⟩, mc, spaces l1, l2⟩
    have good : HOk P w H st.heap := fun b u z => by
      obtain ⟨rfl, _, rfl⟩ := hH b u z
      exact ⟨ha, by rw [List.length_map]; exact hl, vs, _, rel, ha⟩
    have only : Only H := fun b => by
      cases q : H b with
      | none => exact .inl rfl
      | some u =>
        obtain ⟨_, _, rfl⟩ := hH b u q
        exact .inr ⟨_, _, rfl⟩
    have env : Env0 P w K mg (hidT st.heap H) callerA [] st H :=
      ⟨rfl, md, fun _ _ e => of_hidT e, Nat.le_of_eq (hidT_size _ _), trivial, fun b hb => (by cases (show b ∈ ([] : List Addr) from hb)), good, .of_eq gens⟩
    refine codeAny_mono ((F _ inB (spaces gl)).run callerA rfl [] st H ⟨[.ref a], []⟩ [.ref a] [.ref a] _ _ room env (bind st (.ref a)) (.cons rfl .nil) (pre H only hS)) fun r s2 h => ?_
    match r, h with
    | .error _, h => exact h.elim
    | .ok .next, h => exact h.elim
    | .ok .brk, h => exact h.elim
    | .ok .cont, h => exact h.elim
    | .ok (.ret u), h =>
      obtain ⟨v, H2, os, bare, un, good2, rv, q⟩ := h
      have ev : v = .bl true := q
      subst ev
      have eu : u = Value.bool true := rv
      subst eu
      refine ⟨rfl, OldK.of_keep fun b o e => ?_, os, bare⟩
      cases z : H b with
      | none => exact un.keep b o e z (fun y => by cases (show b ∈ ([] : List Addr) from y)) (by simp)
      | some u2 =>
        obtain ⟨rfl, _, rfl⟩ := hH b u2 z
        obtain ⟨g, _⟩ := good2 b _ (un.frzs b _ _ z)
        rw [ha] at e
        cases e
        exact g
  cases hk : K.lookup a with
  | some o =>
    have e := KX a o hk
    rw [ha] at e
    cases e
    exact main (fun _ => none) (fun b o z => by cases z) (.inr ⟨_, vs.toArray, _, hk, rfl, rfl, rfl, by rw [List.size_toArray, hi.length]; exact hl, by simpa using rel⟩)
  | none =>
    refine main (fun b => if b = a then some (.frz { cls := .type "list", data := .seq vs.toArray } (.lst (ns.map V.int))) else none) (fun b o z => ?_) (.inl (.inr ⟨_, if_pos rfl⟩))
    by_cases hb : b = a
    · have z2 := (if_pos hb).symm.trans z
      cases z2
      exact ⟨hb, hk, rfl⟩
    · have z2 := (if_neg hb).symm.trans z
      cases z2
theorem walk_ofG {l : PySem.W.OpenLaw} {n k : Nat} {q : Program} {loose : List Str} {XP : (Str → Option Value) → Heap → Prop} {YP : World → Heap → Prop} {d : DefRec} {x : Str} (hn : l.most = some n) (hn2 : n ≤ sizeLine) (hdf : d.params.defaults = []) (room : Room k callerA)
    (F : ∀ (w : World) (mg : Str → Option Value) (fa : Addr) (h : Heap), YP w h → h.Ns mainGlobals mg → mg d.name = some (.ref fa) →
      ∃ (K : PySem.W.Frag) (fd : FuncData) (sp : Sp), K.In h ∧ (∀ (s : Shared) (u : Value), BindsTo s fd ⟨[u], []⟩ [(x, u)]) ∧
        (∀ (H : Hp) (a : Addr) (ns : List Int), ns.length ≤ n → Only H → SqL K H a (ns.map V.int) → sp [.ref a] H (fun v _ => v = .bl true) fun _ _ _ => False) ∧
        ∀ base : Heap, K.In base → base.Ns mainGlobals mg → FnG l.prog w K mg base k fa fd [x] sp) :
    PySem.W.WalkO q loose XP YP l.row.toRowW d [] (fun f vs => PySem.call f vs) := by
  refine Att.attach_call hn hdf fun w _ s1 mg mb fa _ _ _ _ a vs ns top Y _ _ _ hmg hob hint hlen gens => ?_
  obtain ⟨K, fd, sp, KX, bind, pre, hF⟩ := F w mg fa _ Y top.T.g hmg
  exact law_callG KX top.T.g top.T.b top.T.builtins top.T.nolimit gens hob hint (Nat.le_trans hlen hn2) room hF bind fun H only sq => pre H a ns hlen only sq
/-! ### a def of one source, as before -/
end
section
/-! ### sets of tuples of texts: at most four of them (the first table) -/
section
variable {P : Program} {w : World} {A : Around} {E : Value → Shared → Prop} {s : Shared}
abbrev TX (P : Program) (w : World) (hp : Heap) (k : List Str) (b : Addr) : Prop := IsTupleKey (PySem.strKind P w) hp k b
abbrev hX (P : Program) (w : World) (k : List Str) : Int := tupleKeyHash (PySem.strKind P w) k
theorem TX.held {hp hp' : Heap} {k : List Str} {b : Addr} (x : TX P w hp k b) (g : ∀ c o, hp.get? c = some o → hp'.get? c = some o) : TX P w hp' k b :=
  let ⟨o, its, n, e, r⟩ := x
  ⟨o, its, n, g b o e, r⟩
theorem TX.but {hp hp' : Heap} {k : List Str} {a b : Addr} {o : Obj} {es : Array (Int × Value)} {ep : Nat} {t : SetTable} (x : TX P w hp k b) (e : hp.get? a = some o) (d : o.data = .set es ep t) (sb : Heap.SameBut a hp hp') : TX P w hp' k b := by
  obtain ⟨o1, its, n, e1, c, d1, r⟩ := x
  refine ⟨o1, its, n, ?_, c, d1, r⟩
  rw [sb.2 b fun z => ?_]
  · exact e1
  · rw [z, e] at e1
    cases e1
    rw [d] at d1
    cases d1
theorem txt_of {k : List Str} {vs : List Value} (h : ItemsAre (PySem.strKind P w) k vs) : ∀ v ∈ vs, ∃ y t, v = Value.str y t := by
  induction h with
  | nil => exact fun _ z => nomatch z
  | @cons y u _ _ hu _ ih =>
    intro v hv
    cases hv with
    | head => obtain ⟨t, e⟩ := Value.isStrOf_shape hu; exact ⟨y, t, e⟩
    | tail _ hv => exact ih v hv
theorem cls_txt (n : Nat) (y : Str) (t : Tok) : ofAClassStatement n (.str y t) = pure false := by cases n <;> rfl
theorem cls_tup {k : List Str} {b : Addr} {Q : Bool → Shared → Prop} (hk : TX P w s.heap k b) (h : Q false s) : wpAny (model P w) A (ofAClassStatement 8 (.ref b)) Q E s := by
  have ty := hk.typeIs
  obtain ⟨o, its, n, e1, _, e2, e3⟩ := hk
  unfold ofAClassStatement
  refine wpAny_bind (wpAny_typeOf ty ?_)
  simp only [show (("tuple" : String) == "tuple") = true by decide, if_true, Bool.not_true, Bool.false_eq_true, if_false]
  refine wpAny_bind (wpAny_pure ?_)
  simp only [Bool.not_true, Bool.false_eq_true, if_false]
  refine wpAny_bind (wpAny_seqItems e1 e2 ?_)
  refine wpAny_bind ?_
  rw [← Array.forIn_toList]
  refine wpAny_forIn_list _ (fun l r z => (r.1 = none ∧ z = s) ∧ ∀ v ∈ l, ∃ y t, v = Value.str y t) _ (fun v l r z q => ?_) (fun r z q => ?_) _ _ ⟨⟨rfl, rfl⟩, txt_of e3⟩
  · obtain ⟨⟨_, rfl⟩, hall⟩ := q
    obtain ⟨y, t, rfl⟩ := hall v (List.mem_cons_self ..)
    rw [cls_txt]
    exact wpAny_bind (wpAny_pure (wpAny_pure ⟨⟨rfl, rfl⟩, fun u hu => hall u (List.mem_cons_of_mem _ hu)⟩))
  · obtain ⟨r1, r2⟩ := r
    obtain ⟨⟨q1, rfl⟩, _⟩ := q
    cases q1
    exact wpAny_pure h
theorem quiet_tups {k : List Str} {b : Addr} {Q : Bool → Shared → Prop} (hk : TX P w s.heap k b) {ys : List Value} (hy : ∀ y ∈ ys, ∃ k' c, y = Value.ref c ∧ TX P w s.heap k' c) (h : Q false s) : wpAny (model P w) A (searchCouldBeSeen (.ref b) ys) Q E s := by
  unfold searchCouldBeSeen
  refine wpAny_bind (wpAny_forIn_list _ (fun l r z => (r.1 = none ∧ z = s) ∧ ∀ y ∈ l, y ∈ ys) _ (fun v l r z q => ?_) (fun r z q => ?_) _ _ ⟨⟨rfl, rfl⟩, fun _ z => z⟩)
  · obtain ⟨⟨_, rfl⟩, sub⟩ := q
    obtain ⟨k', c, rfl, hc⟩ := hy v (sub v (List.mem_cons_self ..))
    have fin : ∀ y ∈ l, y ∈ ys := fun u hu => sub u (List.mem_cons_of_mem _ hu)
    dsimp only
    split
    · exact wpAny_pure ⟨⟨rfl, rfl⟩, fin⟩
    · refine wpAny_bind (wpAny_eqIsQuiet_tuple hk ?_)
      refine wp_if_neg (by decide) (wpAny_bind (wpAny_eqIsQuiet_tuple hc ?_))
      refine wp_if_neg (by decide) (wpAny_bind (cls_tup hk ?_))
      refine wp_if_neg (by decide) (wpAny_bind (cls_tup hc ?_))
      exact wp_if_neg (by decide) (wpAny_pure ⟨⟨rfl, rfl⟩, fin⟩)
  · obtain ⟨r1, r2⟩ := r
    obtain ⟨⟨q1, rfl⟩, _⟩ := q
    cases q1
    exact wpAny_pure h
end

end
section
/-! ### such a set, looked through and added to -/
structure Few (P : Program) (w : World) (hp : Heap) (a : Addr) (L : List (Addr × List Str)) (es : Array (Int × Value)) (ep : Nat) (t : SetTable) : Prop where
  at' : ∃ o, hp.get? a = some o ∧ o.ExactSet ∧ o.data = .set es ep t
  row : es.toList = L.map fun q => (hX P w q.2, Value.ref q.1)
  tab : TabOk t (L.map fun q => hX P w q.2)
  once : (L.map (·.2)).Nodup
  key : ∀ q ∈ L, TX P w hp q.2 q.1
  led : w.params.followText "set-order" = true ∨ t.led = true
  m7 : t.mask = 7
  len : L.length ≤ 4
section
variable {P : Program} {w : World} {A : Around} {E : Value → Shared → Prop} {s : Shared} {a : Addr} {L : List (Addr × List Str)} {es : Array (Int × Value)} {ep : Nat} {t : SetTable}
theorem Few.size {hp : Heap} (F : Few P w hp a L es ep t) : es.size = L.length := by rw [← Array.length_toList, F.row, List.length_map]
theorem Few.psz {hp : Heap} (F : Few P w hp a L es ep t) : t.place.size = L.length := by rw [F.tab.sz, List.length_map]
theorem Few.fit {hp : Heap} (F : Few P w hp a L es ep t) : t.fits es.size = true := by
  have e1 := F.psz
  have e2 := F.size
  have e3 := F.len
  unfold SetTable.fits SetTable.fill
  rw [F.tab.dm, F.m7]
  simp only [Bool.and_eq_true, beq_iff_eq, decide_eq_true_eq]
  exact ⟨by omega, by show t.place.size + 0 ≤ 7; omega⟩
theorem Few.nth {hp : Heap} (F : Few P w hp a L es ep t) {i : Nat} {q : Addr × List Str} (h : L[i]? = some q) : es[i]? = some (hX P w q.2, Value.ref q.1) := by
  have z := congrArg (fun l => l[i]?) F.row
  simp only [Array.getElem?_toList, List.getElem?_map, h, Option.map_some] at z
  exact z
theorem Few.noway {hp : Heap} (F : Few P w hp a L es ep t) : ¬ t.gaveWay = true := by
  unfold SetTable.gaveWay
  rw [F.m7]
  decide
/-- the c-th probe for a hash -/
abbrev prb (t : SetTable) (h : Int) (c : Nat) : SetTable.Probe := L2.nth t.mask (runAt t.mask (SetTable.bits h % (t.mask + 1)) (SetTable.bits h)) c
theorem prb_dm (t : SetTable) (h : Int) : ∀ c, (prb t h c).dummy = none
  | 0 => rfl
  | c + 1 => by
    have z := prb_dm t h c
    show (L2.nth t.mask _ (c + 1)).dummy = none
    rw [nth_succ]
    unfold adv
    split <;> exact z
/-- the look, from the c-th probe on; K is the first free place, n the steps that are left -/
theorem look {k : List Str} {x : Addr} {K : Nat} {Q : SetFound → Shared → Prop} (F : Few P w s.heap a L es ep t) (hx : TX P w s.heap k x) (hu : A.units < cLine) (k1 : K < 10 * SetTable.turns t.mask) (k2 : (prb t (hX P w k) K).j ∉ t.place.toList) (k3 : ∀ c, c < K → (prb t (hX P w k) c).j ∈ t.place.toList)
    (yes : k ∈ L.map (·.2) → Q (.there none) s) (no : k ∉ L.map (·.2) → Q (.free (prb t (hX P w k) K).j false) s) (n : Nat) :
    ∀ (f c : Nat) (st : Option SetTable.Probe), K - c = n → c ≤ K → n < f → st.getD (t.probeStart (hX P w k)) = prb t (hX P w k) c →
      (∀ (i : Nat) (q : Addr × List Str), L[i]? = some q → q.2 = k → ∃ d, c ≤ d ∧ d < K ∧ t.place.toList[i]? = some (prb t (hX P w k) d).j) → wpAny (model P w) A (setSearchFrom a (.ref x) (hX P w k) true f st) Q E s := by
  induction n using Nat.strongRecOn with
  | _ n ih =>
    intro f c st hn hc hf hst ahead
    obtain ⟨f, rfl⟩ : ∃ g, f = g + 1 := ⟨f - 1, by omega⟩
    obtain ⟨o, e1, e2, e3⟩ := F.at'
    generalize eh : hX P w k = h at *
    have sh : ∀ d, L2.nth t.mask (prb t h c) d = prb t h (c + d) := fun d => (nth_add t.mask c _ d).symm
    have hashes : ∀ (i : Nat) (q : Addr × List Str), L[i]? = some q → ((es[i]?.map (·.1)).getD 0) = hX P w q.2 := fun i q hq => by rw [F.nth hq]; rfl
    -- nobody of the key has been passed before d
    have unmet : ∀ d' : Nat, (∀ (d i : Nat), d < d' → t.place.toList[i]? = some (L2.nth t.mask (prb t h c) d).j → ((es[i]?.map (·.1)).getD 0) ≠ h) → ∀ (i : Nat) (q : Addr × List Str), L[i]? = some q → q.2 = k → ∀ d, c ≤ d → t.place.toList[i]? = some (prb t h d).j → c + d' ≤ d := fun d' hno i q hq hk d hd hp => by
      apply Classical.byContradiction
      intro hlt
      refine hno (d - c) i (by omega) (by rw [sh, show c + (d - c) = d by omega]; exact hp) ?_
      rw [hashes i q hq, hk]
      exact eh
    rw [setSearchFrom_succ]
    refine wpAny_bind (wpAny_setState_of e1 e3 F.fit ?_)
    refine wp_if_neg F.noway ?_
    have go := go_spec t F.tab.ris F.tab.dm (fun i => (es[i]?.map (·.1)).getD 0) h (10 * SetTable.turns t.mask) (K - c) (prb t h c) (prb_dm t h c) (by omega)
      (fun d hd => by rw [sh]; exact k3 _ (by omega)) (by rw [sh, show c + (K - c) = K by omega]; exact k2)
    rw [hst]
    have pe : ∀ z, SetTable.probe.go t (fun i => (es[i]?.map (·.1)).getD 0) h (10 * SetTable.turns t.mask) (prb t h c) = z → t.probe (fun i => (es[i]?.map (·.1)).getD 0) h (prb t h c) = z := fun _ z => z
    rcases go with ⟨d, i, d1, d2, d3, d4, d5⟩ | ⟨d4, d5⟩
    · rw [pe _ d5]
      rw [sh] at d2
      have il : i < L.length := by
        have z := (List.getElem?_eq_some_iff.mp d2).1
        rw [Array.length_toList, F.psz] at z
        exact z
      obtain ⟨q, hq⟩ : ∃ q, L[i]? = some q := ⟨_, List.getElem?_eq_getElem il⟩
      have qm := List.mem_of_getElem? hq
      have tail : wpAny (model P w) A (searchRest a (.ref x) h true f es t (L2.nth t.mask (prb t h c) d).j i (L2.nth t.mask (prb t h c) (d + 1))) Q E s := by
        unfold searchRest
        rw [F.nth hq]
        refine wpAny_bind (wpAny_holding (wpAny_eqBool_tuple hu (F.key q qm) hx ?_))
        refine wpAny_bind (wpAny_setState_of e1 e3 F.fit ?_)
        by_cases ek : q.2 = k
        · exact wp_if_pos (by simp [ek]) (wpAny_pure (yes (ek ▸ List.mem_map_of_mem qm)))
        · refine wp_if_neg (by simp [ek]) ?_
          rw [sameMem]
          have live : t.slot (L2.nth t.mask (prb t h c) d).j = .live i := by rw [sh]; exact slot_live F.tab.ris d2
          simp only [if_true, live, F.nth hq]
          refine wpAny_bind (wpAny_isSame_ref_self (wpAny_bind (wpAny_pure ?_)))
          simp only [if_true]
          refine wp_if_neg (by simp [ek]) ?_
          refine ih (K - (c + (d + 1))) (by omega) f (c + (d + 1)) _ rfl (by omega) (by omega) (sh (d + 1)) fun j p hp hk => ?_
          obtain ⟨g, g1, g2, g3⟩ := ahead j p hp hk
          have g4 := unmet d d4 j p hp hk g g1 g3
          refine ⟨g, ?_, g2, g3⟩
          by_cases z : g = c + d
          · rw [z] at g3
            have l2 := slot_live F.tab.ris g3
            rw [sh] at live
            rw [live] at l2
            cases l2
            rw [hq] at hp
            cases hp
            exact absurd hk ek
          · omega
      by_cases tl : t.led = true
      · exact wp_if_neg (by simp [tl]) tail
      · refine wp_if_pos (by simp [tl]) (wpAny_bind (quiet_tups hx (fun y hy => ?_) (wp_if_neg (by decide) tail)))
        obtain ⟨e, he, rfl⟩ := List.mem_map.mp hy
        have he' : e ∈ es.toList := by
          have := (show e ∈ es ∧ e.1 = h by simpa using he).1
          simpa using this
        rw [F.row] at he'
        obtain ⟨p, hp, rfl⟩ := List.mem_map.mp he'
        exact ⟨p.2, p.1, rfl, F.key p hp⟩
    · rw [pe _ d5, sh, show c + (K - c) = K by omega]
      refine wpAny_pure (no fun hm => ?_)
      obtain ⟨q, qm, hk⟩ := List.mem_map.mp hm
      obtain ⟨i, hi⟩ := List.mem_iff_getElem?.mp qm
      obtain ⟨g, g1, g2, g3⟩ := ahead i q hi hk
      have := unmet (K - c) d4 i q hi hk g g1 g3
      omega
end

end
section
section
variable {P : Program} {w : World} {A : Around} {E : Value → Shared → Prop} {s : Shared} {a : Addr} {L : List (Addr × List Str)} {es : Array (Int × Value)} {ep : Nat} {t : SetTable}
theorem Few.held {hp hp' : Heap} (F : Few P w hp a L es ep t) (g : ∀ c o, hp.get? c = some o → hp'.get? c = some o) : Few P w hp' a L es ep t :=
  let ⟨o, e, r⟩ := F.at'
  ⟨⟨o, g a o e, r⟩, F.row, F.tab, F.once, fun q hq => (F.key q hq).held g, F.led, F.m7, F.len⟩
end

end
section
/-! ### set(l) for a list l of at most four tuples of texts -/
/-- what the set holds behind i items -/
structure Holds4 (ks : List (Addr × List Str)) (i : Nat) (L : List (Addr × List Str)) : Prop where
  sub : ∀ q ∈ L, q ∈ ks
  all : ∀ q ∈ ks.take i, q.2 ∈ L.map (·.2)
  few : L.length ≤ i
theorem Holds4.next {ks L L' : List (Addr × List Str)} {i : Nat} {q : Addr × List Str} (h : Holds4 ks i L) (e : ks[i]? = some q) (c1 : q.2 ∈ L.map (·.2) → L' = L) (c2 : q.2 ∉ L.map (·.2) → L'.Perm (q :: L)) : Holds4 ks (i + 1) L' := by
  have tk : ks.take (i + 1) = ks.take i ++ [q] := by rw [List.take_add_one, e]; rfl
  have qm := List.mem_of_getElem? e
  by_cases c : q.2 ∈ L.map (·.2)
  · rw [c1 c]
    refine ⟨h.sub, fun p hp => ?_, Nat.le_succ_of_le h.few⟩
    rw [tk, List.mem_append, List.mem_singleton] at hp
    rcases hp with hp | rfl
    · exact h.all p hp
    · exact c
  · have pm := c2 c
    refine ⟨fun p hp => ?_, fun p hp => ?_, ?_⟩
    · rcases List.mem_cons.mp (pm.mem_iff.mp hp) with rfl | hp
      · exact qm
      · exact h.sub p hp
    · refine (pm.map (·.2)).mem_iff.mpr ?_
      rw [tk, List.mem_append, List.mem_singleton] at hp
      rw [List.map_cons, List.mem_cons]
      rcases hp with hp | rfl
      · exact .inr (h.all p hp)
      · exact .inl rfl
    · rw [pm.length_eq, List.length_cons]
      exact Nat.succ_le_succ h.few
section
variable {prog : Program} {w : World} {A : Around} {R : Result → Shared → Prop} {I : Addr} {fp wr : List Addr} {G : Array GenState → Array GenState → Prop} {n : Nat} {P : Nat → Value → Prop} {St : Nat → Shared → Prop}
end
section
variable {prog : Program} {w : World} {A : Around} {E : Value → Shared → Prop} {s : Shared}
end

end
section
open PySem.W (EachIs alike alikeAll keyToks keyToksAll dataLt dataKind SortsAt dataType)
/-! ### sorted(set(l)), l a list of pairs of texts -/
theorem isort_perm {α : Type} {le : α → α → Bool} (T : PySem.W.TotalLe le) (l : List α) : (isort le l).Perm l := by rw [isort_eq T]; exact List.mergeSort_perm l le
section
variable {X : Cx} {pins : List (Addr × Obj)} {σ : L2.St} {H : Hp} {s : Shared} {G : Mg} {p : List Addr}
end

end
section
open PyProof.Rows.H
open PySem.W (EachIs alike alikeAll keyToks keyToksAll dataLt dataKind SortsAt dataType)
section
variable {X : Cx} {pins : List (Addr × Obj)} {σ : L2.St} {H : Hp} {s : Shared} {G : Mg} {p : List Addr}
end

end
section
section
variable {X : Cx} {G : Mg}
end

end
section
/-! ### f(k1 = e1, .., kn = en): keywords alone -/
noncomputable def kpick {α : Type} (is : List Nat) (ws : List α) : List α := is.filterMap fun i => ws[i]?
noncomputable def mkw (is : List Nat) (A : Fa) : Fa := fun r s => (A r s).om fun x => (kpick is x.1, x.2)
theorem vals_at : ∀ {zs : List V} {ws : List Value}, Vals zs ws → ∀ i : Nat, (zs[i]? = none ∧ ws[i]? = none) ∨ ∃ z w, zs[i]? = some z ∧ ws[i]? = some w ∧ RelV z w
  | _, _, .nil, i => .inl ⟨by simp, by simp⟩
  | _, _, .cons r _, 0 => .inr ⟨_, _, rfl, rfl, r⟩
  | _, _, .cons _ t, i + 1 => by simpa using vals_at t i
theorem vals_kp {zs : List V} {ws : List Value} (h : Vals zs ws) : ∀ is : List Nat, Vals (kpick is zs) (kpick is ws)
  | [] => .nil
  | i :: is => by
    have ih := vals_kp h is
    unfold kpick at ih ⊢
    rw [List.filterMap_cons, List.filterMap_cons]
    rcases vals_at h i with ⟨e1, e2⟩ | ⟨z, w, e1, e2, r⟩
    · rw [e1, e2]; exact ih
    · rw [e1, e2]; exact .cons r ih
section
variable {X : Cx} {G : Mg} {p : List Addr} {H : Hp}
theorem denL_at : ∀ {ws : List Mv} {vs : List V}, DenL G p H ws vs → ∀ i : Nat, (ws[i]? = none ∧ vs[i]? = none) ∨ ∃ w v, ws[i]? = some w ∧ vs[i]? = some v ∧ Den G p H w v
  | [], _, l, i => by cases l; exact .inl ⟨by simp, by simp⟩
  | w :: ws, _, l, i => by
    cases l with
    | cons d l =>
      cases i with
      | zero => exact .inr ⟨_, _, rfl, rfl, d⟩
      | succ i => simpa using denL_at l i
theorem denL_kp {ws : List Mv} {vs : List V} (l : DenL G p H ws vs) : ∀ is : List Nat, DenL G p H (kpick is ws) (kpick is vs)
  | [] => .nil
  | i :: is => by
    have ih := denL_kp l is
    unfold kpick at ih ⊢
    rw [List.filterMap_cons, List.filterMap_cons]
    rcases denL_at l i with ⟨e1, e2⟩ | ⟨z, w, e1, e2, r⟩
    · rw [e1, e2]; exact ih
    · rw [e1, e2]; exact .cons r ih
theorem pk_imp {kws : List Keyword} {t t' : TA} (h : PK X kws t) (i : ∀ σ H Q, t' σ H Q → t σ H Q) : PK X kws t' := ⟨fun pos pins s σ H Q I q => h.run pos pins s σ H Q I (i σ H Q q)⟩
theorem km_nil : PK X [] (tA G mnil) := pk_imp pk_nil fun σ H Q ⟨p, s, r, ws, s', S, E, q, k⟩ => by cases q; exact k p [] H S Fra.refl .nil
theorem km_cons {e : Expr} {kws : List Keyword} {nm : Option Str} {kpos : Pos} {A : Fe} {B : Fa} (ha : PE X e (tI G A)) (hr : PK X kws (tA G B)) : PK X (⟨nm, e, kpos⟩ :: kws) (tA G (mcons A B)) :=
  pk_imp (pk_cons ha hr) fun σ H Q ⟨p, s, r, ws, s', S, E, q, k⟩ => by
    obtain ⟨⟨x, s1⟩, q1, q2⟩ := ob_some.mp q
    obtain ⟨⟨y, s2⟩, q3, q4⟩ := ob_some.mp q2
    cases q4
    exact ⟨p, s, r, x, s1, S, E, q1, fun p1 v1 H1 S1 f1 d1 => ⟨p1, s1, r, y, s2, S1, E.fra S f1, q3, fun p2 vs H2 S2 f2 d2 => k p2 _ H2 S2 (f1.trans f2) (.cons (d1.fra S1 f2) d2)⟩⟩
def gKw {α : Type} (is : List Nat) (us ws : List α) : List α := match us with
  | [] => kpick is ws
  | _ => []
theorem kb_of {K : PySem.W.Frag} {x qual : Str} {params : Arguments} {body : List Stmt} {scope : Scope} {kws : List (Str × V)} {f : Addr} {fd : FuncData} {ps ks : List Str} {is : List Nat} (F : FunD K x qual params body scope [] kws f fd) (hp : ps ≠ [])
    (h : ∀ (kV doc pm : Value) (an : Option Addr) (cdv ct : Value) (ws : List Value), (kpick is ws).length = ps.length → bindArgs (PySem.W.fnOf x qual params body scope .none kV doc pm an cdv ct) ⟨[], ks.zip ws⟩ = pure (ps.zip (kpick is ws))) : KBinds K fd ps ks (gKw is) (gKw is) := by
  obtain ⟨oc, od, dV, kV, doc, pm, an, cdv, ct, osl, rfl, lk, hcd, hD, hK⟩ := F.ex
  rcases hD with ⟨_, rfl⟩ | ⟨e, _⟩
  · refine ⟨fun s us ws _ hl => ?_, fun {vs us zs ws} r rz => ?_⟩
    · cases us with
      | nil => exact .of_eq (h kV doc pm an cdv ct ws hl)
      | cons u us => exact absurd (List.length_eq_zero_iff.mp (show ps.length = 0 from hl.symm)) hp
    · cases r with
      | nil => exact vals_kp rz is
      | cons _ _ => exact .nil
  · exact absurd rfl e
theorem pm_callKW {x : Str} {p0 pos : Pos} {kws : List Keyword} {f : Fn} {A : Fa} {CX : CXT} {k : Nat} {fa : Addr} {fd : FuncData} {ps ks : List Str} {is : List Nat} {E : XK} (F : FnOk X.prog X.w X.K X.mg X.base CX k fa fd ps (spM G f)) (hr : Room k X.A) (hg : Gl X x) (hm : X.mg x = some (.ref fa)) (hk : PySem.W.keepIn X.K (.ref fa) = true) (hb : KBinds X.K fd ps ks (gKw is) (gKw is)) (hx : Passes CX X E)
    (hkw : PK X kws (tA G A)) (hall : (backToKw pos (keywordEach kws X.env)).all (·.1.isSome) = true := by rfl) (hks : (backToKw pos (keywordEach kws X.env)).filterMap (·.1) = ks := by rfl) (hdb : (x == ("__debug__" : Str)) = false := by decide)
    (hpl : ((backTo pos (starEach [] X.env)).any (·.1) || (backToKw pos (keywordEach kws X.env)).any (·.1.isNone)) = false := by rfl) : PE X (.Call (.Name x p0) [] kws pos) (tI G (mcall f (mkw is A))) := by
  refine ⟨fun pins s σ H Q I h => ?_⟩
  have h := t_call h
  obtain ⟨p, ms, r, ws0, s', S, E0, q, kk⟩ := h
  obtain ⟨⟨ws, s1⟩, q1, q2⟩ := omap_some.mp q
  cases q2
  have h2 : tA G A σ H fun zs H1 => rF G f (kpick is zs) H1 Q := ⟨p, ms, r, ws, s1, S, E0, q1, fun p1 vs H1 S1 f1 d1 => kk p1 _ H1 S1 f1 (denL_kp d1 is)⟩
  refine wpAny_Call_Name_kw (ld_glob I hg hm ?_ hdb)
  refine PySem.W.callWith_KW0 (h₀ := X.base) I.ok.mod.kin hk hall (thn (hkw.run pos pins s σ H _ I h2) fun us s2 ⟨zs, H2, I2, rz, q2⟩ => ⟨I2.kIn, ?_⟩) hpl
  rw [hks]
  exact run_fnk (us := []) (vs := []) F hr hb hx I2 .nil rz q2
end

end
section
/-! ### [..] * k -/
noncomputable def lmulW (a b : Mv) (s : Ms) : Option (Mv × Ms) := match a, b with
  | .ref n, .int k => match s.get n with
    | some (.lst ws) => cond (decide (0 ≤ k) && (decide (k ≤ 1000) && Nat.ble ws.length 1000)) (newL (List.replicate k.toNat ws).flatten s) none
    | _ => none
  | _, _ => none
section
variable {X : Cx} {G : Mg} {p : List Addr} {H : Hp}
theorem denL_app2 : ∀ {ws us : List Mv} {vs zs : List V}, DenL G p H ws vs → DenL G p H us zs → DenL G p H (ws ++ us) (vs ++ zs)
  | [], _, _, _, l, m => by cases l; exact m
  | w :: ws, _, _, _, l, m => by
    cases l with
    | cons d l => exact .cons d (denL_app2 l m)
theorem denL_rep {ws : List Mv} {vs : List V} (l : DenL G p H ws vs) : ∀ n : Nat, DenL G p H (List.replicate n ws).flatten (List.replicate n vs).flatten
  | 0 => .nil
  | n + 1 => by
    rw [List.replicate_succ, List.replicate_succ, List.flatten_cons, List.flatten_cons]
    exact denL_app2 l (denL_rep l n)
theorem denL_len2 : ∀ {ws : List Mv} {vs : List V}, DenL G p H ws vs → ws.length = vs.length
  | [], _, l => by cases l; rfl
  | w :: ws, _, l => by
    cases l with
    | cons d l => rw [List.length_cons, List.length_cons, denL_len2 l]
theorem om_lmul : OpR X (binaryOp .Mult) (q2R G lmulW) := opr_imp op_rep fun x y H Q ⟨p, s, a, b, w, s', S, da, db, q, k⟩ => by
  unfold lmulW at q
  split at q
  · rename_i n j
    split at q
    · rename_i ws e
      cases ec : (decide (0 ≤ j) && (decide (j ≤ 1000) && Nat.ble ws.length 1000)) with
      | false => rw [ec] at q; cases q
      | true =>
        rw [ec] at q
        obtain ⟨c1, c2⟩ := Bool.and_eq_true_iff.mp ec
        obtain ⟨c3, c4⟩ := Bool.and_eq_true_iff.mp c2
        have c1 := of_decide_eq_true c1
        have c3 := of_decide_eq_true c3
        have c4 := Nat.le_of_ble_eq_true c4
        cases da with
        | ref hn =>
          cases db
          obtain ⟨ho, h1, vs, rfl, l, hz⟩ := S.get hn e
          have ln := denL_len2 l
          have hm : vs.length * j.toNat ≤ 1000 * 1000 := Nat.mul_le_mul (by omega) (by omega)
          obtain ⟨g1, g2⟩ := newL_ok S (denL_rep l j.toNat) q k
          exact ⟨_, j, vs, rfl, rfl, h1, by omega, by omega, by rw [sz_eq]; omega, fun P hP => g2 P hP⟩
    · cases q
  · cases q
end

end
section
/-! ### 'x' * k -/
noncomputable def smulW (a b : Mv) (s : Ms) : Option (Mv × Ms) := match a, b with
  | .str x, .int k => cond (decide (1 ≤ k) && (decide (k ≤ 1000) && (Nat.ble x.length 1000 && Nat.ble (if (k == 1 || x.length == 0) = true then x else ⟨(List.replicate k.toNat x.cps).foldl (· ++ ·) #[]⟩).length 16777216))) (some (.str (if (k == 1 || x.length == 0) = true then x else ⟨(List.replicate k.toNat x.cps).foldl (· ++ ·) #[]⟩), s)) none
  | _, _ => none
section
variable {X : Cx} {G : Mg} {p : List Addr} {H : Hp}
theorem om_smul : OpR X (binaryOp .Mult) (q2R G smulW) := by
  intro pins s σ H x y v u Q I rx ry h
  obtain ⟨p, ms, a, b, w, ms', S, da, db, q, k⟩ := h
  unfold smulW at q
  split at q
  · rename_i z j
    cases ec : (decide (1 ≤ j) && (decide (j ≤ 1000) && (Nat.ble z.length 1000 && Nat.ble (if (j == 1 || z.length == 0) = true then z else ⟨(List.replicate j.toNat z.cps).foldl (· ++ ·) #[]⟩).length 16777216))) with
    | false => rw [ec] at q; cases q
    | true =>
      rw [ec] at q
      cases q
      obtain ⟨c1, c2⟩ := Bool.and_eq_true_iff.mp ec
      obtain ⟨c3, c4⟩ := Bool.and_eq_true_iff.mp c2
      have c1 := of_decide_eq_true c1
      have c3 := of_decide_eq_true c3
      obtain ⟨c4, c5⟩ := Bool.and_eq_true_iff.mp c4
      have c4 := Nat.le_of_ble_eq_true c4
      have c5 := ble_sz c5
      cases da
      cases db
      obtain ⟨t, rfl⟩ := rx
      obtain ⟨t', rfl⟩ := ry
      have hm : z.length * j.toNat ≤ 1000 * 1000 := Nat.mul_le_mul c4 (by omega)
      refine PySem.P.mul_str (by rw [decide_eq_false (by omega), decide_eq_false (by omega)]; rfl) (fun _ _ => ?_) (fun _ _ => ?_) ?_
      · have : (2 ^ 63 - 1) / 1000 ≤ (2 ^ 63 - 1 : Int) / j := by
          rw [Int.le_ediv_iff_mul_le (by omega)]
          have : (9223372036854775 : Int) * j ≤ 9223372036854775 * 1000 := Int.mul_le_mul_of_nonneg_left c3 (by decide)
          omega
        omega
      · unfold Builtin.Str.tooLong
        exact decide_eq_false (by rw [sz_eq]; omega)
      · rw [if_neg (by omega)]
        by_cases e : (j == 1 || z.length == 0) = true
        · rw [if_pos e] at k ⊢
          exact ⟨.str z, H, I, ⟨_, rfl⟩, k p _ H S Fra.refl (.str _)⟩
        · rw [if_neg e] at k c5 ⊢
          exact ⟨c5, .str _, H, I.tok _, ⟨_, rfl⟩, k p _ H S Fra.refl (.str _)⟩
  · cases q
end

end
section
/-! ### what a run of the mirror tells, for values that are not known -/
def Wp {α : Type} (o : Option α) (Q : α → Prop) : Prop := ∃ x, o = some x ∧ Q x
section
variable {α β : Type} {o : Option α} {Q R : α → Prop}
theorem wp_ob {f : α → Option β} {Q : β → Prop} : Wp (o.ob f) Q ↔ Wp o fun x => Wp (f x) Q := by
  cases o with
  | none => exact ⟨fun ⟨_, h, _⟩ => (by cases h), fun ⟨_, h, _⟩ => (by cases h)⟩
  | some a => exact ⟨fun h => ⟨a, rfl, h⟩, fun ⟨_, h, q⟩ => by cases h; exact q⟩
theorem wp_om {f : α → β} {Q : β → Prop} : Wp (o.om f) Q ↔ Wp o fun x => Q (f x) := by
  cases o with
  | none => exact ⟨fun ⟨_, h, _⟩ => (by cases h), fun ⟨_, h, _⟩ => (by cases h)⟩
  | some a => exact ⟨fun ⟨_, h, q⟩ => by cases h; exact ⟨a, rfl, q⟩, fun ⟨_, h, q⟩ => by cases h; exact ⟨_, rfl, q⟩⟩
theorem wp_some {x : α} : Wp (some x) Q ↔ Q x := ⟨fun ⟨_, h, q⟩ => by cases h; exact q, fun q => ⟨x, rfl, q⟩⟩
theorem wp_none : Wp (none : Option α) Q ↔ False := ⟨fun ⟨_, h, _⟩ => (by cases h), fun h => h.elim⟩
theorem Wp.mono (h : Wp o Q) (i : ∀ x, Q x → R x) : Wp o R := let ⟨x, e, q⟩ := h; ⟨x, e, i x q⟩
theorem Wp.of {x : α} (e : o = some x) (q : Q x) : Wp o Q := ⟨x, e, q⟩
end
/-! ### stores: what stays -/
theorem Ms.get_push {s : Ms} {o : Mo} : (push s o).get s.sz = some o := by rw [push_get, if_pos rfl]
theorem push_sz {s : Ms} {o : Mo} : (push s o).sz = s.sz + 1 := rfl
/-- all but the one at b stay, new ones come behind -/
structure Ext (b : Nat) (s s' : Ms) : Prop where
  sz : s.sz ≤ s'.sz
  get : ∀ n, n < s.sz → n ≠ b → s'.get n = s.get n
theorem Ext.refl {b : Nat} {s : Ms} : Ext b s s := ⟨Nat.le_refl _, fun _ _ _ => rfl⟩
theorem Ext.trans {b : Nat} {s s1 s2 : Ms} (h : Ext b s s1) (g : Ext b s1 s2) : Ext b s s2 := ⟨Nat.le_trans h.sz g.sz, fun n hn hb => (g.get n (Nat.lt_of_lt_of_le hn h.sz) hb).trans (h.get n hn hb)⟩
theorem Ext.push {b : Nat} {s : Ms} {o : Mo} : Ext b s (push s o) := ⟨Nat.le_succ _, fun n hn _ => by rw [push_get, if_neg (by omega)]⟩
theorem Ext.put {b : Nat} {s s' : Ms} {o : Mo} {n : Nat} (h : Ext b s s') (hn : n = b ∨ s.sz ≤ n) : Ext b s (s'.put n o) := ⟨h.sz, fun m hm hb => by
  rw [put_get', if_neg (by omega)]; exact h.get m hm hb⟩
theorem Ext.at {b : Nat} {s s' : Ms} (h : Ext b s s') {n : Nat} {o : Option Mo} (hn : n < s.sz) (hb : n ≠ b) (e : s.get n = o) : s'.get n = o := (h.get n hn hb).trans e
/-- nothing changes, new ones come behind -/
structure Ex0 (s s' : Ms) : Prop where
  sz : s.sz ≤ s'.sz
  get : ∀ n, n < s.sz → s'.get n = s.get n
theorem Ex0.refl {s : Ms} : Ex0 s s := ⟨Nat.le_refl _, fun _ _ => rfl⟩
theorem Ex0.trans {s s1 s2 : Ms} (h : Ex0 s s1) (g : Ex0 s1 s2) : Ex0 s s2 := ⟨Nat.le_trans h.sz g.sz, fun n hn => (g.get n (Nat.lt_of_lt_of_le hn h.sz)).trans (h.get n hn)⟩
theorem Ex0.push {s : Ms} {o : Mo} : Ex0 s (push s o) := ⟨Nat.le_succ _, fun n hn => by rw [push_get, if_neg (by omega)]⟩
theorem Ex0.ext {b : Nat} {s s' : Ms} (h : Ex0 s s') : Ext b s s' := ⟨h.sz, fun n hn _ => h.get n hn⟩
theorem Ex0.at {s s' : Ms} (h : Ex0 s s') {n : Nat} {o : Option Mo} (hn : n < s.sz) (e : s.get n = o) : s'.get n = o := (h.get n hn).trans e
/-- the source of draws -/
structure Bx' (s : Ms) (b m : Nat) : Prop where
  lt : b < s.sz
  ob : ∃ a c n : Int, s.get b = some (.lst [.int a, .int c, .int n]) ∧ BoxOk a c n ∧ n ≤ m
theorem Bx'.mono {s : Ms} {b m m' : Nat} (h : Bx' s b m) (le : m ≤ m') : Bx' s b m' := ⟨h.lt, h.ob.elim fun a ⟨c, n, e, o, l⟩ => ⟨a, c, n, e, o, by omega⟩⟩
theorem Bx'.ex0 {s s' : Ms} {b m : Nat} (h : Bx' s b m) (g : Ex0 s s') : Bx' s' b m := ⟨Nat.lt_of_lt_of_le h.lt g.sz, h.ob.elim fun a ⟨c, n, e, o, l⟩ => ⟨a, c, n, g.at h.lt e, o, l⟩⟩
theorem Bx'.put {s : Ms} {b m n : Nat} {o : Mo} (h : Bx' s b m) (hn : n ≠ b) : Bx' (s.put n o) b m := ⟨h.lt, h.ob.elim fun a ⟨c, n, e, o, l⟩ => ⟨a, c, n, by rw [put_get', if_neg (by omega)]; exact e, o, l⟩⟩
theorem Bx'.push {s : Ms} {b m : Nat} {o : Mo} (h : Bx' s b m) : Bx' (push s o) b m := h.ex0 Ex0.push
/-! ### words -/
theorem newL_of {ws : List Mv} {s : Ms} (h : ws.length ≤ 16777216) : newL ws s = some (.ref s.sz, push s (.lst ws)) := by
  unfold newL
  rw [llen_eq, Nat.ble_eq_true_of_le h]
  rfl
theorem newT_of {ws : List Mv} {s : Ms} (h : ws.length ≤ 16777216) : newT ws s = some (.tup ws, s) := by
  unfold newT
  rw [llen_eq, Nat.ble_eq_true_of_le h]
  rfl
theorem items_ref {s : Ms} {n : Nat} {ws : List Mv} (h : s.get n = some (.lst ws)) : items (.ref n) s = some ws := by
  show (match s.get n with
    | some (.lst ws) => some ws
    | _ => none) = _
  rw [h]
theorem ixA_of {a : Mv} {s : Ms} {i : Int} {ws : List Mv} {w : Mv} (h : items a s = some ws) (e : atF ws i = some w) : ixA a (.int i) s = some (w, s) := by
  unfold ixA
  have : ixW a (.int i) s = some (w, s) := by
    show (items a s).ob (fun ws => (atF ws i).om fun w => (w, s)) = _
    rw [h, ob_of, e, om_of]
  rw [this]
theorem atF_of {α : Type} {ws : List α} {i : Nat} {w : α} (h : ws[i]? = some w) : atF ws (i : Int) = some w := by
  show lget ws i = _
  rw [lget_eq]; exact h
theorem atF_int {α : Type} {ws : List α} {i : Int} {w : α} (h0 : 0 ≤ i) (h : ws[i.toNat]? = some w) : atF ws i = some w := by
  obtain ⟨n, rfl⟩ := Int.eq_ofNat_of_zero_le h0
  exact atF_of h
theorem lenB_of {a : Mv} {s : Ms} {ws : List Mv} (h : items a s = some ws) : lenB a s = some ws.length := by
  unfold items at h
  unfold lenB
  cases a with
  | tup xs => cases h; rfl
  | fl xs => cases h; rfl
  | ref n =>
    simp only at h ⊢
    split at h
    · rename_i e
      cases h
      first
        | rfl
        | rw [e]
    · cases h
  | _ => cases h
theorem lenW_of {a : Mv} {s : Ms} {ws : List Mv} (h : items a s = some ws) : lenW [a] s = some (.int (ws.length : Nat), s) := by
  show (lenB a s).om _ = _
  rw [lenB_of h]; rfl
/-- the iterator gives these -/
def Gives (it : It0) (ws : List Mv) (s : Ms) : Prop := ∀ i, it.at i s = some ws[i]?
theorem gives_seq {ws : List Mv} {s : Ms} : Gives (.seq ws) ws s := fun i => by show some (lget ws i) = _; rw [lget_eq]
theorem gives_lst {n : Nat} {ws : List Mv} {s : Ms} (h : s.get n = some (.lst ws)) : Gives (.lst n) ws s := fun i => by
  show (match s.get n with
    | some (.lst ws) => some (lget ws i)
    | _ => none) = _
  rw [h]
  show some (lget ws i) = _
  rw [lget_eq]
def rngL (lo : Int) (n : Nat) : List Mv := (List.range n).map fun (i : Nat) => Mv.int (lo + (i : Int))
theorem rngL_len {lo : Int} {n : Nat} : (rngL lo n).length = n := by simp [rngL]
theorem rngL_get {lo : Int} {n i : Nat} {w : Mv} (h : (rngL lo n)[i]? = some w) : i < n ∧ w = .int (lo + (i : Int)) := by
  unfold rngL at h
  rw [List.getElem?_map] at h
  by_cases hi : i < n
  · rw [List.getElem?_range hi] at h
    cases h
    exact ⟨hi, rfl⟩
  · rw [List.getElem?_eq_none (by simp; omega)] at h
    cases h
theorem gives_rng {lo : Int} {n : Nat} {s : Ms} : Gives (.rng lo n) (rngL lo n) s := fun i => by
  show some (cond (Nat.blt i n) (some (Mv.int (lo + i))) none) = _
  rw [nblt]
  unfold rngL
  by_cases hi : i < n
  · rw [decide_eq_true hi, List.getElem?_map, List.getElem?_range hi]; rfl
  · rw [decide_eq_false hi, List.getElem?_eq_none (by simp; omega)]; rfl
/-! ### loops -/
theorem wp_loop {it : It0} {T : Tg} {B : Fs} (ws : List Mv) (I : Nat → Me → Ms → Prop) (ha : ∀ i r s, i ≤ ws.length → I i r s → Gives it ws s)
    (hs : ∀ i w r s, ws[i]? = some w → I i r s → Wp (T.asg w r) fun r1 => Wp (B r1 s) fun x => x.1 = .nx ∧ I (i + 1) x.2.1 x.2.2) : ∀ (m i : Nat) (r : Me) (s : Ms), ws.length < m + i → i ≤ ws.length → I i r s → Wp (mloop it T B m i r s) fun x => x.1 = .nx ∧ I ws.length x.2.1 x.2.2
  | 0, i, r, s, hm, hi, _ => by omega
  | m + 1, i, r, s, hm, hi, h => by
    rw [mloop_succ, ha i r s hi h i]
    cases e : ws[i]? with
    | none =>
      have : i = ws.length := by have := List.getElem?_eq_none_iff.mp e; omega
      subst this
      exact ⟨_, rfl, rfl, h⟩
    | some w =>
      have hl := (List.getElem?_eq_some_iff.mp e).1
      show Wp ((T.asg w r).ob _) _
      rw [wp_ob]
      refine (hs i w r s e h).mono fun r1 h1 => ?_
      rw [wp_ob]
      refine h1.mono fun x hx => ?_
      obtain ⟨fl, r2, s2⟩ := x
      obtain ⟨rfl, h2⟩ := hx
      exact wp_loop ws I ha hs m (i + 1) r2 s2 (by omega) (by omega) h2
theorem wp_flat {it : It0} {st : Mv → Ms → Option (List Mv × Ms)} (ws : List Mv) (I : Nat → List Mv → Ms → Prop) (ha : ∀ i acc s, i ≤ ws.length → I i acc s → Gives it ws s)
    (hs : ∀ i w acc s, ws[i]? = some w → I i acc s → Wp (st w s) fun x => I (i + 1) (acc ++ x.1) x.2) : ∀ (m i : Nat) (acc : List Mv) (s : Ms), ws.length < m + i → i ≤ ws.length → I i acc s → Wp (mflat it st m i s) fun x => I ws.length (acc ++ x.1) x.2
  | 0, i, acc, s, hm, hi, _ => by omega
  | m + 1, i, acc, s, hm, hi, h => by
    rw [mflat_succ, ha i acc s hi h i]
    cases e : ws[i]? with
    | none =>
      have : i = ws.length := by have := List.getElem?_eq_none_iff.mp e; omega
      subst this
      exact ⟨_, rfl, by simpa using h⟩
    | some w =>
      have hl := (List.getElem?_eq_some_iff.mp e).1
      show Wp ((st w s).ob _) _
      rw [wp_ob]
      refine (hs i w acc s e h).mono fun x hx => ?_
      rw [wp_om]
      refine (wp_flat ws I ha hs m (i + 1) (acc ++ x.1) x.2 (by omega) (by omega) hx).mono fun y hy => ?_
      simpa [List.append_assoc] using hy
/-- a comprehension that leaves the store as it is -/
theorem flat_pure {it : It0} {st : Mv → Ms → Option (List Mv × Ms)} {ws : List Mv} {s : Ms} (f : Mv → List Mv) (hl : ws.length < 1000000000) (ha : Gives it ws s) (hs : ∀ w ∈ ws, st w s = some (f w, s)) : mflat it st 1000000000 0 s = some (ws.flatMap f, s) := by
  obtain ⟨⟨y, s'⟩, e, h1, h2⟩ := wp_flat (it := it) (st := st) ws (fun i acc s' => s' = s ∧ acc = (ws.take i).flatMap f) (fun i acc s' _ h => h.1 ▸ ha) (fun i w acc s' e h => by
    obtain ⟨rfl, rfl⟩ := h
    refine ⟨_, hs w (List.mem_of_getElem? e), rfl, ?_⟩
    rw [List.take_add_one, e]
    simp) 1000000000 0 [] s (by omega) (by omega) ⟨rfl, rfl⟩
  simp only [List.nil_append, List.take_length] at h2
  simp only at h1
  rw [e, h1, h2]

end
section
/-! ### words of the mirror, with what is wanted behind them -/
theorem wp_mvar {i : Nat} {r : Me} {s : Ms} {Q : Mv × Ms → Prop} : Wp (mvar i r s) Q ↔ (match r[i]? with
    | some (some w) => Q (w, s)
    | _ => False) := by
  unfold mvar
  rw [lget_eq]
  cases r[i]? with
  | none => exact wp_none
  | some o => cases o with
    | none => exact wp_none
    | some w => exact wp_some
theorem wp_seq {A B : Fs} {r : Me} {s : Ms} {Q : Fl × Me × Ms → Prop} (h : Wp (A r s) fun x => x.1 = .nx ∧ Wp (B x.2.1 x.2.2) Q) : Wp (sseq A B r s) Q := by
  unfold sseq
  rw [wp_ob]
  refine h.mono fun x hx => ?_
  obtain ⟨fl, r1, s1⟩ := x
  obtain ⟨rfl, h⟩ := hx
  exact h
theorem wp_fn {np nl : Nat} {B : Fs} {ws : List Mv} {s : Ms} {Q : Mv × Ms → Prop} (r : Me) (hl : ws.length = np) (hr : lsome (nl - np) ws = r) (h : Wp (B r s) fun x => ∃ w, x.1 = .rt w ∧ Q (w, x.2.2)) : Wp (fnM np nl B ws s) Q := by
  unfold fnM
  rw [hl, beq_t, cond_true, hr, wp_ob]
  refine h.mono fun x hx => ?_
  obtain ⟨fl, r1, s1⟩ := x
  obtain ⟨w, e, q⟩ := hx
  simp only at e
  subst e
  exact ⟨_, rfl, q⟩
theorem wp_for {I : Fi} {T : Tg} {B : Fs} {r : Me} {s : Ms} {Q : Fl × Me × Ms → Prop} (h : Wp (I r s) fun x => Wp (mloop x.1 T B 1000000000 0 r x.2) Q) : Wp (sfor I T B r s) Q := by
  unfold sfor
  rw [wp_ob]; exact h
theorem wp_R1 {A : Fa} {r : Me} {s : Ms} {Q : It0 × Ms → Prop} (h : Wp (A r s) fun x => ∃ j : Int, x.1 = [.int j] ∧ okI j = true ∧ Q (.rng 0 j.toNat, x.2)) : Wp (miR1 A r s) Q := by
  unfold miR1
  rw [wp_ob]
  refine h.mono fun x hx => ?_
  obtain ⟨ws, s1⟩ := x
  obtain ⟨j, rfl, h1, h2⟩ := hx
  exact ⟨_, by show cond (okI j) _ _ = _; rw [h1]; rfl, h2⟩
theorem okI_of {j : Int} (h0 : 0 ≤ j) (h1 : j ≤ 1000000) : okI j = true := by
  unfold okI
  rw [decide_eq_true (by omega), decide_eq_true (by omega)]; rfl
/-- a sequence whose items stay -/
def Itm (b : Nat) (s : Ms) (v : Mv) (ws : List Mv) : Prop := v = .tup ws ∨ ∃ n, v = .ref n ∧ n < s.sz ∧ n ≠ b ∧ s.get n = some (.lst ws)
theorem Itm.items {b : Nat} {s : Ms} {v : Mv} {ws : List Mv} (h : Itm b s v ws) : items v s = some ws := by
  rcases h with rfl | ⟨n, rfl, _, _, e⟩
  · rfl
  · exact items_ref e
theorem Itm.ext {b : Nat} {s s' : Ms} {v : Mv} {ws : List Mv} (h : Itm b s v ws) (x : Ext b s s') : Itm b s' v ws := by
  rcases h with rfl | ⟨n, rfl, h1, h2, e⟩
  · exact .inl rfl
  · exact .inr ⟨n, rfl, Nat.lt_of_lt_of_le h1 x.sz, h2, x.at h1 h2 e⟩
theorem wp_S {b : Nat} {A : Fe} {r : Me} {s : Ms} {Q : It0 × Ms → Prop} (h : Wp (A r s) fun x => ∃ ws, Itm b x.2 x.1 ws ∧ ∀ it, (∀ s', Ext b x.2 s' → Gives it ws s') → Q (it, x.2)) : Wp (miS A r s) Q := by
  unfold miS
  rw [wp_ob]
  refine h.mono fun x hx => ?_
  obtain ⟨v, s1⟩ := x
  obtain ⟨ws, h1, h2⟩ := hx
  rcases h1 with e | ⟨n, e, e1, e2, e3⟩
  · simp only at e
    subst e
    exact ⟨_, rfl, h2 _ fun s' _ => gives_seq⟩
  · simp only at e e1 e2 e3
    subst e
    refine ⟨(.lst n, s1), ?_, h2 _ fun s' x => gives_lst (x.at e1 e2 e3)⟩
    simp only [e3]
theorem wp_S' {A : Fe} {r : Me} {s : Ms} {Q : It0 × Ms → Prop} (h : Wp (A r s) fun x => ∃ ws, items x.1 x.2 = some ws ∧ ∀ it, (∀ s', items x.1 s' = some ws → Gives it ws s') → Q (it, x.2)) : Wp (miS A r s) Q := by
  unfold miS
  rw [wp_ob]
  refine h.mono fun x hx => ?_
  obtain ⟨v, s1⟩ := x
  obtain ⟨ws, h1, h2⟩ := hx
  have gl : ∀ n (s' : Ms), items (.ref n) s' = some ws → s'.get n = some (.lst ws) := fun n s' e => by
    unfold items at e
    simp only at e
    split at e
    · rename_i e1
      cases e
      exact e1
    · cases e
  cases v with
  | tup xs => cases h1; exact ⟨_, rfl, h2 _ fun s' _ => gives_seq⟩
  | fl xs => cases h1; exact ⟨_, rfl, h2 _ fun s' _ => gives_seq⟩
  | ref n =>
    refine ⟨(.lst n, s1), ?_, h2 _ fun s' e => gives_lst (gl n s' e)⟩
    simp only [gl n s1 h1]
  | _ => cases h1
theorem wp_lc {I : Fi} {T : Tg} {C : Ft} {E : Fe} {vs : List Nat} {r : Me} {s : Ms} {Q : Mv × Ms → Prop} (h : Wp (I r s) fun x => Wp (mflat x.1 (mstep T C E (mwipe r vs)) 1000000000 0 x.2) fun y => y.1.length ≤ 16777216 ∧ Q (.ref y.2.sz, push y.2 (.lst y.1))) : Wp (mlc I T C E vs r s) Q := by
  unfold mlc
  rw [wp_ob]
  refine h.mono fun x hx => ?_
  rw [wp_ob]
  exact hx.mono fun y hy => ⟨_, newL_of hy.1, hy.2⟩
/-- found.append(..), where found is a list of ours -/
theorem wp_app {O : Fe} {A : Fa} {r : Me} {s : Ms} {Q : Mv × Ms → Prop} {n : Nat} {xs : List Mv} (hO : O r s = some (.ref n, s)) (hn : s.get n = some (.lst xs)) (h : Wp (A r s) fun x => ∃ w ys, x.1 = [w] ∧ x.2.get n = some (.lst ys) ∧ ys.length < 16777216 ∧ Q (.non, x.2.put n (.lst (ys ++ [w])))) : Wp (mbmL appW O A r s) Q := by
  unfold mbmL
  rw [hO, ob_of]
  simp only [hn]
  rw [wp_ob]
  refine h.mono fun x hx => ?_
  obtain ⟨ws, s1⟩ := x
  obtain ⟨w, ys, rfl, e, hl, q⟩ := hx
  simp only at e q
  simp only [e]
  refine ⟨_, ?_, q⟩
  show cond (Nat.blt ys.length 16777216) _ _ = _
  rw [nblt, decide_eq_true hl]; rfl
theorem wp_pop {O : Fe} {A : Fa} {r : Me} {s : Ms} {Q : Mv × Ms → Prop} {n : Nat} {xs : List Mv} (hO : O r s = some (.ref n, s)) (hn : s.get n = some (.lst xs)) (h : Wp (A r s) fun x => ∃ (i : Int) (ys : List Mv) (w : Mv), x.1 = [.int i] ∧ 0 ≤ i ∧ x.2.get n = some (.lst ys) ∧ ys[i.toNat]? = some w ∧ Q (w, x.2.put n (.lst (ys.eraseIdx i.toNat)))) : Wp (mbmL popW O A r s) Q := by
  unfold mbmL
  rw [hO, ob_of]
  simp only [hn]
  rw [wp_ob]
  refine h.mono fun x hx => ?_
  obtain ⟨ws, s1⟩ := x
  obtain ⟨i, ys, w, rfl, h0, e, hw, q⟩ := hx
  simp only at e q
  simp only [e]
  refine ⟨_, ?_, q⟩
  show (ixN ys.length i).ob _ = _
  have : ixN ys.length i = some i.toNat := by
    unfold ixN
    have := (List.getElem?_eq_some_iff.mp hw).1
    rw [if_pos h0, if_pos (by omega)]
  rw [this, ob_of, hw, om_of]
theorem erase_map {α β : Type} (f : α → β) : ∀ (l : List α) (i : Nat), (l.map f).eraseIdx i = (l.eraseIdx i).map f
  | [], _ => rfl
  | _ :: _, 0 => rfl
  | x :: l, i + 1 => congrArg (f x :: ·) (erase_map f l i)
theorem erase_perm {α : Type} : ∀ (l : List α) (i : Nat) (h : i < l.length), (l[i] :: l.eraseIdx i).Perm l
  | x :: l, 0, _ => List.Perm.refl _
  | x :: l, i + 1, h => (List.Perm.swap _ _ _).trans ((erase_perm l i (by simpa using h)).cons x)

end
section
/-! ### the law's own loop, over sources that are lists of numbers -/
theorem len_fl {s : Ms} {ns : List Int} : lenW [.fl (ns.map Mv.int)] s = some (.int (ns.length : Nat), s) := by
  rw [lenW_of (a := .fl (ns.map Mv.int)) (s := s) (ws := ns.map Mv.int) rfl, List.length_map]
theorem all_rep {s : Ms} {n j : Nat} (h : s.get n = some (.lst (List.replicate j (Mv.bl true)))) : allW [.ref n] s = some (.bl true, s) := by
  show ((lstOf (.ref n) s).ob fun xs => (boolsOf xs).om fun bs => (Mv.bl (bs.all id), s)) = _
  have : lstOf (.ref n) s = some (List.replicate j (Mv.bl true)) := items_ref h
  rw [this, ob_of, bools_rep, om_of]
  have : (List.replicate j true).all id = true := by
    rw [List.all_eq_true]
    intro x hx
    rw [List.eq_of_mem_replicate hx]; rfl
  rw [this]
theorem law_genW {bx rt : Fn} {R L D : Nat} (hb : BoxFn bx) (hR : R ≤ 100) (hL : L ≤ 100) (hr : ∀ s b m, Bx' s b m → m + D ≤ L * D → Wp (rt [.ref b] s) fun x => x.1 = .bl true ∧ Bx' x.2 b (m + D)) (ns : List Int) : ∃ s', fnM 1 4 (lawB bx rt (R : Int) (L : Int)) [.fl (ns.map .int)] ⟨0, .nil⟩ = some (.bl true, s') := by
  have key : Wp (fnM 1 4 (lawB bx rt (R : Int) (L : Int)) [.fl (ns.map .int)] ⟨0, .nil⟩) fun y => y.1 = .bl true := by
    refine wp_fn [some (.fl (ns.map .int)), none, none, none] rfl rfl ?_
    unfold lawB
    refine wp_seq ?_
    refine wp_for (wp_R1 ?_)
    simp only [wp_ob, wp_om, wp_some, wp_mvar, sset, sexp, sret, sif, spar, spar3, snx, mtB, mtst, mop1, mop2, mcall, mcons, mnil, mcon, mif, mtup, mlst, mand, mor, mnot, mandV, morV, mnotV, lset_eq, List.getElem?_cons_zero, List.getElem?_cons_succ, List.set_cons_zero, List.set_cons_succ, cond_true, cond_false, len_fl, min2W, addW]
    generalize hj : Int.add 1 (if ((ns.length : Nat) : Int) < (R : Int) then ((ns.length : Nat) : Int) else (R : Int)) = j
    have hj' : 1 + (if ((ns.length : Nat) : Int) < (R : Int) then ((ns.length : Nat) : Int) else (R : Int)) = j := hj
    have j0 : 0 ≤ j ∧ j ≤ 101 := by split at hj' <;> omega
    refine ⟨j, rfl, okI_of j0.1 (by omega), ?_⟩
    refine (wp_loop (rngL 0 j.toNat) (fun i r s' => ∃ o1 o2 o3, r = [some (.fl (ns.map .int)), o1, o2, o3]) (fun i r s' _ _ => gives_rng) ?_ 1000000000 0 _ _ (by rw [rngL_len]; omega) (by omega) ⟨none, none, none, rfl⟩).mono ?_
    · rintro i w r s' hw ⟨o1, o2, o3, rfl⟩
      obtain ⟨hi, rfl⟩ := rngL_get hw
      refine ⟨_, rfl, wp_seq ?_⟩
      obtain ⟨A, C, hA, hC, hC2, e⟩ := hb ns (0 + (i : Int)) s' (by omega) (by omega)
      rw [newL_of (by simp)] at e
      simp only [wp_ob, wp_om, wp_some, wp_mvar, sset, sexp, sret, sif, spar, spar3, snx, mtB, mtst, mop1, mop2, mcall, mcons, mnil, mcon, mif, mtup, mlst, mand, mor, mnot, mandV, morV, mnotV, lset_eq, List.getElem?_cons_zero, List.getElem?_cons_succ, List.set_cons_zero, List.set_cons_succ, cond_true, cond_false, e]
      refine ⟨trivial, ?_⟩
      unfold lapB
      simp only [wp_ob, wp_om, wp_some, wp_mvar, sset, sexp, sret, sif, spar, spar3, snx, mtB, mtst, mop1, mop2, mcall, mcons, mnil, mcon, mif, mtup, mlst, mand, mor, mnot, mandV, morV, mnotV, lset_eq, List.getElem?_cons_zero, List.getElem?_cons_succ, List.set_cons_zero, List.set_cons_succ, cond_true, cond_false]
      refine wp_lc (wp_R1 ?_)
      simp only [wp_ob, wp_om, wp_some, wp_mvar, sset, sexp, sret, sif, spar, spar3, snx, mtB, mtst, mop1, mop2, mcall, mcons, mnil, mcon, mif, mtup, mlst, mand, mor, mnot, mandV, morV, mnotV, lset_eq, List.getElem?_cons_zero, List.getElem?_cons_succ, List.set_cons_zero, List.set_cons_succ, cond_true, cond_false]
      refine ⟨L, rfl, okI_of (by omega) (by omega), ?_⟩
      have B0 : Bx' (push s' (.lst [.int A, .int C, .int 0])) s'.sz 0 := ⟨by rw [push_sz]; omega, A, C, 0, Ms.get_push, ⟨hA, hC, hC2, by decide⟩, by decide⟩
      refine (wp_flat (rngL 0 (L : Int).toNat) (fun i acc s2 => acc = List.replicate i (Mv.bl true) ∧ Bx' s2 s'.sz (i * D)) (fun i acc s2 _ _ => gives_rng) ?_ 1000000000 0 [] _ (by rw [rngL_len]; omega) (by omega) ⟨rfl, by simpa using B0⟩).mono ?_
      · rintro k w acc s2 hw2 ⟨rfl, B⟩
        obtain ⟨hk, rfl⟩ := rngL_get hw2
        unfold mstep
        simp only [wp_ob, wp_om, wp_some, wp_mvar, sset, sexp, sret, sif, spar, spar3, snx, mtB, mtst, mop1, mop2, mcall, mcons, mnil, mcon, mif, mtup, mlst, mand, mor, mnot, mandV, morV, mnotV, lset_eq, List.getElem?_cons_zero, List.getElem?_cons_succ, List.set_cons_zero, List.set_cons_succ, cond_true, cond_false, mwipe, Tg.asg, myes]
        have hk' : k < L := by omega
        refine (hr s2 s'.sz (k * D) B ?_).mono fun x hx => ?_
        · calc k * D + D = (k + 1) * D := by rw [Nat.succ_mul]
            _ ≤ L * D := Nat.mul_le_mul_right D hk'
        · obtain ⟨h1, h2⟩ := hx
          rw [h1]
          refine ⟨by rw [List.replicate_succ'], ?_⟩
          rw [Nat.succ_mul]; exact h2
      · rintro ⟨acc, s2⟩ ⟨h1, h2⟩
        simp only [List.nil_append] at h1
        subst h1
        refine ⟨by rw [List.length_replicate, rngL_len]; omega, ?_⟩
        rw [all_rep Ms.get_push]
        simp only [wp_ob, wp_om, wp_some, wp_mvar, sset, sexp, sret, sif, spar, spar3, snx, mtB, mtst, mop1, mop2, mcall, mcons, mnil, mcon, mif, mtup, mlst, mand, mor, mnot, mandV, morV, mnotV, lset_eq, List.getElem?_cons_zero, List.getElem?_cons_succ, List.set_cons_zero, List.set_cons_succ, cond_true, cond_false, tru, Bool.not_true]
        exact ⟨trivial, _, _, _, rfl⟩
    · rintro ⟨fl, r, s'⟩ ⟨e, o1, o2, o3, rfl⟩
      simp only at e
      subst e
      refine ⟨rfl, ?_⟩
      exact ⟨_, rfl, rfl⟩
  obtain ⟨⟨w, s'⟩, h1, h2⟩ := key
  simp only at h2
  subst h2
  exact ⟨s', h1⟩
section
variable {X : Cx} {G : Mg} {x : Str} {p0 pos : Pos} {f : Fn}
end

end
section
/-! ### frames: what stays outside of some places -/
structure ExtL (L : List Nat) (s s' : Ms) : Prop where
  sz : s.sz ≤ s'.sz
  get : ∀ n, n < s.sz → n ∉ L → s'.get n = s.get n
theorem ExtL.refl {L : List Nat} {s : Ms} : ExtL L s s := ⟨Nat.le_refl _, fun _ _ _ => rfl⟩
theorem ExtL.trans' {L L' : List Nat} {s s1 s2 : Ms} (h : ExtL L s s1) (g : ExtL L' s1 s2) (i : ∀ x ∈ L', x ∈ L ∨ s.sz ≤ x) : ExtL L s s2 := ⟨Nat.le_trans h.sz g.sz, fun n hn hL => by
  rw [g.get n (Nat.lt_of_lt_of_le hn h.sz) (fun z => (i n z).elim hL fun z => by omega), h.get n hn hL]⟩
theorem ExtL.trans {L : List Nat} {s s1 s2 : Ms} (h : ExtL L s s1) (g : ExtL L s1 s2) : ExtL L s s2 := h.trans' g fun _ z => .inl z
theorem Ex0.extL {L : List Nat} {s s' : Ms} (h : Ex0 s s') : ExtL L s s' := ⟨h.sz, fun n hn _ => h.get n hn⟩
theorem Ext.extL {L : List Nat} {b : Nat} {s s' : Ms} (h : Ext b s s') (hb : b ∈ L) : ExtL L s s' := ⟨h.sz, fun n hn hL => h.get n hn fun z => hL (z ▸ hb)⟩
theorem ExtL.ext {b : Nat} {s s' : Ms} (h : ExtL [b] s s') : Ext b s s' := ⟨h.sz, fun n hn hb => h.get n hn (by simpa using hb)⟩
theorem ExtL.mono {L L' : List Nat} {s s' : Ms} (h : ExtL L s s') (i : ∀ x ∈ L, x ∈ L' ∨ s.sz ≤ x) : ExtL L' s s' := ⟨h.sz, fun n hn hL => h.get n hn fun z => (i n z).elim hL fun z => by omega⟩
theorem ExtL.put {L : List Nat} {s s' : Ms} {o : Mo} {n : Nat} (h : ExtL L s s') (hn : n ∈ L ∨ s.sz ≤ n) : ExtL L s (s'.put n o) := ⟨h.sz, fun m hm hL => by
  rw [put_get', if_neg (by rintro rfl; exact hn.elim hL fun z => by omega)]; exact h.get m hm hL⟩
theorem ExtL.push {L : List Nat} {s s' : Ms} {o : Mo} (h : ExtL L s s') : ExtL L s (Mi.push s' o) := h.trans Ex0.push.extL
theorem ExtL.at {L : List Nat} {s s' : Ms} (h : ExtL L s s') {n : Nat} {o : Option Mo} (hn : n < s.sz) (hL : n ∉ L) (e : s.get n = o) : s'.get n = o := (h.get n hn hL).trans e
theorem Bx'.extL {L : List Nat} {s s' : Ms} {b m : Nat} (h : Bx' s b m) (g : ExtL L s s') (hb : b ∉ L) : Bx' s' b m := ⟨Nat.lt_of_lt_of_le h.lt g.sz, h.ob.elim fun a ⟨c, n, e, o, l⟩ => ⟨a, c, n, g.at h.lt hb e, o, l⟩⟩
theorem put_get_ne {s : Ms} {b n : Nat} {o : Mo} (h : n ≠ b) : (s.put b o).get n = s.get n := by rw [put_get', if_neg h]
theorem put_get_eq {s : Ms} {b : Nat} {o : Mo} : (s.put b o).get b = some o := by rw [put_get', if_pos rfl]
/-! ### fields, methods -/
theorem fld_of {s : Ms} {n c k : Nat} {fs : List (Nat × Mv)} {w : Mv} (h : s.get n = some (.ins c fs)) (g : getM k fs = some w) : fldW c k (.ref n) s = some (w, s) := by
  show (match s.get n with
    | some (.ins c' fs) => cond (Nat.beq c' c) ((getM k fs).om fun w => (w, s)) none
    | _ => none) = _
  rw [h]
  show cond (Nat.beq c c) _ _ = _
  rw [beq_t, cond_true, g, om_of]
theorem wp_fldset {c k : Nat} {O A : Fe} {r : Me} {s : Ms} {Q : Fl × Me × Ms → Prop} (h : Wp (A r s) fun y => ∃ n fs, O r y.2 = some (.ref n, y.2) ∧ y.2.get n = some (.ins c fs) ∧ fs.length < 1000 ∧ Q (.nx, r, y.2.put n (.ins c (putM k y.1 fs)))) : Wp (sfld c k O A r s) Q := by
  unfold sfld
  rw [wp_ob]
  refine h.mono fun y hy => ?_
  obtain ⟨n, fs, e1, e2, e3, q⟩ := hy
  rw [e1, ob_of]
  simp only [e2]
  rw [beq_t, nblt, decide_eq_true e3]
  exact ⟨_, rfl, q⟩
theorem wp_make {c : Nat} {f : Fn} {A : Fa} {r : Me} {s : Ms} {Q : Mv × Ms → Prop} (h : Wp (A r s) fun y => Wp (f (.ref y.2.sz :: y.1) (push y.2 (.ins c []))) fun z => z.1 = .non ∧ Q (.ref y.2.sz, z.2)) : Wp (mmake c f A r s) Q := by
  unfold mmake
  rw [wp_ob]
  refine h.mono fun y hy => ?_
  show Wp ((some (y.2.sz, push y.2 (.ins c []))).ob _) _
  rw [ob_of, wp_ob]
  refine hy.mono fun z hz => ?_
  obtain ⟨v, s1⟩ := z
  obtain ⟨e, q⟩ := hz
  simp only at e
  subst e
  exact ⟨_, rfl, q⟩
/-! ### while -/
/-! ### dict comprehensions -/
/-! ### sets of names: dicts whose values are True -/
def addN (xs : List Str) (x : Str) : List Str := if x ∈ xs then xs else xs ++ [x]
theorem mem_addN {xs : List Str} {x y : Str} : y ∈ addN xs x ↔ y ∈ xs ∨ y = x := by
  unfold addN
  by_cases h : x ∈ xs
  · rw [if_pos h]
    exact ⟨.inl, fun z => z.elim id fun e => e ▸ h⟩
  · rw [if_neg h]; simp
theorem mem_foldN {y : Str} : ∀ {zs xs : List Str}, y ∈ zs.foldl addN xs ↔ y ∈ xs ∨ y ∈ zs
  | [], xs => by simp
  | z :: zs, xs => by
    rw [List.foldl_cons, mem_foldN, mem_addN, List.mem_cons, or_assoc]
def hdk (xs : List Str) : List (Key × Mv) := xs.map fun x => (Sum.inr x, Mv.bl true)
theorem wp_proc {np nl : Nat} {B : Fs} {ws : List Mv} {s : Ms} {Q : Mv × Ms → Prop} (r : Me) (hl : ws.length = np) (hr : lsome (nl - np) ws = r) (h : Wp (B r s) fun x => x.1 = .nx ∧ Q (.non, x.2.2)) : Wp (fnM np nl B ws s) Q := by
  unfold fnM
  rw [hl, beq_t, cond_true, hr, wp_ob]
  refine h.mono fun x hx => ?_
  obtain ⟨fl, r1, s1⟩ := x
  obtain ⟨e, q⟩ := hx
  simp only at e
  subst e
  exact ⟨_, rfl, q⟩
theorem wp_seq_rt {A B : Fs} {r : Me} {s : Ms} {Q : Fl × Me × Ms → Prop} (h : Wp (A r s) fun x => ∃ w, x.1 = .rt w ∧ Q (.rt w, x.2)) : Wp (sseq A B r s) Q := by
  unfold sseq
  rw [wp_ob]
  refine h.mono fun x hx => ?_
  obtain ⟨fl, r1, s1⟩ := x
  obtain ⟨w, e, h⟩ := hx
  simp only at e
  subst e
  exact ⟨_, rfl, h⟩
theorem wp_sift {C : Ft} {A B : Fs} {r : Me} {s : Ms} {Q : Fl × Me × Ms → Prop} (h : Wp (C r s) fun x => x.1 = true ∧ Wp (A r x.2) Q) : Wp (sif C A B r s) Q := by
  unfold sif
  rw [wp_ob]
  refine h.mono fun x hx => ?_
  obtain ⟨v, s1⟩ := x
  obtain ⟨e, h⟩ := hx
  simp only at e
  subst e
  exact h
theorem wp_siff {C : Ft} {A B : Fs} {r : Me} {s : Ms} {Q : Fl × Me × Ms → Prop} (h : Wp (C r s) fun x => x.1 = false ∧ Wp (B r x.2) Q) : Wp (sif C A B r s) Q := by
  unfold sif
  rw [wp_ob]
  refine h.mono fun x hx => ?_
  obtain ⟨v, s1⟩ := x
  obtain ⟨e, h⟩ := hx
  simp only at e
  subst e
  exact h
theorem wp_andf {C D : Ft} {r : Me} {s : Ms} {Q : Bool × Ms → Prop} (h : Wp (C r s) fun x => x.1 = false ∧ Q (false, x.2)) : Wp (mand C D r s) Q := by
  unfold mand
  rw [wp_ob]
  refine h.mono fun x hx => ?_
  obtain ⟨v, s1⟩ := x
  obtain ⟨e, h⟩ := hx
  simp only at e
  subst e
  exact ⟨_, rfl, h⟩
theorem wp_andt {C D : Ft} {r : Me} {s : Ms} {Q : Bool × Ms → Prop} (h : Wp (C r s) fun x => x.1 = true ∧ Wp (D r x.2) Q) : Wp (mand C D r s) Q := by
  unfold mand
  rw [wp_ob]
  refine h.mono fun x hx => ?_
  obtain ⟨v, s1⟩ := x
  obtain ⟨e, h⟩ := hx
  simp only at e
  subst e
  exact h
theorem wp_orf {C D : Ft} {r : Me} {s : Ms} {Q : Bool × Ms → Prop} (h : Wp (C r s) fun x => x.1 = false ∧ Wp (D r x.2) Q) : Wp (mor C D r s) Q := by
  unfold mor
  rw [wp_ob]
  refine h.mono fun x hx => ?_
  obtain ⟨v, s1⟩ := x
  obtain ⟨e, h⟩ := hx
  simp only at e
  subst e
  exact h
theorem wp_ort {C D : Ft} {r : Me} {s : Ms} {Q : Bool × Ms → Prop} (h : Wp (C r s) fun x => x.1 = true ∧ Q (true, x.2)) : Wp (mor C D r s) Q := by
  unfold mor
  rw [wp_ob]
  refine h.mono fun x hx => ?_
  obtain ⟨v, s1⟩ := x
  obtain ⟨e, h⟩ := hx
  simp only at e
  subst e
  exact ⟨_, rfl, h⟩
theorem wp_nott {A : Fe} {r : Me} {s : Ms} {Q : Bool × Ms → Prop} (h : Wp (A r s) fun x => x.1 = .bl true ∧ Q (false, x.2)) : Wp (mnot (mtst A) r s) Q := by
  unfold mnot mtst
  rw [wp_om, wp_ob]
  refine h.mono fun x hx => ?_
  obtain ⟨v, s1⟩ := x
  obtain ⟨e, h⟩ := hx
  simp only at e
  subst e
  exact ⟨_, rfl, h⟩

end
section
/-! ### sorted(tuple of texts) -/
section
open PySem.Calls
variable {prog : Program} {w : World} {A : Around} {E : Value → Shared → Prop} {s : Shared}
end
section
variable {X : Cx} {G : Mg}
end
/-! ### enumerate(list) -/
section
variable {X : Cx} {G : Mg} {e : Expr}
end

end
section
/-! ### an own exception over a built-in class is made: its own start asks the class above it, then keeps the one argument in a field -/
section
open PySem.W PySem.Calls
variable {prog : Program} {w : World} {A : Around} {E : Value → Shared → Prop} {R : Result → Shared → Prop} {K : Frag} {hA : Heap} {g : Array GenState} {d : Drawn} {tk : Nat} {os : OsState}
variable {C fI cc cda : Addr} {u : Value} {mg mb : Str → Option Value} {B initId newId : String} {bmB : List Value}
variable {nm0 qual x1 x2 fld : Str} {params : Arguments} {scope : Scope} {dV kV doc pm ct oc ccl cl : Value} {an od cdd cld : Option Addr} {osl ccs csl : Array (Option Value)} {vs : Array Value} {file : Str} {tf : Tok} {ar : Arg}
variable {p0 p1 p2 p3 p4 p5 p6 p7 p8 p9 : Pos}
/-- the body of the start -/
abbrev xcBody (x1 x2 fld : Str) (p0 p1 p2 p3 p4 p5 p6 p7 p8 p9 : Pos) : List Stmt :=
  [.Expr (.Call (.Attribute (.Call (.Name "super" p0) [] [] p1) "__init__" p2) [.Name x2 p3] [] p4) p5, .Assign [.Attribute (.Name x1 p6) fld p7] (.Name x2 p8) p9]
/-- what is read off the written part -/
structure XcC (prog : Program) (K : Frag) (mg : Str → Option Value) (C : Addr) (B newId initId : String) (bmB : List Value) : Prop where
  base : ExcBaseFacts B newId initId bmB
  kxs : KxsFacts B initId
  st : StoreFacts B bmB "object.__setattr__" "object"
  q : excInitIn K C bmB newId = true
  ov : excOver K C bmB = true
  dc : hasDictIn K C = true
  sub : subIn K (.ref C) (.type B) = some true
  sC : mroIn K C (.ref C) = some true
  sa : findIn K (.ref C) "__setattr__" = some (some (.builtin "object.__setattr__"))
  any : nsIn K cStatics "thirdparty.any" = some none
  mi : ks_superIn K C C "__init__" = some (some (.builtin initId))
  cls : ∃ cd, clsIn K C = some cd
  sup : mg "super" = none
  top : (prog.main.scope.names.lookup ("super" : Str)).isSome = false
  boot : bootBuiltins "super" = some (.type "super")
/-- all that a class of exceptions is asked -/
def XcOk (prog : Program) (K : Frag) (mg : Str → Option Value) (C : Addr) : Prop :=
  ∃ (fI cc cda : Addr) (B initId newId : String) (bmB : List Value) (nm0 qual x1 x2 fld : Str) (params : Arguments) (scope : Scope) (dV kV doc pm ct ccl cl : Value) (an od cdd cld : Option Addr) (osl ccs csl : Array (Option Value)) (vs : Array Value) (file : Str) (tf : Tok) (ar : Arg) (p0 p1 p2 p3 p4 p5 p6 p7 p8 p9 : Pos) (pl : Sem Bool),
    XcC prog K mg C B newId initId bmB ∧ findIn K (.ref C) "__init__" = some (some (.ref fI)) ∧
    K.lookup fI = some ⟨.type "function", od, .func (ksFn nm0 qual params (xcBody x1 x2 fld p0 p1 p2 p3 p4 p5 p6 p7 p8 p9) scope dV kV doc pm an (.ref cda) ct cc), osl⟩ ∧
    codeIn K (.ref cda) qual = true ∧
    (∀ u a s, BindsTo s (ksFn nm0 qual params (xcBody x1 x2 fld p0 p1 p2 p3 p4 p5 p6 p7 p8 p9) scope dV kV doc pm an (.ref cda) ct cc) ⟨[.ref a, u], []⟩ [(x1, .ref a), (x2, u)]) ∧
    (params.posonlyargs ++ params.args).head? = some ar ∧ ar.arg = x1 ∧
    K.lookup cda = some ⟨ccl, cdd, .fields vs, ccs⟩ ∧ vs[2]? = some (.str file tf) ∧ ((prog.main.file : Str) == file) = true ∧
    K.lookup cc = some ⟨cl, cld, .cell (some (.ref C)), csl⟩ ∧ (∀ x ∈ scope.names, x.2 ≠ .cell) ∧
    scope.names.lookup ("super" : Str) = some .globalImplicit ∧ scope.names.lookup ("__class__" : Str) = some .free ∧ scope.names.lookup x1 = some .local ∧ scope.names.lookup x2 = some .local ∧ scope.kind = .function ∧
    scope.isCoroutine = false ∧ scope.isGenerator = false ∧ (x1 == ("__debug__" : Str)) = false ∧ (x2 == ("__debug__" : Str)) = false ∧ takerIn K C fld = some none ∧ x2 ≠ x1 ∧
    (∀ L, eval (.Call (.Attribute (.Call (.Name "super" p0) [] [] p1) "__init__" p2) [.Name x2 p3] [] p4) (ksEnv qual scope L fI (.ref cda) cc) = (do
      let ov ← attributeBase (.Call (.Name "super" p0) [] [] p1) "__init__" (ksEnv qual scope L fI (.ref cda) cc) (eval (.Call (.Name "super" p0) [] [] p1) (ksEnv qual scope L fI (.ref cda) cc))
      standAt p2.atName
      let (fu, fs) ← holding [ov] (getMethod ov "__init__" pl)
      callWith p4 fu fs (backTo p4 (starEach [.Name x2 p3] (ksEnv qual scope L fI (.ref cda) cc))) []))
end

end
section
/-! ### promises of defs that raise: what is told is the store when they do -/
section
variable {X : Cx} {G : Mg} {C : Addr} {W : WX} {e o : Expr} {es : List Expr} {pos : Pos} {st : Stmt} {rest : List Stmt} {σ : L2.St} {H : Hp} {c : Nat}
end

end
section
section
variable {P : Program} {w : World} {K : PySem.W.Frag} {mg : Str → Option Value} {base : Heap} {G : Mg} {C : Addr}
end

end
section
section
variable {X : Cx} {G : Mg} {C D : Addr} {W : WX} {e o : Expr} {es : List Expr} {pos apos : Pos} {f : Addr} {fd : FuncData} {k : Nat} {ps : List Str} {sp : Sp} {m : Str} {ta : TE} {t : TA} {pl : Sem Bool}
end
section
variable {X : Cx} {G : Mg} {C : Addr} {W : WX} {e o : Expr} {es : List Expr} {pos : Pos} {c : Nat}
end

end
section
section
variable {X : Cx} {G : Mg} {C : Addr}
end

end
section
section
variable {X : Cx} {G : Mg} {C : Addr}
end
/-! ### two promises of one def -/
noncomputable def orM (f g : Fn) : Fn := fun ws s => Option.rec (motive := fun _ => Option (Mv × Ms)) (g ws s) (fun x => some x) (f ws s)
theorem or_ok {P : Program} {w : World} {K : PySem.W.Frag} {mg : Str → Option Value} {base : Heap} {CX : CXT} {k : Nat} {f : Addr} {fd : FuncData} {ps : List Str} {G : Mg} {m1 m2 : Fn} (F1 : FnOk P w K mg base CX k f fd ps (spM G m1)) (F2 : FnOk P w K mg base CX k f fd ps (spM G m2)) : FnOk P w K mg base CX k f fd ps (spM G (orM m1 m2)) := by
  have split : ∀ vs H Q E, spM G (orM m1 m2) vs H Q E → spM G m1 vs H Q E ∨ spM G m2 vs H Q E := by
    rintro vs H Q E ⟨p, s, ws, u, s', S, l, q, k'⟩
    unfold orM at q
    cases e : m1 ws s with
    | some x =>
      rw [e] at q
      cases (show some x = some (u, s') from q)
      exact .inl ⟨p, s, ws, u, s', S, l, e, k'⟩
    | none =>
      rw [e] at q
      exact .inr ⟨p, s, ws, u, s', S, l, q, k'⟩
  exact ⟨fun vs H Q E h => (split vs H Q E h).elim (F1.len vs H Q E) (F2.len vs H Q E), fun A outer s H args us vs Q E hr he hb hv h => (split vs H Q E h).elim (F1.run A outer s H args us vs Q E hr he hb hv) (F2.run A outer s H args us vs Q E hr he hb hv)⟩

end
section
/-! ### what the end of the run tells of a class of exceptions -/
section
open PySem.W
theorem xcFn_ok {K : Frag} {C : Addr} {qual file : Str} (c : xcFn K C qual file = true) : ∃ fd od osl cda cc n ccl cdd vs ccs tf cl cld csl, K.lookup (He.ma K C "__init__") = some ⟨.type "function", od, .func fd, osl⟩ ∧ fd.code = .ref cda ∧ fd.defaults = .none ∧ fd.closure = [(n, cc)] ∧ codeIn K (.ref cda) qual = true ∧
    K.lookup cda = some ⟨ccl, cdd, .fields vs, ccs⟩ ∧ vs[2]? = some (.str file tf) ∧ K.lookup cc = some ⟨cl, cld, .cell (some (.ref C)), csl⟩ := by
  unfold xcFn at c
  split at c
  · rename_i t od fd osl lk
    simp only [Bool.and_eq_true, beq_iff_eq] at c
    obtain ⟨⟨⟨rfl, c0⟩, c1⟩, c2⟩ := c
    split at c1
    · rename_i cda hcode
      simp only [Bool.and_eq_true] at c1
      obtain ⟨c3, c4⟩ := c1
      split at c4
      · rename_i ccl cdd vs ccs lk2
        split at c4
        · rename_i v0 v1 f tf rest hv
          rw [beq_iff_eq] at c4
          subst c4
          split at c2
          · rename_i n cc hcl
            split at c2
            · rename_i cl cld v csl lk3
              rw [beq_iff_eq] at c2
              subst c2
              refine ⟨fd, od, osl, cda, cc, n, ccl, cdd, vs, ccs, tf, cl, cld, csl, lk, hcode, c0, hcl, c3, lk2, ?_, lk3⟩
              obtain ⟨l⟩ := vs
              have hv' : l = v0 :: v1 :: .str f tf :: rest := hv
              subst hv'
              rfl
            · cases c2
          · cases c2
        · cases c4
      · cases c4
    · cases c1
  · cases c
theorem xc_ok {P : Program} {K : Frag} {mg : Str → Option Value} {d : XcD} {file x1 x2 : Str} {ar : Arg} {p0 p1 p2 p3 p4 p5 p6 p7 p8 p9 : Pos} {pl : Sem Bool} (e : xcW K d.name = d.val) (c : d.ok file K = true) (hbody : d.body = xcBody x1 x2 d.fld p0 p1 p2 p3 p4 p5 p6 p7 p8 p9)
    (hB : ExcBaseFacts d.B d.newId d.initId d.bmB) (hK : KxsFacts d.B d.initId) (hS : StoreFacts d.B d.bmB "object.__setattr__" "object") (hsup : mg "super" = none) (hfile : ((P.main.file : Str) == file) = true) (htop : (P.main.scope.names.lookup ("super" : Str)).isSome = false) (hboot : bootBuiltins "super" = some (.type "super"))
    (hp : (d.params.posonlyargs ++ d.params.args).head? = some ar) (hx1 : ar.arg = x1) (hnc : ∀ x ∈ d.scope.names, x.2 ≠ .cell)
    (hks : d.scope.names.lookup ("super" : Str) = some .globalImplicit) (hkc : d.scope.names.lookup ("__class__" : Str) = some .free) (h1k : d.scope.names.lookup x1 = some .local) (h2k : d.scope.names.lookup x2 = some .local) (hk : d.scope.kind = .function)
    (hco : d.scope.isCoroutine = false) (hgen : d.scope.isGenerator = false) (d1 : (x1 == ("__debug__" : Str)) = false) (d2 : (x2 == ("__debug__" : Str)) = false) (hne : x2 ≠ x1)
    (hbind : ∀ (kV doc pm ct : Value) (an : Option Addr) (cda cc : Addr) (u : Value) (a : Addr) (s : Shared), BindsTo s (ksFn "__init__" d.qual d.params d.body d.scope .none kV doc pm an (.ref cda) ct cc) ⟨[.ref a, u], []⟩ [(x1, .ref a), (x2, u)])
    (hev : ∀ fI cda cc L, eval (.Call (.Attribute (.Call (.Name "super" p0) [] [] p1) "__init__" p2) [.Name x2 p3] [] p4) (ksEnv d.qual d.scope L fI (.ref cda) cc) = (do
      let ov ← attributeBase (.Call (.Name "super" p0) [] [] p1) "__init__" (ksEnv d.qual d.scope L fI (.ref cda) cc) (eval (.Call (.Name "super" p0) [] [] p1) (ksEnv d.qual d.scope L fI (.ref cda) cc))
      standAt p2.atName
      let (fu, fs) ← holding [ov] (getMethod ov "__init__" pl)
      callWith p4 fu fs (backTo p4 (starEach [.Name x2 p3] (ksEnv d.qual d.scope L fI (.ref cda) cc))) [])) : XcOk P K mg (He.ga K d.name) := by
  unfold XcD.ok at c
  simp only [Bool.and_eq_true, decide_eq_true_eq] at c
  obtain ⟨c1, c2, c3, c4, c5, c6, c7, c8, c9, ca, cb, cf, _, _, _, _⟩ := c
  obtain ⟨fd, od, osl, cda, cc, n, ccl, cdd, vs, ccs, tf, cl, cld, csl, lk, f1, f0, f2, f3, f4, f5, f6⟩ := xcFn_ok cf
  unfold xcW at e
  rw [lk] at e
  obtain ⟨n1, n2, n3, n4, n5, n6, n7, n8, n9, n10, n11, n12, n13, n14, n15⟩ := fd
  have e2 : (some (n1, n2, n3, n4, n5, n6, n7.map (·.1), n15) : XcV) = some (("__init__" : Str), d.qual, d.params, FuncBody.stmts d.body, d.scope, mainGlobals, [("__class__" : Str)], builtinsNs) := e
  simp only [Option.some.injEq, Prod.mk.injEq] at e2
  dsimp only at f1 f2 f0
  subst f1 f2 f0
  obtain ⟨h1, h2, h3, h4, h5, h6, h7, h8⟩ := e2
  have h7' : n = "__class__" := by simpa using h7
  subst h1 h2 h3 h4 h5 h6 h7' h8
  have hbd := hbind
  rw [hbody] at hbd lk
  exact ⟨_, cc, cda, d.B, d.initId, d.newId, d.bmB, "__init__", d.qual, x1, x2, d.fld, d.params, d.scope, _, _, _, _, _, ccl, cl, _, od, cdd, cld, osl, ccs, csl, vs, file, tf, ar, p0, p1, p2, p3, p4, p5, p6, p7, p8, p9, pl,
    ⟨hB, hK, hS, c1, c2, c3, c4, c5, c6, c7, c8, Option.isSome_iff_exists.mp c9, hsup, htop, hboot⟩, cb, lk, f3, fun u a s => hbd _ _ _ _ _ _ _ u a s, hp, hx1, f4, f5, hfile, f6, hnc, hks, hkc, h1k, h2k, hk, hco, hgen, d1, d2, ca, hne, fun L => hev _ _ _ L⟩
/-- what raising and catching ask of the class -/
structure XnF (P : Program) (K : Frag) (mg : Str → Option Value) (x : Str) : Prop where
  xc : XcOk P K mg (He.ga K x)
  sub : subIn K (.ref (He.ga K x)) (.type "BaseException") = some true
  ty : typeIn K (.ref (He.ga K x)) = some (.type "type")
  kp : keepIn K (.ref (He.ga K x)) = true
  ex : exmOne K (.ref (He.ga K x)) (.ref (He.ga K x)) = some true
  gl : mg x = some (.ref (He.ga K x))
theorem xn_of {P : Program} {K : Frag} {mg : Str → Option Value} {d : XcD} {file : Str} (c : d.ok file K = true) (z : XcOk P K mg (He.ga K d.name)) (gl : mg d.name = some (.ref (He.ga K d.name))) : XnF P K mg d.name := by
  unfold XcD.ok at c
  simp only [Bool.and_eq_true, decide_eq_true_eq] at c
  obtain ⟨_, _, _, _, _, _, _, _, _, _, _, _, e1, e2, e3, e4⟩ := c
  exact ⟨z, e1, e2, e3, e4, gl⟩
end

end
section
open PySem PySem.Spec PyProof.Rows L2 He
/-! ### the head's hook, with classes of exceptions -/
theorem obsY_eq {n : Nat} {fa : List He.Fa} {fn : List DefD} {ts : List Tab} {tf : List Defn} {ex : PySem.W.Frag → Bool} {xs : List XcD} {file : Str} {g : Addr → Option Obj} {s : Shared} (h : ∀ a, g a = s.heap.get? a) : obsY n fa fn ts tf ex xs file g = (hookY n fa fn ts tf ex xs file).obs s := by
  have e : g = s.heap.get? := funext h
  rw [e] <;> rfl
theorem SaysY.val {fa : List He.Fa} {fn : List DefD} {ts : List Tab} {tf : List Defn} {ex : PySem.W.Frag → Bool} {xs : List XcD} {file : Str} {w : World} {h : Heap} {K : PySem.W.Frag} (c : SaysY fa fn ts tf ex xs file w h K) {d : XcD} (hd : d ∈ xs) : xcW K d.name = d.val ∧ d.ok file K = true := by
  refine ⟨?_, List.all_eq_true.mp c.b d hd⟩
  obtain ⟨i, hi, e⟩ := List.mem_iff_getElem.mp hd
  have z := congrArg (fun l => l[i]?) c.x
  simp only [List.getElem?_map, List.getElem?_eq_getElem hi, e, Option.map_some] at z
  exact Option.some.inj z

end
section
/-! ### dict(a list of pairs) -/
section
variable {X : Cx} {G : Mg} {p : List Addr} {H : Hp}
/-! keys that are tuples -/
end

end
section
/-! ### {text: value, ..} -/
section
variable {X : Cx} {G : Mg}
end

end
section
/-! ### o.m(k = v, ..) -/
section
variable {X : Cx} {G : Mg}
end

end
section
/-! ### list(d.items()), whatever the keys are -/
section
variable {X : Cx} {pins : List (Addr × Obj)} {σ : L2.St} {H : Hp} {s : Shared} {G : Mg} {p : List Addr} {es : Array DictEntry}
end

end
section
/-! ### len(o) of a class with its own __len__; C(k = v, ..) -/
section
variable {X : Cx} {G : Mg} {f : Fn} {CXo : CXT} {k c : Nat} {fa : Addr} {fd : FuncData} {ps : List Str} {EO : XK}
end

end
section
/-! ### C(k = v, ..) -/
section
variable {X : Cx} {G : Mg} {CXo : CXT} {k : Nat} {f C : Addr} {fd : FuncData} {ps ks : List Str} {sp : Sp} {E : XK}
end

end
section
/-! ### an own exception is made, and its field is known -/
section
open PySem.W PySem.Calls
variable {prog : Program} {w : World} {A : Around} {E : Value → Shared → Prop} {R : Result → Shared → Prop} {K : Frag} {hA : Heap} {g : Array GenState} {d : Drawn} {tk : Nat} {os : OsState}
variable {C fI cc cda : Addr} {u : Value} {mg mb : Str → Option Value} {B initId newId : String} {bmB : List Value}
variable {nm0 qual x1 x2 fld : Str} {params : Arguments} {scope : Scope} {dV kV doc pm ct oc ccl cl : Value} {an od cdd cld : Option Addr} {osl ccs csl : Array (Option Value)} {vs : Array Value} {file : Str} {tf : Tok} {ar : Arg}
variable {p0 p1 p2 p3 p4 p5 p6 p7 p8 p9 : Pos}
theorem ns_one {h : Heap} {dx : Addr} {name : Str} {hs : Int} {tk : Tok} {u : Value} {n : Nat} (e : h.get? dx = some (dictOf (putL name hs (.str name tk) u []) n)) : h.Ns1 dx (fun y => if y = name then some u else none) := by
  refine ⟨_, _, _, e, rfl, ?_, ?_, fun y => ?_⟩
  · intro x hx
    simp only [putL, List.mem_toArray, List.mem_singleton] at hx
    subst hx
    exact ⟨_, _, rfl⟩
  · simp [UniqKeys, putL]
  · show (((putL name hs (.str name tk) u []).toArray.find? fun e => e.key.isStr y).map (·.val)) = _
    by_cases hy : y = name
    · subst hy; simp [putL, Value.isStr]
    · have hy2 : name ≠ y := fun z => hy z.symm
      simp [putL, Value.isStr, hy, hy2]
theorem xc_initV {pl : Sem Bool} {a : Addr} {h1 : Heap} {L : Addr} {t1 : Nat} {t0 : Addr} {M : Model} {c : Code} (Z : XcC prog K mg C B newId initId bmB) (X : K.In hA)
    (lk : K.lookup fI = some ⟨oc, od, .func (ksFn nm0 qual params (xcBody x1 x2 fld p0 p1 p2 p3 p4 p5 p6 p7 p8 p9) scope dV kV doc pm an (.ref cda) ct cc), osl⟩)
    (hp : (params.posonlyargs ++ params.args).head? = some ar) (hx1 : ar.arg = x1)
    (hcode : K.lookup cda = some ⟨ccl, cdd, .fields vs, ccs⟩) (hvs : vs[2]? = some (.str file tf)) (hfile : ((prog.main.file : Str) == file) = true)
    (hcell : K.lookup cc = some ⟨cl, cld, .cell (some (.ref C)), csl⟩)
    (hks : scope.names.lookup ("super" : Str) = some .globalImplicit) (hkc : scope.names.lookup ("__class__" : Str) = some .free) (h1k : scope.names.lookup x1 = some .local) (h2k : scope.names.lookup x2 = some .local) (hk : scope.kind = .function)
    (d1 : (x1 == ("__debug__" : Str)) = false) (d2 : (x2 == ("__debug__" : Str)) = false) (htk : takerIn K C fld = some none) (sg : hA.Ns mainGlobals mg) (sb : hA.Ns builtinsNs mb) (hmb : mb "super" = bootBuiltins "super")
    (F : Fr hA L h1 (fun y => [(x1, .ref a), (x2, u)].reverse.lookup y)) (N : News hA L h1 [(a, excObj C t0 none .none)]) (hne : x2 ≠ x1)
    (hc : eval (.Call (.Attribute (.Call (.Name "super" p0) [] [] p1) "__init__" p2) [.Name x2 p3] [] p4) (ksEnv qual scope L fI (.ref cda) cc) = (do
      let ov ← attributeBase (.Call (.Name "super" p0) [] [] p1) "__init__" (ksEnv qual scope L fI (.ref cda) cc) (eval (.Call (.Name "super" p0) [] [] p1) (ksEnv qual scope L fI (.ref cda) cc))
      standAt p2.atName
      let (fu, fs) ← holding [ov] (getMethod ov "__init__" pl)
      callWith p4 fu fs (backTo p4 (starEach [.Name x2 p3] (ksEnv qual scope L fI (.ref cda) cc))) []))
    {Q : Flow → Shared → Prop}
    (hQ : ∀ h' t' tt dv, Fr hA L h' (fun y => [(x1, .ref a), (x2, u)].reverse.lookup y) → h'.get? a = some (excObj C tt (some dv) .none) → hA.get? dv = none → h'.Ns1 dv (fun y => if y = fld then some u else none) → Q .next ⟨h', g, d, t', os⟩) :
    _root_.PySem.wpAt (model prog w) A (.func (xcBody x1 x2 fld p0 p1 p2 p3 p4 p5 p6 p7 p8 p9) (ksEnv qual scope L fI (.ref cda) cc)) (execs (xcBody x1 x2 fld p0 p1 p2 p3 p4 p5 p6 p7 p8 p9) (ksEnv qual scope L fI (.ref cda) cc)) Q E ⟨h1, g, d, t1, os⟩ := by
  have m1 : (fun y => ([(x1, Value.ref a), (x2, u)].reverse.lookup y)) x1 = some (.ref a) := by
    have e : (x1 == x2) = false := by simpa using fun z => hne z.symm
    simp [List.lookup, e]
  have m2 : (fun y => ([(x1, Value.ref a), (x2, u)].reverse.lookup y)) x2 = some u := by simp [List.lookup]
  obtain ⟨cdC, hcl⟩ := Z.cls
  refine ks_wpAt_execs_cons (ks_wpAt_Expr_any (ks_wpAt_MethodCall (ks_wpAt_super_base (env := ksEnv qual scope L fI (.ref cda) cc) hks hkc (by decide) rfl ((X.keeps F.keep) _ _ lk) rfl hp rfl ((X.keeps F.keep) _ _ hcode) rfl hvs hfile Z.top ?_) hc) (hi := by simp [interactive, hk]))
  have hx := (N _ (List.mem_cons_self ..)).1
  have I : InstAt h1 a (excObj C t0 none .none) C none := ⟨hx, rfl, rfl, trivial⟩
  refine ks_loadName_global (env := ksEnv qual scope L fI (.ref cda) cc) hk hks (loadGlobal_builtin (env := ksEnv qual scope L fI (.ref cda) cc) (sg.keeps F.keep) Z.sup (sb.keeps F.keep) (hmb.trans Z.boot) ⟨rfl, ?_⟩)
  refine wpAny_loadName_free (env := ksEnv qual scope L fI (.ref cda) cc) hk hkc rfl ⟨_, X.keeps F.keep _ _ hcell, rfl⟩ ?_
  rw [hx1]
  refine wpAny_loadName_local (env := ksEnv qual scope L fI (.ref cda) cc) hk h1k F.ns m1 ?_
  obtain ⟨oD, hD1, hD2⟩ : ∃ oD, h1.get? C = some oD ∧ oD.data = .cls cdC := by
    have hcl' := hcl
    unfold clsIn at hcl'
    split at hcl'
    · rename_i _ _ cd2 _ ho
      cases hcl'
      exact ⟨_, X.keeps F.keep _ _ ho, rfl⟩
    · cases hcl'
  refine ks_wpAny_isType_cls hD1 hD2 ⟨rfl, ?_⟩
  refine ks_wpAny_call_super hD1 hD2 I.at_ I.cls (fun c e => ?_) (looks_mroIn (X.keeps F.keep) Z.sC) (fun h2 e2 k2 => ?_)
  · have e' : Data.fields _ = Data.cls c := e
    cases e'
  obtain ⟨F2, N2, l2⟩ := ks_newsPush (s := ⟨h1, g, d, t1, os⟩) F N rfl e2 k2
  refine kxs_method Z.kxs F2 X N2 (List.mem_cons_self ..) (InstAt.of_exc0 N2 (List.mem_cons_of_mem _ (List.mem_cons_self ..))) Z.any Z.mi Z.sub (by decide) (fun q2 h3 F3 N3 l3 => ?_)
  refine kxs_callWith1 N3 (List.mem_cons_self ..) ?_
  have ne2 : q2 ≠ a := fun z => by
    have := l3 (a, excObj C t0 none .none) (by simp)
    rw [z] at this
    exact absurd this (Nat.lt_irrefl _)
  refine spliced_more (wpAny_Name (wpAny_loadName_local (env := ksEnv qual scope L fI (.ref cda) cc) hk h2k F3.ns m2 (spliced_none ⟨kxs_at N3 (List.mem_cons_self ..), ?_⟩)) d2)
  have ne1 : h1.objs.size ≠ a := fun z => by
    have : a < h1.objs.size := l2 (a, excObj C t0 none .none) (by simp)
    rw [z] at this
    exact absurd this (Nat.lt_irrefl _)
  refine kxs_call F3 X N3 Z.base Z.q (List.mem_cons_self ..) (.tail ne2 (.tail ne1 (.head (by simp)))) (by show 1 ≤ sizeLine; rw [sizeLine_eq]; omega) (fun t4 h4 F4 N4 l4 => ?_)
  have ne4 : t4 ≠ a := fun z => by
    have := l4 (a, excObj C t0 none .none) (by simp)
    rw [z] at this
    exact absurd this (Nat.lt_irrefl _)
  refine ks_wpAt_execs_cons (ks_wpAt_Assign_Attr (wpAt_of_wpAny (wpAny_Name (wpAny_loadName_local (env := ksEnv qual scope L fI (.ref cda) cc) hk h2k F4.ns m2 (wpAny_Name (wpAny_loadName_local (env := ksEnv qual scope L fI (.ref cda) cc) hk h1k F4.ns m1 ?_) d1)) d2)))
  refine set_exc0 Z.st F4 X N4 (by simp) Z.sa Z.ov htk Z.dc rfl (.tail ne4 (.tail ne2 (.tail ne1 (.head (by simp))))) (by show 1 ≤ 1000; decide) (fun dx h5 F5 N5 l5 => ?_)
  exact wpAt_of_wpAny (wpAny_execs_nil (hQ h5 _ t4 dx F5 (N5 (a, excObj C t4 (some dx) .none) (by simp)).1 (N5 _ (List.mem_cons_self ..)).2.2 (ns_one (N5 _ (List.mem_cons_self ..)).1)))
/-- the call of the class with one argument -/
theorem xc_callV {pl : Sem Bool} {Q : Value → Shared → Prop} (Z : XcC prog K mg C B newId initId bmB) (X : K.In hA) (iC : findIn K (.ref C) "__init__" = some (some (.ref fI)))
    (lk : K.lookup fI = some ⟨.type "function", od, .func (ksFn nm0 qual params (xcBody x1 x2 fld p0 p1 p2 p3 p4 p5 p6 p7 p8 p9) scope dV kV doc pm an (.ref cda) ct cc), osl⟩)
    (hcd : codeIn K (.ref cda) qual = true) (hlim : hA.NoLimit) (hroom : (A.under (.builtin "type.__call__" ⟨[.ref C, u], []⟩)).depth < recursionLimit)
    (hbind : ∀ a s, BindsTo s (ksFn nm0 qual params (xcBody x1 x2 fld p0 p1 p2 p3 p4 p5 p6 p7 p8 p9) scope dV kV doc pm an (.ref cda) ct cc) ⟨[.ref a, u], []⟩ [(x1, .ref a), (x2, u)])
    (hp : (params.posonlyargs ++ params.args).head? = some ar) (hx1 : ar.arg = x1)
    (hcode : K.lookup cda = some ⟨ccl, cdd, .fields vs, ccs⟩) (hvs : vs[2]? = some (.str file tf)) (hfile : ((prog.main.file : Str) == file) = true)
    (hcell : K.lookup cc = some ⟨cl, cld, .cell (some (.ref C)), csl⟩) (hnc : ∀ x ∈ scope.names, x.2 ≠ .cell)
    (hks : scope.names.lookup ("super" : Str) = some .globalImplicit) (hkc : scope.names.lookup ("__class__" : Str) = some .free) (h1k : scope.names.lookup x1 = some .local) (h2k : scope.names.lookup x2 = some .local) (hk : scope.kind = .function)
    (hco : scope.isCoroutine = false) (hgen : scope.isGenerator = false)
    (d1 : (x1 == ("__debug__" : Str)) = false) (d2 : (x2 == ("__debug__" : Str)) = false) (htk : takerIn K C fld = some none) (sg : hA.Ns mainGlobals mg) (sb : hA.Ns builtinsNs mb) (hmb : mb "super" = bootBuiltins "super") (hne : x2 ≠ x1)
    (hc : ∀ L, eval (.Call (.Attribute (.Call (.Name "super" p0) [] [] p1) "__init__" p2) [.Name x2 p3] [] p4) (ksEnv qual scope L fI (.ref cda) cc) = (do
      let ov ← attributeBase (.Call (.Name "super" p0) [] [] p1) "__init__" (ksEnv qual scope L fI (.ref cda) cc) (eval (.Call (.Name "super" p0) [] [] p1) (ksEnv qual scope L fI (.ref cda) cc))
      standAt p2.atName
      let (fu, fs) ← holding [ov] (getMethod ov "__init__" pl)
      callWith p4 fu fs (backTo p4 (starEach [.Name x2 p3] (ksEnv qual scope L fI (.ref cda) cc))) []))
    (hQ : ∀ h' t' a tt dv, (∀ b o, hA.get? b = some o → h'.get? b = some o) → hA.get? a = none → h'.get? a = some (excObj C tt (some dv) .none) → hA.get? dv = none → h'.Ns1 dv (fun y => if y = fld then some u else none) → Q (.ref a) ⟨h', g, d, t', os⟩) :
    wpAny (model prog w) A (call (.ref C) [u]) Q E ⟨hA, g, d, tk, os⟩ := by
  obtain ⟨nm, N', qn, bs, bm, hdct, sn, sub, ab, col, dd, k0, k1, k2, k3, k5, hC, hT⟩ := excInit_of X Z.q
  refine wpAny_call (PX.call_own Z.base hT hC (looks_findIn X iC) (fun self => exc_bind (X _ _ lk) rfl self) (by show 1 ≤ sizeLine; rw [sizeLine_eq]; omega) ?_)
  have kk : ∀ b o, hA.get? b = some o → ((hA.push (excTup [u])).push (excObj C hA.objs.size none .none)).get? b = some o := fun b o e => Heap.get?_push_of_some _ (Heap.get?_push_of_some _ e)
  have hget : ((hA.push (excTup [u])).push (excObj C hA.objs.size none .none)).get? (hA.objs.size + 1) = some (excObj C hA.objs.size none .none) := by heap_get
  have hsz : ((hA.push (excTup [u])).push (excObj C hA.objs.size none .none)).objs.size = hA.objs.size + 2 := by rw [Heap.size_push, Heap.size_push]
  have hno : hA.get? (hA.objs.size + 1) = none := Heap.get?_none_of_le (Nat.le_succ _)
  refine ks_codeAny_call_defAt (binds := [(x1, .ref (hA.objs.size + 1)), (x2, u)]) hroom (kk _ _ (X _ _ lk)) rfl (hlim.keeps kk) (codeRec_of (X.keeps kk) hcd) rfl (hbind _ _) hnc (fun y hy => ?_) (fun h1 hns hk1 => ?_) hco hgen hk
  · simp only [List.mem_cons, List.not_mem_nil, or_false] at hy
    rcases hy with rfl | rfl
    · exact h1k
    · exact h2k
  have F : Fr hA ((hA.push (excTup [u])).push (excObj C hA.objs.size none .none)).objs.size h1 (fun y => [(x1, .ref (hA.objs.size + 1)), (x2, u)].reverse.lookup y) := ⟨hns, fun b o e => hk1 b o (kk b o e), by rw [hsz]; omega⟩
  have N : News hA ((hA.push (excTup [u])).push (excObj C hA.objs.size none .none)).objs.size h1 [(hA.objs.size + 1, excObj C hA.objs.size none .none)] := fun p hp => by
    rw [List.mem_singleton] at hp
    subst hp
    exact ⟨hk1 _ _ hget, by rw [hsz]; show hA.objs.size + 1 ≠ _; omega, hno⟩
  exact xc_initV (M := model prog w) (c := .func [] (ksEnv qual scope 0 fI (.ref cda) cc)) Z X lk hp hx1 hcode hvs hfile hcell hks hkc h1k h2k hk d1 d2 htk sg sb hmb F N hne (hc _) fun h' t' tt dv F' he hdn hns => ⟨rfl, hQ h' t' _ tt dv F'.keep hno he hdn hns⟩
end

end
section
section
open PySem.W PySem.Calls
variable {C : Addr}
/-- all that a class of exceptions is asked, its field by name -/
def XcOkF (prog : Program) (K : Frag) (mg : Str → Option Value) (C : Addr) (fld : Str) : Prop :=
  ∃ (fI cc cda : Addr) (B initId newId : String) (bmB : List Value) (nm0 qual x1 x2 : Str) (params : Arguments) (scope : Scope) (dV kV doc pm ct ccl cl : Value) (an od cdd cld : Option Addr) (osl ccs csl : Array (Option Value)) (vs : Array Value) (file : Str) (tf : Tok) (ar : Arg) (p0 p1 p2 p3 p4 p5 p6 p7 p8 p9 : Pos) (pl : Sem Bool),
    XcC prog K mg C B newId initId bmB ∧ findIn K (.ref C) "__init__" = some (some (.ref fI)) ∧
    K.lookup fI = some ⟨.type "function", od, .func (ksFn nm0 qual params (xcBody x1 x2 fld p0 p1 p2 p3 p4 p5 p6 p7 p8 p9) scope dV kV doc pm an (.ref cda) ct cc), osl⟩ ∧
    codeIn K (.ref cda) qual = true ∧
    (∀ u a s, BindsTo s (ksFn nm0 qual params (xcBody x1 x2 fld p0 p1 p2 p3 p4 p5 p6 p7 p8 p9) scope dV kV doc pm an (.ref cda) ct cc) ⟨[.ref a, u], []⟩ [(x1, .ref a), (x2, u)]) ∧
    (params.posonlyargs ++ params.args).head? = some ar ∧ ar.arg = x1 ∧
    K.lookup cda = some ⟨ccl, cdd, .fields vs, ccs⟩ ∧ vs[2]? = some (.str file tf) ∧ ((prog.main.file : Str) == file) = true ∧
    K.lookup cc = some ⟨cl, cld, .cell (some (.ref C)), csl⟩ ∧ (∀ x ∈ scope.names, x.2 ≠ .cell) ∧
    scope.names.lookup ("super" : Str) = some .globalImplicit ∧ scope.names.lookup ("__class__" : Str) = some .free ∧ scope.names.lookup x1 = some .local ∧ scope.names.lookup x2 = some .local ∧ scope.kind = .function ∧
    scope.isCoroutine = false ∧ scope.isGenerator = false ∧ (x1 == ("__debug__" : Str)) = false ∧ (x2 == ("__debug__" : Str)) = false ∧ takerIn K C fld = some none ∧ x2 ≠ x1 ∧
    (∀ L, eval (.Call (.Attribute (.Call (.Name "super" p0) [] [] p1) "__init__" p2) [.Name x2 p3] [] p4) (ksEnv qual scope L fI (.ref cda) cc) = (do
      let ov ← attributeBase (.Call (.Name "super" p0) [] [] p1) "__init__" (ksEnv qual scope L fI (.ref cda) cc) (eval (.Call (.Name "super" p0) [] [] p1) (ksEnv qual scope L fI (.ref cda) cc))
      standAt p2.atName
      let (fu, fs) ← holding [ov] (getMethod ov "__init__" pl)
      callWith p4 fu fs (backTo p4 (starEach [.Name x2 p3] (ksEnv qual scope L fI (.ref cda) cc))) []))
/-- such a class, called with one argument: the field is known -/
theorem pmk_xcV {X : Cx} {k : Nat} {x fld : Str} {e : Expr} {te : TE} {p pos : Pos} (Z : XcOkF X.prog X.K X.mg C fld) (r : Raises X (.ref C)) (hr : Room (k + 1) X.A) (gl : Gl X x) (mC : X.mg x = some (.ref C)) (kp : keepIn X.K (.ref C) = true) (he : PE X e te)
    (nd : (x == ("__debug__" : Str)) = false := by decide) (hse : starEach [e] X.env = (false, eval e X.env) :: starEach [] X.env := by rfl) :
    PMk X (.Call (.Name x p) [e] [] pos) (fun σ H Q => te σ H fun v H1 => ∃ v', [v] = [v'] ∧ ∀ dv, H1 dv = none → Q (.ref C) (some dv) (upd H1 dv (.xd [(fld, v')]))) := by
  intro pins s σ H Q I h
  obtain ⟨fI, cc, cda, B, initId, newId, bmB, nm0, qual, x1, x2, params, scope, dV, kV, doc, pm, ct, ccl, cl, an, od, cdd, cld, osl, ccs, csl, vs, file, tf, ar, p0, p1, p2, p3, p4, p5, p6, p7, p8, p9, pl, Z, z1, z2, z3, z4, z5, z6, z7, z8, z9, za, zb, zc, zd, ze, zf, zg, zh, zi, zj, zk, zl, zm, zn⟩ := Z
  refine wpAny_Call_Name_kw (ld_glob I gl mC ?_ nd)
  have pa : PA X [e] (tCons te tNil) := pa_cons he pa_nil hse
  refine callWith_K (h₀ := X.base) I.ok.mod.kin kp (thn (pa.run pos pins s σ H (fun vs H1 => ∃ v, vs = [v] ∧ ∀ dv, H1 dv = none → Q (.ref C) (some dv) (upd H1 dv (.xd [(fld, v)]))) I h) fun us s1 hh => ?_) hse rfl
  obtain ⟨ws, H1, I1, r1, v, rfl, hQ⟩ := hh
  refine ⟨I1.kIn, ?_⟩
  cases r1 with
  | cons ru rn =>
    rename_i u us'
    cases rn
    show wpAny _ _ (call (.ref C) [u]) _ _ _
    obtain ⟨mb, b1, b2⟩ := I1.mod.blt
    obtain ⟨hp1, g1, d1, t1, os1⟩ := s1
    have d0 := hr.dp
    refine xc_callV Z I1.kIn z1 z2 z3 (I1.mod.nolimit.keeps I1.bk) (by show X.A.depth + 1 < _; omega) (z4 u) z5 z6 z7 z8 z9 za zb zc zd ze zf zg zh zi zj zk zl (I1.mod.glob.keeps I1.bk) (b1.keeps I1.bk) (b2 _ (by decide)) zm zn fun h' t' a tt dv k hn hea hdn hns => ?_
    obtain ⟨G, gk1, gk2⟩ := restrict h' fun b => decide (b ≠ a)
    have gk : ∀ b, b ≠ a → G.get? b = h'.get? b := fun b hb => gk1 b (decide_eq_true hb)
    have ga : G.get? a = none := gk2 a (by simp)
    have da : dv ≠ a := fun z => by
      obtain ⟨o, es, ep, e1, e2, _⟩ := hns
      rw [z, hea] at e1
      cases e1
      cases e2
    have kG : ∀ b o, hp1.get? b = some o → G.get? b = some o := fun b o e => by
      rw [gk b (fun z => by rw [z, hn] at e; cases e)]
      exact k b o e
    have kH : ∀ b o, G.get? b = some o → h'.get? b = some o := fun b o e => by
      rw [← gk b (fun z => by rw [z, ga] at e; cases e)]
      exact e
    have hd : H1 dv = none := I1.hok.gone hdn
    have J := I1.laidN (a := dv) (o := .xd [(fld, v)]) (h' := G) (t' := t1) kG hdn hd ⟨_, hns.at fun o e => (gk dv da).trans e, fun f => by
      by_cases hf : f = fld
      · subst hf
        rw [if_pos rfl]
        simp only [List.lookup, beq_self_eq_true]
        exact ru
      · rw [if_neg hf]
        have : (f == fld) = false := by simpa using hf
        simp only [List.lookup, this]
        exact True.intro⟩
    exact ⟨a, _, _, ⟨G, g1, d1, t1, os1⟩, _, .ref C, some dv, rfl, J, kH, ga, hea, ⟨rfl, rfl⟩, rfl, rfl, by rw [upd_ne (Ne.symm da)]; exact I1.hok.gone hn, rfl, I1.bare, r, hQ dv hd⟩
end

end
section
/-! ### try: what raises; except (A, B, C) as n: y = n; then the rest, with the exception held -/
theorem flying_kept {base h h' : Heap} {l : List Env} {e : Addr} {Z : Obj → Prop} (k : ∀ b o, h.get? b = some o → h'.get? b = some o) (f : HandSPX.FlyingZ base l e Z h) : HandSPX.FlyingZ base l e Z h' := by
  obtain ⟨f1, f2, f3, oe, vs, T, oT, ts, e1, e2, e3, e4, e5, e6, e7, e8, e9⟩ := f
  exact ⟨fun b o z => k b o (f1 b o z), f2, Heap.FunFrames.of_keeps (fun b o z _ => ⟨o, k b o z, rfl⟩) f3, oe, vs, T, oT, ts, k _ _ e1, e2, e3, e4, e5, e6, k _ _ e7, e8, e9⟩
/-- an object with fields is no frame -/
theorem off_frames {B h : Heap} {l : List Env} {a : Addr} {o : Obj} {fv : Array Value} (ff : h.FunFrames B l) (at_ : h.get? a = some o) (d : o.data = .fields fv) : a ∉ frs l := fun hm => by
  obtain ⟨_, o2, at2, no⟩ := ff.mem hm
  exact no fv ((Option.some.inj (at_.symm.trans at2)) ▸ d)
theorem off_env {env : Env} {outer : List Env} {L a : Addr} (hf : env.frame = some L) (n : a ∉ frs (env :: outer)) : a ≠ L ∧ a ∉ frs outer :=
  ⟨fun z => n (by unfold frs; rw [List.filterMap_cons, hf, z]; exact List.mem_cons_self ..), fun hm => n (by unfold frs; rw [List.filterMap_cons, hf]; exact List.mem_cons_of_mem _ hm)⟩
def endsNo : Ends := { nx := fun _ _ => False, rt := fun _ _ => False, bk := fun _ _ => False, ct := fun _ _ => False }
/-- what is wished of the exception -/
def wPin (K : PySem.W.Frag) (cs : List Value) (ie ic : Nat) (ts : Addr → Obj → Value → Option Addr → TS) (D : Ends) : WX := fun cls d σ H =>
  PySem.W.exmAny K cls cs = some true ∧ ∀ a oe, H a = none → Zc cls d oe → (∃ vs, oe.data = .fields vs) → (∃ v, (σ.set ie (some (.ref a)))[ie]? = some (some v) ∧ v = .ref a) ∧ ts a oe cls d D (((σ.set ie (some (.ref a))).set ic (some (.ref a))).set ie none) H
section
variable {X : Cx} {pins : List (Addr × Obj)} {σ : L2.St} {H : Hp} {s : Shared}
theorem inv_unpin {a : Addr} {oe : Obj} {pn' : List (Addr × Obj)} {xe : Value → Shared → Prop} (I : Inv (X.tr ((a, oe) :: (X.pn ++ pins)) xe) pn' σ H s) (ok : X.Ok) : Inv X pins σ H s :=
  ⟨ok, I.os, I.bare, I.base, I.loc, I.cell, I.free, I.freeC, fun p hp => I.pin p (List.mem_append_left _ (List.mem_cons_of_mem _ hp)), I.hok, I.len⟩
theorem inv_repin {a : Addr} {pn : List (Addr × Obj)} {xe : Value → Shared → Prop} (I : Inv (X.suite a pn) [] σ H s) (ok : X.Ok) : Inv (X.tr pn xe) [] σ H s :=
  ⟨ok.toTry _ _, I.os, I.bare, I.base, I.loc, I.cell, I.free, I.freeC, fun p hp => I.pin p hp, I.hok, I.len⟩
theorem pss_try3 {body rest : List Stmt} {n y x1 x2 x3 : Str} {c1 c2 c3 : Addr} {ie ic kk : Nat} {q1 q2 q3 tp p1 p2 p3 pos' pos : Pos} {tb : WX → TS} {ts : Addr → Obj → Value → Option Addr → TS}
    (hs : X.stack = X.env :: X.outer) (hf : X.env.frame = some X.env.locals) (hN : X.N.Nodup) (hi : X.N[ie]? = some n) (hln : X.env.kindOf n = some .local)
    (g1 : Gl X x1) (g2 : Gl X x2) (g3 : Gl X x3) (m1 : X.mg x1 = some (.ref c1)) (m2 : X.mg x2 = some (.ref c2)) (m3 : X.mg x3 = some (.ref c3)) (b1 : (x1 == ("__debug__" : Str)) = false) (b2 : (x2 == ("__debug__" : Str)) = false) (b3 : (x3 == ("__debug__" : Str)) = false)
    (hy : X.N[ic]? = some y) (hly : Loc X.env.scope y) (hvn : Vis X.env.scope n) (n1 : (n == ("__debug__" : Str)) = false) (n2 : (n == ("__classdict__" : Str)) = false) (hfy : X.fn y = true ∨ X.env.scope.names.lookup y = some .local) (hsw : swapsWith (.Name n p2) (some (.Name y p1)) p3.line X.env = pure false)
    (se : starEach [.Name x1 q1, .Name x2 q2, .Name x3 q3] X.env = (false, eval (.Name x1 q1) X.env) :: starEach [.Name x2 q2, .Name x3 q3] X.env) (se2 : starEach [.Name x2 q2, .Name x3 q3] X.env = (false, eval (.Name x2 q2) X.env) :: starEach [.Name x3 q3] X.env) (se3 : starEach [.Name x3 q3] X.env = (false, eval (.Name x3 q3) X.env) :: starEach [] X.env)
    (hb : ∀ (W : WX) (pn : List (Addr × Obj)) (xe : Value → Shared → Prop), Takes (X.tr pn xe) W → PSs (X.tr pn xe) body (tb W))
    (hr : ∀ (a : Addr) (oe : Obj) (cls : Value) (d : Option Addr) (pn : List (Addr × Obj)), Zc cls d oe → (∃ vs, oe.data = .fields vs) → PSs (X.tr ((a, oe) :: pn) X.xe) rest (ts a oe cls d)) :
    PSs X (.Try body [.ExceptHandler (some (.Tuple [.Name x1 q1, .Name x2 q2, .Name x3 q3] kk tp)) (some n) [.Assign [.Name y p1] (.Name n p2) p3] pos'] [] [] pos :: rest) (fun D σ H => tb (wPin X.K [.ref c1, .ref c2, .ref c3] ie ic ts D) endsNo σ H) := by
  refine ⟨fun pins s σ H D I h => ?_⟩
  have ok := I.ok
  have hfr : X.A.frames = some (X.env :: X.outer) := ok.frames.trans (by rw [hs])
  refine wpAny_execs_cons ?_
  refine wpAny_Try_except ?_
  refine wpAny_mono ((hb (wPin X.K [.ref c1, .ref c2, .ref c3] ie ic ts D) (X.pn ++ pins) (fun e s₁ => wpAny (model X.prog X.w) X.A (noteFrame e X.env) (fun _ s₂ => wpAny (model X.prog X.w) X.A (setFlight e none) (fun _ s₃ =>
    wpAny (model X.prog X.w) X.A (handleBy e X.env [.ExceptHandler (some (.Tuple [.Name x1 q1, .Name x2 q2, .Name x3 q3] kk tp)) (some n) [.Assign [.Name y p1] (.Name n p2) p3] pos']) (fun f s1 => match f with
      | .next => wpAny (model X.prog X.w) X.A (execs rest X.env) (SP X pins D) X.xe s1
      | f => SP X pins D f s1) X.xe s₃) X.xe s₂) X.xe s₁) (fun u s' xx => ?_)).run [] s σ H endsNo (I.toTry _) h) (fun f s1 hsp => ?_) (fun e s1 he => he)
  · -- the catch
    obtain ⟨a, B, s0, pinsT, σ', H', cls, d, rfl, It, grd, up0, air, na, os, ag, hex, hts⟩ := xx
    have Iw : Inv X pins σ' H' s0 := It.ofTry ok
    rw [hs] at air
    refine Sky.land (A := X.A) Zc.steady hfr hf air fun hL fly upL => ?_
    have Ia : Inv X pins σ' H' { s' with heap := hL } := Iw.landed grd fly.1 (up0.trans upL) os ag
    obtain ⟨ob, fv, atA, zA, dA⟩ := fly.there
    obtain ⟨nL, nF⟩ := off_env hf (off_frames fly.2.2.1 atA dA)
    have Is := Ia.suite atA dA na nL nF
    refine wpAny_handleBy_cons (codeAny_handlers_test ?_) (fun q => by cases q)
    have one : ∀ {x : Str} {c : Addr} {q : Pos} {Q : Value → Shared → Prop} {E : Value → Shared → Prop}, Gl X x → X.mg x = some (.ref c) → (x == ("__debug__" : Str)) = false → Q (.ref c) { s' with heap := hL } → wpAny (model X.prog X.w) (X.A.mark (some (.ref a))) (eval (.Name x q) X.env) Q E { s' with heap := hL } := fun {x c q Q E} g m b z => ld_glob (X := X.suite a ((a, ob) :: (X.pn ++ pins))) Is g m z b
    have kp : ∀ b o, hL.get? b = some o → (hL.push ({ cls := .type "tuple", data := .seq [Value.ref c1, .ref c2, .ref c3].toArray } : Obj)).get? b = some o := fun b o e => Heap.get?_push_of_some _ e
    have LT : PySem.W.Looks (model X.prog X.w) (hL.push ({ cls := .type "tuple", data := .seq [Value.ref c1, .ref c2, .ref c3].toArray } : Obj)) (typeOf (.ref a)) cls := fun A Q E s k q => wpAny_typeOf_ref (k _ _ (kp _ _ atA)) (by rw [zA.1]; exact q)
    have htp : (hL.push ({ cls := .type "tuple", data := .seq [Value.ref c1, .ref c2, .ref c3].toArray } : Obj)).get? hL.objs.size = some { cls := .type "tuple", data := .seq [Value.ref c1, .ref c2, .ref c3].toArray } := by heap_get
    have LM := PySem.W.exm_tup3 (M := model X.prog X.w) (Ia.kIn.keeps kp) LT htp hex
    refine wpAny_Tuple (wpAny_items_cons (one g1 m1 b1 (wpAny_items_cons (one g2 m2 b2 (wpAny_items_cons (one g3 m3 b3 ?_) se3)) se2)) se)
    show wpAny (model X.prog X.w) _ (pure []) _ _ _
    refine wpAny_pure ⟨by show 3 ≤ sizeLine; rw [sizeLine_eq]; decide, ?_⟩
    refine LM.here ?_
    refine codeAny_handlers_suite_as ?_
    refine HandSPX.lands_againZ (flying_kept kp fly) fun h4 fl4 up4 => ?_
    have Ib : Inv X pins σ' H' { s' with heap := h4 } := Iw.landed grd fl4.1 (((up0.trans upL).trans (Heap.UpToSlots.of_keeps kp)).trans up4) os ag
    obtain ⟨o4, fv4, at4, z4, d4⟩ := fl4.there
    have It4 := Ib.suite at4 d4 na nL nF
    refine store_ok (X := X.suite a ((a, o4) :: (X.pn ++ pins))) (v := .ref a) It4 hN hi (.inl hln : Loc X.env.scope n) rfl (fun s5 It5 => ?_) (.inr hln)
    obtain ⟨hv, hT⟩ := hts a o4 na z4 ⟨_, d4⟩
    have suite1 : PSs (X.suite a ((a, o4) :: (X.pn ++ pins))) [.Assign [.Name y p1] (.Name n p2) p3] (tAsg (tVar ie) (gName ic)) := pss_one (ps_set (X := X.suite a ((a, o4) :: (X.pn ++ pins))) hN hy hly (pe_var hi hvn n1 n2) hsw hfy)
    refine wpAny_mono (suite1.run [] s5 _ H' { nx := fun σ6 H6 => σ6 = (σ'.set ie (some (.ref a))).set ic (some (.ref a)) ∧ H6 = H', rt := fun _ _ => False, bk := fun _ _ => False, ct := fun _ _ => False } It5 ?_) (fun f s6 hsp => ?_) (fun _ _ z => False.elim z)
    · obtain ⟨v, e, rfl⟩ := hv
      exact ⟨.ref a, e, rfl, rfl⟩
    cases f with
    | next =>
      obtain ⟨σ6, H6, S6, rfl, rfl⟩ := hsp
      refine gone_ok (X := X.tr ((a, o4) :: (X.pn ++ pins)) X.xe) (pins := []) (inv_repin S6 ok) hN hi hln fun s7 J7 => ?_
      refine wpAny_mono ((hr a o4 cls d (X.pn ++ pins) z4 ⟨_, d4⟩).run [] s7 _ _ D J7 hT) (fun f s8 q8 => ?_) fun _ _ z => z
      cases f with
      | next =>
        obtain ⟨σ8, H8, J8, z⟩ := q8
        exact ⟨σ8, H8, inv_unpin J8 ok, z⟩
      | brk =>
        obtain ⟨σ8, H8, J8, z⟩ := q8
        exact ⟨σ8, H8, inv_unpin J8 ok, z⟩
      | cont =>
        obtain ⟨σ8, H8, J8, z⟩ := q8
        exact ⟨σ8, H8, inv_unpin J8 ok, z⟩
      | ret u =>
        obtain ⟨v8, σ8, H8, J8, r8, z⟩ := q8
        exact ⟨v8, σ8, H8, inv_unpin J8 ok, r8, z⟩
    | brk =>
      obtain ⟨σ6, H6, S6, z⟩ := hsp
      exact z.elim
    | cont =>
      obtain ⟨σ6, H6, S6, z⟩ := hsp
      exact z.elim
    | ret u =>
      obtain ⟨v6, σ6, H6, S6, r6, z⟩ := hsp
      exact z.elim
  · cases f with
    | next =>
      obtain ⟨σ', H', J', z⟩ := hsp
      exact z.elim
    | brk =>
      obtain ⟨σ', H', J', z⟩ := hsp
      exact z.elim
    | cont =>
      obtain ⟨σ', H', J', z⟩ := hsp
      exact z.elim
    | ret u =>
      obtain ⟨v, σ', H', J', r, z⟩ := hsp
      exact z.elim
end

end
section
/-! ### the exception that is held: its class is asked, its field is read -/
section
open PySem.W PySem.Calls
variable {prog : Program} {w : World} {A : Around} {E : Value → Shared → Prop} {s : Shared} {K : Frag} {x D : Addr} {ox od : Obj}
/-- e.__class__, e with a dict -/
theorem xd_class {Q : Option Value → Shared → Prop} (Z : ExcC K D) (X : K.In s.heap) (I : InstAt s.heap x ox D (some od)) (h : Q (some (.ref D)) { s with toks := s.toks + 1 }) : wpAny (model prog w) A (getAttr? (.ref x) "__class__") Q E s := by
  have hcls : (clsIn K D).isSome = true := by
    obtain ⟨cd, e, _⟩ := any_some Z.hd
    rw [e]; rfl
  have hf : findObj K D (some od) "__class__" = some (.bind (.builtin "getset_descriptor.__get__") (.builtin "object.__class__")) := by
    obtain ⟨cd, e⟩ := Option.isSome_iff_exists.mp hcls
    unfold findObj
    simp only [e, Option.bind_some, Z.ha, Z.hn, Z.ht]
  obtain ⟨hp, g, d, t, os⟩ := s
  have lT := I.type (M := model prog w)
  have lG := looks_findIn (M := model prog w) X Z.hg
  have lA := looks_findIn (M := model prog w) X Z.hk
  have lF := looks_find (M := model prog w) X I hf
  have isE : Looks (model prog w) hp (isInstance (.ref x) (.type "BaseException")) true := lT.andThen (looks_subIn X Z.hs)
  have notPlain : (Value.builtin "BaseException.__getattribute__" == Value.builtin "object.__getattribute__") = false := by decide +kernel
  have n1 : (onTheHeap (Value.ref D) && Value.builtin "BaseException.__getattribute__" == Value.builtin "object.__getattribute__") = false := by rw [notPlain, Bool.and_false]
  unfold getAttr? getAttrBy?; unfold getAttrBy
  refine wpAny_bind (wpAny_mkText (wpAny_bind (wpAny_attempt (wpAny_holding (wpAny_bind (lT.at (wpAny_bind (lG.at ?_))))))))
  refine KFB.if_not n1 ?_
  unfold getAttrByItsOwn; unfold hookBefore
  refine wpAny_bind ?_
  rw [if_pos (show onTheHeap (Value.ref D) = true by rfl)]
  refine lA.at (wpAny_bind (wpAny_attempt (wpAny_holding ?_)))
  unfold callGetattribute
  refine KFB.if_not (rfl : (false && onTheHeap (Value.builtin "BaseException.__getattribute__")) = false) ?_
  unfold boundAndCalled
  have slotB := PySem.F.excAttr_ValueError.ga.bind (.ref x); rw [slotB]
  refine wpAny_bind (wpAny_pure (wpAny_call (codeAny_call_builtin PySem.F.excAttr_ValueError.ga.plain PySem.F.entry_bexc_ga ?_)))
  refine @check_slot (model prog w) _ _ ⟨hp, g, d, t + 1, os⟩ "BaseException.__getattribute__" "BaseException" "__getattribute__" (.ref x) [.str "__class__" t] [] _ (by decide +kernel) (by decide +kernel) isE (PySem.F.args_bexc_ga _ _) ?_
  unfold Builtin.«object.__getattribute__»
  refine wpAny_bind (wpAny_of_eq (a := ((Value.ref x : Value), [Value.str "__class__" t])) (by first | rfl | (simp only [slotArgs]; rfl)) (wpAny_bind (wpAny_pure (wpAny_bind (lT.at (wpAny_bind (lF.at ?_)))))))
  refine wpAny_bind (m := holding [Value.builtin "object.__class__"] (call (.builtin "getset_descriptor.__get__") [.builtin "object.__class__", .ref x, .ref D])) (wpAny_holding (wpAny_call (class_get (s := ⟨hp, g, d, t + 1, os⟩) (ox := ox) (od := some od) X I Z.hm (wpAny_pure ?_))))
  show wpAny (model prog w) _ (handedOut (.ref D)) _ _ _; rw [handedOut_of (v := .ref D) rfl]
  first | exact wpAny_pure (wpAny_pure h) | exact wpAny_pure h | exact wpAny_pure (wpAny_bind (wpAny_pure (wpAny_pure h)))
theorem xd_obj (h : hasDictIn K D = true) : ∃ oc oz cd sl, K.lookup D = some ⟨oc, oz, .cls cd, sl⟩ := by
  obtain ⟨cd, e, _⟩ := any_some h
  unfold clsIn at e
  split at e
  · rename_i a b c d q
    exact ⟨_, _, _, _, q⟩
  · cases e
theorem xd_kitx (Z : ExcC K D) : KitX K (.ref x) (.ref D) (fun h => InstAt h x ox D (some od)) where
  ty := fun _ _ _ I => I.type
  it := fun _ _ X _ => by
    obtain ⟨oc, oz, cd, sl, q⟩ := xd_obj Z.hd
    intro _ _ _ _ keeps z
    unfold isType loadHead
    exact wpAny_bind (wpAny_loadPart (keeps _ _ (X _ _ q)) (wpAny_pure z))
  ne := fun _ tp _ _ _ _ X q => by
    obtain ⟨oc, oz, cd, sl, e⟩ := xd_obj Z.hd
    by_cases hD : D = tp
    · subst hD
      cases (X _ _ e).symm.trans q
    · exact beq_false_of_ne fun z => hD (Value.ref.inj z)
  ca := fun X I k => xd_class Z X I k
end
section
variable {X : Cx} {a D : Addr} {oe : Obj} {dd : Addr}
/-- isinstance(e, c) -/
theorem call_isP (C : ExcC X.K D) (hp : (a, oe) ∈ X.pn) (hz : Zc (.ref D) (some dd) oe) (hf : ∃ vs, oe.data = .fields vs) : CallR X (.builtin "isinstance") (fun xs H Q => (∃ fs, H dd = some (.xd fs)) ∧ rIsE X.K D a xs H Q) := by
  intro pins s σ H xs us Q I rr0 h
  obtain ⟨⟨fs, hdd⟩, c, cv, b, rfl, hcv, e, q⟩ := h
  cases rr0 with
  | cons rx rr =>
    cases rr with
    | cons rt rr =>
      cases rr
      cases rx
      have ec := hcv _ rt
      subst ec
      obtain ⟨at_, _⟩ := I.pin (a, oe) (List.mem_append.mpr (.inl hp))
      obtain ⟨vs, hv⟩ := hf
      obtain ⟨mA, hns, _⟩ := (show ObjOk X.prog X.w H s.heap dd (.xd fs) from I.hok dd _ hdd)
      obtain ⟨od, ho, _⟩ := lookIn_ns hns
      have J : PySem.W.InstAt s.heap a oe D (some od) := ⟨at_, hz.1, by unfold PySem.W.notCls; rw [hv] <;> rfl, by rw [hz.2]; exact ho⟩
      exact PySem.W.kia_one (xd_kitx C) I.kIn J e (fun z => nomatch z) fun tk => ⟨.bl b, H, I.kept (t' := tk) fun _ _ z => z, rfl, q⟩
/-- e.f -/
theorem pe_xfP {cls : Value} {d : Option Addr} {C : Addr} {e : Expr} {te : TE} {pos : Pos} {n : Str} (T : XfC X.K C) (hno : PySem.W.findIn X.K (.ref C) n = some none) (hp : (a, oe) ∈ X.pn)
    (hz : Zc cls d oe) (hf : ∃ vs, oe.data = .fields vs) (he : PE X e te) (hb : attributeBase e n X.env (eval e X.env) = eval e X.env := by rfl) :
    PE X (.Attribute e n pos) (tXf a cls d C n te) := by
  refine ⟨fun pins s σ H Q I h => attr_of hb (thn (he.run pins s σ H _ I h) fun u s1 hh => ?_)⟩
  obtain ⟨x, H1, I1, rx, rfl, rfl, dd, fs, v, rfl, ea, l, q⟩ := hh
  cases rx
  obtain ⟨at_, _⟩ := I1.pin (a, oe) (List.mem_append.mpr (.inl hp))
  obtain ⟨vs, hv⟩ := hf
  obtain ⟨mA, hns, hr⟩ := (show ObjOk X.prog X.w H1 s1.heap dd (.xd fs) from I1.hok dd _ ea)
  obtain ⟨zo, zg, zl⟩ := lookIn_ns hns
  obtain ⟨zu, hu, ru⟩ := RelO.some_of (o := mA n) (v := v) (by rw [← l]; exact hr n)
  have J : PySem.W.InstAt s1.heap a oe C (some zo) := ⟨at_, hz.1, by unfold PySem.W.notCls; rw [hv] <;> rfl, by rw [hz.2]; exact zg⟩
  exact HandSPX.exc_get (I1.kIn) J T.ga T.gg T.exC (PySem.W.findObj_own T.hdC hno rfl (zl _ |>.trans (by rw [hu]))) (handed_of ru) ⟨v, H1, I1.tok _, ru, q⟩
end

end
section
/-! ### promises of defs that raise, with what they raise: class C, field fld -/
noncomputable def spV (G : Mg) (C : Addr) (fld : Str) (f : Fn) : Sp := fun vs H _ E => ∃ p s ws w s', Sim G p s H ∧ DenL G p H ws vs ∧ f ws s = some (w, s') ∧ ∀ p' H' dv v, Sim G p' s' H' → Fra p H p' H' → Den G p' H' w v → H' dv = some (.xd [(fld, v)]) → E (.ref C) (some dv) H'
noncomputable def tIV (G : Mg) (C : Addr) (fld : Str) (W : WX) (F : Fe) : TE := fun σ H _ => ∃ p s r w s', Sim G p s H ∧ EnvR G p H r σ ∧ F r s = some (w, s') ∧ ∀ p' H' dv v, Sim G p' s' H' → Fra p H p' H' → Den G p' H' w v → H' dv = some (.xd [(fld, v)]) → W (.ref C) (some dv) σ H'
noncomputable def tSV (G : Mg) (C : Addr) (fld : Str) (W : WX) (F : Fe) : TS := fun _ σ H => ∃ p s r w s', Sim G p s H ∧ EnvR G p H r σ ∧ F r s = some (w, s') ∧ ∀ p' H' σ' dv v, Sim G p' s' H' → Fra p H p' H' → Den G p' H' w v → H' dv = some (.xd [(fld, v)]) → W (.ref C) (some dv) σ' H'
theorem fra_upd {p : List Addr} {H : Hp} {a : Addr} {o : HO} (h : H a = none) : Fra p H p (upd H a o) :=
  ⟨⟨[], by simp, by simp⟩, fun b u e _ => by rw [upd_ne (ne_of_none e h)]; exact e, fun b u v e => by rw [upd_ne (ne_of_none e h)]; exact e⟩
section
variable {X : Cx} {G : Mg} {C : Addr} {fld : Str} {W : WX} {e o : Expr} {es : List Expr} {pos : Pos} {st : Stmt} {rest : List Stmt} {σ : L2.St} {H : Hp} {c : Nat}
/-- raise X(e) -/
theorem rv_raise {A : Fe} {x : Str} {p1 pos' : Pos} (hc : X.calm = true) (tk : Takes X W) (h : PMk X (.Call (.Name x p1) [e] [] pos) (fun σ H Q => tI G A σ H fun v H1 => ∃ v', [v] = [v'] ∧ ∀ dv, H1 dv = none → Q (.ref C) (some dv) (upd H1 dv (.xd [(fld, v')])))) : PS X (.Raise (some (.Call (.Name x p1) [e] [] pos)) none pos') (tSV G C fld W A) :=
  ps_imp (ps_raise hc tk h) fun D σ H ⟨p, s, r, w, s', S, E, q, k⟩ =>
    ⟨p, s, r, w, s', S, E, q, fun p1 v1 H1 S1 f1 d1 => ⟨v1, rfl, fun dv hd => k p1 _ σ dv v1 (S1.fra_new hd) (f1.trans (fra_upd hd)) (d1.fra S1 (fra_upd hd)) upd_same⟩⟩
theorem rv_exp {F : Fe} (h : PE X e (tIV G C fld W F)) (hs : swapsWith e none pos.line X.env = pure false := by rfl) : PS X (.Expr e pos) (tSV G C fld W F) := ps_imp (ps_expr h hs) fun D σ H ⟨p, s, r, w, s', S, E, q, k⟩ =>
  ⟨p, s, r, w, s', S, E, q, fun p' H' dv v S' f' d' e' => k p' H' σ dv v S' f' d' e'⟩
theorem rv_hd {F : Fe} (h : PS X st (tSV G C fld W F)) : PSs X (st :: rest) (tSV G C fld W F) := pss_imp (pss_cons (u := fun _ _ _ => False) h ⟨fun _ _ _ _ _ _ z => z.elim⟩) fun D σ H q => q
noncomputable def vseq (A : Fs) (F : Fe) : Fe := fun r s => (A r s).ob fun x => match x.1 with
  | .nx => F x.2.1 x.2.2
  | _ => none
theorem rv_cons {A : Fs} {F : Fe} (h1 : PS X st (tS G A)) (h2 : PSs X rest (tSV G C fld W F)) : PSs X (st :: rest) (tSV G C fld W (vseq A F)) := pss_imp (pss_cons h1 h2) fun D σ H ⟨p, s, r, w, s', S, E, q, k⟩ => by
  obtain ⟨⟨fl, r1, s1⟩, q1, q2⟩ := ob_some.mp q
  refine ⟨p, s, r, fl, r1, s1, S, E, q1, fun p1 H1 S1 f1 => ?_⟩
  cases fl with
  | nx => exact fun σ1 E1 => ⟨p1, s1, r1, w, s', S1, E1, q2, fun p2 H2 σ2 dv v S2 f2 d2 e2 => k p2 H2 σ2 dv v S2 (f1.trans f2) d2 e2⟩
  | bk => cases q2
  | ct => cases q2
  | rt w => cases q2
noncomputable def vif (T : Ft) (F : Fe) : Fe := fun r s => (T r s).ob fun x => cond x.1 (F r x.2) none
theorem rv_ift {T : Ft} {F : Fe} {a b : List Stmt} (hc : PT X e (tT G T)) (ha : PSs X a (tSV G C fld W F)) : PS X (.If e a b pos) (tSV G C fld W (vif T F)) := ps_imp (ps_if (u := fun _ _ _ => False) hc ha ⟨fun _ _ _ _ _ _ z => z.elim⟩) fun D σ H ⟨p, s, r, w, s', S, E, q, k⟩ => by
  obtain ⟨⟨x, s1⟩, q1, q2⟩ := ob_some.mp q
  refine ⟨p, s, r, x, s1, S, E, q1, fun p1 H1 S1 f1 => ?_⟩
  cases x with
  | true => rw [if_pos rfl]; exact ⟨p1, s1, r, w, s', S1, E.fra S f1, q2, fun p2 H2 σ2 dv v S2 f2 d2 e2 => k p2 H2 σ2 dv v S2 (f1.trans f2) d2 e2⟩
  | false => cases q2
/-- f(..) that raises -/
theorem tV_call {f : Fn} {A : Fa} {vs0 : List V} {E0 : XK} {Q : VK} (hW : ∀ d H, W (.ref C) d σ H → E0 (.ref C) d H) (h : tIV G C fld W (mcall f A) σ H Q) : tA G A σ H fun vs H1 => spV G C fld f vs H1 Q E0 := by
  obtain ⟨p, s, r, w, s', S, E, q, k⟩ := h
  obtain ⟨⟨ws, s1⟩, q1, q2⟩ := ob_some.mp q
  exact ⟨p, s, r, ws, s1, S, E, q1, fun p1 vs H1 S1 f1 d1 => ⟨p1, s1, ws, w, s', S1, d1, q2, fun p2 H2 dv v S2 f2 d2 e2 => hW _ _ (k p2 H2 dv v S2 (f1.trans f2) d2 e2)⟩⟩
theorem rv_call {f : Fn} {A : Fa} {CXo : CXT} {k : Nat} {fa : Addr} {fd : FuncData} {ps : List Str} {E0 : XK} {x : Str} {p0 : Pos} (F : FnOk X.prog X.w X.K X.mg X.base CXo k fa fd ps (spV G C fld f)) (hr : Room k X.A) (hg : Gl X x) (hm : X.mg x = some (.ref fa)) (hk : PySem.W.keepIn X.K (.ref fa) = true) (hb : Binds X.K fd ps []) (hx : Passes CXo X E0) (hW : ∀ d σ H, W (.ref C) d σ H → E0 (.ref C) d H) (ha : PA X (e :: es) (tA G A))
    (hdb : (x == ("__debug__" : Str)) = false := by decide) (he : starEach (e :: es) X.env = (false, eval e X.env) :: starEach es X.env := by rfl) (hpl : (backTo pos (starEach es X.env)).any (·.1) = false := by rfl) :
    PE X (.Call (.Name x p0) (e :: es) [] pos) (tIV G C fld W (mcall f A)) := pe_imp (pe_call F hr hg hm hk hb .nil hx ha hdb he hpl) fun σ H Q h => by
  obtain ⟨p, s, r, ws, s1, S, E, q, k⟩ := tV_call (vs0 := []) (E0 := E0) (Q := Q) (fun d H => hW d σ H) h
  exact ⟨p, s, r, ws, s1, S, E, q, fun p1 vs H1 S1 f1 d1 => by
    show spV G C fld f (vs ++ []) H1 Q E0
    rw [List.append_nil]
    exact k p1 vs H1 S1 f1 d1⟩
/-- f(..) that raises, where the wish hangs on the slots (within try) -/
theorem rv_callS {f : Fn} {A : Fa} {k : Nat} {fa : Addr} {fd : FuncData} {ps : List Str} {x : Str} {p0 : Pos} (F : FnOk X.prog X.w X.K X.mg X.base (L2.CX X.prog X.w) k fa fd ps (spV G C fld f)) (hr : Room k X.A) (hg : Gl X x) (hm : X.mg x = some (.ref fa)) (hk : PySem.W.keepIn X.K (.ref fa) = true) (hb : Binds X.K fd ps []) (tk : Takes X W) (ha : PA X (e :: es) (tA G A))
    (hdb : (x == ("__debug__" : Str)) = false := by decide) (he : starEach (e :: es) X.env = (false, eval e X.env) :: starEach es X.env := by rfl) (hpl : (backTo pos (starEach es X.env)).any (·.1) = false := by rfl) :
    PE X (.Call (.Name x p0) (e :: es) [] pos) (tIV G C fld W (mcall f A)) := by
  refine ⟨fun pins s σ H Q I h => ?_⟩
  refine wpAny_Call_Name_kw (ld_glob I hg hm ?_ hdb)
  refine PySem.W.callWith_K (h₀ := X.base) I.ok.mod.kin hk (thn (ha.run pos pins s σ H _ I (tV_call (vs0 := []) (E0 := WE W σ) (Q := Q) (fun _ _ z => z) h)) fun us s1 hv => ?_) he hpl
  obtain ⟨vs, H1, I1, r1, q1⟩ := hv
  exact ⟨I1.kIn, run_fnS F hr hb (passAt tk σ) I1 r1 q1⟩
/-- a body that runs through or raises -/
noncomputable def mloopV (it : It0) (T : Tg) (B : Fs) (F : Fe) (m : Nat) : Nat → Me → Ms → Option (Mv × Ms) := Nat.rec (motive := fun _ => Nat → Me → Ms → Option (Mv × Ms)) (fun _ _ _ => none)
  (fun _ ih i r s => match it.at i s with
    | some (some w) => (T.asg w r).ob fun r1 => match B r1 s with
      | some (.nx, r2, s2) => ih (Nat.succ i) r2 s2
      | some _ => none
      | none => F r1 s
    | _ => none) m
theorem mloopV_succ {it : It0} {T : Tg} {B : Fs} {F : Fe} {m i : Nat} {r : Me} {s : Ms} : mloopV it T B F (m + 1) i r s = match it.at i s with
    | some (some w) => (T.asg w r).ob fun r1 => match B r1 s with
      | some (.nx, r2, s2) => mloopV it T B F m (i + 1) r2 s2
      | some _ => none
      | none => F r1 s
    | _ => none := rfl
noncomputable def vfor (I : Fi) (T : Tg) (B : Fs) (F : Fe) : Fe := fun r s => (I r s).ob fun x => mloopV x.1 T B F 1000000000 0 r x.2
theorem rv_for {tg iter : Expr} {body : List Stmt} {I : Fi} {T : Tg} {B : Fs} {F : Fe} (hp : PassesOwn (model X.prog X.w) X.A X.env X.xe) (hc : X.calm = true) (hi : PI X tg iter (tIt G I)) (hg : PG X tg (tG G T)) (hb1 : PSs X body (tS G B)) (hb2 : PSs X body (tSV G C fld W F)) (hs : ∀ x, foldedSetIterable iter X.env x = pure x := by intro _; rfl) :
    PS X (.For tg iter body [] pos) (tSV G C fld W (vfor I T B F)) := by
  have hb : PSs X body (fun D σ H => tS G B D σ H ∨ tSV G C fld W F D σ H) := ⟨fun pins s σ H D I h => h.elim (hb1.run pins s σ H D I) (hb2.run pins s σ H D I)⟩
  refine ps_imp (ps_for hp hc hi hg hb hs) fun D σ H ⟨p, s, r, w, s', S, E, q, k⟩ => ?_
  obtain ⟨⟨it, s1⟩, q1, q2⟩ := ob_some.mp q
  refine ⟨p, s, r, it, s1, S, E, q1, fun p1 H1 J S1 f1 R => ?_⟩
  refine ⟨fun i m σ2 H2 => ∃ p2 s2 r2, Sim G p2 s2 H2 ∧ EnvR G p2 H2 r2 σ2 ∧ Fra p1 H1 p2 H2 ∧ mloopV it T B F m i r2 s2 = some (w, s'), ⟨1000000000, p1, s1, r, S1, E.fra S f1, Fra.refl, q2⟩, ?_⟩
  rintro i m σ2 H2 ⟨p2, s2, r2, S2, E2, f2, q3⟩
  cases m with
  | zero => cases q3
  | succ m =>
    have R2 := R p2 s2 H2 i S2 (f2.stays S1) f2.frz
    rw [mloopV_succ] at q3
    cases e : it.at i s2 with
    | none => rw [e] at q3; cases q3
    | some o =>
      cases o with
      | none => rw [e] at q3; cases q3
      | some w0 =>
        rw [e] at q3
        obtain ⟨g, y⟩ := R2.2 w0 e
        obtain ⟨r3, q4, q5⟩ := ob_some.mp q3
        refine .inr ⟨g, fun σ3 H3 => ∃ p3 s3 r5, Sim G p3 s3 H3 ∧ EnvR G p3 H3 r5 σ3 ∧ Fra p1 H1 p3 H3 ∧ mloopV it T B F m (i + 1) r5 s3 = some (w, s'), fun σ3 H3 h3 => ⟨m, Nat.lt_succ_self m, h3⟩, fun v H' hy => ?_⟩
        obtain ⟨S2', f2', d⟩ := y v H' hy
        cases eb : B r3 s2 with
        | none =>
          rw [eb] at q5
          exact ⟨p2, s2, r2, w0, r3, S2', E2.fra S2 f2', d, q4, fun σ' E' _ => .inr ⟨p2, s2, r3, w, s', S2', E', q5, fun p4 H4 σ4 dv v4 S4 f4 d4 e4 => k p4 H4 σ4 dv v4 S4 (f1.trans ((f2.trans f2').trans f4)) d4 e4⟩⟩
        | some z =>
          obtain ⟨fl, r4, s4⟩ := z
          rw [eb] at q5
          cases fl with
          | nx => exact ⟨p2, s2, r2, w0, r3, S2', E2.fra S2 f2', d, q4, fun σ' E' _ => .inl ⟨p2, s2, r3, .nx, r4, s4, S2', E', eb, fun p4 H4 S4 f4 σ4 E4 => ⟨p4, s4, r4, S4, E4, (f2.trans f2').trans f4, q5⟩⟩⟩
          | bk => cases q5
          | ct => cases q5
          | rt w => cases q5
end
/-! ### a def that raises: its promise by its body -/
section
variable {P : Program} {w : World} {K : PySem.W.Frag} {mg : Str → Option Value} {base : Heap} {G : Mg} {C : Addr} {fld : Str}
noncomputable def fnV (np nl : Nat) (F : Fe) : Fn := fun ws s => cond (Nat.beq ws.length np) (F (lsome (nl - np) ws) s) none
theorem fn_okV {x qual : Str} {st : Stmt} {f : Addr} {fd : FuncData} {N ps : List Str} {k : Nat} {F : Fe} {dvs : List V} {kws : List (Str × V)} (D : FunD K x qual (defArgs st) (defBody st) (defScope st) dvs kws f fd) (sc : FnScope N ps (defScope st)) {np nl : Nat} (hnp : ps.length = np := by rfl) (hnl : N.length = nl := by rfl)
    (hb : ∀ (cdv : Value) (A : Around) (outer : List Env) (s : Shared) (H : Hp) (E : XK), Room k (A.deeper (envOfC qual (defScope st) s.heap.objs.size f cdv)) → Takes (cxOf (L2.CX P w) P w K mg base N qual (defScope st) f cdv A outer s H E) (fun cls d _ H' => E cls d H') →
      PSs (cxOf (L2.CX P w) P w K mg base N qual (defScope st) f cdv A outer s H E) (defBody st) (tSV G C fld (fun cls d _ H' => E cls d H') F)) :
    FnOk P w K mg base (L2.CX P w) (k + 1) f fd ps (spV G C fld (fnV np nl F)) := by
  subst hnp hnl
  have len : ∀ vs H Q E, spV G C fld (fnV ps.length N.length F) vs H Q E → vs.length = ps.length := by
    rintro vs H Q E ⟨p, s, ws, u, s', S, l, q, _⟩
    rw [← l.length]
    unfold fnV at q
    cases hl : Nat.beq ws.length ps.length with
    | false => rw [hl] at q; cases q
    | true => exact Nat.eq_of_beq_eq_true hl
  refine D.ok sc len fun cdv A outer s H vs Q E hr h => ⟨_, hb cdv A outer s H E hr (takes_of rfl rfl rfl rfl), ?_⟩
  have hlen := len vs H Q E h
  obtain ⟨p, s0, ws, u, s', S, l, q, k'⟩ := h
  unfold fnV at q
  cases hl : Nat.beq ws.length ps.length with
  | false => rw [hl] at q; cases q
  | true =>
    rw [hl] at q
    refine ⟨p, s0, _, u, s', S, ?_, q, fun p1 H1 σ1 dv v S1 f1 d1 e1 => k' p1 H1 dv v S1 f1 d1 e1⟩
    unfold L2.start
    rw [hlen, lsome_eq]
    exact envR_start _ l
end

end
section
/-! ### what is asked of the exception that was caught -/
def HeldV (a dd : Addr) (fld : Str) (ic : Nat) (σ : L2.St) (H : Hp) (v : V) : Prop := σ[ic]? = some (some (.ref a)) ∧ H dd = some (.xd [(fld, v)])
theorem HeldV.upd {a dd t : Addr} {fld : Str} {ic : Nat} {σ : L2.St} {H : Hp} {v : V} {o : HO} (h : HeldV a dd fld ic σ H v) (ht : H t = none) : HeldV a dd fld ic σ (L2.upd H t o) v := ⟨h.1, by rw [upd_ne (ne_of_none h.2 ht)]; exact h.2⟩
section
variable {X : Cx} {a D dd : Addr} {oe : Obj} {fld y : Str} {ic : Nat} {b : Bool} {p0 p1 p2 p3 pos : Pos}
theorem pe_hIs {cn : Str} {cv : V} {u : Value} (C : ExcC X.K D) (hp : (a, oe) ∈ X.pn) (hz : Zc (.ref D) (some dd) oe) (hf : ∃ vs, oe.data = .fields vs) (hy : X.N[ic]? = some y) (hv : Vis X.env.scope y) (n1 : (y == ("__debug__" : Str)) = false) (n2 : (y == ("__classdict__" : Str)) = false)
    (gl : Gl X "isinstance") (mg : X.mg "isinstance" = none) (hcn : PE X (.Name cn p2) (tC cv)) (hcv : ∀ u', RelV cv u' → u' = u) (hk : PySem.W.kitOne X.K (.ref D) u = some b)
    (se : starEach [.Name y p1, .Name cn p2] X.env = (false, eval (.Name y p1) X.env) :: starEach [.Name cn p2] X.env := by rfl) (se2 : starEach [.Name cn p2] X.env = (false, eval (.Name cn p2) X.env) :: starEach [] X.env := by rfl) (hpl : (backTo pos (starEach [.Name cn p2] X.env)).any (·.1) = false := by rfl) :
    PE X (.Call (.Name "isinstance" p0) [.Name y p1, .Name cn p2] [] pos) (fun σ H Q => (∃ v, HeldV a dd fld ic σ H v) ∧ Q (.bl b) H) :=
  pe_imp (pe_callB (call_isP C hp hz hf) gl mg PyProof.Rows.Boot.«isinstance» (pa_cons (pe_var hy hv n1 n2) (pa_cons hcn pa_nil se2) se) (by decide) (by decide) se hpl) fun σ H Q ⟨⟨v, h1, h2⟩, q⟩ => ⟨.ref a, h1, ⟨_, h2⟩, cv, u, b, rfl, hcv, hk, q⟩
theorem pe_hF (T : XfC X.K D) (hno : PySem.W.findIn X.K (.ref D) fld = some none) (hp : (a, oe) ∈ X.pn) (hz : Zc (.ref D) (some dd) oe) (hf : ∃ vs, oe.data = .fields vs) (hy : X.N[ic]? = some y) (hv : Vis X.env.scope y) (n1 : (y == ("__debug__" : Str)) = false) (n2 : (y == ("__classdict__" : Str)) = false)
    (hb : attributeBase (.Name y p1) fld X.env (eval (.Name y p1) X.env) = eval (.Name y p1) X.env := by rfl) : PE X (.Attribute (.Name y p1) fld pos) (fun σ H Q => ∃ v, HeldV a dd fld ic σ H v ∧ Q v H) :=
  pe_imp (pe_xfP T hno hp hz hf (pe_var hy hv n1 n2) hb) fun σ H Q ⟨v, ⟨h1, h2⟩, q⟩ => ⟨.ref a, h1, rfl, rfl, dd, _, v, rfl, h2, by simp [List.lookup], q⟩
end
/-! ### a def that tries what raises, and tells of the exception -/
section
variable {X : Cx} {G : Mg}
noncomputable def vres (A : Fs) (F : Fe) (res : Mv → Mv) (ic ie : Nat) : Fs := fun r s => (A r s).ob fun x => match x.1 with
  | .nx => cond (Nat.blt ic x.2.1.length) (cond (Nat.blt ie x.2.1.length) ((F x.2.1 x.2.2).om fun y => (.rt (res y.1), [], y.2)) none) none
  | _ => none
noncomputable def tTryV (G : Mg) (F : Fe) (res : Mv → Mv) (ic ie : Nat) : TS := fun D σ H => ∃ p s r w s', Sim G p s H ∧ EnvR G p H r σ ∧ ic < r.length ∧ ie < r.length ∧ F r s = some (w, s') ∧ ∀ p' H' v, Sim G p' s' H' → Fra p H p' H' → Den G p' H' (res w) v → D.rt v H'
theorem vr_tail {st1 : Stmt} {rest : List Stmt} {A : Fs} {F : Fe} {res : Mv → Mv} {ic ie : Nat} (h1 : PS X st1 (tS G A)) (h2 : PSs X rest (tTryV G F res ic ie)) : PSs X (st1 :: rest) (tS G (vres A F res ic ie)) :=
  pss_imp (pss_cons h1 h2) fun D σ H ⟨p, s, r, fl, r', s', S, E, q, k⟩ => by
    obtain ⟨⟨fl1, r1, s1⟩, q1, q2⟩ := ob_some.mp q
    refine ⟨p, s, r, fl1, r1, s1, S, E, q1, fun p1 H1 S1 f1 => ?_⟩
    cases fl1 with
    | nx =>
      have q2' : cond (Nat.blt ic r1.length) (cond (Nat.blt ie r1.length) ((F r1 s1).om fun y => (Fl.rt (res y.1), ([] : Me), y.2)) none) none = some (fl, r', s') := q2
      cases h1 : Nat.blt ic r1.length with
      | false => rw [h1] at q2'; cases q2'
      | true =>
        cases h2 : Nat.blt ie r1.length with
        | false => rw [h1, h2] at q2'; cases q2'
        | true =>
          rw [h1, h2] at q2'
          obtain ⟨⟨w, s2⟩, q3, q4⟩ := omap_some.mp q2'
          cases q4
          exact fun σ1 E1 => ⟨p1, s1, r1, w, s2, S1, E1, Nat.le_of_ble_eq_true h1, Nat.le_of_ble_eq_true h2, q3, fun p2 H2 v S2 f2 d2 => k p2 H2 S2 (f1.trans f2) v d2⟩
    | bk => cases q2
    | ct => cases q2
    | rt w => cases q2
end

end
section
/-! ### try .. except (A, B, C) as n: y = n, and behind it what is told of the exception -/
section
variable {X : Cx} {G : Mg} {C : Addr} {fld : Str}
theorem tryV_of {F : Fe} {res : Mv → Mv} {body rest : List Stmt} {n y x1 x2 x3 : Str} {c1 c2 c3 : Addr} {ie ic kk : Nat} {q1 q2 q3 tp p1 p2 p3 pos' pos : Pos} {Fin : V → Ends → Hp → Prop}
    (hs : X.stack = X.env :: X.outer) (hf : X.env.frame = some X.env.locals) (hN : X.N.Nodup) (hi : X.N[ie]? = some n) (hln : X.env.kindOf n = some .local)
    (g1 : Gl X x1) (g2 : Gl X x2) (g3 : Gl X x3) (m1 : X.mg x1 = some (.ref c1)) (m2 : X.mg x2 = some (.ref c2)) (m3 : X.mg x3 = some (.ref c3)) (hx : PySem.W.exmAny X.K (.ref C) [.ref c1, .ref c2, .ref c3] = some true)
    (hy : X.N[ic]? = some y) (hly : Loc X.env.scope y) (hvn : Vis X.env.scope n) (hne : ic ≠ ie) (hfy : X.fn y = true ∨ X.env.scope.names.lookup y = some .local)
    (hb : ∀ (W : WX) (pn : List (Addr × Obj)) (xe : Value → Shared → Prop), Takes (X.tr pn xe) W → PSs (X.tr pn xe) body (fun _ σ H => tIV G C fld W F σ H fun _ _ => False))
    (hr : ∀ (a : Addr) (oe : Obj) (dd : Addr) (pn : List (Addr × Obj)), Zc (.ref C) (some dd) oe → (∃ vs, oe.data = .fields vs) → PSs (X.tr ((a, oe) :: pn) X.xe) rest (fun D σ H => ∃ v, HeldV a dd fld ic σ H v ∧ Fin v D H))
    (hF : ∀ (D : Ends) (p : List Addr) (s : Ms) (H : Hp) (w : Mv) (v : V), Sim G p s H → Den G p H w v → (∀ p2 H2 v2, Sim G p2 s H2 → Fra p H p2 H2 → Den G p2 H2 (res w) v2 → D.rt v2 H2) → Fin v D H)
    (n1 : (n == ("__debug__" : Str)) = false := by decide) (n2 : (n == ("__classdict__" : Str)) = false := by decide) (b1 : (x1 == ("__debug__" : Str)) = false := by decide) (b2 : (x2 == ("__debug__" : Str)) = false := by decide) (b3 : (x3 == ("__debug__" : Str)) = false := by decide)
    (hsw : swapsWith (.Name n p2) (some (.Name y p1)) p3.line X.env = pure false := by rfl)
    (se : starEach [.Name x1 q1, .Name x2 q2, .Name x3 q3] X.env = (false, eval (.Name x1 q1) X.env) :: starEach [.Name x2 q2, .Name x3 q3] X.env := by rfl) (se2 : starEach [.Name x2 q2, .Name x3 q3] X.env = (false, eval (.Name x2 q2) X.env) :: starEach [.Name x3 q3] X.env := by rfl) (se3 : starEach [.Name x3 q3] X.env = (false, eval (.Name x3 q3) X.env) :: starEach [] X.env := by rfl) :
    PSs X (.Try body [.ExceptHandler (some (.Tuple [.Name x1 q1, .Name x2 q2, .Name x3 q3] kk tp)) (some n) [.Assign [.Name y p1] (.Name n p2) p3] pos'] [] [] pos :: rest) (tTryV G F res ic ie) := by
  refine pss_imp (pss_try3 (tb := fun W _ σ H => tIV G C fld W F σ H fun _ _ => False) (ts := fun a oe cls d D σ H => cls = .ref C ∧ ∃ dd, d = some dd ∧ ∃ v, HeldV a dd fld ic σ H v ∧ Fin v D H) hs hf hN hi hln g1 g2 g3 m1 m2 m3 b1 b2 b3 hy hly hvn n1 n2 hfy hsw se se2 se3 hb (fun a oe cls d pn hz hv => ⟨fun pins s σ H D I h => ?_⟩)) fun D σ H ⟨p, s, r, w, s', S, E, l1, l2, q, k⟩ => ?_
  · obtain ⟨rfl, dd, rfl, h⟩ := h
    exact (hr a oe dd pn hz hv).run pins s σ H D I h
  · have ln : σ.length = r.length := E.len.symm
    refine ⟨p, s, r, w, s', S, E, q, fun p' H' dv v S' f' d' e' => ⟨hx, fun a oe na hz hv => ⟨⟨.ref a, by rw [List.getElem?_set_self (by omega)], rfl⟩, rfl, dv, rfl, v, ⟨?_, e'⟩, ?_⟩⟩⟩
    · rw [List.getElem?_set_ne (fun z => hne z.symm), List.getElem?_set_self (by rw [List.length_set]; omega)]
    · exact hF D p' s' H' w v S' d' fun p2 H2 v2 S2 f2 d2 => k p2 H2 v2 S2 (f'.trans f2) d2
/-- what a class of exceptions is asked when it is looked at -/
structure XvK (K : PySem.W.Frag) (C : Addr) (fld : Str) : Prop where
  ex : ExcC K C
  xf : XfC K C
  no : PySem.W.findIn K (.ref C) fld = some none
end

end
section
/-! ### what is read off the classes of exceptions that are caught and looked at -/
section
open PySem.W
structure XvH (K : Frag) (x fld : Str) (cs ns : List Str) (tys : List String) : Prop where
  v : XvK K (He.ga K x) fld
  ca : exmAny K (.ref (He.ga K x)) (cs.map fun c => .ref (He.ga K c)) = some true
  is : kitOne K (.ref (He.ga K x)) (.ref (He.ga K x)) = some true
  no : kitAny K (.ref (He.ga K x)) (ns.map fun c => .ref (He.ga K c)) = some false
  ty : ∀ t ∈ tys, kitOne K (.ref (He.ga K x)) (.type t) = some true
theorem xvB_ok {K : Frag} {x fld : Str} {cs ns : List Str} {tys : List String} (h : xvB K x fld cs ns tys = true) : XvH K x fld cs ns tys := by
  unfold xvB at h
  simp only [Bool.and_eq_true, decide_eq_true_eq, List.all_eq_true] at h
  obtain ⟨h0, h1, h2, h3, h4, h5, h6, h7, h8, h9⟩ := h
  have z := xfB_ok h0
  exact ⟨⟨⟨z.ga, z.gg, z.exC, z.hdC, h1, h2, h3, h4⟩, z, h5⟩, h6, h7, h8, h9⟩
theorem xc_okF {P : Program} {K : Frag} {mg : Str → Option Value} {d : XcD} {file x1 x2 : Str} {ar : Arg} {p0 p1 p2 p3 p4 p5 p6 p7 p8 p9 : Pos} {pl : Sem Bool} (e : xcW K d.name = d.val) (c : d.ok file K = true) (hbody : d.body = xcBody x1 x2 d.fld p0 p1 p2 p3 p4 p5 p6 p7 p8 p9)
    (hB : ExcBaseFacts d.B d.newId d.initId d.bmB) (hK : KxsFacts d.B d.initId) (hS : StoreFacts d.B d.bmB "object.__setattr__" "object") (hsup : mg "super" = none) (hfile : ((P.main.file : Str) == file) = true) (htop : (P.main.scope.names.lookup ("super" : Str)).isSome = false) (hboot : bootBuiltins "super" = some (.type "super"))
    (hp : (d.params.posonlyargs ++ d.params.args).head? = some ar) (hx1 : ar.arg = x1) (hnc : ∀ x ∈ d.scope.names, x.2 ≠ .cell)
    (hks : d.scope.names.lookup ("super" : Str) = some .globalImplicit) (hkc : d.scope.names.lookup ("__class__" : Str) = some .free) (h1k : d.scope.names.lookup x1 = some .local) (h2k : d.scope.names.lookup x2 = some .local) (hk : d.scope.kind = .function)
    (hco : d.scope.isCoroutine = false) (hgen : d.scope.isGenerator = false) (d1 : (x1 == ("__debug__" : Str)) = false) (d2 : (x2 == ("__debug__" : Str)) = false) (hne : x2 ≠ x1)
    (hbind : ∀ (kV doc pm ct : Value) (an : Option Addr) (cda cc : Addr) (u : Value) (a : Addr) (s : Shared), BindsTo s (ksFn "__init__" d.qual d.params d.body d.scope .none kV doc pm an (.ref cda) ct cc) ⟨[.ref a, u], []⟩ [(x1, .ref a), (x2, u)])
    (hev : ∀ fI cda cc L, eval (.Call (.Attribute (.Call (.Name "super" p0) [] [] p1) "__init__" p2) [.Name x2 p3] [] p4) (ksEnv d.qual d.scope L fI (.ref cda) cc) = (do
      let ov ← attributeBase (.Call (.Name "super" p0) [] [] p1) "__init__" (ksEnv d.qual d.scope L fI (.ref cda) cc) (eval (.Call (.Name "super" p0) [] [] p1) (ksEnv d.qual d.scope L fI (.ref cda) cc))
      standAt p2.atName
      let (fu, fs) ← holding [ov] (getMethod ov "__init__" pl)
      callWith p4 fu fs (backTo p4 (starEach [.Name x2 p3] (ksEnv d.qual d.scope L fI (.ref cda) cc))) [])) : XcOkF P K mg (He.ga K d.name) d.fld := by
  unfold XcD.ok at c
  simp only [Bool.and_eq_true, decide_eq_true_eq] at c
  obtain ⟨c1, c2, c3, c4, c5, c6, c7, c8, c9, ca, cb, cf, _, _, _, _⟩ := c
  obtain ⟨fd, od, osl, cda, cc, n, ccl, cdd, vs, ccs, tf, cl, cld, csl, lk, f1, f0, f2, f3, f4, f5, f6⟩ := xcFn_ok cf
  unfold xcW at e
  rw [lk] at e
  obtain ⟨n1, n2, n3, n4, n5, n6, n7, n8, n9, n10, n11, n12, n13, n14, n15⟩ := fd
  have e2 : (some (n1, n2, n3, n4, n5, n6, n7.map (·.1), n15) : XcV) = some (("__init__" : Str), d.qual, d.params, FuncBody.stmts d.body, d.scope, mainGlobals, [("__class__" : Str)], builtinsNs) := e
  simp only [Option.some.injEq, Prod.mk.injEq] at e2
  dsimp only at f1 f2 f0
  subst f1 f2 f0
  obtain ⟨h1, h2, h3, h4, h5, h6, h7, h8⟩ := e2
  have h7' : n = "__class__" := by simpa using h7
  subst h1 h2 h3 h4 h5 h6 h7' h8
  have hbd := hbind
  rw [hbody] at hbd lk
  exact ⟨_, cc, cda, d.B, d.initId, d.newId, d.bmB, "__init__", d.qual, x1, x2, d.params, d.scope, _, _, _, _, _, ccl, cl, _, od, cdd, cld, osl, ccs, csl, vs, file, tf, ar, p0, p1, p2, p3, p4, p5, p6, p7, p8, p9, pl,
    ⟨hB, hK, hS, c1, c2, c3, c4, c5, c6, c7, c8, Option.isSome_iff_exists.mp c9, hsup, htop, hboot⟩, cb, lk, f3, fun u a s => hbd _ _ _ _ _ _ _ u a s, hp, hx1, f4, f5, hfile, f6, hnc, hks, hkc, h1k, h2k, hk, hco, hgen, d1, d2, ca, hne, fun L => hev _ _ _ L⟩
/-- .. and of the one that is raised -/
structure XvF (P : Program) (K : Frag) (mg : Str → Option Value) (x fld : Str) : Prop where
  n : XnF P K mg x
  f : XcOkF P K mg (He.ga K x) fld
end

end
section
/-! ### t[::-1], xs[::-1] -/
section
variable {prog : Program} {w : World} {A : Around} {E : Value → Shared → Prop} {s : Shared}
end
section
variable {X : Cx} {G : Mg} {e : Expr} {pos : Pos}
theorem DenL.rev {p : List Addr} {H : Hp} : ∀ {ws : List Mv} {vs : List V}, DenL G p H ws vs → DenL G p H ws.reverse vs.reverse
  | _, _, .nil => .nil
  | _, _, .cons d l => by rw [List.reverse_cons, List.reverse_cons]; exact l.rev.append (.cons d .nil)
end

end
section
/-! ### a def that tries what raises, and goes on with names of its own -/
section
variable {X : Cx} {G : Mg}
end
section
variable {X : Cx} {G : Mg} {C : Addr} {fld : Str}
end

end
section
/-! ### len of a dict -/
theorem DenN.len {G : Mg} {p : List Addr} {H : Hp} {kvs : List (NestedKey × Mv × Mv)} {xs : List (NestedKey × Addr × V)} (l : DenN G p H kvs xs) : kvs.length = xs.length := by
  induction l with
  | nil => rfl
  | cons _ _ _ _ _ ih => rw [List.length_cons, List.length_cons, ih]
section
variable {X : Cx} {G : Mg}
end

end
section
/-! ### a dict that nobody changes any more -/
section
variable {X : Cx} {G : Mg} {e : Expr}
end

end
section
/-! ### more that raises: x = f(..), a, b = f(..), if .. : .. else: .., [f, g][i](..) -/
section
variable {X : Cx} {G : Mg} {C : Addr} {fld : Str} {W : WX} {e o : Expr} {es : List Expr} {pos : Pos} {st : Stmt} {rest : List Stmt}
theorem rv_asg {tg : Expr} {g : TG} {F : Fe} (h : PS X (.Assign [tg] e pos) (tAsg (tIV G C fld W F) g)) : PS X (.Assign [tg] e pos) (tSV G C fld W F) := ps_imp h fun D σ H ⟨p, s, r, w, s', S, E, q, k⟩ =>
  ⟨p, s, r, w, s', S, E, q, fun p' H' dv v S' f' d' e' => k p' H' σ dv v S' f' d' e'⟩
noncomputable def vif2 (T : Ft) (F1 F2 : Fe) : Fe := fun r s => (T r s).ob fun x => cond x.1 (F1 r x.2) (F2 r x.2)
theorem rv_ifE {T : Ft} {F1 F2 : Fe} {a b : List Stmt} (hc : PT X e (tT G T)) (ha : PSs X a (fun _ σ H => tIV G C fld W F1 σ H fun _ _ => False)) (hb : PSs X b (fun _ σ H => tIV G C fld W F2 σ H fun _ _ => False)) : PS X (.If e a b pos) (fun _ σ H => tIV G C fld W (vif2 T F1 F2) σ H fun _ _ => False) := ps_imp (ps_if hc ha hb) fun D σ H ⟨p, s, r, w, s', S, E, q, k⟩ => by
  obtain ⟨⟨x, s1⟩, q1, q2⟩ := ob_some.mp q
  refine ⟨p, s, r, x, s1, S, E, q1, fun p1 H1 S1 f1 => ?_⟩
  cases x with
  | true => rw [if_pos rfl]; exact ⟨p1, s1, r, w, s', S1, E.fra S f1, q2, fun p2 H2 dv v S2 f2 d2 e2 => k p2 H2 dv v S2 (f1.trans f2) d2 e2⟩
  | false => rw [if_neg (by decide)]; exact ⟨p1, s1, r, w, s', S1, E.fra S f1, q2, fun p2 H2 dv v S2 f2 d2 e2 => k p2 H2 dv v S2 (f1.trans f2) d2 e2⟩
theorem rv_expE {F : Fe} (h : PE X e (tIV G C fld W F)) (hs : swapsWith e none pos.line X.env = pure false := by rfl) : PS X (.Expr e pos) (fun _ σ H => tIV G C fld W F σ H fun _ _ => False) := ps_imp (ps_expr h hs) fun D σ H q => q
theorem rv_oneE {F : Fe} (h : PS X st (fun _ σ H => tIV G C fld W F σ H fun _ _ => False)) : PSs X [st] (fun _ σ H => tIV G C fld W F σ H fun _ _ => False) := pss_imp (pss_one h) fun D σ H q => q
/-- one of some functions, out of a list that is written there -/
noncomputable def vpick (iw : Nat) (fs : List Fn) (A : Fa) : Fe := fun r s => (mvar iw r s).ob fun x => match x.1 with
  | .int (.ofNat n) => match fs[n]? with
    | some f => mcall f A r s
    | none => none
  | _ => none
structure HeldR (X : Cx) (G : Mg) (C : Addr) (fld : Str) (k : Nat) (f : Addr) (v : Fn) : Prop where
  ex : ∃ (fd : FuncData) (ps : List Str), FnOk X.prog X.w X.K X.mg X.base (L2.CX X.prog X.w) k f fd ps (spV G C fld v) ∧ PySem.W.keepIn X.K (.ref f) = true ∧ Binds X.K fd ps []
theorem rv_pick {fx : Expr} {k iw : Nat} {fs : List Addr} {vs : List Fn} {A : Fa}
    (hfun : PE X fx (fun σ H Q => ∃ (n : Nat) (f : Addr), σ[iw]? = some (some (.int n)) ∧ fs[n]? = some f ∧ ∀ t, H t = none → Q (.ref f) (upd H t (.lst (fs.map V.ref)))))
    (hl : fs.length = vs.length) (hh : ∀ (n : Nat) (f : Addr) (v : Fn), fs[n]? = some f → vs[n]? = some v → HeldR X G C fld k f v) (hr : Room k X.A) (tk : Takes X W) (ha : PA X (e :: es) (tA G A))
    (hev : eval (.Call fx (e :: es) [] pos) X.env = (do callWith pos (← eval fx X.env) [] (backTo pos (starEach (e :: es) X.env)) (backToKw pos (keywordEach [] X.env))) := by rfl)
    (he : starEach (e :: es) X.env = (false, eval e X.env) :: starEach es X.env := by rfl) (hpl : (backTo pos (starEach es X.env)).any (·.1) = false := by rfl) :
    PE X (.Call fx (e :: es) [] pos) (tIV G C fld W (vpick iw vs A)) := by
  refine ⟨fun pins s σ H Q I ⟨p, ms, r, w, s', S, E, q, k0⟩ => ?_⟩
  obtain ⟨⟨x, s1⟩, q1, q2⟩ := ob_some.mp q
  obtain ⟨h1, h1'⟩ := mvar_eq q1
  subst h1'
  obtain ⟨v0, h2, d0⟩ := E.get iw x h1
  have q2' : (match (generalizing := false) x with
    | .int (.ofNat n) => match vs[n]? with
      | some f => mcall f A r s1
      | none => none
    | _ => none) = some (w, s') := q2
  cases x with
  | int i =>
    cases i with
    | ofNat n =>
      simp only at q2'
      cases hv : vs[n]? with
      | none => rw [hv] at q2'; cases q2'
      | some v =>
        rw [hv] at q2'
        have hn : n < fs.length := by rw [hl]; exact (List.getElem?_eq_some_iff.mp hv).1
        have hf : fs[n]? = some fs[n] := List.getElem?_eq_getElem hn
        obtain ⟨fd, ps, F, hk, hb⟩ := (hh n _ v hf hv).ex
        cases d0
        rw [hev]
        refine wpAny_bind (thn (hfun.run pins s σ H (fun v1 H1 => v1 = .ref fs[n] ∧ ∃ t, H t = none ∧ H1 = upd H t (.lst (fs.map V.ref))) I ⟨n, fs[n], h2, hf, fun t ht => ⟨rfl, t, ht, rfl⟩⟩) fun u t1 ⟨v1, H1, I1, r1, hq⟩ => ?_)
        obtain ⟨rfl, t, ht, rfl⟩ := hq
        cases r1
        have S1 := S.fra_new (o := .lst (fs.map V.ref)) ht
        have f1 : Fra p H p (upd H t (.lst (fs.map V.ref))) := fra_upd ht
        refine PySem.W.callWith_K (h₀ := X.base) I.ok.mod.kin hk (thn (ha.run pos pins t1 σ _ _ I1 (tV_call (vs0 := []) (E0 := WE W σ) (Q := Q) (fun _ _ z => z) ⟨p, s1, r, w, s', S1, E.fra S f1, q2', fun p2 H2 dv v2 S2 f2 d2 e2 => k0 p2 H2 dv v2 S2 (f1.trans f2) d2 e2⟩)) fun us t2 hv2 => ?_) he hpl
        obtain ⟨vs2, H2, I2, r2, qq⟩ := hv2
        exact ⟨I2.kIn, run_fnS F hr hb (passAt tk σ) I2 r2 qq⟩
    | negSucc n => cases q2'
  | _ => cases q2'
/-- [f1, f2, f3, f4][x] -/
theorem pe_four {x1 x2 x3 x4 y : Str} {f1 f2 f3 f4 : Addr} {iw : Nat} {p1 p2 p3 p4 pl py pp : Pos} (g1 : Gl X x1) (g2 : Gl X x2) (g3 : Gl X x3) (g4 : Gl X x4) (m1 : X.mg x1 = some (.ref f1)) (m2 : X.mg x2 = some (.ref f2)) (m3 : X.mg x3 = some (.ref f3)) (m4 : X.mg x4 = some (.ref f4))
    (hy : PE X (.Name y py) (tVar iw)) (d1 : (x1 == ("__debug__" : Str)) = false := by decide) (d2 : (x2 == ("__debug__" : Str)) = false := by decide) (d3 : (x3 == ("__debug__" : Str)) = false := by decide) (d4 : (x4 == ("__debug__" : Str)) = false := by decide) (hs : PlainIx (.Name y py) := by exact fun _ _ => rfl)
    (s1 : starEach [.Name x1 p1, .Name x2 p2, .Name x3 p3, .Name x4 p4] X.env = (false, eval (.Name x1 p1) X.env) :: starEach [.Name x2 p2, .Name x3 p3, .Name x4 p4] X.env := by rfl) (s2 : starEach [.Name x2 p2, .Name x3 p3, .Name x4 p4] X.env = (false, eval (.Name x2 p2) X.env) :: starEach [.Name x3 p3, .Name x4 p4] X.env := by rfl) (s3 : starEach [.Name x3 p3, .Name x4 p4] X.env = (false, eval (.Name x3 p3) X.env) :: starEach [.Name x4 p4] X.env := by rfl) (s4 : starEach [.Name x4 p4] X.env = (false, eval (.Name x4 p4) X.env) :: starEach [] X.env := by rfl) :
    PE X (.Subscript (.List [.Name x1 p1, .Name x2 p2, .Name x3 p3, .Name x4 p4] pl) (.Name y py) pp) (fun σ H Q => ∃ (n : Nat) (f : Addr), σ[iw]? = some (some (.int n)) ∧ [f1, f2, f3, f4][n]? = some f ∧ ∀ t, H t = none → Q (.ref f) (upd H t (.lst ([f1, f2, f3, f4].map V.ref)))) :=
  pe_imp (pe_ix ix_list (pe_lst (pa_cons (pe_glob (v := .ref f1) g1 m1 rfl d1) (pa_cons (pe_glob (v := .ref f2) g2 m2 rfl d2) (pa_cons (pe_glob (v := .ref f3) g3 m3 rfl d3) (pa_cons (pe_glob (v := .ref f4) g4 m4 rfl d4) pa_nil s4) s3) s2) s1)) hy hs) fun σ H Q ⟨n, f, h1, h2, h3⟩ => by
    refine ⟨by show 4 ≤ sizeLine; rw [sizeLine_eq]; decide, fun t ht => ⟨.int n, h1, t, [f1, f2, f3, f4].map V.ref, n, .ref f, rfl, rfl, .inl (.inl upd_same), ?_, h3 t ht⟩⟩
    have hn : n < 4 := by
      have := (List.getElem?_eq_some_iff.mp h2).1
      exact this
    unfold atI ixN
    rw [if_pos (by omega), if_pos (by show (n : Int) < ((4 : Nat) : Int); omega)]
    show (([f1, f2, f3, f4].map V.ref)[(n : Int).toNat]?) = _
    rw [show (n : Int).toNat = n from rfl, List.getElem?_map, h2]
    rfl
end
section
variable {X : Cx} {C : Addr} {fld : Str}
theorem pe_no {e : Expr} : PE X e (fun _ _ _ => False) := ⟨fun _ _ _ _ _ _ h => h.elim⟩
/-- if not isinstance(e, B) or isinstance(e, N): return None; return ("..", e.f) if isinstance(e, M) else ("..", e.g) -/
theorem rest_two {y mn mm mb : Str} {tb : String} {cn cm : Addr} {ic kt ks j0 j1 j2 : Nat} {a dd : Addr} {oe : Obj} {b : Bool} {sx sy f1 f2 : Str} {p0 p1 p2 p3 p4 p5 p6 p7 p8 p9 pa pb pc pd pe pf u1 u2 u3 u4 u5 u6 v1 v2 v3 v4 : Pos}
    (Z : XvK X.K C fld) (hp : (a, oe) ∈ X.pn) (hz : Zc (.ref C) (some dd) oe) (hv : ∃ vs, oe.data = .fields vs) (hy : X.N[ic]? = some y) (vy : Vis X.env.scope y)
    (gl : Gl X "isinstance") (mi : X.mg "isinstance" = none) (gm : Gl X mm) (mM : X.mg mm = some (.ref cm)) (gb : Gl X mb) (mB : X.mg mb = none) (bB : bootBuiltins mb = some (.type tb)) (gn : Gl X mn) (mN : X.mg mn = some (.ref cn))
    (kb : PySem.W.kitOne X.K (.ref C) (.type tb) = some true) (kn : PySem.W.kitOne X.K (.ref C) (.ref cn) = some false) (km : PySem.W.kitOne X.K (.ref C) (.ref cm) = some b) (hf : (if b = true then f1 else f2) = fld)
    (hPT : ∀ t, PW X (.BoolOp .Or [.UnaryOp .Not (.Call (.Name "isinstance" p0) [.Name y p1, .Name mb p2] [] p3) p4, .Call (.Name "isinstance" p5) [.Name y p6, .Name mn p7] [] p8] p9) t → PT X (.BoolOp .Or [.UnaryOp .Not (.Call (.Name "isinstance" p0) [.Name y p1, .Name mb p2] [] p3) p4, .Call (.Name "isinstance" p5) [.Name y p6, .Name mn p7] [] p8] p9) t)
    (n1 : (y == ("__debug__" : Str)) = false := by decide) (n2 : (y == ("__classdict__" : Str)) = false := by decide) (dm : (mm == ("__debug__" : Str)) = false := by decide) (db : (mb == ("__debug__" : Str)) = false := by decide) (db2 : mb ≠ "__name__" := by decide) (dn : (mn == ("__debug__" : Str)) = false := by decide)
    (s1 : starEach [.Name y p1, .Name mb p2] X.env = (false, eval (.Name y p1) X.env) :: starEach [.Name mb p2] X.env := by rfl) (s2 : starEach [.Name mb p2] X.env = (false, eval (.Name mb p2) X.env) :: starEach [] X.env := by rfl) (pl1 : (backTo p3 (starEach [.Name mb p2] X.env)).any (·.1) = false := by rfl)
    (s3 : starEach [.Name y p6, .Name mn p7] X.env = (false, eval (.Name y p6) X.env) :: starEach [.Name mn p7] X.env := by rfl) (s4 : starEach [.Name mn p7] X.env = (false, eval (.Name mn p7) X.env) :: starEach [] X.env := by rfl) (pl2 : (backTo p8 (starEach [.Name mn p7] X.env)).any (·.1) = false := by rfl)
    (s5 : starEach [.Name y pb, .Name mm pc] X.env = (false, eval (.Name y pb) X.env) :: starEach [.Name mm pc] X.env := by rfl) (s6 : starEach [.Name mm pc] X.env = (false, eval (.Name mm pc) X.env) :: starEach [] X.env := by rfl) (pl3 : (backTo pd (starEach [.Name mm pc] X.env)).any (·.1) = false := by rfl)
    (t1 : starEach [.Constant (.str sx) j1 v1, .Attribute (.Name y pe) f1 pf] X.env = (false, eval (.Constant (.str sx) j1 v1) X.env) :: starEach [.Attribute (.Name y pe) f1 pf] X.env := by rfl) (t2 : starEach [.Attribute (.Name y pe) f1 pf] X.env = (false, eval (.Attribute (.Name y pe) f1 pf) X.env) :: starEach [] X.env := by rfl)
    (t3 : starEach [.Constant (.str sy) j2 v2, .Attribute (.Name y u5) f2 u6] X.env = (false, eval (.Constant (.str sy) j2 v2) X.env) :: starEach [.Attribute (.Name y u5) f2 u6] X.env := by rfl) (t4 : starEach [.Attribute (.Name y u5) f2 u6] X.env = (false, eval (.Attribute (.Name y u5) f2 u6) X.env) :: starEach [] X.env := by rfl)
    (ab1 : attributeBase (.Name y pe) f1 X.env (eval (.Name y pe) X.env) = eval (.Name y pe) X.env := by rfl) (ab2 : attributeBase (.Name y u5) f2 X.env (eval (.Name y u5) X.env) = eval (.Name y u5) X.env := by rfl)
    (w1 : ∀ whole, isTrue (.Call (.Name "isinstance" p0) [.Name y p1, .Name mb p2] [] p3) X.env whole = (do let v ← whole; standAt (Expr.pos (.Call (.Name "isinstance" p0) [.Name y p1, .Name mb p2] [] p3)); holding [v] (truthy v)) := by intro _; rfl)
    (w2 : ∀ whole, isTrue (.Call (.Name "isinstance" p5) [.Name y p6, .Name mn p7] [] p8) X.env whole = (do let v ← whole; standAt (Expr.pos (.Call (.Name "isinstance" p5) [.Name y p6, .Name mn p7] [] p8)); holding [v] (truthy v)) := by intro _; rfl)
    (w3 : ∀ whole, isTrue (.Call (.Name "isinstance" pa) [.Name y pb, .Name mm pc] [] pd) X.env whole = (do let v ← whole; standAt (Expr.pos (.Call (.Name "isinstance" pa) [.Name y pb, .Name mm pc] [] pd)); holding [v] (truthy v)) := by intro _; rfl) :
    PSs X [.If (.BoolOp .Or [.UnaryOp .Not (.Call (.Name "isinstance" p0) [.Name y p1, .Name mb p2] [] p3) p4, .Call (.Name "isinstance" p5) [.Name y p6, .Name mn p7] [] p8] p9) [.Return (some (.Constant .none j0 u1)) u2] [] u3,
      .Return (some (.IfExp (.Call (.Name "isinstance" pa) [.Name y pb, .Name mm pc] [] pd) (.Tuple [.Constant (.str sx) j1 v1, .Attribute (.Name y pe) f1 pf] kt v3) (.Tuple [.Constant (.str sy) j2 v2, .Attribute (.Name y u5) f2 u6] ks v4) u4)) pos]
      (fun D σ H => (∃ v, HeldV a dd fld ic σ H v ∧ ∀ t, H t = none → D.rt (.ref t) (upd H t (.tup [.str (if b = true then sx else sy), v])))) := by
  have i1 := pe_hIs (fld := fld) (p0 := p0) (p1 := p1) (p2 := p2) (pos := p3) (u := .type tb) Z.ex hp hz hv hy vy n1 n2 gl mi (pe_bltn (v := .ty tb) gb mB bB rfl db2 db) (fun u' h => h) kb s1 s2 pl1
  have i2 := pe_hIs (fld := fld) (p0 := p5) (p1 := p6) (p2 := p7) (pos := p8) Z.ex hp hz hv hy vy n1 n2 gl mi (pe_glob (v := .ref cn) gn mN rfl dn) (fun u' h => h) kn s3 s4 pl2
  have i3 := pe_hIs (fld := fld) (p0 := pa) (p1 := pb) (p2 := pc) (pos := pd) Z.ex hp hz hv hy vy n1 n2 gl mi (pe_glob (v := .ref cm) gm mM rfl dm) (fun u' h => h) km s5 s6 pl3
  have a1 := ps_if (pos := u3) (hPT _ (pw_or (pt_not (pt_truth i1 w1)) (pw_or1 (pt_truth i2 w2)))) (pss_never (X := X) (sts := [.Return (some (.Constant .none j0 u1)) u2])) (pss_nil (X := X))
  cases b with
  | true =>
    have e : f1 = fld := by rw [if_pos rfl] at hf; exact hf
    subst e
    have a3 := ps_ret (pos := pos) (pe_ifExp (pos := u4) (pt_truth i3 w3) (pe_tup (x1 := kt) (pos := v3) (pa_cons (pe_str (X := X) (x := sx) (j := j1) (pos := v1)) (pa_cons (pe_hF (pos := pf) Z.xf Z.no hp hz hv hy vy n1 n2 ab1) pa_nil t2) t1)) (pe_no (X := X) (e := .Tuple [.Constant (.str sy) j2 v2, .Attribute (.Name y u5) f2 u6] ks v4)))
    refine pss_imp (pss_cons a1 (pss_one a3)) fun D σ H ⟨v, h, k⟩ => ?_
    refine ⟨⟨v, h⟩, true, rfl, ?_⟩
    show (if (!true) = true then _ else _)
    rw [if_neg (by decide)]
    refine ⟨⟨v, h⟩, false, rfl, ?_⟩
    show (if false = true then _ else _)
    rw [if_neg (by decide)]
    refine ⟨⟨v, h⟩, true, rfl, ?_⟩
    show (if true = true then _ else _)
    rw [if_pos rfl]
    exact ⟨v, h, by show 2 ≤ sizeLine; rw [sizeLine_eq]; decide, fun t ht => k t ht⟩
  | false =>
    have e : f2 = fld := by rw [if_neg (by decide)] at hf; exact hf
    subst e
    have a3 := ps_ret (pos := pos) (pe_ifExp (pos := u4) (pt_truth i3 w3) (pe_no (X := X) (e := .Tuple [.Constant (.str sx) j1 v1, .Attribute (.Name y pe) f1 pf] kt v3)) (pe_tup (x1 := ks) (pos := v4) (pa_cons (pe_str (X := X) (x := sy) (j := j2) (pos := v2)) (pa_cons (pe_hF (pos := u6) Z.xf Z.no hp hz hv hy vy n1 n2 ab2) pa_nil t4) t3)))
    refine pss_imp (pss_cons a1 (pss_one a3)) fun D σ H ⟨v, h, k⟩ => ?_
    refine ⟨⟨v, h⟩, true, rfl, ?_⟩
    show (if (!true) = true then _ else _)
    rw [if_neg (by decide)]
    refine ⟨⟨v, h⟩, false, rfl, ?_⟩
    show (if false = true then _ else _)
    rw [if_neg (by decide)]
    refine ⟨⟨v, h⟩, false, rfl, ?_⟩
    show (if false = true then _ else _)
    rw [if_neg (by decide)]
    exact ⟨v, h, by show 2 ≤ sizeLine; rw [sizeLine_eq]; decide, fun t ht => k t ht⟩
end
section
open PySem.W
theorem kit_not {K : Frag} {c : Value} : ∀ {ys : List Value} {y : Value}, kitAny K c ys = some false → y ∈ ys → kitOne K c y = some false := by
  intro ys
  induction ys with
  | nil => intro y _ h; cases h
  | cons z ys ih =>
    intro y h hm
    unfold kitAny at h
    cases e : kitOne K c z with
    | none => rw [e] at h; cases h
    | some b =>
      rw [e] at h
      cases b with
      | true => cases h
      | false =>
        rcases List.mem_cons.mp hm with rfl | hm
        · exact e
        · exact ih h hm
end
/-! ### t * n -/
section
variable {X : Cx} {G : Mg}
noncomputable def tmulW (a b : Mv) (s : Ms) : Option (Mv × Ms) := match a, b with
  | .tup ws, .int k => cond (decide (2 ≤ k) && (decide (k ≤ 1000) && (Nat.ble 1 ws.length && Nat.ble ws.length 1000))) (newT (List.replicate k.toNat ws).flatten s) none
  | _, _ => none
theorem om_tmul (hK : X.K = G.K := by rfl) : OpR X (binaryOp .Mult) (q2R G tmulW) := opr_imp op_repT fun x y H Q ⟨p, s, a, b, w, s', S, da, db, q, k⟩ => by
  unfold tmulW at q
  split at q
  · rename_i ws j
    cases ec : (decide (2 ≤ j) && (decide (j ≤ 1000) && (Nat.ble 1 ws.length && Nat.ble ws.length 1000))) with
    | false => rw [ec] at q; cases q
    | true =>
      rw [ec] at q
      obtain ⟨c1, c2⟩ := Bool.and_eq_true_iff.mp ec
      obtain ⟨c3, c4⟩ := Bool.and_eq_true_iff.mp c2
      obtain ⟨c5, c6⟩ := Bool.and_eq_true_iff.mp c4
      have c1 := of_decide_eq_true c1
      have c3 := of_decide_eq_true c3
      have c5 := Nat.le_of_ble_eq_true c5
      have c6 := Nat.le_of_ble_eq_true c6
      cases da with
      | tup hh l =>
      cases db
      obtain ⟨vs, l, hh⟩ := (⟨_, l, hh⟩ : ∃ vs', DenL G p H ws vs' ∧ SqT G.K H _ vs')
      have ln := denL_len2 l
      obtain ⟨g1, g2, _⟩ := newT_ok S (denL_rep l j.toNat) q k
      exact ⟨_, j, vs, rfl, rfl, by rw [hK]; exact hh, (fun e => by rw [e] at ln; rw [ln] at c5; exact absurd c5 (by decide)), c1, c3, (ln ▸ c6), fun P hP => g2 P hP⟩
  · cases q
end

end
section
/-! ### the law's draws, as numbers -/
def drawF (k a c n : Int) : Int × Int × Int :=
  if 0 < a then (a % k, a / k, n) else
    ((((((c + 52021 * (n + 1)) * (38039 + (n + 1)) % 2147483647 + (n + 1) + c / 1000003) * ((c + 52021 * (n + 1)) * (38039 + (n + 1)) % 2147483647 % 40009 + 11)) % 2147483629) * 52021 + (c + 52021 * (n + 1)) * (38039 + (n + 1)) % 2147483647) % 2147483587 / 64 % k, a, n + 1)
/-! ### the program of the law, by places -/
/-! ### texts -/
def x_zlib : Str := ⟨#[122, 108, 105, 98]⟩
theorem e_x_zlib : (Str.ofString "zlib" : Str) = x_zlib := by decide +kernel
def x_fmt : Str := ⟨#[102, 109, 116]⟩
theorem e_x_fmt : (Str.ofString "fmt" : Str) = x_fmt := by decide +kernel
def x_ext : Str := ⟨#[101, 120, 116]⟩
theorem e_x_ext : (Str.ofString "ext" : Str) = x_ext := by decide +kernel
def x_d : Str := ⟨#[100]⟩
theorem e_x_d : (Str.ofString "d" : Str) = x_d := by decide +kernel
def x_core : Str := ⟨#[99, 111, 114, 101]⟩
theorem e_x_core : (Str.ofString "core" : Str) = x_core := by decide +kernel
def x_b : Str := ⟨#[98]⟩
theorem e_x_b : (Str.ofString "b" : Str) = x_b := by decide +kernel
def x_a : Str := ⟨#[97]⟩
theorem e_x_a : (Str.ofString "a" : Str) = x_a := by decide +kernel
def x_main : Str := ⟨#[109, 97, 105, 110]⟩
theorem e_x_main : (Str.ofString "main" : Str) = x_main := by decide +kernel
def x_two : Str := ⟨#[116, 119, 111]⟩
theorem e_x_two : (Str.ofString "two" : Str) = x_two := by decide +kernel
def x_g : Str := ⟨#[103]⟩
theorem e_x_g : (Str.ofString "g" : Str) = x_g := by decide +kernel
def x_one : Str := ⟨#[111, 110, 101]⟩
theorem e_x_one : (Str.ofString "one" : Str) = x_one := by decide +kernel
def x_ : Str := ⟨#[]⟩
theorem e_x_ : (Str.ofString "" : Str) = x_ := by decide +kernel
def x_f : Str := ⟨#[102]⟩
theorem e_x_f : (Str.ofString "f" : Str) = x_f := by decide +kernel
def x_deep : Str := ⟨#[100, 101, 101, 112]⟩
theorem e_x_deep : (Str.ofString "deep" : Str) = x_deep := by decide +kernel
def x_local : Str := ⟨#[108, 111, 99, 97, 108]⟩
theorem e_x_local : (Str.ofString "local" : Str) = x_local := by decide +kernel
def x_global : Str := ⟨#[103, 108, 111, 98, 97, 108]⟩
theorem e_x_global : (Str.ofString "global" : Str) = x_global := by decide +kernel
def x_nowhere : Str := ⟨#[110, 111, 119, 104, 101, 114, 101]⟩
theorem e_x_nowhere : (Str.ofString "nowhere" : Str) = x_nowhere := by decide +kernel
def x_A : Str := ⟨#[65]⟩
theorem e_x_A : (Str.ofString "A" : Str) = x_A := by decide +kernel
def x_x : Str := ⟨#[120]⟩
theorem e_x_x : (Str.ofString "x" : Str) = x_x := by decide +kernel
def xh_6162636465666768696a6b6c6d6e6f707172737475767778797a : Str := ⟨#[97, 98, 99, 100, 101, 102, 103, 104, 105, 106, 107, 108, 109, 110, 111, 112, 113, 114, 115, 116, 117, 118, 119, 120, 121, 122]⟩
theorem e_xh_6162636465666768696a6b6c6d6e6f707172737475767778797a : (Str.ofString "abcdefghijklmnopqrstuvwxyz" : Str) = xh_6162636465666768696a6b6c6d6e6f707172737475767778797a := by decide +kernel
def x_bound : Str := ⟨#[98, 111, 117, 110, 100]⟩
theorem e_x_bound : (Str.ofString "bound" : Str) = x_bound := by decide +kernel
def x_nobody : Str := ⟨#[110, 111, 98, 111, 100, 121]⟩
theorem e_x_nobody : (Str.ofString "nobody" : Str) = x_nobody := by decide +kernel
def x_lost : Str := ⟨#[108, 111, 115, 116]⟩
theorem e_x_lost : (Str.ofString "lost" : Str) = x_lost := by decide +kernel
def x_use : Str := ⟨#[117, 115, 101]⟩
theorem e_x_use : (Str.ofString "use" : Str) = x_use := by decide +kernel
def x_lib : Str := ⟨#[108, 105, 98]⟩
theorem e_x_lib : (Str.ofString "lib" : Str) = x_lib := by decide +kernel
def x_torn : Str := ⟨#[116, 111, 114, 110]⟩
/-! ### what the top leaves: the facts that are asked of it -/
def fnames : List Str := ["own_program", "own_walked"]
def GG (P : Program) (w : World) (K : PySem.W.Frag) : Mg where
  P := P
  w := w
  K := K
  cad := fun c => He.ga K ((["Trial"] : List Str).getD c "")
  nf := 2
  nm := fun k => fnames.getD k ""
  dr := drawF
  tad := fun t => (He.cT K (tf.getD t ("", none))).2
  inj := fun i j hi hj h => by
    have nd : fnames.Nodup := by decide +kernel
    have e1 : fnames[i]? = some (fnames.getD i "") := by rw [List.getD_eq_getElem?_getD, List.getElem?_eq_getElem (show i < fnames.length from hi)]; rfl
    have e2 : fnames[j]? = some (fnames.getD j "") := by rw [List.getD_eq_getElem?_getD, List.getElem?_eq_getElem (show j < fnames.length from hj)]; rfl
    exact nodup_at nd e1 (by rw [h]; exact e2)
structure Tx (P : Program) (K : PySem.W.Frag) (mg : Str → Option Value) (base : Heap) where
  fd : Nat → FuncData
  df : ∀ (i : Nat) (d : He.DefD), fn[i]? = some d → FunD K d.name d.qual d.params d.body d.scope (d.dvs K) (d.kws K) (He.fAd K d.at_) (fd i)
  gl : ∀ x, x ∈ glos → mg x = some (.ref (He.ga K x))
  fr : ∀ x, x ∈ frees → mg x = none
  fc : ∀ f, f ∈ fa → f.ok K = true
  gi : ∀ (x : Str) (i : Int), He.Fa.int x i ∈ fa → ∃ t, mg x = some (.int i t)
  gs : ∀ (x z : Str), He.Fa.str x z ∈ fa → ∃ t, mg x = some (.str z t)
  ex : exB K = true
  tb : ∀ p ∈ tf.map (He.cT K), LamX.TabB base mg p.1 p.2
  xn_NoLib : XvF P K mg "NoLib" "name"
  xn_NoUse : XvF P K mg "NoUse" "number"
section
variable {P : Program} {w : World} {K : PySem.W.Frag} {mg : Str → Option Value} {base : Heap}
theorem Tx.kp (T : Tx P K mg base) (i : Nat) {d : He.DefD} (h : fn[i]? = some d) : PySem.W.keepIn K (.ref (He.fAd K d.at_)) = true := (T.df i d h).kp
theorem Tx.cl (T : Tx P K mg base) (x : Str) (h : He.Fa.cls x ∈ fa) : Cls K (He.ga K x) := He.cls_ok (T.fc _ h)
theorem Tx.na (T : Tx P K mg base) (x f : Str) (h : He.Fa.noat x f ∈ fa) : NoAttr K (He.ga K x) f := He.noat_ok (T.fc _ h)
theorem Tx.me (T : Tx P K mg base) (x m : Str) (h : He.Fa.meth x m ∈ fa) : Meth K (He.ga K x) m (He.ma K (He.ga K x) m) := He.meth_ok (T.fc _ h)
theorem Tx.mkr (T : Tx P K mg base) (x : Str) (h : He.Fa.mkr x ∈ fa) : Mk K (He.ga K x) (He.ma K (He.ga K x) "__init__") := He.mkr_ok (T.fc _ h)
theorem Tx.ex0 (T : Tx P K mg base) : exA K = true := (Bool.and_eq_true_iff.mp T.ex).1
theorem Tx.xh_NoLib (T : Tx P K mg base) : XvH K "NoLib" "name" ["NoDoor", "NoLib", "NoUse"] ["NoDoor"] ["LookupError"] := xvB_ok (Bool.and_eq_true_iff.mp (Bool.and_eq_true_iff.mp T.ex).2).1
theorem Tx.xh_NoUse (T : Tx P K mg base) : XvH K "NoUse" "number" ["NoDoor", "NoLib", "NoUse"] ["NoDoor", "NoLib"] ["LookupError"] := xvB_ok (Bool.and_eq_true_iff.mp (Bool.and_eq_true_iff.mp T.ex).2).2
theorem hno_Trial_gives_all : ∀ j, j < (GG P w K).nf → (GG P w K).nm j ≠ "gives_all" := by
  have h : ∀ j, j < fnames.length → fnames.getD j "" ≠ "gives_all" := by decide +kernel
  exact h
end
/-! ### the mirror, def by def, and what each def keeps -/
section
variable {P : Program} {w : World} {K : PySem.W.Frag} {mg : Str → Option Value} {base : Heap}
theorem sc__law_box : FnScope ["_law_script", "_law_k", "_law_cell", "_law_seed"] ["_law_script", "_law_k"] (defScope s__law_box) := ⟨rfl, rfl, rfl, by decide +kernel, rfl, by decide +kernel, by decide +kernel⟩
theorem b__law_box (T : Tx P K mg base) : Binds K (T.fd 1) ["_law_script", "_law_k"] [] := FunD.bindsN (T.df 1 dd__law_box rfl) fun _ _ _ _ _ _ us hl => match us, hl with | [_, _], _ => rfl
def bd__law_box : Fs :=
  sseq (sset 2 (mif (mtB (mop2 ltW (mvar 1) (mcall lenW (mcons (mvar 0) (mnil))))) (mop2 ixA (mvar 0) (mvar 1)) (mcon (.int 0))))
  (sseq (sset 3 (mop2 modW (mcall intW (mcons (mop2 mulW (mop2 addW (mop2 addW (mop2 modW (mcall intW (mcons (mvar 2) (mnil))) (mcon (.int 2305843009213693921))) (mop2 mulW (mcon (.int 41177)) (mvar 1))) (mcon (.int 53))) (mcon (.int 38923))) (mnil))) (mcon (.int 2147483563))))
  (sret (mlst (mcons (mop2 mulW (mcall absW (mcons (mvar 2) (mnil))) (mcall intW (mcons (mop2 geW (mcall absW (mcons (mvar 2) (mnil))) (mop2 powW (mcon (.int 10)) (mcon (.int 18)))) (mnil)))) (mcons (mvar 3) (mcons (mcon (.int 0)) (mnil)))))))
def m__law_box : Fn := fnM 2 4 bd__law_box
theorem ok__law_box (T : Tx P K mg base) : FnOk P w K mg base CX0 1 (He.ga K "_law_box") (T.fd 1) ["_law_script", "_law_k"] (spM (GG P w K) m__law_box) :=
  fn_okD (B := bd__law_box) (T.df 1 dd__law_box rfl) sc__law_box (hb := fun cdv A outer s H E hr => sm_cons (sm_set (ps_set (i := 2) sc__law_box.nd rfl (Or.inl rfl) (pm_if (pm_tcmp (om_lt) (pm_var (pv 1)) (pm_cB cm_len (by rfl) (T.fr "len" (by simp [frees])) bb_len (pm_cons (pm_var (pv 0)) (pm_nil))) (nomark _)) (pm_ixA hr.units (pm_var (pv 0)) (pm_var (pv 1))) (pm_int))))
    (sm_cons (sm_set (ps_set (i := 3) sc__law_box.nd rfl (Or.inl rfl) (pm_bin om_mod (pm_cT cm_int (by rfl) (T.fr "int" (by simp [frees])) bb_int (pm_cons (pm_bin om_mul (pm_bin om_add (pm_bin om_add (pm_bin om_mod (pm_cT cm_int (by rfl) (T.fr "int" (by simp [frees])) bb_int (pm_cons (pm_var (pv 2)) (pm_nil))) (pm_int)) (pm_bin om_mul (pm_int) (pm_var (pv 1)))) (pm_int)) (pm_int)) (pm_nil))) (pm_int))))
    (sm_one (sm_ret (pm_lst (pm_cons (pm_bin om_mul (pm_cB cm_abs (by rfl) (T.fr "abs" (by simp [frees])) bb_abs (pm_cons (pm_var (pv 2)) (pm_nil))) (pm_cT cm_int (by rfl) (T.fr "int" (by simp [frees])) bb_int (pm_cons (pm_cmp (om_ge) (pm_cB cm_abs (by rfl) (T.fr "abs" (by simp [frees])) bb_abs (pm_cons (pm_var (pv 2)) (pm_nil))) (pm_bin om_pow (pm_int) (pm_int)) (nomark _)) (pm_nil)))) (pm_cons (pm_var (pv 3)) (pm_cons (pm_int) (pm_nil)))))))))
theorem sc__law_take : FnScope ["_law_box_here", "_law_below", "_law_found", "_law_once", "_law_odd_here"] ["_law_box_here", "_law_below"] (defScope s__law_take) := ⟨rfl, rfl, rfl, by decide +kernel, rfl, by decide +kernel, by decide +kernel⟩
theorem b__law_take (T : Tx P K mg base) : Binds K (T.fd 5) ["_law_box_here", "_law_below"] [] := FunD.bindsN (T.df 5 dd__law_take rfl) fun _ _ _ _ _ _ us hl => match us, hl with | [_, _], _ => rfl
def bd__law_take : Fs :=
  sseq (sif (mtB (mop2 gtW (mop2 ixA (mvar 0) (mcon (.int 0))) (mcon (.int 0)))) (sseq (sset 2 (mop2 modW (mcall intW (mcons (mop2 ixA (mvar 0) (mcon (.int 0))) (mnil))) (mvar 1)))
  (sseq (ssubA (mvar 0) (mcon (.int 0)) (mop2 divW (mop2 ixA (mvar 0) (mcon (.int 0))) (mvar 1)))
  (sret (mvar 2)))) (snx))
  (sseq (ssubA (mvar 0) (mcon (.int 2)) (mop2 addW (mop2 ixA (mvar 0) (mcon (.int 2))) (mcon (.int 1))))
  (sseq (sset 3 (mop2 modW (mcall intW (mcons (mop2 powW (mop2 addW (mop2 ixA (mvar 0) (mcon (.int 1))) (mop2 mulW (mcon (.int 51749)) (mop2 ixA (mvar 0) (mcon (.int 2))))) (mcon (.int 3))) (mnil))) (mcon (.int 2147483549))))
  (sseq (sset 4 (mop2 addW (mop2 modW (mcall intW (mcons (mvar 3) (mnil))) (mcon (.int 30011))) (mcon (.int 17))))
  (sret (mop2 modW (mcall intW (mcons (mop2 divW (mop2 modW (mcall intW (mcons (mop2 addW (mop2 mulW (mvar 3) (mvar 4)) (mop2 mulW (mop2 ixA (mvar 0) (mcon (.int 2))) (mcon (.int 7039)))) (mnil))) (mcon (.int 2147483629))) (mcon (.int 32))) (mnil))) (mvar 1))))))
def m__law_take : Fn := fnM 2 5 bd__law_take
theorem ok__law_take (T : Tx P K mg base) : FnOk P w K mg base CX0 1 (He.ga K "_law_take") (T.fd 5) ["_law_box_here", "_law_below"] (spM (GG P w K) m__law_take) :=
  fn_okD (B := bd__law_take) (T.df 5 dd__law_take rfl) sc__law_take (hb := fun cdv A outer s H E hr => sm_cons (sm_if (pm_tcmp (om_gt) (pm_ixA hr.units (pm_var (pv 0)) (pm_int)) (pm_int) (nomark _)) (sm_cons (sm_set (ps_set (i := 2) sc__law_take.nd rfl (Or.inl rfl) (pm_bin om_mod (pm_cT cm_int (by rfl) (T.fr "int" (by simp [frees])) bb_int (pm_cons (pm_ixA hr.units (pm_var (pv 0)) (pm_int)) (pm_nil))) (pm_var (pv 1)))))
    (sm_cons (sm_subA (ps_asg (pm_bin om_div (pm_ixA hr.units (pm_var (pv 0)) (pm_int)) (pm_var (pv 1))) (pg_sub (pm_var (pv 0)) (pm_int) (set_any hr.units rfl))))
    (sm_one (sm_ret (pm_var (pv 2)))))) (sm_nil))
    (sm_cons (sm_subA (ps_asg (pm_bin om_add (pm_ixA hr.units (pm_var (pv 0)) (pm_int)) (pm_int)) (pg_sub (pm_var (pv 0)) (pm_int) (set_any hr.units rfl))))
    (sm_cons (sm_set (ps_set (i := 3) sc__law_take.nd rfl (Or.inl rfl) (pm_bin om_mod (pm_cT cm_int (by rfl) (T.fr "int" (by simp [frees])) bb_int (pm_cons (pm_bin om_pow (pm_bin om_add (pm_ixA hr.units (pm_var (pv 0)) (pm_int)) (pm_bin om_mul (pm_int) (pm_ixA hr.units (pm_var (pv 0)) (pm_int)))) (pm_int)) (pm_nil))) (pm_int))))
    (sm_cons (sm_set (ps_set (i := 4) sc__law_take.nd rfl (Or.inl rfl) (pm_bin om_add (pm_bin om_mod (pm_cT cm_int (by rfl) (T.fr "int" (by simp [frees])) bb_int (pm_cons (pm_var (pv 3)) (pm_nil))) (pm_int)) (pm_int))))
    (sm_one (sm_ret (pm_bin om_mod (pm_cT cm_int (by rfl) (T.fr "int" (by simp [frees])) bb_int (pm_cons (pm_bin om_div (pm_bin om_mod (pm_cT cm_int (by rfl) (T.fr "int" (by simp [frees])) bb_int (pm_cons (pm_bin om_add (pm_bin om_mul (pm_var (pv 3)) (pm_var (pv 4))) (pm_bin om_mul (pm_ixA hr.units (pm_var (pv 0)) (pm_int)) (pm_int))) (pm_nil))) (pm_int)) (pm_int)) (pm_nil))) (pm_var (pv 1)))))))))
theorem sc__law_picked : FnScope ["_law_box_here", "_law_pool", "_law_most", "_law_left", "_law_found", "_law_turn"] ["_law_box_here", "_law_pool", "_law_most"] (defScope s__law_picked) := ⟨rfl, rfl, rfl, by decide +kernel, rfl, by decide +kernel, by decide +kernel⟩
theorem b__law_picked (T : Tx P K mg base) : Binds K (T.fd 4) ["_law_box_here", "_law_pool", "_law_most"] [] := FunD.bindsN (T.df 4 dd__law_picked rfl) fun _ _ _ _ _ _ us hl => match us, hl with | [_, _, _], _ => rfl
def bd__law_picked : Fs :=
  sseq (spar 3 4 (mcons (mcall listW (mcons (mvar 1) (mnil))) (mcons (mlst (mnil)) (mnil))))
  (sseq (sfor (miR1 (mcons (mcall m__law_take (mcons (mvar 0) (mcons (mop2 addW (mvar 2) (mcon (.int 1))) (mnil)))) (mnil))) (.nm 5) (sif (mtB (mop2 neW (mvar 3) (mlst (mnil)))) (sexp (mbmL appW (mvar 4) (mcons (mbmL popW (mvar 3) (mcons (mcall m__law_take (mcons (mvar 0) (mcons (mcall lenW (mcons (mvar 3) (mnil))) (mnil)))) (mnil))) (mnil)))) (snx)))
  (sret (mvar 4)))
def m__law_picked : Fn := fnM 3 6 bd__law_picked
theorem ok__law_picked (T : Tx P K mg base) : FnOk P w K mg base CX0 2 (He.ga K "_law_picked") (T.fd 4) ["_law_box_here", "_law_pool", "_law_most"] (spM (GG P w K) m__law_picked) :=
  fn_okD (B := bd__law_picked) (T.df 4 dd__law_picked rfl) sc__law_picked (hb := fun cdv A outer s H E hr => sm_cons (sm_par (ps_par (i := 3) (j := 4) rfl sc__law_picked.nd rfl rfl (by decide) rfl rfl (pm_cons (pm_cT cm_list (by rfl) (T.fr "list" (by simp [frees])) bb_list (pm_cons (pm_var (pv 1)) (pm_nil))) (pm_cons (pm_lst (pm_nil)) (pm_nil))) (by rfl)))
    (sm_cons (sm_for' PassesOwn.never rfl (im_range1 (by rfl) (T.fr "range" (by simp [frees])) (pm_cons (pm_call (ok__law_take T) (hr.mono (by decide)) (by rfl) (T.gl "_law_take" (by simp [glos])) (T.kp 5 rfl) (b__law_take T) pass0 (pm_cons (pm_var (pv 0)) (pm_cons (pm_bin om_add (pm_var (pv 2)) (pm_int)) (pm_nil)))) (pm_nil))) (gm_name (pg_name (i := 5) sc__law_picked.nd rfl (Or.inl rfl))) (sm_one (sm_if (pm_tcmp (om_ne hr.units) (pm_var (pv 3)) (pm_lst (pm_nil)) (nomark _)) (sm_one (sm_exp (pm_bmL lm_app (pe_bm PySem.F.plainAttrs_list PySem.F.slot_list_append PySem.F.type_list_append mt_append (pm_var (pv 4)) (pm_cons (pm_bmL lm_pop (pe_bm PySem.F.plainAttrs_list PySem.F.slot_list_pop PySem.F.type_list_pop mt_popAt (pm_var (pv 3)) (pm_cons (pm_call (ok__law_take T) (hr.mono (by decide)) (by rfl) (T.gl "_law_take" (by simp [glos])) (T.kp 5 rfl) (b__law_take T) pass0 (pm_cons (pm_var (pv 0)) (pm_cons (pm_cB cm_len (by rfl) (T.fr "len" (by simp [frees])) bb_len (pm_cons (pm_var (pv 3)) (pm_nil))) (pm_nil)))) (pm_nil)))) (pm_nil)))))) (sm_nil))))
    (sm_one (sm_ret (pm_var (pv 4))))))
theorem sc__law_of : FnScope ["_law_box_here", "_law_some"] ["_law_box_here", "_law_some"] (defScope s__law_of) := ⟨rfl, rfl, rfl, by decide +kernel, rfl, by decide +kernel, by decide +kernel⟩
theorem b__law_of (T : Tx P K mg base) : Binds K (T.fd 6) ["_law_box_here", "_law_some"] [] := FunD.bindsN (T.df 6 dd__law_of rfl) fun _ _ _ _ _ _ us hl => match us, hl with | [_, _], _ => rfl
def bd__law_of : Fs :=
  sret (mop2 ixA (mvar 1) (mcall m__law_take (mcons (mvar 0) (mcons (mcall lenW (mcons (mvar 1) (mnil))) (mnil)))))
def m__law_of : Fn := fnM 2 2 bd__law_of
theorem ok__law_of (T : Tx P K mg base) : FnOk P w K mg base CX0 2 (He.ga K "_law_of") (T.fd 6) ["_law_box_here", "_law_some"] (spM (GG P w K) m__law_of) :=
  fn_okD (B := bd__law_of) (T.df 6 dd__law_of rfl) sc__law_of (hb := fun cdv A outer s H E hr => sm_one (sm_ret (pm_ixA hr.units (pm_var (pv 1)) (pm_call (ok__law_take T) (hr.mono (by decide)) (by rfl) (T.gl "_law_take" (by simp [glos])) (T.kp 5 rfl) (b__law_take T) pass0 (pm_cons (pm_var (pv 0)) (pm_cons (pm_cB cm_len (by rfl) (T.fr "len" (by simp [frees])) bb_len (pm_cons (pm_var (pv 1)) (pm_nil))) (pm_nil)))))))
def N__law_program : List Str := ["_law_box_here", "_law_most", "_law_doors_so", "_law_pool", "_law_libs", "_law_who", "_law_needs", "_law_pairs", "_law_defs_so", "_law_uses_so", "_law_triples", "_law_modes", "_law_gates", "_law_again", "_law_own", "_law_pair"]
theorem sc__law_program : FnScope ["_law_box_here", "_law_most", "_law_doors_so", "_law_pool", "_law_libs", "_law_who", "_law_needs", "_law_pairs", "_law_defs_so", "_law_uses_so", "_law_triples", "_law_modes", "_law_gates", "_law_again", "_law_own", "_law_pair"] ["_law_box_here", "_law_most", "_law_doors_so"] (defScope s__law_program) := ⟨rfl, rfl, rfl, by decide +kernel, rfl, by decide +kernel, by decide +kernel⟩
theorem b__law_program (T : Tx P K mg base) : Binds K (T.fd 3) ["_law_box_here", "_law_most", "_law_doors_so"] [] := FunD.bindsN (T.df 3 dd__law_program rfl) fun _ _ _ _ _ _ us hl => match us, hl with | [_, _, _], _ => rfl
def bd__law_program : Fs :=
  sseq (sset 3 (mslice (mlst (mcons (mcon (.str x_a)) (mcons (mcon (.str x_b)) (mcons (mcon (.str x_core)) (mcons (mcon (.str x_d)) (mcons (mcon (.str x_ext)) (mcons (mcon (.str x_fmt)) (mcons (mcon (.str x_zlib)) (mnil))))))))) (onone) (osome (mvar 1))))
  (sseq (sset 4 (mlst (mnil)))
  (sseq (sfor (miS (mop2 addW (mlst (mcons (mcon (.str x_main)) (mnil))) (mvar 3))) (.nm 5) (sseq (sset 6 (mcall m__law_picked (mcons (mvar 0) (mcons (mlc (miS (mvar 3)) (.nm 14) (mtB (mop2 neW (mvar 14) (mvar 5))) (mvar 14) [14]) (mcons (mif (mtB (mop2 neW (mvar 5) (mcon (.str x_main)))) (mcon (.int 2)) (mcon (.int 1))) (mnil))))))
  (sseq (sset 7 (mlst (mcons (mtup (mcons (mcon (.str x_f)) (mcons (mcon (.str x_)) (mnil)))) (mcons (mtup (mcons (mcon (.str x_f)) (mcons (mcon (.str x_one)) (mnil)))) (mcons (mtup (mcons (mcon (.str x_f)) (mcons (mcon (.str x_two)) (mnil)))) (mcons (mtup (mcons (mcon (.str x_g)) (mcons (mcon (.str x_)) (mnil)))) (mcons (mtup (mcons (mcon (.str x_g)) (mcons (mcon (.str x_one)) (mnil)))) (mcons (mtup (mcons (mcon (.str x_g)) (mcons (mcon (.str x_two)) (mnil)))) (mnil)))))))))
  (sseq (sset 8 (mcall sortedDW (mcons (mcall m__law_picked (mcons (mvar 0) (mcons (mvar 7) (mcons (mif (mtB (mop2 neW (mvar 5) (mcon (.str x_main)))) (mcon (.int 3)) (mcon (.int 1))) (mnil))))) (mnil))))
  (sseq (sset 9 (mcall sortedDW (mcons (mcall m__law_picked (mcons (mvar 0) (mcons (mvar 7) (mcons (mcon (.int 2)) (mnil))))) (mnil))))
  (sseq (sif (mand (mtB (mop2 eqW (mvar 5) (mcon (.str x_main)))) (mtB (mop2 eqW (mvar 9) (mlst (mnil))))) (sset 9 (mlst (mcons (mtup (mcons (mcon (.str x_f)) (mcons (mcon (.str x_)) (mnil)))) (mnil)))) (snx))
  (sseq (sset 10 (mcall tupleW (mcons (mlc (miS (mvar 9)) (.nm 15) (myes) (mop2 addW (mvar 15) (mtup (mcons (mop2 eqW (mcall m__law_take (mcons (mvar 0) (mcons (mcon (.int 3)) (mnil)))) (mcon (.int 0))) (mnil)))) [15]) (mnil))))
  (sexp (mbmL appW (mvar 4) (mcons (mtup (mcons (mvar 5) (mcons (mcall tupleW (mcons (mvar 6) (mnil))) (mcons (mcall tupleW (mcons (mvar 8) (mnil))) (mcons (mvar 10) (mnil)))))) (mnil)))))))))))
  (sseq (sset 11 (mlst (mcons (mcon (.str x_global)) (mcons (mcon (.str x_local)) (mcons (mcon (.str x_deep)) (mnil))))))
  (sseq (sset 12 (mlc (miS (mcall m__law_picked (mcons (mvar 0) (mcons (mvar 3) (mcons (mvar 2) (mnil)))))) (.nm 5) (myes) (mtup (mcons (mvar 5) (mcons (mcall m__law_of (mcons (mvar 0) (mcons (mvar 11) (mnil)))) (mnil)))) [5]))
  (sseq (sif (mand (mtB (mop2 neW (mvar 12) (mlst (mnil)))) (mand (mtB (mop2 ltW (mcall lenW (mcons (mvar 12) (mnil))) (mvar 2))) (mtB (mop2 eqW (mcall m__law_take (mcons (mvar 0) (mcons (mcon (.int 4)) (mnil)))) (mcon (.int 0)))))) (sseq (sset 13 (mtup (mcons (mop2 ixA (mop2 ixA (mvar 12) (mcon (.int 0))) (mcon (.int 0))) (mcons (mcall m__law_of (mcons (mvar 0) (mcons (mvar 11) (mnil)))) (mnil)))))
  (sset 12 (mop2 addW (mvar 12) (mop2 lmulW (mlst (mcons (mvar 13) (mnil))) (mcall intW (mcons (mop2 ninA (mvar 13) (mvar 12)) (mnil))))))) (snx))
  (sret (mtup (mcons (mcall tupleW (mcons (mvar 4) (mnil))) (mcons (mcall tupleW (mcons (mif (mtB (mop2 eqW (mcall m__law_take (mcons (mvar 0) (mcons (mcon (.int 3)) (mnil)))) (mcon (.int 0)))) (mcall m__law_picked (mcons (mvar 0) (mcons (mvar 3) (mcons (mcon (.int 1)) (mnil))))) (mlst (mnil))) (mnil))) (mcons (mcall tupleW (mcons (mvar 12) (mnil))) (mnil)))))))))))
def m__law_program : Fn := fnM 3 16 bd__law_program
theorem ok__law_program (T : Tx P K mg base) : FnOk P w K mg base CX0 3 (He.ga K "_law_program") (T.fd 3) ["_law_box_here", "_law_most", "_law_doors_so"] (spM (GG P w K) m__law_program) :=
  fn_okD (B := bd__law_program) (T.df 3 dd__law_program rfl) sc__law_program (hb := fun cdv A outer s H E hr => sm_cons (sm_set (ps_set (i := 3) sc__law_program.nd rfl (Or.inl rfl) (pm_slice (pm_lst (pm_cons (pm_str e_x_a) (pm_cons (pm_str e_x_b) (pm_cons (pm_str e_x_core) (pm_cons (pm_str e_x_d) (pm_cons (pm_str e_x_ext) (pm_cons (pm_str e_x_fmt) (pm_cons (pm_str e_x_zlib) (pm_nil))))))))) (om_none) (om_some (pm_var (pv 1))))))
    (sm_cons (sm_set (ps_set (i := 4) sc__law_program.nd rfl (Or.inl rfl) (pm_lst (pm_nil))))
    (sm_cons (sm_for' PassesOwn.never rfl (im_seq (pm_bin om_add (pm_lst (pm_cons (pm_str e_x_main) (pm_nil))) (pm_var (pv 3)))) (gm_name (pg_name (i := 5) sc__law_program.nd rfl (Or.inr rfl))) (sm_cons (sm_set (ps_set (i := 6) sc__law_program.nd rfl (Or.inl rfl) (pm_call (ok__law_picked T) (hr.mono (by decide)) (by rfl) (T.gl "_law_picked" (by simp [glos])) (T.kp 4 rfl) (b__law_picked T) pass0 (pm_cons (pm_var (pv 0)) (pm_cons (pm_lc (own := [("_law_own", 14)]) rfl sc__law_program.nd (im_seq (pm_var (pv 3))) (blkOk_by (own := [("_law_own", 14)]) (N := N__law_program) (sc := defScope s__law_program) (by decide +kernel)) (fun _ _ _ _ _ => gm_name (pg_name (i := 14) sc__law_program.nd rfl (Or.inl rfl))) (fun _ _ _ _ _ => tm_one (pm_tcmp (om_ne hr.units) (pm_var (pv 14)) (pm_var (pv 5)) (nomark _))) (fun _ _ _ _ _ => pm_var (pv 14))) (pm_cons (pm_if (pm_tcmp (om_ne hr.units) (pm_var (pv 5)) (pm_str e_x_main) (nomark _)) (pm_int) (pm_int)) (pm_nil)))))))
    (sm_cons (sm_set (ps_set (i := 7) sc__law_program.nd rfl (Or.inl rfl) (pm_lst (pm_cons (pm_tup (pm_cons (pm_str e_x_f) (pm_cons (pm_str e_x_) (pm_nil)))) (pm_cons (pm_tup (pm_cons (pm_str e_x_f) (pm_cons (pm_str e_x_one) (pm_nil)))) (pm_cons (pm_tup (pm_cons (pm_str e_x_f) (pm_cons (pm_str e_x_two) (pm_nil)))) (pm_cons (pm_tup (pm_cons (pm_str e_x_g) (pm_cons (pm_str e_x_) (pm_nil)))) (pm_cons (pm_tup (pm_cons (pm_str e_x_g) (pm_cons (pm_str e_x_one) (pm_nil)))) (pm_cons (pm_tup (pm_cons (pm_str e_x_g) (pm_cons (pm_str e_x_two) (pm_nil)))) (pm_nil))))))))))
    (sm_cons (sm_set (ps_set (i := 8) sc__law_program.nd rfl (Or.inl rfl) (pm_cB (cm_sortedD hr.units) (by rfl) (T.fr "sorted" (by simp [frees])) bb_sorted (pm_cons (pm_call (ok__law_picked T) (hr.mono (by decide)) (by rfl) (T.gl "_law_picked" (by simp [glos])) (T.kp 4 rfl) (b__law_picked T) pass0 (pm_cons (pm_var (pv 0)) (pm_cons (pm_var (pv 7)) (pm_cons (pm_if (pm_tcmp (om_ne hr.units) (pm_var (pv 5)) (pm_str e_x_main) (nomark _)) (pm_int) (pm_int)) (pm_nil))))) (pm_nil)))))
    (sm_cons (sm_set (ps_set (i := 9) sc__law_program.nd rfl (Or.inl rfl) (pm_cB (cm_sortedD hr.units) (by rfl) (T.fr "sorted" (by simp [frees])) bb_sorted (pm_cons (pm_call (ok__law_picked T) (hr.mono (by decide)) (by rfl) (T.gl "_law_picked" (by simp [glos])) (T.kp 4 rfl) (b__law_picked T) pass0 (pm_cons (pm_var (pv 0)) (pm_cons (pm_var (pv 7)) (pm_cons (pm_int) (pm_nil))))) (pm_nil)))))
    (sm_cons (sm_if (PW.pt (pm_wand (pm_tcmp (om_eq hr.units) (pm_var (pv 5)) (pm_str e_x_main) (nomark _)) (pm_wand1 (pm_tcmp (om_eq hr.units) (pm_var (pv 9)) (pm_lst (pm_nil)) (nomark _))))) (sm_one (sm_set (ps_set (i := 9) sc__law_program.nd rfl (Or.inl rfl) (pm_lst (pm_cons (pm_tup (pm_cons (pm_str e_x_f) (pm_cons (pm_str e_x_) (pm_nil)))) (pm_nil)))))) (sm_nil))
    (sm_cons (sm_set (ps_set (i := 10) sc__law_program.nd rfl (Or.inl rfl) (pm_cT cm_tuple (by rfl) (T.fr "tuple" (by simp [frees])) bb_tuple (pm_cons (pm_lc (own := [("_law_pair", 15)]) rfl sc__law_program.nd (im_seq (pm_var (pv 9))) (blkOk_by (own := [("_law_pair", 15)]) (N := N__law_program) (sc := defScope s__law_program) (by decide +kernel)) (fun _ _ _ _ _ => gm_name (pg_name (i := 15) sc__law_program.nd rfl (Or.inl rfl))) (fun _ _ _ _ _ => tm_nil) (fun _ _ _ _ _ => pm_bin om_add (pm_var (pv 15)) (pm_tup (pm_cons (pm_cmp (om_eq hr.units) (pm_call (ok__law_take T) (hr.mono (by decide)) (by rfl) (T.gl "_law_take" (by simp [glos])) (T.kp 5 rfl) (b__law_take T) pass0 (pm_cons (pm_var (pv 0)) (pm_cons (pm_int) (pm_nil)))) (pm_int) (nomark _)) (pm_nil))))) (pm_nil)))))
    (sm_one (sm_exp (pm_bmL lm_app (pe_bm PySem.F.plainAttrs_list PySem.F.slot_list_append PySem.F.type_list_append mt_append (pm_var (pv 4)) (pm_cons (pm_tup (pm_cons (pm_var (pv 5)) (pm_cons (pm_cT cm_tuple (by rfl) (T.fr "tuple" (by simp [frees])) bb_tuple (pm_cons (pm_var (pv 6)) (pm_nil))) (pm_cons (pm_cT cm_tuple (by rfl) (T.fr "tuple" (by simp [frees])) bb_tuple (pm_cons (pm_var (pv 8)) (pm_nil))) (pm_cons (pm_var (pv 10)) (pm_nil)))))) (pm_nil)))))))))))))
    (sm_cons (sm_set (ps_set (i := 11) sc__law_program.nd rfl (Or.inr rfl) (pm_lst (pm_cons (pm_str e_x_global) (pm_cons (pm_str e_x_local) (pm_cons (pm_str e_x_deep) (pm_nil)))))))
    (sm_cons (sm_setLc (i := 12) (own := [("_law_who", 5)]) rfl sc__law_program.nd rfl rfl (sw_true rfl rfl rfl (by decide +kernel)) (im_seq (pm_call (ok__law_picked T) (hr.mono (by decide)) (by rfl) (T.gl "_law_picked" (by simp [glos])) (T.kp 4 rfl) (b__law_picked T) pass0 (pm_cons (pm_var (pv 0)) (pm_cons (pm_var (pv 3)) (pm_cons (pm_var (pv 2)) (pm_nil)))))) (blkOk_by (own := [("_law_who", 5)]) (N := N__law_program) (sc := defScope s__law_program) (by decide +kernel)) (fun _ _ _ _ _ => gm_name (pg_name (i := 5) sc__law_program.nd rfl (Or.inl rfl))) (fun _ _ _ _ _ => tm_nil) (fun _ _ _ _ _ => pm_tup (pm_cons (pm_var (pv 5)) (pm_cons (pm_call (ok__law_of T) (hr.mono (by decide)) (by rfl) (T.gl "_law_of" (by simp [glos])) (T.kp 6 rfl) (b__law_of T) pass0 (pm_cons (pm_var (pv 0)) (pm_cons (pm_var (pv 11)) (pm_nil)))) (pm_nil)))))
    (sm_cons (sm_if (PW.pt (pm_wand (pm_tcmp (om_ne hr.units) (pm_var (pv 12)) (pm_lst (pm_nil)) (nomark _)) (pm_wand (pm_tcmp (om_lt) (pm_cB cm_len (by rfl) (T.fr "len" (by simp [frees])) bb_len (pm_cons (pm_var (pv 12)) (pm_nil))) (pm_var (pv 2)) (nomark _)) (pm_wand1 (pm_tcmp (om_eq hr.units) (pm_call (ok__law_take T) (hr.mono (by decide)) (by rfl) (T.gl "_law_take" (by simp [glos])) (T.kp 5 rfl) (b__law_take T) pass0 (pm_cons (pm_var (pv 0)) (pm_cons (pm_int) (pm_nil)))) (pm_int) (nomark _)))))) (sm_cons (sm_set (ps_set (i := 13) sc__law_program.nd rfl (Or.inl rfl) (pm_tup (pm_cons (pm_ixA hr.units (pm_ixA hr.units (pm_var (pv 12)) (pm_int)) (pm_int)) (pm_cons (pm_call (ok__law_of T) (hr.mono (by decide)) (by rfl) (T.gl "_law_of" (by simp [glos])) (T.kp 6 rfl) (b__law_of T) pass0 (pm_cons (pm_var (pv 0)) (pm_cons (pm_var (pv 11)) (pm_nil)))) (pm_nil))))))
    (sm_one (sm_set (ps_set (i := 12) sc__law_program.nd rfl (Or.inl rfl) (pm_bin om_add (pm_var (pv 12)) (pm_bin om_lmul (pm_lst (pm_cons (pm_var (pv 13)) (pm_nil))) (pm_cT cm_int (by rfl) (T.fr "int" (by simp [frees])) bb_int (pm_cons (pm_cmp (om_ninA (u65 hr)) (pm_var (pv 13)) (pm_var (pv 12)) (by rfl)) (pm_nil))))))))) (sm_nil))
    (sm_one (sm_ret (pm_tup (pm_cons (pm_cT cm_tuple (by rfl) (T.fr "tuple" (by simp [frees])) bb_tuple (pm_cons (pm_var (pv 4)) (pm_nil))) (pm_cons (pm_cT cm_tuple (by rfl) (T.fr "tuple" (by simp [frees])) bb_tuple (pm_cons (pm_if (pm_tcmp (om_eq hr.units) (pm_call (ok__law_take T) (hr.mono (by decide)) (by rfl) (T.gl "_law_take" (by simp [glos])) (T.kp 5 rfl) (b__law_take T) pass0 (pm_cons (pm_var (pv 0)) (pm_cons (pm_int) (pm_nil)))) (pm_int) (nomark _)) (pm_call (ok__law_picked T) (hr.mono (by decide)) (by rfl) (T.gl "_law_picked" (by simp [glos])) (T.kp 4 rfl) (b__law_picked T) pass0 (pm_cons (pm_var (pv 0)) (pm_cons (pm_var (pv 3)) (pm_cons (pm_int) (pm_nil))))) (pm_lst (pm_nil))) (pm_nil))) (pm_cons (pm_cT cm_tuple (by rfl) (T.fr "tuple" (by simp [frees])) bb_tuple (pm_cons (pm_var (pv 12)) (pm_nil))) (pm_nil)))))))))))))
def N__law_odd : List Str := ["_law_prog", "_law_names_so", "_law_found", "_law_mate"]
theorem sc__law_odd : FnScope ["_law_prog", "_law_names_so", "_law_found", "_law_mate"] ["_law_prog"] (defScope s__law_odd) := ⟨rfl, rfl, rfl, by decide +kernel, rfl, by decide +kernel, by decide +kernel⟩
theorem b__law_odd (T : Tx P K mg base) : Binds K (T.fd 7) ["_law_prog"] [] := FunD.bindsN (T.df 7 dd__law_odd rfl) fun _ _ _ _ _ _ us hl => match us, hl with | [_], _ => rfl
def bd__law_odd : Fs :=
  sseq (sset 1 (mlc (miS (mop2 ixA (mvar 0) (mcon (.int 0)))) (.nm 3) (myes) (mop2 ixA (mvar 3) (mcon (.int 0))) [3]))
  (sseq (sset 2 (mlst (mcons (mcon .non) (mcons (mcon (.bl true)) (mcons (mcon (.int 0)) (mcons (mcon (.str x_)) (mcons (mop2 ixA (mvar 1) (mcon (.int 1))) (mcons (mtup (mcons (mcon (.str x_main)) (mnil))) (mcons (mtup (mcons (mop2 ixA (mvar 1) (mcon (.int 1))) (mcons (mcon (.str x_main)) (mnil)))) (mcons (mop2 tmulW (mtup (mcons (mop2 ixA (mvar 1) (mcon (.int 1))) (mnil))) (mcon (.int 2))) (mcons (mtup (mcons (mcon (.str x_nowhere)) (mnil))) (mcons (mtup (mcons (mcon (.int 1)) (mnil))) (mnil)))))))))))))
  (sseq (sset 2 (mop2 addW (mvar 2) (mlst (mcons (mlst (mnil)) (mcons (mlst (mcons (mop2 ixA (mvar 1) (mcon (.int 1))) (mnil))) (mcons (mtup (mcons (mtup (mcons (mop2 ixA (mvar 1) (mcon (.int 1))) (mnil))) (mnil))) (mcons (mtup (mcons (mcon .non) (mnil))) (mcons (mtup (mcons (mcon (.str x_)) (mnil))) (mcons (mtup (mcons (mcon (.str x_A)) (mnil))) (mcons (mtup (mcons (mop2 ixA (mvar 1) (mcon (.int 1))) (mcons (mcon (.bl true)) (mnil)))) (mnil)))))))))))
  (sret (mop2 addW (mvar 2) (mlst (mcons (mcall tupleW (mcons (mvar 1) (mnil))) (mcons (mtup (mcons (mop2 addW (mop2 ixA (mvar 1) (mcon (.int 1))) (mop2 smulW (mcon (.str x_x)) (mcon (.int 8)))) (mnil))) (mcons (mtup (mcons (mlst (mcons (mcon (.str x_a)) (mnil))) (mnil))) (mnil)))))))))
def m__law_odd : Fn := fnM 1 4 bd__law_odd
theorem ok__law_odd (T : Tx P K mg base) : FnOk P w K mg base CX0 1 (He.ga K "_law_odd") (T.fd 7) ["_law_prog"] (spM (GG P w K) m__law_odd) :=
  fn_okD (B := bd__law_odd) (T.df 7 dd__law_odd rfl) sc__law_odd (hb := fun cdv A outer s H E hr => sm_cons (sm_setLc (i := 1) (own := [("_law_mate", 3)]) rfl sc__law_odd.nd rfl rfl (sw_true rfl rfl rfl (by decide +kernel)) (im_seq (pm_ixA hr.units (pm_var (pv 0)) (pm_int))) (blkOk_by (own := [("_law_mate", 3)]) (N := N__law_odd) (sc := defScope s__law_odd) (by decide +kernel)) (fun _ _ _ _ _ => gm_name (pg_name (i := 3) sc__law_odd.nd rfl (Or.inl rfl))) (fun _ _ _ _ _ => tm_nil) (fun _ _ _ _ _ => pm_ixA hr.units (pm_var (pv 3)) (pm_int)))
    (sm_cons (sm_set (ps_set (i := 2) sc__law_odd.nd rfl (Or.inl rfl) (pm_lst (pm_cons (pm_non) (pm_cons (pm_bl) (pm_cons (pm_int) (pm_cons (pm_str e_x_) (pm_cons (pm_ixA hr.units (pm_var (pv 1)) (pm_int)) (pm_cons (pm_tup (pm_cons (pm_str e_x_main) (pm_nil))) (pm_cons (pm_tup (pm_cons (pm_ixA hr.units (pm_var (pv 1)) (pm_int)) (pm_cons (pm_str e_x_main) (pm_nil)))) (pm_cons (pm_bin om_tmul (pm_tup (pm_cons (pm_ixA hr.units (pm_var (pv 1)) (pm_int)) (pm_nil))) (pm_int)) (pm_cons (pm_tup (pm_cons (pm_str e_x_nowhere) (pm_nil))) (pm_cons (pm_tup (pm_cons (pm_int) (pm_nil))) (pm_nil))))))))))))))
    (sm_cons (sm_set (ps_set (i := 2) sc__law_odd.nd rfl (Or.inl rfl) (pm_bin om_add (pm_var (pv 2)) (pm_lst (pm_cons (pm_lst (pm_nil)) (pm_cons (pm_lst (pm_cons (pm_ixA hr.units (pm_var (pv 1)) (pm_int)) (pm_nil))) (pm_cons (pm_tup (pm_cons (pm_tup (pm_cons (pm_ixA hr.units (pm_var (pv 1)) (pm_int)) (pm_nil))) (pm_nil))) (pm_cons (pm_tup (pm_cons (pm_non) (pm_nil))) (pm_cons (pm_tup (pm_cons (pm_str e_x_) (pm_nil))) (pm_cons (pm_tup (pm_cons (pm_str e_x_A) (pm_nil))) (pm_cons (pm_tup (pm_cons (pm_ixA hr.units (pm_var (pv 1)) (pm_int)) (pm_cons (pm_bl) (pm_nil)))) (pm_nil))))))))))))
    (sm_one (sm_ret (pm_bin om_add (pm_var (pv 2)) (pm_lst (pm_cons (pm_cT cm_tuple (by rfl) (T.fr "tuple" (by simp [frees])) bb_tuple (pm_cons (pm_var (pv 1)) (pm_nil))) (pm_cons (pm_tup (pm_cons (pm_bin om_add (pm_ixA hr.units (pm_var (pv 1)) (pm_int)) (pm_bin om_smul (pm_str e_x_x) (pm_int))) (pm_nil))) (pm_cons (pm_tup (pm_cons (pm_lst (pm_cons (pm_str e_x_a) (pm_nil))) (pm_nil))) (pm_nil)))))))))))
def N_as_tuples : List Str := ["thing", "part"]
theorem sc_as_tuples : FnScope ["thing", "part"] ["thing"] (defScope s_as_tuples) := ⟨rfl, rfl, rfl, by decide +kernel, rfl, by decide +kernel, by decide +kernel⟩
theorem b_as_tuples (T : Tx P K mg base) : Binds K (T.fd 10) ["thing"] [] := FunD.bindsN (T.df 10 dd_as_tuples rfl) fun _ _ _ _ _ _ us hl => match us, hl with | [_], _ => rfl
def b0_as_tuples (m_as_tuples : Nat → Fn) (d : Nat) : Fs :=
  sret (mif (mtst (misiT (mvar 0) [.list, .tuple])) (mcall tupleW (mcons (mlc (miS (mvar 0)) (.nm 1) (myes) (mcall (m_as_tuples d) (mcons (mvar 1) (mnil))) [1]) (mnil))) (mvar 0))
def m_as_tuples : Nat → Fn
  | 0 => fun _ _ => none
  | d + 1 => fnM 1 2 (b0_as_tuples (fun _ => m_as_tuples d) d)
theorem ok_as_tuples (T : Tx P K mg base) : ∀ d : Nat, FnOk P w K mg base CX0 (d + 1) (He.ga K "as_tuples") (T.fd 10) ["thing"] (spM (GG P w K) (m_as_tuples d))
  | 0 => fn_none
  | d + 1 => fn_okD (T.df 10 dd_as_tuples rfl) sc_as_tuples (hb := fun cdv A outer s H E hr => sm_one (sm_ret (pm_if (pm_tst (pm_isiT (pm_var (pv 0)) (py_cons (t := .list) (pe_bltn (by rfl) (T.fr "list" (by simp [frees])) bb_list rfl) (py_cons (t := .tuple) (pe_bltn (by rfl) (T.fr "tuple" (by simp [frees])) bb_tuple rfl) (py_nil))) (by rfl) (T.fr "isinstance" (by simp [frees])))) (pm_cT cm_tuple (by rfl) (T.fr "tuple" (by simp [frees])) bb_tuple (pm_cons (pm_lc (own := [("part", 1)]) rfl sc_as_tuples.nd (im_seq (pm_var (pv 0))) (blkOk_by (own := [("part", 1)]) (N := N_as_tuples) (sc := defScope s_as_tuples) (by decide +kernel)) (fun _ _ _ _ _ => gm_name (pg_name (i := 1) sc_as_tuples.nd rfl (Or.inl rfl))) (fun _ _ _ _ _ => tm_nil) (fun _ _ _ _ _ => pm_call (ok_as_tuples T d) hr (by rfl) (T.gl "as_tuples" (by simp [glos])) (T.kp 10 rfl) (b_as_tuples T) pass0 (pm_cons (pm_var (pv 1)) (pm_nil)))) (pm_nil))) (pm_var (pv 0)))))
def N_lib_of : List Str := ["program", "name", "some", "lib"]
theorem sc_lib_of : FnScope ["program", "name", "some", "lib"] ["program", "name"] (defScope s_lib_of) := ⟨rfl, rfl, rfl, by decide +kernel, rfl, by decide +kernel, by decide +kernel⟩
theorem b_lib_of (T : Tx P K mg base) : Binds K (T.fd 13) ["program", "name"] [] := FunD.bindsN (T.df 13 dd_lib_of rfl) fun _ _ _ _ _ _ us hl => match us, hl with | [_, _], _ => rfl
def bd_lib_of : Fs :=
  sseq (sset 2 (mlc (miS (mop2 ixA (mvar 0) (mcon (.int 0)))) (.nm 3) (mtB (mop2 eqW (mop2 ixA (mvar 3) (mcon (.int 0))) (mvar 1))) (mvar 3) [3]))
  (sret (mif (mtB (mop2 gtW (mcall lenW (mcons (mvar 2) (mnil))) (mcon (.int 0)))) (mop2 ixA (mvar 2) (mcon (.int 0))) (mcon .non)))
def m_lib_of : Fn := fnM 2 4 bd_lib_of
theorem ok_lib_of (T : Tx P K mg base) : FnOk P w K mg base CX0 1 (He.ga K "lib_of") (T.fd 13) ["program", "name"] (spM (GG P w K) m_lib_of) :=
  fn_okD (B := bd_lib_of) (T.df 13 dd_lib_of rfl) sc_lib_of (hb := fun cdv A outer s H E hr => sm_cons (sm_setLc (i := 2) (own := [("lib", 3)]) rfl sc_lib_of.nd rfl rfl (sw_true rfl rfl rfl (by decide +kernel)) (im_seq (pm_ixA hr.units (pm_var (pv 0)) (pm_int))) (blkOk_by (own := [("lib", 3)]) (N := N_lib_of) (sc := defScope s_lib_of) (by decide +kernel)) (fun _ _ _ _ _ => gm_name (pg_name (i := 3) sc_lib_of.nd rfl (Or.inl rfl))) (fun _ _ _ _ _ => tm_one (pm_tcmp (om_eq hr.units) (pm_ixA hr.units (pm_var (pv 3)) (pm_int)) (pm_var (pv 1)) (nomark _))) (fun _ _ _ _ _ => pm_var (pv 3)))
    (sm_one (sm_ret (pm_if (pm_tcmp (om_gt) (pm_cB cm_len (by rfl) (T.fr "len" (by simp [frees])) bb_len (pm_cons (pm_var (pv 2)) (pm_nil))) (pm_int) (nomark _)) (pm_ixA hr.units (pm_var (pv 2)) (pm_int)) (pm_non)))))
theorem sc_lib_at : FnScope ["program", "name", "lib"] ["program", "name"] (defScope s_lib_at) := ⟨rfl, rfl, rfl, by decide +kernel, rfl, by decide +kernel, by decide +kernel⟩
theorem b_lib_at (T : Tx P K mg base) : Binds K (T.fd 12) ["program", "name"] [] := FunD.bindsN (T.df 12 dd_lib_at rfl) fun _ _ _ _ _ _ us hl => match us, hl with | [_, _], _ => rfl
def bd_lib_at : Fs :=
  sseq (sset 2 (mcall m_lib_of (mcons (mvar 0) (mcons (mvar 1) (mnil)))))
  (sseq (sif (mtB (mop2 (isW false) (mvar 2) (mcon .non))) (sno) (snx))
  (sret (mvar 2)))
def m_lib_at : Fn := fnM 2 3 bd_lib_at
theorem ok_lib_at (T : Tx P K mg base) : FnOk P w K mg base CX0 2 (He.ga K "lib_at") (T.fd 12) ["program", "name"] (spM (GG P w K) m_lib_at) :=
  fn_okD (B := bd_lib_at) (T.df 12 dd_lib_at rfl) sc_lib_at (hb := fun cdv A outer s H E hr => sm_cons (sm_set (ps_set (i := 2) sc_lib_at.nd rfl (Or.inl rfl) (pm_call (ok_lib_of T) (hr.mono (by decide)) (by rfl) (T.gl "lib_of" (by simp [glos])) (T.kp 13 rfl) (b_lib_of T) pass0 (pm_cons (pm_var (pv 0)) (pm_cons (pm_var (pv 1)) (pm_nil))))))
    (sm_cons (sm_if (pm_tcmp (om_is) (pm_var (pv 2)) (pm_non) (nomark _)) (sm_one (sm_no)) (sm_nil))
    (sm_one (sm_ret (pm_var (pv 2))))))
theorem sc_use_at : FnScope ["program", "name", "number", "lib"] ["program", "name", "number"] (defScope s_use_at) := ⟨rfl, rfl, rfl, by decide +kernel, rfl, by decide +kernel, by decide +kernel⟩
theorem b_use_at (T : Tx P K mg base) : Binds K (T.fd 11) ["program", "name", "number"] [] := FunD.bindsN (T.df 11 dd_use_at rfl) fun _ _ _ _ _ _ us hl => match us, hl with | [_, _, _], _ => rfl
def bd_use_at : Fs :=
  sseq (sset 3 (mcall m_lib_at (mcons (mvar 0) (mcons (mvar 1) (mnil)))))
  (sseq (sif (mnot (mtB (mchain leW ltW (mcon (.int 0)) (mvar 2) (mcall lenW (mcons (mop2 ixA (mvar 3) (mcon (.int 3))) (mnil)))))) (sno) (snx))
  (sret (mop2 ixA (mop2 ixA (mvar 3) (mcon (.int 3))) (mvar 2))))
def m_use_at : Fn := fnM 3 4 bd_use_at
theorem ok_use_at (T : Tx P K mg base) : FnOk P w K mg base CX0 3 (He.ga K "use_at") (T.fd 11) ["program", "name", "number"] (spM (GG P w K) m_use_at) :=
  fn_okD (B := bd_use_at) (T.df 11 dd_use_at rfl) sc_use_at (hb := fun cdv A outer s H E hr => sm_cons (sm_set (ps_set (i := 3) sc_use_at.nd rfl (Or.inl rfl) (pm_call (ok_lib_at T) (hr.mono (by decide)) (by rfl) (T.gl "lib_at" (by simp [glos])) (T.kp 12 rfl) (b_lib_at T) pass0 (pm_cons (pm_var (pv 0)) (pm_cons (pm_var (pv 1)) (pm_nil))))))
    (sm_cons (sm_if (pm_tnot (pm_tchain (om_le) (om_lt) (pm_int) (pm_var (pv 2)) (pm_cB cm_len (by rfl) (T.fr "len" (by simp [frees])) bb_len (pm_cons (pm_ixA hr.units (pm_var (pv 3)) (pm_int)) (pm_nil))))) (sm_one (sm_no)) (sm_nil))
    (sm_one (sm_ret (pm_ixA hr.units (pm_ixA hr.units (pm_var (pv 3)) (pm_int)) (pm_var (pv 2)))))))
theorem sc_looked : FnScope ["program", "wanted", "name", "i", "answer"] ["program", "wanted"] (defScope s_looked) := ⟨rfl, rfl, rfl, by decide +kernel, rfl, by decide +kernel, by decide +kernel⟩
theorem b_looked (T : Tx P K mg base) : Binds K (T.fd 9) ["program", "wanted"] [] := FunD.bindsN (T.df 9 dd_looked rfl) fun _ _ _ _ _ _ us hl => match us, hl with | [_, _], _ => rfl
def bd_looked : Fs :=
  sseq (spar 0 1 (mcons (mcall (m_as_tuples 8) (mcons (mvar 0) (mnil))) (mcons (mcall (m_as_tuples 8) (mcons (mvar 1) (mnil))) (mnil))))
  (sseq (sfor (miS (mvar 1)) (.tp [2, 3, 4]) (sexp (mcall m_use_at (mcons (mvar 0) (mcons (mvar 2) (mcons (mvar 3) (mnil)))))))
  (sret (mtup (mcons (mvar 0) (mcons (mvar 1) (mnil))))))
def m_looked : Fn := fnM 2 5 bd_looked
theorem ok_looked (T : Tx P K mg base) : FnOk P w K mg base CX0 10 (He.ga K "looked") (T.fd 9) ["program", "wanted"] (spM (GG P w K) m_looked) :=
  fn_okD (B := bd_looked) (T.df 9 dd_looked rfl) sc_looked (hb := fun cdv A outer s H E hr => sm_cons (sm_par (ps_par (i := 0) (j := 1) rfl sc_looked.nd rfl rfl (by decide) rfl rfl (pm_cons (pm_call (ok_as_tuples T 8) (hr.mono (by decide)) (by rfl) (T.gl "as_tuples" (by simp [glos])) (T.kp 10 rfl) (b_as_tuples T) pass0 (pm_cons (pm_var (pv 0)) (pm_nil))) (pm_cons (pm_call (ok_as_tuples T 8) (hr.mono (by decide)) (by rfl) (T.gl "as_tuples" (by simp [glos])) (T.kp 10 rfl) (b_as_tuples T) pass0 (pm_cons (pm_var (pv 1)) (pm_nil))) (pm_nil))) (by rfl)))
    (sm_cons (sm_for' PassesOwn.never rfl (im_seq (pm_var (pv 1))) (gm_tup rfl (gm_cons (pg_name (i := 2) sc_looked.nd rfl (Or.inl rfl)) (gm_cons (pg_name (i := 3) sc_looked.nd rfl (Or.inl rfl)) (gm_cons (pg_name (i := 4) sc_looked.nd rfl (Or.inl rfl)) (gm_nil))))) (sm_one (sm_exp (pm_call (ok_use_at T) (hr.mono (by decide)) (by rfl) (T.gl "use_at" (by simp [glos])) (T.kp 11 rfl) (b_use_at T) pass0 (pm_cons (pm_var (pv 0)) (pm_cons (pm_var (pv 2)) (pm_cons (pm_var (pv 3)) (pm_nil))))))))
    (sm_one (sm_ret (pm_tup (pm_cons (pm_var (pv 0)) (pm_cons (pm_var (pv 1)) (pm_nil))))))))
abbrev cxL (K : PySem.W.Frag) : Addr := He.ga K "NoLib"
abbrev cxU (K : PySem.W.Frag) : Addr := He.ga K "NoUse"
noncomputable def vdL_lib_at : Fe := vseq (sset 2 (mcall m_lib_of (mcons (mvar 0) (mcons (mvar 1) (mnil))))) (vif (mtB (mop2 (isW false) (mvar 2) (mcon .non))) (mvar 1))
noncomputable def vL_lib_at : Fn := fnV 2 3 vdL_lib_at
theorem okL_lib_at (T : Tx P K mg base) : FnOk P w K mg base (L2.CX P w) 3 (He.ga K "lib_at") (T.fd 12) ["program", "name"] (spV (GG P w K) (cxL K) "name" vL_lib_at) :=
  fn_okV (F := vdL_lib_at) (T.df 12 dd_lib_at rfl) sc_lib_at (hb := fun cdv A outer s H E hr tk => rv_cons (sm_set (ps_set (i := 2) sc_lib_at.nd rfl (Or.inl rfl) (pm_call (ok_lib_of T) (hr.mono (by decide)) (by rfl) (T.gl "lib_of" (by simp [glos])) (T.kp 13 rfl) (b_lib_of T) pass0 (pm_cons (pm_var (pv 0)) (pm_cons (pm_var (pv 1)) (pm_nil)))))) (rv_hd (rv_ift (pm_tcmp (om_is) (pm_var (pv 2)) (pm_non) (nomark _)) (rv_hd (rv_raise rfl tk (pmk_xcV (k := 1) T.xn_NoLib.f (raises_own T.xn_NoLib.n.sub T.xn_NoLib.n.ty) (hr.mono (by decide)) (by rfl) T.xn_NoLib.n.gl T.xn_NoLib.n.kp (pm_var (pv 1))))))))
noncomputable def vdL_use_at : Fe := mcall vL_lib_at (mcons (mvar 0) (mcons (mvar 1) (mnil)))
noncomputable def vL_use_at : Fn := fnV 3 4 vdL_use_at
theorem okL_use_at (T : Tx P K mg base) : FnOk P w K mg base (L2.CX P w) 4 (He.ga K "use_at") (T.fd 11) ["program", "name", "number"] (spV (GG P w K) (cxL K) "name" vL_use_at) :=
  fn_okV (F := vdL_use_at) (T.df 11 dd_use_at rfl) sc_use_at (hb := fun cdv A outer s H E hr tk => rv_hd (rv_asg (ps_set (i := 3) sc_use_at.nd rfl (Or.inl rfl) (rv_call (E0 := E) (okL_lib_at T) (hr.mono (by decide)) (by rfl) (T.gl "lib_at" (by simp [glos])) (T.kp 12 rfl) (b_lib_at T) (passes_call tk fun _ _ _ _ h => h) (fun _ _ _ h => h) (pm_cons (pm_var (pv 0)) (pm_cons (pm_var (pv 1)) (pm_nil)))))))
noncomputable def vdU_use_at : Fe := vseq (sset 3 (mcall m_lib_at (mcons (mvar 0) (mcons (mvar 1) (mnil))))) (vif (mnot (mtB (mchain leW ltW (mcon (.int 0)) (mvar 2) (mcall lenW (mcons (mop2 ixA (mvar 3) (mcon (.int 3))) (mnil)))))) (mvar 2))
noncomputable def vU_use_at : Fn := fnV 3 4 vdU_use_at
theorem okU_use_at (T : Tx P K mg base) : FnOk P w K mg base (L2.CX P w) 4 (He.ga K "use_at") (T.fd 11) ["program", "name", "number"] (spV (GG P w K) (cxU K) "number" vU_use_at) :=
  fn_okV (F := vdU_use_at) (T.df 11 dd_use_at rfl) sc_use_at (hb := fun cdv A outer s H E hr tk => rv_cons (sm_set (ps_set (i := 3) sc_use_at.nd rfl (Or.inl rfl) (pm_call (ok_lib_at T) (hr.mono (by decide)) (by rfl) (T.gl "lib_at" (by simp [glos])) (T.kp 12 rfl) (b_lib_at T) pass0 (pm_cons (pm_var (pv 0)) (pm_cons (pm_var (pv 1)) (pm_nil)))))) (rv_hd (rv_ift (pm_tnot (pm_tchain (om_le) (om_lt) (pm_int) (pm_var (pv 2)) (pm_cB cm_len (by rfl) (T.fr "len" (by simp [frees])) bb_len (pm_cons (pm_ixA hr.units (pm_var (pv 3)) (pm_int)) (pm_nil))))) (rv_hd (rv_raise rfl tk (pmk_xcV (k := 1) T.xn_NoUse.f (raises_own T.xn_NoUse.n.sub T.xn_NoUse.n.ty) (hr.mono (by decide)) (by rfl) T.xn_NoUse.n.gl T.xn_NoUse.n.kp (pm_var (pv 2))))))))
noncomputable def vdL_looked : Fe := vseq (spar 0 1 (mcons (mcall (m_as_tuples 8) (mcons (mvar 0) (mnil))) (mcons (mcall (m_as_tuples 8) (mcons (mvar 1) (mnil))) (mnil)))) (vfor (miS (mvar 1)) (.tp [2, 3, 4]) (sexp (mcall m_use_at (mcons (mvar 0) (mcons (mvar 2) (mcons (mvar 3) (mnil)))))) (mcall vL_use_at (mcons (mvar 0) (mcons (mvar 2) (mcons (mvar 3) (mnil))))))
noncomputable def vL_looked : Fn := fnV 2 5 vdL_looked
theorem okL_looked (T : Tx P K mg base) : FnOk P w K mg base (L2.CX P w) 10 (He.ga K "looked") (T.fd 9) ["program", "wanted"] (spV (GG P w K) (cxL K) "name" vL_looked) :=
  fn_okV (F := vdL_looked) (T.df 9 dd_looked rfl) sc_looked (hb := fun cdv A outer s H E hr tk => rv_cons (sm_par (ps_par (i := 0) (j := 1) rfl sc_looked.nd rfl rfl (by decide) rfl rfl (pm_cons (pm_call (ok_as_tuples T 8) (hr.mono (by decide)) (by rfl) (T.gl "as_tuples" (by simp [glos])) (T.kp 10 rfl) (b_as_tuples T) pass0 (pm_cons (pm_var (pv 0)) (pm_nil))) (pm_cons (pm_call (ok_as_tuples T 8) (hr.mono (by decide)) (by rfl) (T.gl "as_tuples" (by simp [glos])) (T.kp 10 rfl) (b_as_tuples T) pass0 (pm_cons (pm_var (pv 1)) (pm_nil))) (pm_nil))) (by rfl))) (rv_hd (rv_for (passes_of rfl) rfl (im_seq (pm_var (pv 1))) (gm_tup rfl (gm_cons (pg_name (i := 2) sc_looked.nd rfl (Or.inl rfl)) (gm_cons (pg_name (i := 3) sc_looked.nd rfl (Or.inl rfl)) (gm_cons (pg_name (i := 4) sc_looked.nd rfl (Or.inl rfl)) (gm_nil))))) (sm_one (sm_exp (pm_call (ok_use_at T) (hr.mono (by decide)) (by rfl) (T.gl "use_at" (by simp [glos])) (T.kp 11 rfl) (b_use_at T) pass0 (pm_cons (pm_var (pv 0)) (pm_cons (pm_var (pv 2)) (pm_cons (pm_var (pv 3)) (pm_nil))))))) (rv_hd (rv_exp (rv_call (E0 := E) (okL_use_at T) (hr.mono (by decide)) (by rfl) (T.gl "use_at" (by simp [glos])) (T.kp 11 rfl) (b_use_at T) (passes_call tk fun _ _ _ _ h => h) (fun _ _ _ h => h) (pm_cons (pm_var (pv 0)) (pm_cons (pm_var (pv 2)) (pm_cons (pm_var (pv 3)) (pm_nil))))))))))
noncomputable def vdU_looked : Fe := vseq (spar 0 1 (mcons (mcall (m_as_tuples 8) (mcons (mvar 0) (mnil))) (mcons (mcall (m_as_tuples 8) (mcons (mvar 1) (mnil))) (mnil)))) (vfor (miS (mvar 1)) (.tp [2, 3, 4]) (sexp (mcall m_use_at (mcons (mvar 0) (mcons (mvar 2) (mcons (mvar 3) (mnil)))))) (mcall vU_use_at (mcons (mvar 0) (mcons (mvar 2) (mcons (mvar 3) (mnil))))))
noncomputable def vU_looked : Fn := fnV 2 5 vdU_looked
theorem okU_looked (T : Tx P K mg base) : FnOk P w K mg base (L2.CX P w) 10 (He.ga K "looked") (T.fd 9) ["program", "wanted"] (spV (GG P w K) (cxU K) "number" vU_looked) :=
  fn_okV (F := vdU_looked) (T.df 9 dd_looked rfl) sc_looked (hb := fun cdv A outer s H E hr tk => rv_cons (sm_par (ps_par (i := 0) (j := 1) rfl sc_looked.nd rfl rfl (by decide) rfl rfl (pm_cons (pm_call (ok_as_tuples T 8) (hr.mono (by decide)) (by rfl) (T.gl "as_tuples" (by simp [glos])) (T.kp 10 rfl) (b_as_tuples T) pass0 (pm_cons (pm_var (pv 0)) (pm_nil))) (pm_cons (pm_call (ok_as_tuples T 8) (hr.mono (by decide)) (by rfl) (T.gl "as_tuples" (by simp [glos])) (T.kp 10 rfl) (b_as_tuples T) pass0 (pm_cons (pm_var (pv 1)) (pm_nil))) (pm_nil))) (by rfl))) (rv_hd (rv_for (passes_of rfl) rfl (im_seq (pm_var (pv 1))) (gm_tup rfl (gm_cons (pg_name (i := 2) sc_looked.nd rfl (Or.inl rfl)) (gm_cons (pg_name (i := 3) sc_looked.nd rfl (Or.inl rfl)) (gm_cons (pg_name (i := 4) sc_looked.nd rfl (Or.inl rfl)) (gm_nil))))) (sm_one (sm_exp (pm_call (ok_use_at T) (hr.mono (by decide)) (by rfl) (T.gl "use_at" (by simp [glos])) (T.kp 11 rfl) (b_use_at T) pass0 (pm_cons (pm_var (pv 0)) (pm_cons (pm_var (pv 2)) (pm_cons (pm_var (pv 3)) (pm_nil))))))) (rv_hd (rv_exp (rv_call (E0 := E) (okU_use_at T) (hr.mono (by decide)) (by rfl) (T.gl "use_at" (by simp [glos])) (T.kp 11 rfl) (b_use_at T) (passes_call tk fun _ _ _ _ h => h) (fun _ _ _ h => h) (pm_cons (pm_var (pv 0)) (pm_cons (pm_var (pv 2)) (pm_cons (pm_var (pv 3)) (pm_nil))))))))))
def tw_NOBODY : List Mv := [.str x_nobody]
def tw_LOST : List Mv := [.str x_lost]
def tw_TORN : List Mv := [.str x_torn]

def N_is_name : List Str := ["thing", "sign"]
theorem sc_is_name : FnScope ["thing", "sign"] ["thing"] (defScope s_is_name) := ⟨rfl, rfl, rfl, by decide +kernel, rfl, by decide +kernel, by decide +kernel⟩
theorem b_is_name (T : Tx P K mg base) : Binds K (T.fd 16) ["thing"] [] := FunD.bindsN (T.df 16 dd_is_name rfl) fun _ _ _ _ _ _ us hl => match us, hl with | [_], _ => rfl
def bd_is_name : Fs :=
  sseq (sif (mor (mnot (mtst (mcall isiW (mcons (mvar 0) (mcons (mcon (.ty .str)) mnil))))) (mnot (mtB (mchain ltW leW (mcon (.int 0)) (mcall lenW (mcons (mvar 0) (mnil))) (mcon (.int 8)))))) (sret (mcon (.bl false))) (snx))
  (sret (mcall allW (mcons (mlc (miX (mvar 0)) (.nm 1) (myes) (mop2 sgIn (mvar 1) (mcon (.str xh_6162636465666768696a6b6c6d6e6f707172737475767778797a))) [1]) (mnil))))
def m_is_name : Fn := fnM 1 2 bd_is_name
theorem ok_is_name (T : Tx P K mg base) : FnOk P w K mg base CX0 1 (He.ga K "is_name") (T.fd 16) ["thing"] (spM (GG P w K) m_is_name) :=
  fn_okD (B := bd_is_name) (T.df 16 dd_is_name rfl) sc_is_name (hb := fun cdv A outer s H E hr => sm_cons (sm_if (PW.pt (pm_wor (pm_tnot (pm_tst (pm_cB cm_isi (by rfl) (T.fr "isinstance" (by simp [frees])) bb_isinstance (pm_cons (pm_var (pv 0)) (pm_cons (pm_con (v := .ty "str") (pe_bltn (by rfl) (T.fr "str" (by simp [frees])) bb_str rfl) (fun _ _ _ _ => .ty .str)) pm_nil))))) (pm_wor1 (pm_tnot (pm_tchain (om_lt) (om_le) (pm_int) (pm_cB cm_len (by rfl) (T.fr "len" (by simp [frees])) bb_len (pm_cons (pm_var (pv 0)) (pm_nil))) (pm_gint (T.gi "MOST_LETTERS" 8 (by simp [fa])) (by rfl))))))) (sm_one (sm_ret (pm_bl))) (sm_nil))
    (sm_one (sm_ret (pm_cB cm_all (by rfl) (T.fr "all" (by simp [frees])) bb_all (pm_cons (pm_lc (own := [("sign", 1)]) rfl sc_is_name.nd (im_txt (pm_var (pv 0))) (blkOk_by (own := [("sign", 1)]) (N := N_is_name) (sc := defScope s_is_name) (by decide +kernel)) (fun _ _ _ _ _ => gm_name (pg_name (i := 1) sc_is_name.nd rfl (Or.inl rfl))) (fun _ _ _ _ _ => tm_nil) (fun _ _ _ _ _ => pm_cmp (om_sgIn) (pm_var (pv 1)) (pm_gstr (T.gs "LETTERS" "abcdefghijklmnopqrstuvwxyz" (by simp [fa])) e_xh_6162636465666768696a6b6c6d6e6f707172737475767778797a (by rfl)) (by rfl))) (pm_nil))))))
def N_are_names : List Str := ["thing", "name"]
theorem sc_are_names : FnScope ["thing", "name"] ["thing"] (defScope s_are_names) := ⟨rfl, rfl, rfl, by decide +kernel, rfl, by decide +kernel, by decide +kernel⟩
theorem b_are_names (T : Tx P K mg base) : Binds K (T.fd 15) ["thing"] [] := FunD.bindsN (T.df 15 dd_are_names rfl) fun _ _ _ _ _ _ us hl => match us, hl with | [_], _ => rfl
def bd_are_names : Fs :=
  sseq (sif (mor (mnot (mtst (mcall isiW (mcons (mvar 0) (mcons (mcon (.ty .tuple)) mnil))))) (mnot (mtst (mcall allW (mcons (mlc (miS (mvar 0)) (.nm 1) (myes) (mcall m_is_name (mcons (mvar 1) (mnil))) [1]) (mnil)))))) (sret (mcon (.bl false))) (snx))
  (sret (mop2 eqW (mlenS (mvar 0)) (mcall lenW (mcons (mvar 0) (mnil)))))
def m_are_names : Fn := fnM 1 2 bd_are_names
theorem ok_are_names (T : Tx P K mg base) : FnOk P w K mg base CX0 2 (He.ga K "are_names") (T.fd 15) ["thing"] (spM (GG P w K) m_are_names) :=
  fn_okD (B := bd_are_names) (T.df 15 dd_are_names rfl) sc_are_names (hb := fun cdv A outer s H E hr => sm_cons (sm_if (PW.pt (pm_wor (pm_tnot (pm_tst (pm_cB cm_isi (by rfl) (T.fr "isinstance" (by simp [frees])) bb_isinstance (pm_cons (pm_var (pv 0)) (pm_cons (pm_con (v := .ty "tuple") (pe_bltn (by rfl) (T.fr "tuple" (by simp [frees])) bb_tuple rfl) (fun _ _ _ _ => .ty .tuple)) pm_nil))))) (pm_wor1 (pm_tnot (pm_tst (pm_cB cm_all (by rfl) (T.fr "all" (by simp [frees])) bb_all (pm_cons (pm_lc (own := [("name", 1)]) rfl sc_are_names.nd (im_seq (pm_var (pv 0))) (blkOk_by (own := [("name", 1)]) (N := N_are_names) (sc := defScope s_are_names) (by decide +kernel)) (fun _ _ _ _ _ => gm_name (pg_name (i := 1) sc_are_names.nd rfl (Or.inl rfl))) (fun _ _ _ _ _ => tm_nil) (fun _ _ _ _ _ => pm_call (ok_is_name T) (hr.mono (by decide)) (by rfl) (T.gl "is_name" (by simp [glos])) (T.kp 16 rfl) (b_is_name T) pass0 (pm_cons (pm_var (pv 1)) (pm_nil)))) (pm_nil)))))))) (sm_one (sm_ret (pm_bl))) (sm_nil))
    (sm_one (sm_ret (pm_cmp (om_eq hr.units) (pm_lenS rfl (by rfl) (T.fr "len" (by simp [frees])) (by rfl) (T.fr "set" (by simp [frees])) (pm_var (pv 0))) (pm_cB cm_len (by rfl) (T.fr "len" (by simp [frees])) bb_len (pm_cons (pm_var (pv 0)) (pm_nil))) (nomark _)))))
def N_others_of : List Str := ["program", "lib"]
theorem sc_others_of : FnScope ["program", "lib"] ["program"] (defScope s_others_of) := ⟨rfl, rfl, rfl, by decide +kernel, rfl, by decide +kernel, by decide +kernel⟩
theorem b_others_of (T : Tx P K mg base) : Binds K (T.fd 17) ["program"] [] := FunD.bindsN (T.df 17 dd_others_of rfl) fun _ _ _ _ _ _ us hl => match us, hl with | [_], _ => rfl
def bd_others_of : Fs :=
  sret (mcall sortedW (mcons (mlc (miS (mslice (mop2 ixA (mvar 0) (mcon (.int 0))) (osome (mcon (.int 1))) (onone))) (.nm 1) (myes) (mop2 ixA (mvar 1) (mcon (.int 0))) [1]) (mnil)))
def m_others_of : Fn := fnM 1 2 bd_others_of
theorem ok_others_of (T : Tx P K mg base) : FnOk P w K mg base CX0 1 (He.ga K "others_of") (T.fd 17) ["program"] (spM (GG P w K) m_others_of) :=
  fn_okD (B := bd_others_of) (T.df 17 dd_others_of rfl) sc_others_of (hb := fun cdv A outer s H E hr => sm_one (sm_ret (pm_cB cm_sorted (by rfl) (T.fr "sorted" (by simp [frees])) bb_sorted (pm_cons (pm_lc (own := [("lib", 1)]) rfl sc_others_of.nd (im_seq (pm_slice (pm_ixA hr.units (pm_var (pv 0)) (pm_int)) (om_some (pm_int)) (om_none))) (blkOk_by (own := [("lib", 1)]) (N := N_others_of) (sc := defScope s_others_of) (by decide +kernel)) (fun _ _ _ _ _ => gm_name (pg_name (i := 1) sc_others_of.nd rfl (Or.inl rfl))) (fun _ _ _ _ _ => tm_nil) (fun _ _ _ _ _ => pm_ixA hr.units (pm_var (pv 1)) (pm_int))) (pm_nil)))))
def N_is_preload : List Str := ["program", "thing", "name"]
theorem sc_is_preload : FnScope ["program", "thing", "name"] ["program", "thing"] (defScope s_is_preload) := ⟨rfl, rfl, rfl, by decide +kernel, rfl, by decide +kernel, by decide +kernel⟩
theorem b_is_preload (T : Tx P K mg base) : Binds K (T.fd 14) ["program", "thing"] [] := FunD.bindsN (T.df 14 dd_is_preload rfl) fun _ _ _ _ _ _ us hl => match us, hl with | [_, _], _ => rfl
def bd_is_preload : Fs :=
  sret (mandV (mcall m_are_names (mcons (mvar 1) (mnil))) (mcall allW (mcons (mlc (miS (mvar 1)) (.nm 2) (myes) (mop2 inA (mvar 2) (mcall m_others_of (mcons (mvar 0) (mnil)))) [2]) (mnil))))
def m_is_preload : Fn := fnM 2 3 bd_is_preload
theorem ok_is_preload (T : Tx P K mg base) : FnOk P w K mg base CX0 3 (He.ga K "is_preload") (T.fd 14) ["program", "thing"] (spM (GG P w K) m_is_preload) :=
  fn_okD (B := bd_is_preload) (T.df 14 dd_is_preload rfl) sc_is_preload (hb := fun cdv A outer s H E hr => sm_one (sm_ret (pm_and (pm_call (ok_are_names T) (hr.mono (by decide)) (by rfl) (T.gl "are_names" (by simp [glos])) (T.kp 15 rfl) (b_are_names T) pass0 (pm_cons (pm_var (pv 1)) (pm_nil))) (pm_one (pm_cB cm_all (by rfl) (T.fr "all" (by simp [frees])) bb_all (pm_cons (pm_lc (own := [("name", 2)]) rfl sc_is_preload.nd (im_seq (pm_var (pv 1))) (blkOk_by (own := [("name", 2)]) (N := N_is_preload) (sc := defScope s_is_preload) (by decide +kernel)) (fun _ _ _ _ _ => gm_name (pg_name (i := 2) sc_is_preload.nd rfl (Or.inl rfl))) (fun _ _ _ _ _ => tm_nil) (fun _ _ _ _ _ => pm_cmp (om_inA (u65 hr)) (pm_var (pv 2)) (pm_call (ok_others_of T) (hr.mono (by decide)) (by rfl) (T.gl "others_of" (by simp [glos])) (T.kp 17 rfl) (b_others_of T) pass0 (pm_cons (pm_var (pv 0)) (pm_nil))) (by rfl))) (pm_nil)))))))
def N_Trial_gives_all : List Str := ["self", "preload", "wanted", "want"]
theorem sc_Trial_gives_all : FnScope ["self", "preload", "wanted", "want"] ["self", "preload", "wanted"] (defScope s_Trial_gives_all) := ⟨rfl, rfl, rfl, by decide +kernel, rfl, by decide +kernel, by decide +kernel⟩
theorem b_Trial_gives_all (T : Tx P K mg base) : Binds K (T.fd 18) ["self", "preload", "wanted"] [] := FunD.bindsN (T.df 18 dd_Trial_gives_all rfl) fun _ _ _ _ _ _ us hl => match us, hl with | [_, _, _], _ => rfl
def bd_Trial_gives_all : Fs :=
  sret (mcall allW (mcons (mlc (miS (mvar 2)) (.nm 3) (myes) (mno) [3]) (mnil)))
def m_Trial_gives_all : Fn := fnM 3 4 bd_Trial_gives_all
theorem ok_Trial_gives_all (T : Tx P K mg base) : FnOk P w K mg base CX0 1 (He.ma K (He.ga K "Trial") "gives_all") (T.fd 18) ["self", "preload", "wanted"] (spM (GG P w K) m_Trial_gives_all) :=
  fn_okD (B := bd_Trial_gives_all) (T.df 18 dd_Trial_gives_all rfl) sc_Trial_gives_all (hb := fun cdv A outer s H E hr => sm_one (sm_ret (pm_cB cm_all (by rfl) (T.fr "all" (by simp [frees])) bb_all (pm_cons (pm_lc (own := [("want", 3)]) rfl sc_Trial_gives_all.nd (im_seq (pm_var (pv 2))) (blkOk_by (own := [("want", 3)]) (N := N_Trial_gives_all) (sc := defScope s_Trial_gives_all) (by decide +kernel)) (fun _ _ _ _ _ => gm_name (pg_name (i := 3) sc_Trial_gives_all.nd rfl (Or.inl rfl))) (fun _ _ _ _ _ => tm_nil) (fun _ _ _ _ _ => pm_no)) (pm_nil)))))
theorem sc_Trial___init__ : FnScope ["self", "program"] ["self", "program"] (defScope s_Trial___init__) := ⟨rfl, rfl, rfl, by decide +kernel, rfl, by decide +kernel, by decide +kernel⟩
theorem b_Trial___init__ (T : Tx P K mg base) : Binds K (T.fd 19) ["self", "program"] [] := FunD.bindsN (T.df 19 dd_Trial___init__ rfl) fun _ _ _ _ _ _ us hl => match us, hl with | [_, _], _ => rfl
def bd_Trial___init__ : Fs :=
  sseq (sfld 0 0 (mvar 0) (mvar 1))
  (sfld 0 1 (mvar 0) (mdn))
def m_Trial___init__ : Fn := fnM 2 2 bd_Trial___init__
theorem ok_Trial___init__ (T : Tx P K mg base) : FnOk P w K mg base CX0 1 (He.ma K (He.ga K "Trial") "__init__") (T.fd 19) ["self", "program"] (spM (GG P w K) m_Trial___init__) :=
  fn_okD (B := bd_Trial___init__) (T.df 19 dd_Trial___init__ rfl) sc_Trial___init__ (hb := fun cdv A outer s H E hr => sm_cons (sm_fld (c := 0) (k := 0) (pm_var (pv 0)) (pm_var (pv 1)) rfl (T.cl "Trial" (by simp [fa])) (T.na "Trial" "own_program" (by simp [fa])) rfl (by show 0 < 2; decide))
    (sm_one (sm_fld (c := 0) (k := 1) (pm_var (pv 0)) (pm_dn) rfl (T.cl "Trial" (by simp [fa])) (T.na "Trial" "own_walked" (by simp [fa])) rfl (by show 1 < 2; decide))))
theorem sc_shows_preload : FnScope ["program", "wanted", "thing"] ["program", "wanted", "thing"] (defScope s_shows_preload) := ⟨rfl, rfl, rfl, by decide +kernel, rfl, by decide +kernel, by decide +kernel⟩
theorem kb_shows_preload_210 (T : Tx P K mg base) : KBinds K (T.fd 8) ["program", "wanted", "thing"] ["thing", "wanted", "program"] (gKw [2, 1, 0]) (gKw [2, 1, 0]) := kb_of (T.df 8 dd_shows_preload rfl) (by simp) fun _ _ _ _ _ _ ws hl => match ws, hl with | _ :: _ :: _ :: _, _ => rfl | [], hl => absurd hl (by simp [kpick]) | [_], hl => absurd hl (by simp [kpick]) | [_, _], hl => absurd hl (by simp [kpick])
theorem b_shows_preload (T : Tx P K mg base) : Binds K (T.fd 8) ["program", "wanted", "thing"] [] := FunD.bindsN (T.df 8 dd_shows_preload rfl) fun _ _ _ _ _ _ us hl => match us, hl with | [_, _, _], _ => rfl
def bd_shows_preload : Fs :=
  sseq (sasg (mcall m_looked (mcons (mvar 0) (mcons (mvar 1) (mnil)))) (.tp [0, 1]))
  (sret (mandV (mcall m_is_preload (mcons (mvar 0) (mcons (mvar 2) (mnil)))) (mmeth 0 m_Trial_gives_all (mmake 0 m_Trial___init__ (mcons (mvar 0) (mnil))) (mcons (mvar 2) (mcons (mvar 1) (mnil))))))
def m_shows_preload : Fn := fnM 3 3 bd_shows_preload
theorem ok_shows_preload (T : Tx P K mg base) : FnOk P w K mg base CX0 11 (He.ga K "shows_preload") (T.fd 8) ["program", "wanted", "thing"] (spM (GG P w K) m_shows_preload) :=
  fn_okD (B := bd_shows_preload) (T.df 8 dd_shows_preload rfl) sc_shows_preload (hb := fun cdv A outer s H E hr => sm_cons (sm_asg (pm_call (ok_looked T) (hr.mono (by decide)) (by rfl) (T.gl "looked" (by simp [glos])) (T.kp 9 rfl) (b_looked T) pass0 (pm_cons (pm_var (pv 0)) (pm_cons (pm_var (pv 1)) (pm_nil)))) (gm_tup rfl (gm_cons (pg_name (i := 0) sc_shows_preload.nd rfl (Or.inl rfl)) (gm_cons (pg_name (i := 1) sc_shows_preload.nd rfl (Or.inl rfl)) (gm_nil)))))
    (sm_one (sm_ret (pm_and (pm_call (ok_is_preload T) (hr.mono (by decide)) (by rfl) (T.gl "is_preload" (by simp [glos])) (T.kp 14 rfl) (b_is_preload T) pass0 (pm_cons (pm_var (pv 0)) (pm_cons (pm_var (pv 2)) (pm_nil)))) (pm_one (pm_meth (c := 0) (pe_meth (pm_make (c := 0) (pe_make (T.mkr "Trial" (by simp [fa])) (ok_Trial___init__ T) (hr.mono (by decide)) (by rfl) (T.gl "Trial" (by simp [glos])) (b_Trial___init__ T) .nil pass0 (pm_cons (pm_var (pv 0)) (pm_nil)))) (T.cl "Trial" (by simp [fa])) (T.me "Trial" "gives_all" (by simp [fa])) (ok_Trial_gives_all T) (hr.mono (by decide)) (b_Trial_gives_all T) .nil pass0 (pm_cons (pm_var (pv 2)) (pm_cons (pm_var (pv 1)) (pm_nil)))) (hno_Trial_gives_all)))))))
noncomputable def vdL_shows_preload : Fe := mcall vL_looked (mcons (mvar 0) (mcons (mvar 1) (mnil)))
noncomputable def vL_shows_preload : Fn := fnV 3 3 vdL_shows_preload
theorem okL_shows_preload (T : Tx P K mg base) : FnOk P w K mg base (L2.CX P w) 11 (He.ga K "shows_preload") (T.fd 8) ["program", "wanted", "thing"] (spV (GG P w K) (cxL K) "name" vL_shows_preload) :=
  fn_okV (F := vdL_shows_preload) (T.df 8 dd_shows_preload rfl) sc_shows_preload (hb := fun cdv A outer s H E hr tk => rv_hd (rv_asg (ps_asg (rv_call (E0 := E) (okL_looked T) (hr.mono (by decide)) (by rfl) (T.gl "looked" (by simp [glos])) (T.kp 9 rfl) (b_looked T) (passes_call tk fun _ _ _ _ h => h) (fun _ _ _ h => h) (pm_cons (pm_var (pv 0)) (pm_cons (pm_var (pv 1)) (pm_nil)))) (gm_tup (G := GG P w K) rfl (gm_cons (pg_name (i := 0) sc_shows_preload.nd rfl (by first | exact Or.inl rfl | exact Or.inr rfl)) (gm_cons (pg_name (i := 1) sc_shows_preload.nd rfl (by first | exact Or.inl rfl | exact Or.inr rfl)) (gm_nil)))))))
noncomputable def vdU_shows_preload : Fe := mcall vU_looked (mcons (mvar 0) (mcons (mvar 1) (mnil)))
noncomputable def vU_shows_preload : Fn := fnV 3 3 vdU_shows_preload
theorem okU_shows_preload (T : Tx P K mg base) : FnOk P w K mg base (L2.CX P w) 11 (He.ga K "shows_preload") (T.fd 8) ["program", "wanted", "thing"] (spV (GG P w K) (cxU K) "number" vU_shows_preload) :=
  fn_okV (F := vdU_shows_preload) (T.df 8 dd_shows_preload rfl) sc_shows_preload (hb := fun cdv A outer s H E hr tk => rv_hd (rv_asg (ps_asg (rv_call (E0 := E) (okU_looked T) (hr.mono (by decide)) (by rfl) (T.gl "looked" (by simp [glos])) (T.kp 9 rfl) (b_looked T) (passes_call tk fun _ _ _ _ h => h) (fun _ _ _ h => h) (pm_cons (pm_var (pv 0)) (pm_cons (pm_var (pv 1)) (pm_nil)))) (gm_tup (G := GG P w K) rfl (gm_cons (pg_name (i := 0) sc_shows_preload.nd rfl (by first | exact Or.inl rfl | exact Or.inr rfl)) (gm_cons (pg_name (i := 1) sc_shows_preload.nd rfl (by first | exact Or.inl rfl | exact Or.inr rfl)) (gm_nil)))))))

def N__law_lists : List Str := ["_law_matter", "_law_bit"]
theorem sc__law_lists : FnScope ["_law_matter", "_law_bit"] ["_law_matter"] (defScope s__law_lists) := ⟨rfl, rfl, rfl, by decide +kernel, rfl, by decide +kernel, by decide +kernel⟩
theorem b__law_lists (T : Tx P K mg base) : Binds K (T.fd 20) ["_law_matter"] [] := FunD.bindsN (T.df 20 dd__law_lists rfl) fun _ _ _ _ _ _ us hl => match us, hl with | [_], _ => rfl
def b0__law_lists (m__law_lists : Nat → Fn) (d : Nat) : Fs :=
  sret (mif (mtst (misiT (mvar 0) [.list, .tuple])) (mlc (miS (mvar 0)) (.nm 1) (myes) (mcall (m__law_lists d) (mcons (mvar 1) (mnil))) [1]) (mvar 0))
def m__law_lists : Nat → Fn
  | 0 => fun _ _ => none
  | d + 1 => fnM 1 2 (b0__law_lists (fun _ => m__law_lists d) d)
theorem ok__law_lists (T : Tx P K mg base) : ∀ d : Nat, FnOk P w K mg base CX0 (d + 1) (He.ga K "_law_lists") (T.fd 20) ["_law_matter"] (spM (GG P w K) (m__law_lists d))
  | 0 => fn_none
  | d + 1 => fn_okD (T.df 20 dd__law_lists rfl) sc__law_lists (hb := fun cdv A outer s H E hr => sm_one (sm_ret (pm_if (pm_tst (pm_isiT (pm_var (pv 0)) (py_cons (t := .list) (pe_bltn (by rfl) (T.fr "list" (by simp [frees])) bb_list rfl) (py_cons (t := .tuple) (pe_bltn (by rfl) (T.fr "tuple" (by simp [frees])) bb_tuple rfl) (py_nil))) (by rfl) (T.fr "isinstance" (by simp [frees])))) (pm_lc (own := [("_law_bit", 1)]) rfl sc__law_lists.nd (im_seq (pm_var (pv 0))) (blkOk_by (own := [("_law_bit", 1)]) (N := N__law_lists) (sc := defScope s__law_lists) (by decide +kernel)) (fun _ _ _ _ _ => gm_name (pg_name (i := 1) sc__law_lists.nd rfl (Or.inl rfl))) (fun _ _ _ _ _ => tm_nil) (fun _ _ _ _ _ => pm_call (ok__law_lists T d) hr (by rfl) (T.gl "_law_lists" (by simp [glos])) (T.kp 20 rfl) (b__law_lists T) pass0 (pm_cons (pm_var (pv 1)) (pm_nil)))) (pm_var (pv 0)))))
def N__law_same : List Str := ["_law_found", "_law_due", "_law_mine", "_law_its"]
theorem sc__law_same : FnScope ["_law_found", "_law_due", "_law_mine", "_law_its"] ["_law_found", "_law_due"] (defScope s__law_same) := ⟨rfl, rfl, rfl, by decide +kernel, rfl, by decide +kernel, by decide +kernel⟩
theorem b__law_same (T : Tx P K mg base) : Binds K (T.fd 21) ["_law_found", "_law_due"] [] := FunD.bindsN (T.df 21 dd__law_same rfl) fun _ _ _ _ _ _ us hl => match us, hl with | [_, _], _ => rfl
def b0__law_same (m__law_same : Nat → Fn) (d : Nat) : Fs :=
  sseq (sif (mtst (misiT (mvar 1) [.list, .tuple])) (sseq (sif (mtB (mop2 neW (mcall isiW (mcons (mvar 0) (mcons (mcon (.ty .list)) mnil))) (mcall isiW (mcons (mvar 1) (mcons (mcon (.ty .list)) mnil))))) (sret (mcon (.bl false))) (snx))
  (sseq (sif (mtB (mop2 neW (mcall isiW (mcons (mvar 0) (mcons (mcon (.ty .tuple)) mnil))) (mcall isiW (mcons (mvar 1) (mcons (mcon (.ty .tuple)) mnil))))) (sret (mcon (.bl false))) (snx))
  (sret (mandV (mop2 eqW (mcall lenW (mcons (mvar 0) (mnil))) (mcall lenW (mcons (mvar 1) (mnil)))) (mcall allW (mcons (mlc (miZ (mcons (mvar 0) (mcons (mvar 1) (mnil)))) (.tp [2, 3]) (myes) (mcall (m__law_same d) (mcons (mvar 2) (mcons (mvar 3) (mnil)))) [2, 3]) (mnil))))))) (snx))
  (sseq (sif (mor (mtB (mop2 (isW false) (mvar 1) (mcon .non))) (mtst (misiT (mvar 1) [.bool, .str]))) (sret (mandV (mop2 eqW (mvar 0) (mvar 1)) (mandV (mop2 eqW (mcall isiW (mcons (mvar 0) (mcons (mcon (.ty .bool)) mnil))) (mcall isiW (mcons (mvar 1) (mcons (mcon (.ty .bool)) mnil)))) (mop2 eqW (mop2 (isW false) (mvar 0) (mcon .non)) (mop2 (isW false) (mvar 1) (mcon .non)))))) (snx))
  (sret (mandV (mcall isiW (mcons (mvar 0) (mcons (mcon (.ty .int)) mnil))) (mandV (mnotV (mcall isiW (mcons (mvar 0) (mcons (mcon (.ty .bool)) mnil)))) (mop2 eqW (mvar 0) (mvar 1))))))
def m__law_same : Nat → Fn
  | 0 => fun _ _ => none
  | d + 1 => fnM 2 4 (b0__law_same (fun _ => m__law_same d) d)
theorem ok__law_same (T : Tx P K mg base) : ∀ d : Nat, FnOk P w K mg base CX0 (d + 1) (He.ga K "_law_same") (T.fd 21) ["_law_found", "_law_due"] (spM (GG P w K) (m__law_same d))
  | 0 => fn_none
  | d + 1 => fn_okD (T.df 21 dd__law_same rfl) sc__law_same (hb := fun cdv A outer s H E hr => sm_cons (sm_if (pm_tst (pm_isiT (pm_var (pv 1)) (py_cons (t := .list) (pe_bltn (by rfl) (T.fr "list" (by simp [frees])) bb_list rfl) (py_cons (t := .tuple) (pe_bltn (by rfl) (T.fr "tuple" (by simp [frees])) bb_tuple rfl) (py_nil))) (by rfl) (T.fr "isinstance" (by simp [frees])))) (sm_cons (sm_if (pm_tcmp (om_ne hr.units) (pm_cB cm_isi (by rfl) (T.fr "isinstance" (by simp [frees])) bb_isinstance (pm_cons (pm_var (pv 0)) (pm_cons (pm_con (v := .ty "list") (pe_bltn (by rfl) (T.fr "list" (by simp [frees])) bb_list rfl) (fun _ _ _ _ => .ty .list)) pm_nil))) (pm_cB cm_isi (by rfl) (T.fr "isinstance" (by simp [frees])) bb_isinstance (pm_cons (pm_var (pv 1)) (pm_cons (pm_con (v := .ty "list") (pe_bltn (by rfl) (T.fr "list" (by simp [frees])) bb_list rfl) (fun _ _ _ _ => .ty .list)) pm_nil))) (nomark _)) (sm_one (sm_ret (pm_bl))) (sm_nil))
    (sm_cons (sm_if (pm_tcmp (om_ne hr.units) (pm_cB cm_isi (by rfl) (T.fr "isinstance" (by simp [frees])) bb_isinstance (pm_cons (pm_var (pv 0)) (pm_cons (pm_con (v := .ty "tuple") (pe_bltn (by rfl) (T.fr "tuple" (by simp [frees])) bb_tuple rfl) (fun _ _ _ _ => .ty .tuple)) pm_nil))) (pm_cB cm_isi (by rfl) (T.fr "isinstance" (by simp [frees])) bb_isinstance (pm_cons (pm_var (pv 1)) (pm_cons (pm_con (v := .ty "tuple") (pe_bltn (by rfl) (T.fr "tuple" (by simp [frees])) bb_tuple rfl) (fun _ _ _ _ => .ty .tuple)) pm_nil))) (nomark _)) (sm_one (sm_ret (pm_bl))) (sm_nil))
    (sm_one (sm_ret (pm_and (pm_cmp (om_eq hr.units) (pm_cB cm_len (by rfl) (T.fr "len" (by simp [frees])) bb_len (pm_cons (pm_var (pv 0)) (pm_nil))) (pm_cB cm_len (by rfl) (T.fr "len" (by simp [frees])) bb_len (pm_cons (pm_var (pv 1)) (pm_nil))) (nomark _)) (pm_one (pm_cB cm_all (by rfl) (T.fr "all" (by simp [frees])) bb_all (pm_cons (pm_lc (own := [("_law_mine", 2), ("_law_its", 3)]) rfl sc__law_same.nd (im_zip (by rfl) (T.fr "zip" (by simp [frees])) (pm_cons (pm_var (pv 0)) (pm_cons (pm_var (pv 1)) (pm_nil)))) (blkOk_by (own := [("_law_mine", 2), ("_law_its", 3)]) (N := N__law_same) (sc := defScope s__law_same) (by decide +kernel)) (fun _ _ _ _ _ => gm_tup rfl (gm_cons (pg_name (i := 2) sc__law_same.nd rfl (Or.inl rfl)) (gm_cons (pg_name (i := 3) sc__law_same.nd rfl (Or.inl rfl)) (gm_nil)))) (fun _ _ _ _ _ => tm_nil) (fun _ _ _ _ _ => pm_call (ok__law_same T d) hr (by rfl) (T.gl "_law_same" (by simp [glos])) (T.kp 21 rfl) (b__law_same T) pass0 (pm_cons (pm_var (pv 2)) (pm_cons (pm_var (pv 3)) (pm_nil))))) (pm_nil))))))))) (sm_nil))
    (sm_cons (sm_if (PW.pt (pm_wor (pm_tcmp (om_is) (pm_var (pv 1)) (pm_non) (nomark _)) (pm_wor1 (pm_tst (pm_isiT (pm_var (pv 1)) (py_cons (t := .bool) (pe_bltn (by rfl) (T.fr "bool" (by simp [frees])) bb_bool rfl) (py_cons (t := .str) (pe_bltn (by rfl) (T.fr "str" (by simp [frees])) bb_str rfl) (py_nil))) (by rfl) (T.fr "isinstance" (by simp [frees]))))))) (sm_one (sm_ret (pm_and (pm_cmp (om_eq hr.units) (pm_var (pv 0)) (pm_var (pv 1)) (nomark _)) (pm_and (pm_cmp (om_eq hr.units) (pm_cB cm_isi (by rfl) (T.fr "isinstance" (by simp [frees])) bb_isinstance (pm_cons (pm_var (pv 0)) (pm_cons (pm_con (v := .ty "bool") (pe_bltn (by rfl) (T.fr "bool" (by simp [frees])) bb_bool rfl) (fun _ _ _ _ => .ty .bool)) pm_nil))) (pm_cB cm_isi (by rfl) (T.fr "isinstance" (by simp [frees])) bb_isinstance (pm_cons (pm_var (pv 1)) (pm_cons (pm_con (v := .ty "bool") (pe_bltn (by rfl) (T.fr "bool" (by simp [frees])) bb_bool rfl) (fun _ _ _ _ => .ty .bool)) pm_nil))) (nomark _)) (pm_one (pm_cmp (om_eq hr.units) (pm_cmp (om_is) (pm_var (pv 0)) (pm_non) (nomark _)) (pm_cmp (om_is) (pm_var (pv 1)) (pm_non) (nomark _)) (nomark _))))))) (sm_nil))
    (sm_one (sm_ret (pm_and (pm_cB cm_isi (by rfl) (T.fr "isinstance" (by simp [frees])) bb_isinstance (pm_cons (pm_var (pv 0)) (pm_cons (pm_con (v := .ty "int") (pe_bltn (by rfl) (T.fr "int" (by simp [frees])) bb_int rfl) (fun _ _ _ _ => .ty .int)) pm_nil))) (pm_and (pm_not (pm_cB cm_isi (by rfl) (T.fr "isinstance" (by simp [frees])) bb_isinstance (pm_cons (pm_var (pv 0)) (pm_cons (pm_con (v := .ty "bool") (pe_bltn (by rfl) (T.fr "bool" (by simp [frees])) bb_bool rfl) (fun _ _ _ _ => .ty .bool)) pm_nil)))) (pm_one (pm_cmp (om_eq hr.units) (pm_var (pv 0)) (pm_var (pv 1)) (nomark _)))))))))
def N__law_calls : List Str := ["_law_prog", "_law_found", "_law_own", "_law_i"]
theorem sc__law_calls : FnScope ["_law_prog", "_law_found", "_law_own", "_law_i"] ["_law_prog"] (defScope s__law_calls) := ⟨rfl, rfl, rfl, by decide +kernel, rfl, by decide +kernel, by decide +kernel⟩
theorem b__law_calls (T : Tx P K mg base) : Binds K (T.fd 24) ["_law_prog"] [] := FunD.bindsN (T.df 24 dd__law_calls rfl) fun _ _ _ _ _ _ us hl => match us, hl with | [_], _ => rfl
def bd__law_calls : Fs :=
  sseq (sset 1 (mlst (mnil)))
  (sseq (sfor (miS (mop2 ixA (mvar 0) (mcon (.int 0)))) (.nm 2) (sset 1 (mop2 addW (mvar 1) (mlc (miR1 (mcons (mcall lenW (mcons (mop2 ixA (mvar 2) (mcon (.int 3))) (mnil))) (mnil))) (.nm 3) (myes) (mtup (mcons (mop2 ixA (mvar 2) (mcon (.int 0))) (mcons (mvar 3) (mnil)))) [3]))))
  (sret (mvar 1)))
def m__law_calls : Fn := fnM 1 4 bd__law_calls
theorem ok__law_calls (T : Tx P K mg base) : FnOk P w K mg base CX0 1 (He.ga K "_law_calls") (T.fd 24) ["_law_prog"] (spM (GG P w K) m__law_calls) :=
  fn_okD (B := bd__law_calls) (T.df 24 dd__law_calls rfl) sc__law_calls (hb := fun cdv A outer s H E hr => sm_cons (sm_set (ps_set (i := 1) sc__law_calls.nd rfl (Or.inl rfl) (pm_lst (pm_nil))))
    (sm_cons (sm_for' PassesOwn.never rfl (im_seq (pm_ixA hr.units (pm_var (pv 0)) (pm_int))) (gm_name (pg_name (i := 2) sc__law_calls.nd rfl (Or.inr rfl))) (sm_one (sm_set (ps_set (i := 1) sc__law_calls.nd rfl (Or.inl rfl) (pm_bin om_add (pm_var (pv 1)) (pm_lc (own := [("_law_i", 3)]) rfl sc__law_calls.nd (im_range1 (by rfl) (T.fr "range" (by simp [frees])) (pm_cons (pm_cB cm_len (by rfl) (T.fr "len" (by simp [frees])) bb_len (pm_cons (pm_ixA hr.units (pm_var (pv 2)) (pm_int)) (pm_nil))) (pm_nil))) (blkOk_by (own := [("_law_i", 3)]) (N := N__law_calls) (sc := defScope s__law_calls) (by decide +kernel)) (fun _ _ _ _ _ => gm_name (pg_name (i := 3) sc__law_calls.nd rfl (Or.inl rfl))) (fun _ _ _ _ _ => tm_nil) (fun _ _ _ _ _ => pm_tup (pm_cons (pm_ixA hr.units (pm_var (pv 2)) (pm_int)) (pm_cons (pm_var (pv 3)) (pm_nil))))))))))
    (sm_one (sm_ret (pm_var (pv 1))))))
def N__law_lib : List Str := ["_law_prog", "_law_who", "_law_own"]
theorem sc__law_lib : FnScope ["_law_prog", "_law_who", "_law_own"] ["_law_prog", "_law_who"] (defScope s__law_lib) := ⟨rfl, rfl, rfl, by decide +kernel, rfl, by decide +kernel, by decide +kernel⟩
theorem b__law_lib (T : Tx P K mg base) : Binds K (T.fd 25) ["_law_prog", "_law_who"] [] := FunD.bindsN (T.df 25 dd__law_lib rfl) fun _ _ _ _ _ _ us hl => match us, hl with | [_, _], _ => rfl
def bd__law_lib : Fs :=
  sret (mop2 ixA (mlc (miS (mop2 ixA (mvar 0) (mcon (.int 0)))) (.nm 2) (mtB (mop2 eqW (mop2 ixA (mvar 2) (mcon (.int 0))) (mvar 1))) (mvar 2) [2]) (mcon (.int 0)))
def m__law_lib : Fn := fnM 2 3 bd__law_lib
theorem ok__law_lib (T : Tx P K mg base) : FnOk P w K mg base CX0 1 (He.ga K "_law_lib") (T.fd 25) ["_law_prog", "_law_who"] (spM (GG P w K) m__law_lib) :=
  fn_okD (B := bd__law_lib) (T.df 25 dd__law_lib rfl) sc__law_lib (hb := fun cdv A outer s H E hr => sm_one (sm_ret (pm_ixA hr.units (pm_lc (own := [("_law_own", 2)]) rfl sc__law_lib.nd (im_seq (pm_ixA hr.units (pm_var (pv 0)) (pm_int))) (blkOk_by (own := [("_law_own", 2)]) (N := N__law_lib) (sc := defScope s__law_lib) (by decide +kernel)) (fun _ _ _ _ _ => gm_name (pg_name (i := 2) sc__law_lib.nd rfl (Or.inl rfl))) (fun _ _ _ _ _ => tm_one (pm_tcmp (om_eq hr.units) (pm_ixA hr.units (pm_var (pv 2)) (pm_int)) (pm_var (pv 1)) (nomark _))) (fun _ _ _ _ _ => pm_var (pv 2))) (pm_int))))
def N__law_gives : List Str := ["_law_prog", "_law_who", "_law_use", "_law_some", "_law_exact", "_law_own"]
theorem sc__law_gives : FnScope ["_law_prog", "_law_who", "_law_use", "_law_some", "_law_exact", "_law_own"] ["_law_prog", "_law_who", "_law_use"] (defScope s__law_gives) := ⟨rfl, rfl, rfl, by decide +kernel, rfl, by decide +kernel, by decide +kernel⟩
theorem b__law_gives (T : Tx P K mg base) : Binds K (T.fd 26) ["_law_prog", "_law_who", "_law_use"] [] := FunD.bindsN (T.df 26 dd__law_gives rfl) fun _ _ _ _ _ _ us hl => match us, hl with | [_, _, _], _ => rfl
def bd__law_gives : Fs :=
  sseq (sset 3 (mlc (miS (mop2 ixA (mcall m__law_lib (mcons (mvar 0) (mcons (mvar 1) (mnil)))) (mcon (.int 2)))) (.nm 5) (mand (mtB (mop2 eqW (mop2 ixA (mvar 5) (mcon (.int 0))) (mop2 ixA (mvar 2) (mcon (.int 0))))) (mor (mtB (mop2 inA (mop2 ixA (mvar 5) (mcon (.int 1))) (mtup (mcons (mcon (.str x_)) (mcons (mop2 ixA (mvar 2) (mcon (.int 1))) (mnil)))))) (mtB (mop2 eqW (mop2 ixA (mvar 2) (mcon (.int 1))) (mcon (.str x_)))))) (mvar 5) [5]))
  (sseq (sset 4 (mlc (miS (mvar 3)) (.nm 5) (mtB (mop2 eqW (mop2 ixA (mvar 5) (mcon (.int 1))) (mop2 ixA (mvar 2) (mcon (.int 1))))) (mvar 5) [5]))
  (sret (mif (mtB (mop2 neW (mvar 3) (mlst (mnil)))) (mop2 ixA (mop2 ixA (mop2 addW (mvar 4) (mvar 3)) (mcon (.int 0))) (mcon (.int 1))) (mcon .non))))
def m__law_gives : Fn := fnM 3 6 bd__law_gives
theorem ok__law_gives (T : Tx P K mg base) : FnOk P w K mg base CX0 2 (He.ga K "_law_gives") (T.fd 26) ["_law_prog", "_law_who", "_law_use"] (spM (GG P w K) m__law_gives) :=
  fn_okD (B := bd__law_gives) (T.df 26 dd__law_gives rfl) sc__law_gives (hb := fun cdv A outer s H E hr => sm_cons (sm_setLc (i := 3) (own := [("_law_own", 5)]) rfl sc__law_gives.nd rfl rfl (sw_true rfl rfl rfl (by decide +kernel)) (im_seq (pm_ixA hr.units (pm_call (ok__law_lib T) (hr.mono (by decide)) (by rfl) (T.gl "_law_lib" (by simp [glos])) (T.kp 25 rfl) (b__law_lib T) pass0 (pm_cons (pm_var (pv 0)) (pm_cons (pm_var (pv 1)) (pm_nil)))) (pm_int))) (blkOk_by (own := [("_law_own", 5)]) (N := N__law_gives) (sc := defScope s__law_gives) (by decide +kernel)) (fun _ _ _ _ _ => gm_name (pg_name (i := 5) sc__law_gives.nd rfl (Or.inl rfl))) (fun _ _ _ _ _ => tm_one (PW.pt (pm_wand (pm_tcmp (om_eq hr.units) (pm_ixA hr.units (pm_var (pv 5)) (pm_int)) (pm_ixA hr.units (pm_var (pv 2)) (pm_int)) (nomark _)) (pm_wand1 (PW.pt (pm_wor (pm_tcmp (om_inA (u65 hr)) (pm_ixA hr.units (pm_var (pv 5)) (pm_int)) (pm_tup (pm_cons (pm_str e_x_) (pm_cons (pm_ixA hr.units (pm_var (pv 2)) (pm_int)) (pm_nil)))) (by rfl)) (pm_wor1 (pm_tcmp (om_eq hr.units) (pm_ixA hr.units (pm_var (pv 2)) (pm_int)) (pm_str e_x_) (nomark _))))))))) (fun _ _ _ _ _ => pm_var (pv 5)))
    (sm_cons (sm_setLc (i := 4) (own := [("_law_own", 5)]) rfl sc__law_gives.nd rfl rfl (sw_true rfl rfl rfl (by decide +kernel)) (im_seq (pm_var (pv 3))) (blkOk_by (own := [("_law_own", 5)]) (N := N__law_gives) (sc := defScope s__law_gives) (by decide +kernel)) (fun _ _ _ _ _ => gm_name (pg_name (i := 5) sc__law_gives.nd rfl (Or.inl rfl))) (fun _ _ _ _ _ => tm_one (pm_tcmp (om_eq hr.units) (pm_ixA hr.units (pm_var (pv 5)) (pm_int)) (pm_ixA hr.units (pm_var (pv 2)) (pm_int)) (nomark _))) (fun _ _ _ _ _ => pm_var (pv 5)))
    (sm_one (sm_ret (pm_if (pm_tcmp (om_ne hr.units) (pm_var (pv 3)) (pm_lst (pm_nil)) (nomark _)) (pm_ixA hr.units (pm_ixA hr.units (pm_bin om_add (pm_var (pv 4)) (pm_var (pv 3))) (pm_int)) (pm_int)) (pm_non))))))
def N__law_wish : List Str := ["_law_box_here", "_law_prog", "_law_calls_here", "_law_who", "_law_i", "_law_use", "_law_way", "_law_some", "_law_own"]
theorem sc__law_wish : FnScope ["_law_box_here", "_law_prog", "_law_calls_here", "_law_who", "_law_i", "_law_use", "_law_way", "_law_some", "_law_own"] ["_law_box_here", "_law_prog"] (defScope s__law_wish) := ⟨rfl, rfl, rfl, by decide +kernel, rfl, by decide +kernel, by decide +kernel⟩
theorem b__law_wish (T : Tx P K mg base) : Binds K (T.fd 23) ["_law_box_here", "_law_prog"] [] := FunD.bindsN (T.df 23 dd__law_wish rfl) fun _ _ _ _ _ _ us hl => match us, hl with | [_, _], _ => rfl
def bd__law_wish : Fs :=
  sseq (sset 2 (mcall m__law_calls (mcons (mvar 1) (mnil))))
  (sseq (sasg (mcall m__law_of (mcons (mvar 0) (mcons (mvar 2) (mnil)))) (.tp [3, 4]))
  (sseq (sasg (mtup (mcons (mop2 ixA (mop2 ixA (mcall m__law_lib (mcons (mvar 1) (mcons (mvar 3) (mnil)))) (mcon (.int 3))) (mvar 4)) (mcons (mcall m__law_take (mcons (mvar 0) (mcons (mcon (.int 9)) (mnil)))) (mnil)))) (.tp [5, 6]))
  (sseq (sset 7 (mlc (miS (mop2 ixA (mvar 1) (mcon (.int 0)))) (.nm 8) (myes) (mtup (mcons (mcon (.str x_bound)) (mcons (mop2 ixA (mvar 8) (mcon (.int 0))) (mcons (mcall m__law_gives (mcons (mvar 1) (mcons (mop2 ixA (mvar 8) (mcon (.int 0))) (mcons (mvar 5) (mnil))))) (mnil))))) [8]))
  (sseq (sset 7 (mlc (miS (mvar 7)) (.nm 8) (mtB (mop2 (isW true) (mop2 ixA (mvar 8) (mcon (.int 2))) (mcon .non))) (mvar 8) [8]))
  (sseq (sif (mand (mtB (mop2 neW (mvar 7) (mlst (mnil)))) (mtB (mop2 ltW (mvar 6) (mcon (.int 7))))) (sret (mtup (mcons (mvar 3) (mcons (mvar 4) (mcons (mcall m__law_of (mcons (mvar 0) (mcons (mvar 7) (mnil)))) (mnil)))))) (snx))
  (sseq (sif (mtB (mop2 eqW (mvar 6) (mcon (.int 7)))) (sret (mtup (mcons (mvar 3) (mcons (mvar 4) (mcons (mtup (mcons (mcon (.str x_bound)) (mcons (mcall m__law_of (mcons (mvar 0) (mcons (mlst (mcons (mcon (.str x_a)) (mcons (mcon (.str x_main)) (mcons (mcon (.str x_nowhere)) (mnil))))) (mnil)))) (mcons (mcall m__law_of (mcons (mvar 0) (mcons (mlst (mcons (mcon (.str x_)) (mcons (mcon (.str x_one)) (mnil)))) (mnil)))) (mnil))))) (mnil)))))) (snx))
  (sret (mtup (mcons (mvar 3) (mcons (mvar 4) (mcons (mif (mtst (mop2 ixA (mvar 5) (mcon (.int 2)))) (mtup (mcons (mcon (.str x_nobody)) (mnil))) (mtup (mcons (mcon (.str x_lost)) (mnil)))) (mnil))))))))))))
def m__law_wish : Fn := fnM 2 9 bd__law_wish
theorem ok__law_wish (T : Tx P K mg base) : FnOk P w K mg base CX0 3 (He.ga K "_law_wish") (T.fd 23) ["_law_box_here", "_law_prog"] (spM (GG P w K) m__law_wish) :=
  fn_okD (B := bd__law_wish) (T.df 23 dd__law_wish rfl) sc__law_wish (hb := fun cdv A outer s H E hr => sm_cons (sm_set (ps_set (i := 2) sc__law_wish.nd rfl (Or.inl rfl) (pm_call (ok__law_calls T) (hr.mono (by decide)) (by rfl) (T.gl "_law_calls" (by simp [glos])) (T.kp 24 rfl) (b__law_calls T) pass0 (pm_cons (pm_var (pv 1)) (pm_nil)))))
    (sm_cons (sm_asg (pm_call (ok__law_of T) (hr.mono (by decide)) (by rfl) (T.gl "_law_of" (by simp [glos])) (T.kp 6 rfl) (b__law_of T) pass0 (pm_cons (pm_var (pv 0)) (pm_cons (pm_var (pv 2)) (pm_nil)))) (gm_tup rfl (gm_cons (pg_name (i := 3) sc__law_wish.nd rfl (Or.inl rfl)) (gm_cons (pg_name (i := 4) sc__law_wish.nd rfl (Or.inl rfl)) (gm_nil)))))
    (sm_cons (sm_asg (pm_tup (pm_cons (pm_ixA hr.units (pm_ixA hr.units (pm_call (ok__law_lib T) (hr.mono (by decide)) (by rfl) (T.gl "_law_lib" (by simp [glos])) (T.kp 25 rfl) (b__law_lib T) pass0 (pm_cons (pm_var (pv 1)) (pm_cons (pm_var (pv 3)) (pm_nil)))) (pm_int)) (pm_var (pv 4))) (pm_cons (pm_call (ok__law_take T) (hr.mono (by decide)) (by rfl) (T.gl "_law_take" (by simp [glos])) (T.kp 5 rfl) (b__law_take T) pass0 (pm_cons (pm_var (pv 0)) (pm_cons (pm_int) (pm_nil)))) (pm_nil)))) (gm_tup rfl (gm_cons (pg_name (i := 5) sc__law_wish.nd rfl (Or.inr rfl)) (gm_cons (pg_name (i := 6) sc__law_wish.nd rfl (Or.inl rfl)) (gm_nil)))))
    (sm_cons (sm_setLc (i := 7) (own := [("_law_own", 8)]) rfl sc__law_wish.nd rfl rfl (sw_true rfl rfl rfl (by decide +kernel)) (im_seq (pm_ixA hr.units (pm_var (pv 1)) (pm_int))) (blkOk_by (own := [("_law_own", 8)]) (N := N__law_wish) (sc := defScope s__law_wish) (by decide +kernel)) (fun _ _ _ _ _ => gm_name (pg_name (i := 8) sc__law_wish.nd rfl (Or.inl rfl))) (fun _ _ _ _ _ => tm_nil) (fun _ _ _ _ _ => pm_tup (pm_cons (pm_str e_x_bound) (pm_cons (pm_ixA hr.units (pm_var (pv 8)) (pm_int)) (pm_cons (pm_call (ok__law_gives T) (hr.mono (by decide)) (by rfl) (T.gl "_law_gives" (by simp [glos])) (T.kp 26 rfl) (b__law_gives T) pass0 (pm_cons (pm_var (pv 1)) (pm_cons (pm_ixA hr.units (pm_var (pv 8)) (pm_int)) (pm_cons (pm_var (pv 5)) (pm_nil))))) (pm_nil))))))
    (sm_cons (sm_setLc (i := 7) (own := [("_law_own", 8)]) rfl sc__law_wish.nd rfl rfl (sw_true rfl rfl rfl (by decide +kernel)) (im_seq (pm_var (pv 7))) (blkOk_by (own := [("_law_own", 8)]) (N := N__law_wish) (sc := defScope s__law_wish) (by decide +kernel)) (fun _ _ _ _ _ => gm_name (pg_name (i := 8) sc__law_wish.nd rfl (Or.inl rfl))) (fun _ _ _ _ _ => tm_one (pm_tcmp (om_isnot) (pm_ixA hr.units (pm_var (pv 8)) (pm_int)) (pm_non) (nomark _))) (fun _ _ _ _ _ => pm_var (pv 8)))
    (sm_cons (sm_if (PW.pt (pm_wand (pm_tcmp (om_ne hr.units) (pm_var (pv 7)) (pm_lst (pm_nil)) (nomark _)) (pm_wand1 (pm_tcmp (om_lt) (pm_var (pv 6)) (pm_int) (nomark _))))) (sm_one (sm_ret (pm_tup (pm_cons (pm_var (pv 3)) (pm_cons (pm_var (pv 4)) (pm_cons (pm_call (ok__law_of T) (hr.mono (by decide)) (by rfl) (T.gl "_law_of" (by simp [glos])) (T.kp 6 rfl) (b__law_of T) pass0 (pm_cons (pm_var (pv 0)) (pm_cons (pm_var (pv 7)) (pm_nil)))) (pm_nil))))))) (sm_nil))
    (sm_cons (sm_if (pm_tcmp (om_eq hr.units) (pm_var (pv 6)) (pm_int) (nomark _)) (sm_one (sm_ret (pm_tup (pm_cons (pm_var (pv 3)) (pm_cons (pm_var (pv 4)) (pm_cons (pm_tup (pm_cons (pm_str e_x_bound) (pm_cons (pm_call (ok__law_of T) (hr.mono (by decide)) (by rfl) (T.gl "_law_of" (by simp [glos])) (T.kp 6 rfl) (b__law_of T) pass0 (pm_cons (pm_var (pv 0)) (pm_cons (pm_lst (pm_cons (pm_str e_x_a) (pm_cons (pm_str e_x_main) (pm_cons (pm_str e_x_nowhere) (pm_nil))))) (pm_nil)))) (pm_cons (pm_call (ok__law_of T) (hr.mono (by decide)) (by rfl) (T.gl "_law_of" (by simp [glos])) (T.kp 6 rfl) (b__law_of T) pass0 (pm_cons (pm_var (pv 0)) (pm_cons (pm_lst (pm_cons (pm_str e_x_) (pm_cons (pm_str e_x_one) (pm_nil)))) (pm_nil)))) (pm_nil))))) (pm_nil))))))) (sm_nil))
    (sm_one (sm_ret (pm_tup (pm_cons (pm_var (pv 3)) (pm_cons (pm_var (pv 4)) (pm_cons (pm_if (pm_tst (pm_ixA hr.units (pm_var (pv 5)) (pm_int))) (pm_tup (pm_cons (pm_str e_x_nobody) (pm_nil))) (pm_tup (pm_cons (pm_str e_x_lost) (pm_nil)))) (pm_nil))))))))))))))
def N__law_wishes : List Str := ["_law_box_here", "_law_prog", "_law_most", "_law_found", "_law_turn", "_law_own", "_law_mate"]
theorem sc__law_wishes : FnScope ["_law_box_here", "_law_prog", "_law_most", "_law_found", "_law_turn", "_law_own", "_law_mate"] ["_law_box_here", "_law_prog", "_law_most"] (defScope s__law_wishes) := ⟨rfl, rfl, rfl, by decide +kernel, rfl, by decide +kernel, by decide +kernel⟩
theorem b__law_wishes (T : Tx P K mg base) : Binds K (T.fd 22) ["_law_box_here", "_law_prog", "_law_most"] [] := FunD.bindsN (T.df 22 dd__law_wishes rfl) fun _ _ _ _ _ _ us hl => match us, hl with | [_, _, _], _ => rfl
def bd__law_wishes : Fs :=
  sseq (sset 3 (mlst (mnil)))
  (sseq (sfor (miR1 (mcons (mop2 addW (mcon (.int 1)) (mcall m__law_take (mcons (mvar 0) (mcons (mvar 2) (mnil))))) (mnil))) (.nm 4) (sseq (sset 5 (mcall m__law_wish (mcons (mvar 0) (mcons (mvar 1) (mnil)))))
  (sif (mtB (mop2 ninA (mslice (mvar 5) (onone) (osome (mcon (.int 2)))) (mlc (miS (mvar 3)) (.nm 6) (myes) (mslice (mvar 6) (onone) (osome (mcon (.int 2)))) [6]))) (sexp (mbmL appW (mvar 3) (mcons (mvar 5) (mnil)))) (snx))))
  (sret (mcall tupleW (mcons (mvar 3) (mnil)))))
def m__law_wishes : Fn := fnM 3 7 bd__law_wishes
theorem ok__law_wishes (T : Tx P K mg base) : FnOk P w K mg base CX0 4 (He.ga K "_law_wishes") (T.fd 22) ["_law_box_here", "_law_prog", "_law_most"] (spM (GG P w K) m__law_wishes) :=
  fn_okD (B := bd__law_wishes) (T.df 22 dd__law_wishes rfl) sc__law_wishes (hb := fun cdv A outer s H E hr => sm_cons (sm_set (ps_set (i := 3) sc__law_wishes.nd rfl (Or.inl rfl) (pm_lst (pm_nil))))
    (sm_cons (sm_for' PassesOwn.never rfl (im_range1 (by rfl) (T.fr "range" (by simp [frees])) (pm_cons (pm_bin om_add (pm_int) (pm_call (ok__law_take T) (hr.mono (by decide)) (by rfl) (T.gl "_law_take" (by simp [glos])) (T.kp 5 rfl) (b__law_take T) pass0 (pm_cons (pm_var (pv 0)) (pm_cons (pm_var (pv 2)) (pm_nil))))) (pm_nil))) (gm_name (pg_name (i := 4) sc__law_wishes.nd rfl (Or.inl rfl))) (sm_cons (sm_set (ps_set (i := 5) sc__law_wishes.nd rfl (Or.inl rfl) (pm_call (ok__law_wish T) (hr.mono (by decide)) (by rfl) (T.gl "_law_wish" (by simp [glos])) (T.kp 23 rfl) (b__law_wish T) pass0 (pm_cons (pm_var (pv 0)) (pm_cons (pm_var (pv 1)) (pm_nil))))))
    (sm_one (sm_if (pm_tcmp (om_ninA (u65 hr)) (pm_slice (pm_var (pv 5)) (om_none) (om_some (pm_int))) (pm_lc (own := [("_law_mate", 6)]) rfl sc__law_wishes.nd (im_seq (pm_var (pv 3))) (blkOk_by (own := [("_law_mate", 6)]) (N := N__law_wishes) (sc := defScope s__law_wishes) (by decide +kernel)) (fun _ _ _ _ _ => gm_name (pg_name (i := 6) sc__law_wishes.nd rfl (Or.inl rfl))) (fun _ _ _ _ _ => tm_nil) (fun _ _ _ _ _ => pm_slice (pm_var (pv 6)) (om_none) (om_some (pm_int)))) (by rfl)) (sm_one (sm_exp (pm_bmL lm_app (pe_bm PySem.F.plainAttrs_list PySem.F.slot_list_append PySem.F.type_list_append mt_append (pm_var (pv 3)) (pm_cons (pm_var (pv 5)) (pm_nil)))))) (sm_nil)))))
    (sm_one (sm_ret (pm_cT cm_tuple (by rfl) (T.fr "tuple" (by simp [frees])) bb_tuple (pm_cons (pm_var (pv 3)) (pm_nil)))))))
theorem sc_gives_all : FnScope ["program", "wanted"] ["program", "wanted"] (defScope s_gives_all) := ⟨rfl, rfl, rfl, by decide +kernel, rfl, by decide +kernel, by decide +kernel⟩
theorem b_gives_all (T : Tx P K mg base) : Binds K (T.fd 28) ["program", "wanted"] [] := FunD.bindsN (T.df 28 dd_gives_all rfl) fun _ _ _ _ _ _ us hl => match us, hl with | [_, _], _ => rfl
noncomputable def vdL_gives_all : Fe := mcall vL_looked (mcons (mvar 0) (mcons (mvar 1) (mnil)))
noncomputable def vL_gives_all : Fn := fnV 2 2 vdL_gives_all
theorem okL_gives_all (T : Tx P K mg base) : FnOk P w K mg base (L2.CX P w) 11 (He.ga K "gives_all") (T.fd 28) ["program", "wanted"] (spV (GG P w K) (cxL K) "name" vL_gives_all) :=
  fn_okV (F := vdL_gives_all) (T.df 28 dd_gives_all rfl) sc_gives_all (hb := fun cdv A outer s H E hr tk => rv_hd (rv_asg (ps_asg (rv_call (E0 := E) (okL_looked T) (hr.mono (by decide)) (by rfl) (T.gl "looked" (by simp [glos])) (T.kp 9 rfl) (b_looked T) (passes_call tk fun _ _ _ _ h => h) (fun _ _ _ h => h) (pm_cons (pm_var (pv 0)) (pm_cons (pm_var (pv 1)) (pm_nil)))) (gm_tup (G := GG P w K) rfl (gm_cons (pg_name (i := 0) sc_gives_all.nd rfl (by first | exact Or.inl rfl | exact Or.inr rfl)) (gm_cons (pg_name (i := 1) sc_gives_all.nd rfl (by first | exact Or.inl rfl | exact Or.inr rfl)) (gm_nil)))))))
noncomputable def vdU_gives_all : Fe := mcall vU_looked (mcons (mvar 0) (mcons (mvar 1) (mnil)))
noncomputable def vU_gives_all : Fn := fnV 2 2 vdU_gives_all
theorem okU_gives_all (T : Tx P K mg base) : FnOk P w K mg base (L2.CX P w) 11 (He.ga K "gives_all") (T.fd 28) ["program", "wanted"] (spV (GG P w K) (cxU K) "number" vU_gives_all) :=
  fn_okV (F := vdU_gives_all) (T.df 28 dd_gives_all rfl) sc_gives_all (hb := fun cdv A outer s H E hr tk => rv_hd (rv_asg (ps_asg (rv_call (E0 := E) (okU_looked T) (hr.mono (by decide)) (by rfl) (T.gl "looked" (by simp [glos])) (T.kp 9 rfl) (b_looked T) (passes_call tk fun _ _ _ _ h => h) (fun _ _ _ h => h) (pm_cons (pm_var (pv 0)) (pm_cons (pm_var (pv 1)) (pm_nil)))) (gm_tup (G := GG P w K) rfl (gm_cons (pg_name (i := 0) sc_gives_all.nd rfl (by first | exact Or.inl rfl | exact Or.inr rfl)) (gm_cons (pg_name (i := 1) sc_gives_all.nd rfl (by first | exact Or.inl rfl | exact Or.inr rfl)) (gm_nil)))))))

theorem sc_breach : FnScope ["program", "wanted", "index", "name", "i", "answer", "some", "other", "steps"] ["program", "wanted"] (defScope s_breach) := ⟨rfl, rfl, rfl, by decide +kernel, rfl, by decide +kernel, by decide +kernel⟩
theorem b_breach (T : Tx P K mg base) : Binds K (T.fd 29) ["program", "wanted"] [] := FunD.bindsN (T.df 29 dd_breach rfl) fun _ _ _ _ _ _ us hl => match us, hl with | [_, _], _ => rfl
noncomputable def vdL_breach : Fe := mcall vL_looked (mcons (mvar 0) (mcons (mvar 1) (mnil)))
noncomputable def vL_breach : Fn := fnV 2 9 vdL_breach
theorem okL_breach (T : Tx P K mg base) : FnOk P w K mg base (L2.CX P w) 11 (He.ga K "breach") (T.fd 29) ["program", "wanted"] (spV (GG P w K) (cxL K) "name" vL_breach) :=
  fn_okV (F := vdL_breach) (T.df 29 dd_breach rfl) sc_breach (hb := fun cdv A outer s H E hr tk => rv_hd (rv_asg (ps_asg (rv_call (E0 := E) (okL_looked T) (hr.mono (by decide)) (by rfl) (T.gl "looked" (by simp [glos])) (T.kp 9 rfl) (b_looked T) (passes_call tk fun _ _ _ _ h => h) (fun _ _ _ h => h) (pm_cons (pm_var (pv 0)) (pm_cons (pm_var (pv 1)) (pm_nil)))) (gm_tup (G := GG P w K) rfl (gm_cons (pg_name (i := 0) sc_breach.nd rfl (by first | exact Or.inl rfl | exact Or.inr rfl)) (gm_cons (pg_name (i := 1) sc_breach.nd rfl (by first | exact Or.inl rfl | exact Or.inr rfl)) (gm_nil)))))))
noncomputable def vdU_breach : Fe := mcall vU_looked (mcons (mvar 0) (mcons (mvar 1) (mnil)))
noncomputable def vU_breach : Fn := fnV 2 9 vdU_breach
theorem okU_breach (T : Tx P K mg base) : FnOk P w K mg base (L2.CX P w) 11 (He.ga K "breach") (T.fd 29) ["program", "wanted"] (spV (GG P w K) (cxU K) "number" vU_breach) :=
  fn_okV (F := vdU_breach) (T.df 29 dd_breach rfl) sc_breach (hb := fun cdv A outer s H E hr tk => rv_hd (rv_asg (ps_asg (rv_call (E0 := E) (okU_looked T) (hr.mono (by decide)) (by rfl) (T.gl "looked" (by simp [glos])) (T.kp 9 rfl) (b_looked T) (passes_call tk fun _ _ _ _ h => h) (fun _ _ _ h => h) (pm_cons (pm_var (pv 0)) (pm_cons (pm_var (pv 1)) (pm_nil)))) (gm_tup (G := GG P w K) rfl (gm_cons (pg_name (i := 0) sc_breach.nd rfl (by first | exact Or.inl rfl | exact Or.inr rfl)) (gm_cons (pg_name (i := 1) sc_breach.nd rfl (by first | exact Or.inl rfl | exact Or.inr rfl)) (gm_nil)))))))

theorem sc_clash : FnScope ["program", "wanted", "trial", "many", "part", "index"] ["program", "wanted"] (defScope s_clash) := ⟨rfl, rfl, rfl, by decide +kernel, rfl, by decide +kernel, by decide +kernel⟩
theorem b_clash (T : Tx P K mg base) : Binds K (T.fd 30) ["program", "wanted"] [] := FunD.bindsN (T.df 30 dd_clash rfl) fun _ _ _ _ _ _ us hl => match us, hl with | [_, _], _ => rfl
noncomputable def vdL_clash : Fe := mcall vL_looked (mcons (mvar 0) (mcons (mvar 1) (mnil)))
noncomputable def vL_clash : Fn := fnV 2 6 vdL_clash
theorem okL_clash (T : Tx P K mg base) : FnOk P w K mg base (L2.CX P w) 11 (He.ga K "clash") (T.fd 30) ["program", "wanted"] (spV (GG P w K) (cxL K) "name" vL_clash) :=
  fn_okV (F := vdL_clash) (T.df 30 dd_clash rfl) sc_clash (hb := fun cdv A outer s H E hr tk => rv_hd (rv_asg (ps_asg (rv_call (E0 := E) (okL_looked T) (hr.mono (by decide)) (by rfl) (T.gl "looked" (by simp [glos])) (T.kp 9 rfl) (b_looked T) (passes_call tk fun _ _ _ _ h => h) (fun _ _ _ h => h) (pm_cons (pm_var (pv 0)) (pm_cons (pm_var (pv 1)) (pm_nil)))) (gm_tup (G := GG P w K) rfl (gm_cons (pg_name (i := 0) sc_clash.nd rfl (by first | exact Or.inl rfl | exact Or.inr rfl)) (gm_cons (pg_name (i := 1) sc_clash.nd rfl (by first | exact Or.inl rfl | exact Or.inr rfl)) (gm_nil)))))))
noncomputable def vdU_clash : Fe := mcall vU_looked (mcons (mvar 0) (mcons (mvar 1) (mnil)))
noncomputable def vU_clash : Fn := fnV 2 6 vdU_clash
theorem okU_clash (T : Tx P K mg base) : FnOk P w K mg base (L2.CX P w) 11 (He.ga K "clash") (T.fd 30) ["program", "wanted"] (spV (GG P w K) (cxU K) "number" vU_clash) :=
  fn_okV (F := vdU_clash) (T.df 30 dd_clash rfl) sc_clash (hb := fun cdv A outer s H E hr tk => rv_hd (rv_asg (ps_asg (rv_call (E0 := E) (okU_looked T) (hr.mono (by decide)) (by rfl) (T.gl "looked" (by simp [glos])) (T.kp 9 rfl) (b_looked T) (passes_call tk fun _ _ _ _ h => h) (fun _ _ _ h => h) (pm_cons (pm_var (pv 0)) (pm_cons (pm_var (pv 1)) (pm_nil)))) (gm_tup (G := GG P w K) rfl (gm_cons (pg_name (i := 0) sc_clash.nd rfl (by first | exact Or.inl rfl | exact Or.inr rfl)) (gm_cons (pg_name (i := 1) sc_clash.nd rfl (by first | exact Or.inl rfl | exact Or.inr rfl)) (gm_nil)))))))

theorem sc_least_preload : FnScope ["program", "wanted", "trial", "names", "many", "some", "line"] ["program", "wanted"] (defScope s_least_preload) := ⟨rfl, rfl, rfl, by decide +kernel, rfl, by decide +kernel, by decide +kernel⟩
theorem b_least_preload (T : Tx P K mg base) : Binds K (T.fd 31) ["program", "wanted"] [] := FunD.bindsN (T.df 31 dd_least_preload rfl) fun _ _ _ _ _ _ us hl => match us, hl with | [_, _], _ => rfl
noncomputable def vdL_least_preload : Fe := mcall vL_looked (mcons (mvar 0) (mcons (mvar 1) (mnil)))
noncomputable def vL_least_preload : Fn := fnV 2 7 vdL_least_preload
theorem okL_least_preload (T : Tx P K mg base) : FnOk P w K mg base (L2.CX P w) 11 (He.ga K "least_preload") (T.fd 31) ["program", "wanted"] (spV (GG P w K) (cxL K) "name" vL_least_preload) :=
  fn_okV (F := vdL_least_preload) (T.df 31 dd_least_preload rfl) sc_least_preload (hb := fun cdv A outer s H E hr tk => rv_hd (rv_asg (ps_asg (rv_call (E0 := E) (okL_looked T) (hr.mono (by decide)) (by rfl) (T.gl "looked" (by simp [glos])) (T.kp 9 rfl) (b_looked T) (passes_call tk fun _ _ _ _ h => h) (fun _ _ _ h => h) (pm_cons (pm_var (pv 0)) (pm_cons (pm_var (pv 1)) (pm_nil)))) (gm_tup (G := GG P w K) rfl (gm_cons (pg_name (i := 0) sc_least_preload.nd rfl (by first | exact Or.inl rfl | exact Or.inr rfl)) (gm_cons (pg_name (i := 1) sc_least_preload.nd rfl (by first | exact Or.inl rfl | exact Or.inr rfl)) (gm_nil)))))))
noncomputable def vdU_least_preload : Fe := mcall vU_looked (mcons (mvar 0) (mcons (mvar 1) (mnil)))
noncomputable def vU_least_preload : Fn := fnV 2 7 vdU_least_preload
theorem okU_least_preload (T : Tx P K mg base) : FnOk P w K mg base (L2.CX P w) 11 (He.ga K "least_preload") (T.fd 31) ["program", "wanted"] (spV (GG P w K) (cxU K) "number" vU_least_preload) :=
  fn_okV (F := vdU_least_preload) (T.df 31 dd_least_preload rfl) sc_least_preload (hb := fun cdv A outer s H E hr tk => rv_hd (rv_asg (ps_asg (rv_call (E0 := E) (okU_looked T) (hr.mono (by decide)) (by rfl) (T.gl "looked" (by simp [glos])) (T.kp 9 rfl) (b_looked T) (passes_call tk fun _ _ _ _ h => h) (fun _ _ _ h => h) (pm_cons (pm_var (pv 0)) (pm_cons (pm_var (pv 1)) (pm_nil)))) (gm_tup (G := GG P w K) rfl (gm_cons (pg_name (i := 0) sc_least_preload.nd rfl (by first | exact Or.inl rfl | exact Or.inr rfl)) (gm_cons (pg_name (i := 1) sc_least_preload.nd rfl (by first | exact Or.inl rfl | exact Or.inr rfl)) (gm_nil)))))))

theorem sc_many_preloads : FnScope ["program", "wanted", "many", "trial", "line"] ["program", "wanted", "many"] (defScope s_many_preloads) := ⟨rfl, rfl, rfl, by decide +kernel, rfl, by decide +kernel, by decide +kernel⟩
theorem b_many_preloads (T : Tx P K mg base) : Binds K (T.fd 32) ["program", "wanted", "many"] [] := FunD.bindsN (T.df 32 dd_many_preloads rfl) fun _ _ _ _ _ _ us hl => match us, hl with | [_, _, _], _ => rfl
noncomputable def vdL_many_preloads : Fe := mcall vL_looked (mcons (mvar 0) (mcons (mvar 1) (mnil)))
noncomputable def vL_many_preloads : Fn := fnV 3 5 vdL_many_preloads
theorem okL_many_preloads (T : Tx P K mg base) : FnOk P w K mg base (L2.CX P w) 11 (He.ga K "many_preloads") (T.fd 32) ["program", "wanted", "many"] (spV (GG P w K) (cxL K) "name" vL_many_preloads) :=
  fn_okV (F := vdL_many_preloads) (T.df 32 dd_many_preloads rfl) sc_many_preloads (hb := fun cdv A outer s H E hr tk => rv_hd (rv_asg (ps_asg (rv_call (E0 := E) (okL_looked T) (hr.mono (by decide)) (by rfl) (T.gl "looked" (by simp [glos])) (T.kp 9 rfl) (b_looked T) (passes_call tk fun _ _ _ _ h => h) (fun _ _ _ h => h) (pm_cons (pm_var (pv 0)) (pm_cons (pm_var (pv 1)) (pm_nil)))) (gm_tup (G := GG P w K) rfl (gm_cons (pg_name (i := 0) sc_many_preloads.nd rfl (by first | exact Or.inl rfl | exact Or.inr rfl)) (gm_cons (pg_name (i := 1) sc_many_preloads.nd rfl (by first | exact Or.inl rfl | exact Or.inr rfl)) (gm_nil)))))))
noncomputable def vdU_many_preloads : Fe := mcall vU_looked (mcons (mvar 0) (mcons (mvar 1) (mnil)))
noncomputable def vU_many_preloads : Fn := fnV 3 5 vdU_many_preloads
theorem okU_many_preloads (T : Tx P K mg base) : FnOk P w K mg base (L2.CX P w) 11 (He.ga K "many_preloads") (T.fd 32) ["program", "wanted", "many"] (spV (GG P w K) (cxU K) "number" vU_many_preloads) :=
  fn_okV (F := vdU_many_preloads) (T.df 32 dd_many_preloads rfl) sc_many_preloads (hb := fun cdv A outer s H E hr tk => rv_hd (rv_asg (ps_asg (rv_call (E0 := E) (okU_looked T) (hr.mono (by decide)) (by rfl) (T.gl "looked" (by simp [glos])) (T.kp 9 rfl) (b_looked T) (passes_call tk fun _ _ _ _ h => h) (fun _ _ _ h => h) (pm_cons (pm_var (pv 0)) (pm_cons (pm_var (pv 1)) (pm_nil)))) (gm_tup (G := GG P w K) rfl (gm_cons (pg_name (i := 0) sc_many_preloads.nd rfl (by first | exact Or.inl rfl | exact Or.inr rfl)) (gm_cons (pg_name (i := 1) sc_many_preloads.nd rfl (by first | exact Or.inl rfl | exact Or.inr rfl)) (gm_nil)))))))

theorem sc_is_lean : FnScope ["program", "wanted", "preload", "trial", "less", "at", "line"] ["program", "wanted", "preload"] (defScope s_is_lean) := ⟨rfl, rfl, rfl, by decide +kernel, rfl, by decide +kernel, by decide +kernel⟩
theorem b_is_lean (T : Tx P K mg base) : Binds K (T.fd 33) ["program", "wanted", "preload"] [] := FunD.bindsN (T.df 33 dd_is_lean rfl) fun _ _ _ _ _ _ us hl => match us, hl with | [_, _, _], _ => rfl
noncomputable def vdL_is_lean : Fe := mcall vL_looked (mcons (mvar 0) (mcons (mvar 1) (mnil)))
noncomputable def vL_is_lean : Fn := fnV 3 7 vdL_is_lean
theorem okL_is_lean (T : Tx P K mg base) : FnOk P w K mg base (L2.CX P w) 11 (He.ga K "is_lean") (T.fd 33) ["program", "wanted", "preload"] (spV (GG P w K) (cxL K) "name" vL_is_lean) :=
  fn_okV (F := vdL_is_lean) (T.df 33 dd_is_lean rfl) sc_is_lean (hb := fun cdv A outer s H E hr tk => rv_hd (rv_asg (ps_asg (rv_call (E0 := E) (okL_looked T) (hr.mono (by decide)) (by rfl) (T.gl "looked" (by simp [glos])) (T.kp 9 rfl) (b_looked T) (passes_call tk fun _ _ _ _ h => h) (fun _ _ _ h => h) (pm_cons (pm_var (pv 0)) (pm_cons (pm_var (pv 1)) (pm_nil)))) (gm_tup (G := GG P w K) rfl (gm_cons (pg_name (i := 0) sc_is_lean.nd rfl (by first | exact Or.inl rfl | exact Or.inr rfl)) (gm_cons (pg_name (i := 1) sc_is_lean.nd rfl (by first | exact Or.inl rfl | exact Or.inr rfl)) (gm_nil)))))))
noncomputable def vdU_is_lean : Fe := mcall vU_looked (mcons (mvar 0) (mcons (mvar 1) (mnil)))
noncomputable def vU_is_lean : Fn := fnV 3 7 vdU_is_lean
theorem okU_is_lean (T : Tx P K mg base) : FnOk P w K mg base (L2.CX P w) 11 (He.ga K "is_lean") (T.fd 33) ["program", "wanted", "preload"] (spV (GG P w K) (cxU K) "number" vU_is_lean) :=
  fn_okV (F := vdU_is_lean) (T.df 33 dd_is_lean rfl) sc_is_lean (hb := fun cdv A outer s H E hr tk => rv_hd (rv_asg (ps_asg (rv_call (E0 := E) (okU_looked T) (hr.mono (by decide)) (by rfl) (T.gl "looked" (by simp [glos])) (T.kp 9 rfl) (b_looked T) (passes_call tk fun _ _ _ _ h => h) (fun _ _ _ h => h) (pm_cons (pm_var (pv 0)) (pm_cons (pm_var (pv 1)) (pm_nil)))) (gm_tup (G := GG P w K) rfl (gm_cons (pg_name (i := 0) sc_is_lean.nd rfl (by first | exact Or.inl rfl | exact Or.inr rfl)) (gm_cons (pg_name (i := 1) sc_is_lean.nd rfl (by first | exact Or.inl rfl | exact Or.inr rfl)) (gm_nil)))))))

theorem sc__law_refused : FnScope ["_law_way", "_law_prog", "_law_wishes_here", "_law_caught", "error"] ["_law_way", "_law_prog", "_law_wishes_here"] (defScope s__law_refused) := ⟨rfl, rfl, rfl, by decide +kernel, rfl, by decide +kernel, by decide +kernel⟩
theorem b__law_refused (T : Tx P K mg base) : Binds K (T.fd 27) ["_law_way", "_law_prog", "_law_wishes_here"] [] := FunD.bindsN (T.df 27 dd__law_refused rfl) fun _ _ _ _ _ _ us hl => match us, hl with | [_, _, _], _ => rfl
noncomputable def vdL__law_refused : Fe := vif2 (mtB (mop2 ltW (mvar 0) (mcon (.int 4)))) (vpick 0 [vL_gives_all, vL_breach, vL_clash, vL_least_preload] (mcons (mvar 1) (mcons (mvar 2) (mnil)))) (vif2 (mtB (mop2 eqW (mvar 0) (mcon (.int 4)))) (mcall vL_shows_preload (mcons (mvar 1) (mcons (mvar 2) (mcons (mcon .non) (mnil))))) (vif2 (mtB (mop2 eqW (mvar 0) (mcon (.int 5)))) (mcall vL_many_preloads (mcons (mvar 1) (mcons (mvar 2) (mcons (mcon (.int 0)) (mnil))))) (mcall vL_is_lean (mcons (mvar 1) (mcons (mvar 2) (mcons (mtup (mnil)) (mnil)))))))
noncomputable def bdL__law_refused : Fs := vres (sset 3 (mcon .non)) vdL__law_refused (fun w => .tup [.str x_lib, w]) 3 4
noncomputable def mL__law_refused : Fn := fnM 3 5 bdL__law_refused
theorem okL__law_refused (T : Tx P K mg base) : FnOk P w K mg base CX0 12 (He.ga K "_law_refused") (T.fd 27) ["_law_way", "_law_prog", "_law_wishes_here"] (spM (GG P w K) mL__law_refused) :=
  fn_okD (B := bdL__law_refused) (T.df 27 dd__law_refused rfl) sc__law_refused (hb := fun cdv A outer s H E hr =>
    vr_tail (ic := 3) (ie := 4) (sm_set (ps_set (i := 3) sc__law_refused.nd rfl (Or.inl rfl) pm_non))
      (tryV_of (G := GG P w K) (C := cxL K) (fld := "name") (ic := 3) (ie := 4) (F := vdL__law_refused) (res := fun w => .tup [.str x_lib, w])
        (Fin := fun v D H => ∀ t, H t = none → D.rt (.ref t) (upd H t (.tup [.str "lib", v])))
        rfl rfl sc__law_refused.nd rfl rfl (by rfl) (by rfl) (by rfl) (T.gl "NoDoor" (by simp [glos])) (T.gl "NoLib" (by simp [glos])) (T.gl "NoUse" (by simp [glos])) T.xh_NoLib.ca rfl (Or.inl rfl) (Or.inl rfl) (by decide) (.inl rfl)
        (fun W pn xe tk => (rv_oneE (rv_ifE (pm_tcmp (om_lt) (pm_var (pv 0)) (pm_int) (nomark _)) (rv_oneE (rv_expE (rv_pick (G := GG P w K) (C := cxL K) (k := 11) (iw := 0) (pe_four (by rfl) (by rfl) (by rfl) (by rfl) (T.gl "gives_all" (by simp [glos])) (T.gl "breach" (by simp [glos])) (T.gl "clash" (by simp [glos])) (T.gl "least_preload" (by simp [glos])) (pv 0)) rfl (fun n f v hf hv => by
          rcases n with _ | _ | _ | _ | n
          · cases hf; cases hv; exact ⟨_, _, (okL_gives_all T), T.kp 28 rfl, b_gives_all T⟩
          · cases hf; cases hv; exact ⟨_, _, (okL_breach T), T.kp 29 rfl, b_breach T⟩
          · cases hf; cases hv; exact ⟨_, _, (okL_clash T), T.kp 30 rfl, b_clash T⟩
          · cases hf; cases hv; exact ⟨_, _, (okL_least_preload T), T.kp 31 rfl, b_least_preload T⟩
          · cases hf) (hr.mono (by decide)) tk (pm_cons (pm_var (pv 1)) (pm_cons (pm_var (pv 2)) pm_nil))))) (rv_oneE (rv_ifE (pm_tcmp (om_eq hr.units) (pm_var (pv 0)) (pm_int) (nomark _)) (rv_oneE (rv_expE (rv_callS (G := GG P w K) (C := cxL K) (okL_shows_preload T) (hr.mono (by decide)) (by rfl) (T.gl "shows_preload" (by simp [glos])) (T.kp 8 rfl) (b_shows_preload T) tk (pm_cons (pm_var (pv 1)) (pm_cons (pm_var (pv 2)) (pm_cons pm_non pm_nil)))))) (rv_oneE (rv_ifE (pm_tcmp (om_eq hr.units) (pm_var (pv 0)) (pm_int) (nomark _)) (rv_oneE (rv_expE (rv_callS (G := GG P w K) (C := cxL K) (okL_many_preloads T) (hr.mono (by decide)) (by rfl) (T.gl "many_preloads" (by simp [glos])) (T.kp 32 rfl) (b_many_preloads T) tk (pm_cons (pm_var (pv 1)) (pm_cons (pm_var (pv 2)) (pm_cons pm_int pm_nil)))))) (rv_oneE (rv_expE (rv_callS (G := GG P w K) (C := cxL K) (okL_is_lean T) (hr.mono (by decide)) (by rfl) (T.gl "is_lean" (by simp [glos])) (T.kp 33 rfl) (b_is_lean T) tk (pm_cons (pm_var (pv 1)) (pm_cons (pm_var (pv 2)) (pm_cons (pm_tup (pm_nil)) pm_nil)))))))))))))
        (fun a oe dd pn hz hv => rest_two (C := cxL K) (fld := "name") (ic := 3) (b := true) T.xh_NoLib.v (List.mem_cons_self ..) hz hv rfl (Or.inl rfl) (by rfl) (T.fr "isinstance" (by simp [frees])) (by rfl) (T.gl "NoLib" (by simp [glos])) (by rfl) (T.fr "LookupError" (by simp [frees])) (by decide +kernel) (by rfl) (T.gl "NoDoor" (by simp [glos])) (T.xh_NoLib.ty "LookupError" (by simp)) (kit_not T.xh_NoLib.no (by simp)) T.xh_NoLib.is rfl (fun _ h => PW.pt h))
        (fun D p s H w v S d k => (newT_ok S (.cons (by rw [e_x_lib]; exact .str _) (.cons d .nil)) (w := .tup [.str x_lib, w]) (s' := s) rfl (fun p2 v2 H2 S2 f2 d2 => k p2 H2 v2 S2 f2 d2)).2.1)))
noncomputable def vdU__law_refused : Fe := vif2 (mtB (mop2 ltW (mvar 0) (mcon (.int 4)))) (vpick 0 [vU_gives_all, vU_breach, vU_clash, vU_least_preload] (mcons (mvar 1) (mcons (mvar 2) (mnil)))) (vif2 (mtB (mop2 eqW (mvar 0) (mcon (.int 4)))) (mcall vU_shows_preload (mcons (mvar 1) (mcons (mvar 2) (mcons (mcon .non) (mnil))))) (vif2 (mtB (mop2 eqW (mvar 0) (mcon (.int 5)))) (mcall vU_many_preloads (mcons (mvar 1) (mcons (mvar 2) (mcons (mcon (.int 0)) (mnil))))) (mcall vU_is_lean (mcons (mvar 1) (mcons (mvar 2) (mcons (mtup (mnil)) (mnil)))))))
noncomputable def bdU__law_refused : Fs := vres (sset 3 (mcon .non)) vdU__law_refused (fun w => .tup [.str x_use, w]) 3 4
noncomputable def mU__law_refused : Fn := fnM 3 5 bdU__law_refused
theorem okU__law_refused (T : Tx P K mg base) : FnOk P w K mg base CX0 12 (He.ga K "_law_refused") (T.fd 27) ["_law_way", "_law_prog", "_law_wishes_here"] (spM (GG P w K) mU__law_refused) :=
  fn_okD (B := bdU__law_refused) (T.df 27 dd__law_refused rfl) sc__law_refused (hb := fun cdv A outer s H E hr =>
    vr_tail (ic := 3) (ie := 4) (sm_set (ps_set (i := 3) sc__law_refused.nd rfl (Or.inl rfl) pm_non))
      (tryV_of (G := GG P w K) (C := cxU K) (fld := "number") (ic := 3) (ie := 4) (F := vdU__law_refused) (res := fun w => .tup [.str x_use, w])
        (Fin := fun v D H => ∀ t, H t = none → D.rt (.ref t) (upd H t (.tup [.str "use", v])))
        rfl rfl sc__law_refused.nd rfl rfl (by rfl) (by rfl) (by rfl) (T.gl "NoDoor" (by simp [glos])) (T.gl "NoLib" (by simp [glos])) (T.gl "NoUse" (by simp [glos])) T.xh_NoUse.ca rfl (Or.inl rfl) (Or.inl rfl) (by decide) (.inl rfl)
        (fun W pn xe tk => (rv_oneE (rv_ifE (pm_tcmp (om_lt) (pm_var (pv 0)) (pm_int) (nomark _)) (rv_oneE (rv_expE (rv_pick (G := GG P w K) (C := cxU K) (k := 11) (iw := 0) (pe_four (by rfl) (by rfl) (by rfl) (by rfl) (T.gl "gives_all" (by simp [glos])) (T.gl "breach" (by simp [glos])) (T.gl "clash" (by simp [glos])) (T.gl "least_preload" (by simp [glos])) (pv 0)) rfl (fun n f v hf hv => by
          rcases n with _ | _ | _ | _ | n
          · cases hf; cases hv; exact ⟨_, _, (okU_gives_all T), T.kp 28 rfl, b_gives_all T⟩
          · cases hf; cases hv; exact ⟨_, _, (okU_breach T), T.kp 29 rfl, b_breach T⟩
          · cases hf; cases hv; exact ⟨_, _, (okU_clash T), T.kp 30 rfl, b_clash T⟩
          · cases hf; cases hv; exact ⟨_, _, (okU_least_preload T), T.kp 31 rfl, b_least_preload T⟩
          · cases hf) (hr.mono (by decide)) tk (pm_cons (pm_var (pv 1)) (pm_cons (pm_var (pv 2)) pm_nil))))) (rv_oneE (rv_ifE (pm_tcmp (om_eq hr.units) (pm_var (pv 0)) (pm_int) (nomark _)) (rv_oneE (rv_expE (rv_callS (G := GG P w K) (C := cxU K) (okU_shows_preload T) (hr.mono (by decide)) (by rfl) (T.gl "shows_preload" (by simp [glos])) (T.kp 8 rfl) (b_shows_preload T) tk (pm_cons (pm_var (pv 1)) (pm_cons (pm_var (pv 2)) (pm_cons pm_non pm_nil)))))) (rv_oneE (rv_ifE (pm_tcmp (om_eq hr.units) (pm_var (pv 0)) (pm_int) (nomark _)) (rv_oneE (rv_expE (rv_callS (G := GG P w K) (C := cxU K) (okU_many_preloads T) (hr.mono (by decide)) (by rfl) (T.gl "many_preloads" (by simp [glos])) (T.kp 32 rfl) (b_many_preloads T) tk (pm_cons (pm_var (pv 1)) (pm_cons (pm_var (pv 2)) (pm_cons pm_int pm_nil)))))) (rv_oneE (rv_expE (rv_callS (G := GG P w K) (C := cxU K) (okU_is_lean T) (hr.mono (by decide)) (by rfl) (T.gl "is_lean" (by simp [glos])) (T.kp 33 rfl) (b_is_lean T) tk (pm_cons (pm_var (pv 1)) (pm_cons (pm_var (pv 2)) (pm_cons (pm_tup (pm_nil)) pm_nil)))))))))))))
        (fun a oe dd pn hz hv => rest_two (C := cxU K) (fld := "number") (ic := 3) (b := false) T.xh_NoUse.v (List.mem_cons_self ..) hz hv rfl (Or.inl rfl) (by rfl) (T.fr "isinstance" (by simp [frees])) (by rfl) (T.gl "NoLib" (by simp [glos])) (by rfl) (T.fr "LookupError" (by simp [frees])) (by decide +kernel) (by rfl) (T.gl "NoDoor" (by simp [glos])) (T.xh_NoUse.ty "LookupError" (by simp)) (kit_not T.xh_NoUse.no (by simp)) (kit_not T.xh_NoUse.no (by simp)) rfl (fun _ h => PW.pt h))
        (fun D p s H w v S d k => (newT_ok S (.cons (by rw [e_x_use]; exact .str _) (.cons d .nil)) (w := .tup [.str x_use, w]) (s' := s) rfl (fun p2 v2 H2 S2 f2 d2 => k p2 H2 v2 S2 f2 d2)).2.1)))
noncomputable def m__law_refused : Fn := orM mL__law_refused mU__law_refused
theorem ok__law_refused (T : Tx P K mg base) : FnOk P w K mg base CX0 12 (He.ga K "_law_refused") (T.fd 27) ["_law_way", "_law_prog", "_law_wishes_here"] (spM (GG P w K) m__law_refused) := or_ok (okL__law_refused T) (okU__law_refused T)

def N__law_right : List Str := ["_law_box_here", "_law_prog", "_law_matter", "_law_heard", "_law_wishes_here", "_law_size", "_law_wrong", "_law_due", "_law_at", "_law_way", "_law_some", "_law_mine"]
theorem sc__law_right : FnScope ["_law_box_here", "_law_prog", "_law_matter", "_law_heard", "_law_wishes_here", "_law_size", "_law_wrong", "_law_due", "_law_at", "_law_way", "_law_some", "_law_mine"] ["_law_box_here"] (defScope s__law_right) := ⟨rfl, rfl, rfl, by decide +kernel, rfl, by decide +kernel, by decide +kernel⟩
theorem b__law_right (T : Tx P K mg base) : Binds K (T.fd 2) ["_law_box_here"] [] := FunD.bindsN (T.df 2 dd__law_right rfl) fun _ _ _ _ _ _ us hl => match us, hl with | [_], _ => rfl
def bd__law_right : Fs :=
  sseq (sset 1 (mcall m__law_program (mcons (mvar 0) (mcons (mop2 addW (mcon (.int 1)) (mcall m__law_take (mcons (mvar 0) (mcons (mcon (.int 4)) (mnil))))) (mcons (mcon (.int 2)) (mnil))))))
  (sseq (sfor (miS (mcall m__law_odd (mcons (mvar 1) (mnil)))) (.nm 2) (sseq (sset 3 (mlst (mcons (mcall m_shows_preload (mcons (mvar 1) (mcons (mtup (mnil)) (mcons (mvar 2) (mnil))))) (mcons (mcall m_shows_preload (mkw [2, 1, 0] (mcons (mvar 2) (mcons (mlst (mnil)) (mcons (mcall (m__law_lists 8) (mcons (mvar 1) (mnil))) (mnil)))))) (mnil)))))
  (sif (mnot (mtst (mcall (m__law_same 12) (mcons (mvar 3) (mcons (mlst (mcons (mcon (.bl false)) (mcons (mcon (.bl false)) (mnil)))) (mnil)))))) (sret (mcon (.bl false))) (snx))))
  (sseq (sif (mnot (mtst (mcall (m__law_same 12) (mcons (mlst (mcons (mcall m_shows_preload (mcons (mvar 1) (mcons (mtup (mnil)) (mcons (mtup (mnil)) (mnil))))) (mcons (mcall m_shows_preload (mcons (mvar 1) (mcons (mlst (mnil)) (mcons (mtup (mcons (mop2 ixA (mop2 ixA (mop2 ixA (mvar 1) (mcon (.int 0))) (mcon (.int 1))) (mcon (.int 0))) (mnil))) (mnil))))) (mnil)))) (mcons (mlst (mcons (mcon (.bl true)) (mcons (mcon (.bl true)) (mnil)))) (mnil)))))) (sret (mcon (.bl false))) (snx))
  (sseq (spar 4 5 (mcons (mcall m__law_wishes (mcons (mvar 0) (mcons (mvar 1) (mcons (mcon (.int 2)) (mnil))))) (mcons (mcall lenW (mcons (mop2 ixA (mop2 ixA (mop2 ixA (mvar 1) (mcon (.int 0))) (mcon (.int 0))) (mcon (.int 3))) (mnil))) (mnil))))
  (sseq (sset 6 (mlst (mcons (mtup (mcons (mcon (.str x_nowhere)) (mcons (mcon (.int 0)) (mcons (mtup (mcons (mcon (.str x_lost)) (mnil))) (mnil))))) (mcons (mtup (mcons (mcon (.str x_main)) (mcons (mvar 5) (mcons (mtup (mcons (mcon (.str x_lost)) (mnil))) (mnil))))) (mcons (mtup (mcons (mcon (.str x_nowhere)) (mcons (mcon (.int 9)) (mcons (mtup (mcons (mcon (.str x_nobody)) (mnil))) (mnil))))) (mcons (mtup (mcons (mcon (.str x_main)) (mcons (mop1 negW (mcon (.int 1))) (mcons (mtup (mcons (mcon (.str x_lost)) (mnil))) (mnil))))) (mnil)))))))
  (sseq (sset 7 (mlst (mcons (mtup (mcons (mcon (.str x_lib)) (mcons (mcon (.str x_nowhere)) (mnil)))) (mcons (mtup (mcons (mcon (.str x_use)) (mcons (mvar 5) (mnil)))) (mcons (mtup (mcons (mcon (.str x_lib)) (mcons (mcon (.str x_nowhere)) (mnil)))) (mcons (mtup (mcons (mcon (.str x_use)) (mcons (mop1 negW (mcon (.int 1))) (mnil)))) (mnil)))))))
  (sseq (sset 8 (mcall m__law_take (mcons (mvar 0) (mcons (mcon (.int 4)) (mnil)))))
  (sseq (sfor (miR1 (mcons (mcon (.int 7)) (mnil))) (.nm 9) (sseq (sset 10 (mlst (mcons (mop2 addW (mvar 4) (mtup (mcons (mop2 ixA (mvar 6) (mvar 8)) (mnil)))) (mcons (mop2 addW (mtup (mcons (mop2 ixA (mvar 6) (mvar 8)) (mnil))) (mvar 4)) (mcons (mlst (mcons (mcall listW (mcons (mop2 ixA (mvar 6) (mvar 8)) (mnil))) (mcons (mop2 ixA (mvar 6) (mop2 subW (mcon (.int 3)) (mvar 8))) (mnil)))) (mnil))))))
  (sif (mnot (mtst (mcall (m__law_same 12) (mcons (mlc (miS (mvar 10)) (.nm 11) (myes) (mcall m__law_refused (mcons (mvar 9) (mcons (mvar 1) (mcons (mvar 11) (mnil))))) [11]) (mcons (mop2 lmulW (mlst (mcons (mop2 ixA (mvar 7) (mvar 8)) (mnil))) (mcon (.int 3))) (mnil)))))) (sret (mcon (.bl false))) (snx))))
  (sret (mcon (.bl true))))))))))
def m__law_right : Fn := fnM 1 12 bd__law_right
theorem ok__law_right (T : Tx P K mg base) : FnOk P w K mg base CX0 14 (He.ga K "_law_right") (T.fd 2) ["_law_box_here"] (spM (GG P w K) m__law_right) :=
  fn_okD (B := bd__law_right) (T.df 2 dd__law_right rfl) sc__law_right (hb := fun cdv A outer s H E hr => sm_cons (sm_set (ps_set (i := 1) sc__law_right.nd rfl (Or.inr rfl) (pm_call (ok__law_program T) (hr.mono (by decide)) (by rfl) (T.gl "_law_program" (by simp [glos])) (T.kp 3 rfl) (b__law_program T) pass0 (pm_cons (pm_var (pv 0)) (pm_cons (pm_bin om_add (pm_int) (pm_call (ok__law_take T) (hr.mono (by decide)) (by rfl) (T.gl "_law_take" (by simp [glos])) (T.kp 5 rfl) (b__law_take T) pass0 (pm_cons (pm_var (pv 0)) (pm_cons (pm_int) (pm_nil))))) (pm_cons (pm_int) (pm_nil)))))))
    (sm_cons (sm_for' PassesOwn.never rfl (im_seq (pm_call (ok__law_odd T) (hr.mono (by decide)) (by rfl) (T.gl "_law_odd" (by simp [glos])) (T.kp 7 rfl) (b__law_odd T) pass0 (pm_cons (pm_var (pv 1)) (pm_nil)))) (gm_name (pg_name (i := 2) sc__law_right.nd rfl (Or.inl rfl))) (sm_cons (sm_set (ps_set (i := 3) sc__law_right.nd rfl (Or.inl rfl) (pm_lst (pm_cons (pm_call (ok_shows_preload T) (hr.mono (by decide)) (by rfl) (T.gl "shows_preload" (by simp [glos])) (T.kp 8 rfl) (b_shows_preload T) pass0 (pm_cons (pm_var (pv 1)) (pm_cons (pm_tup (pm_nil)) (pm_cons (pm_var (pv 2)) (pm_nil))))) (pm_cons (pm_callKW (ks := ["thing", "wanted", "program"]) (is := [2, 1, 0]) (ok_shows_preload T) (hr.mono (by decide)) (by rfl) (T.gl "shows_preload" (by simp [glos])) (T.kp 8 rfl) (kb_shows_preload_210 T) pass0 (km_cons (pm_var (pv 2)) (km_cons (pm_lst (pm_nil)) (km_cons (pm_call (ok__law_lists T 8) (hr.mono (by decide)) (by rfl) (T.gl "_law_lists" (by simp [glos])) (T.kp 20 rfl) (b__law_lists T) pass0 (pm_cons (pm_var (pv 1)) (pm_nil))) (km_nil))))) (pm_nil))))))
    (sm_one (sm_if (pm_tnot (pm_tst (pm_call (ok__law_same T 12) (hr.mono (by decide)) (by rfl) (T.gl "_law_same" (by simp [glos])) (T.kp 21 rfl) (b__law_same T) pass0 (pm_cons (pm_var (pv 3)) (pm_cons (pm_lst (pm_cons (pm_bl) (pm_cons (pm_bl) (pm_nil)))) (pm_nil)))))) (sm_one (sm_ret (pm_bl))) (sm_nil)))))
    (sm_cons (sm_if (pm_tnot (pm_tst (pm_call (ok__law_same T 12) (hr.mono (by decide)) (by rfl) (T.gl "_law_same" (by simp [glos])) (T.kp 21 rfl) (b__law_same T) pass0 (pm_cons (pm_lst (pm_cons (pm_call (ok_shows_preload T) (hr.mono (by decide)) (by rfl) (T.gl "shows_preload" (by simp [glos])) (T.kp 8 rfl) (b_shows_preload T) pass0 (pm_cons (pm_var (pv 1)) (pm_cons (pm_tup (pm_nil)) (pm_cons (pm_tup (pm_nil)) (pm_nil))))) (pm_cons (pm_call (ok_shows_preload T) (hr.mono (by decide)) (by rfl) (T.gl "shows_preload" (by simp [glos])) (T.kp 8 rfl) (b_shows_preload T) pass0 (pm_cons (pm_var (pv 1)) (pm_cons (pm_lst (pm_nil)) (pm_cons (pm_tup (pm_cons (pm_ixA hr.units (pm_ixA hr.units (pm_ixA hr.units (pm_var (pv 1)) (pm_int)) (pm_int)) (pm_int)) (pm_nil))) (pm_nil))))) (pm_nil)))) (pm_cons (pm_lst (pm_cons (pm_bl) (pm_cons (pm_bl) (pm_nil)))) (pm_nil)))))) (sm_one (sm_ret (pm_bl))) (sm_nil))
    (sm_cons (sm_par (ps_par (i := 4) (j := 5) rfl sc__law_right.nd rfl rfl (by decide) rfl rfl (pm_cons (pm_call (ok__law_wishes T) (hr.mono (by decide)) (by rfl) (T.gl "_law_wishes" (by simp [glos])) (T.kp 22 rfl) (b__law_wishes T) pass0 (pm_cons (pm_var (pv 0)) (pm_cons (pm_var (pv 1)) (pm_cons (pm_int) (pm_nil))))) (pm_cons (pm_cB cm_len (by rfl) (T.fr "len" (by simp [frees])) bb_len (pm_cons (pm_ixA hr.units (pm_ixA hr.units (pm_ixA hr.units (pm_var (pv 1)) (pm_int)) (pm_int)) (pm_int)) (pm_nil))) (pm_nil))) (by rfl)))
    (sm_cons (sm_set (ps_set (i := 6) sc__law_right.nd rfl (Or.inl rfl) (pm_lst (pm_cons (pm_tup (pm_cons (pm_str e_x_nowhere) (pm_cons (pm_int) (pm_cons (pm_tup (pm_cons (pm_str e_x_lost) (pm_nil))) (pm_nil))))) (pm_cons (pm_tup (pm_cons (pm_str e_x_main) (pm_cons (pm_var (pv 5)) (pm_cons (pm_tup (pm_cons (pm_str e_x_lost) (pm_nil))) (pm_nil))))) (pm_cons (pm_tup (pm_cons (pm_str e_x_nowhere) (pm_cons (pm_int) (pm_cons (pm_tup (pm_cons (pm_str e_x_nobody) (pm_nil))) (pm_nil))))) (pm_cons (pm_tup (pm_cons (pm_str e_x_main) (pm_cons (pm_un um_neg (pm_int)) (pm_cons (pm_tup (pm_cons (pm_str e_x_lost) (pm_nil))) (pm_nil))))) (pm_nil))))))))
    (sm_cons (sm_set (ps_set (i := 7) sc__law_right.nd rfl (Or.inl rfl) (pm_lst (pm_cons (pm_tup (pm_cons (pm_str e_x_lib) (pm_cons (pm_str e_x_nowhere) (pm_nil)))) (pm_cons (pm_tup (pm_cons (pm_str e_x_use) (pm_cons (pm_var (pv 5)) (pm_nil)))) (pm_cons (pm_tup (pm_cons (pm_str e_x_lib) (pm_cons (pm_str e_x_nowhere) (pm_nil)))) (pm_cons (pm_tup (pm_cons (pm_str e_x_use) (pm_cons (pm_un um_neg (pm_int)) (pm_nil)))) (pm_nil))))))))
    (sm_cons (sm_set (ps_set (i := 8) sc__law_right.nd rfl (Or.inl rfl) (pm_call (ok__law_take T) (hr.mono (by decide)) (by rfl) (T.gl "_law_take" (by simp [glos])) (T.kp 5 rfl) (b__law_take T) pass0 (pm_cons (pm_var (pv 0)) (pm_cons (pm_int) (pm_nil))))))
    (sm_cons (sm_for' PassesOwn.never rfl (im_range1 (by rfl) (T.fr "range" (by simp [frees])) (pm_cons (pm_int) (pm_nil))) (gm_name (pg_name (i := 9) sc__law_right.nd rfl (Or.inr rfl))) (sm_cons (sm_set (ps_set (i := 10) sc__law_right.nd rfl (Or.inl rfl) (pm_lst (pm_cons (pm_bin om_add (pm_var (pv 4)) (pm_tup (pm_cons (pm_ixA hr.units (pm_var (pv 6)) (pm_var (pv 8))) (pm_nil)))) (pm_cons (pm_bin om_add (pm_tup (pm_cons (pm_ixA hr.units (pm_var (pv 6)) (pm_var (pv 8))) (pm_nil))) (pm_var (pv 4))) (pm_cons (pm_lst (pm_cons (pm_cT cm_list (by rfl) (T.fr "list" (by simp [frees])) bb_list (pm_cons (pm_ixA hr.units (pm_var (pv 6)) (pm_var (pv 8))) (pm_nil))) (pm_cons (pm_ixA hr.units (pm_var (pv 6)) (pm_bin om_sub (pm_int) (pm_var (pv 8)))) (pm_nil)))) (pm_nil)))))))
    (sm_one (sm_if (pm_tnot (pm_tst (pm_call (ok__law_same T 12) (hr.mono (by decide)) (by rfl) (T.gl "_law_same" (by simp [glos])) (T.kp 21 rfl) (b__law_same T) pass0 (pm_cons (pm_lc (own := [("_law_mine", 11)]) rfl sc__law_right.nd (im_seq (pm_var (pv 10))) (blkOk_by (own := [("_law_mine", 11)]) (N := N__law_right) (sc := defScope s__law_right) (by decide +kernel)) (fun _ _ _ _ _ => gm_name (pg_name (i := 11) sc__law_right.nd rfl (Or.inl rfl))) (fun _ _ _ _ _ => tm_nil) (fun _ _ _ _ _ => pm_call (ok__law_refused T) (hr.mono (by decide)) (by rfl) (T.gl "_law_refused" (by simp [glos])) (T.kp 27 rfl) (b__law_refused T) pass0 (pm_cons (pm_var (pv 9)) (pm_cons (pm_var (pv 1)) (pm_cons (pm_var (pv 11)) (pm_nil)))))) (pm_cons (pm_bin om_lmul (pm_lst (pm_cons (pm_ixA hr.units (pm_var (pv 7)) (pm_var (pv 8))) (pm_nil))) (pm_int)) (pm_nil)))))) (sm_one (sm_ret (pm_bl))) (sm_nil)))))
    (sm_one (sm_ret (pm_bl)))))))))))
def N_law : List Str := ["_law_script", "_law_k", "_law_box_here", "_law_lap"]
theorem sc_law : FnScope ["_law_script", "_law_k", "_law_box_here", "_law_lap"] ["_law_script"] (defScope s_law) := ⟨rfl, rfl, rfl, by decide +kernel, rfl, by decide +kernel, by decide +kernel⟩
def bd_law : Fs :=
  sseq (sfor (miR1 (mcons (mop2 addW (mcon (.int 1)) (mcall min2W (mcons (mcon (.int 1)) (mcons (mcall lenW (mcons (mvar 0) (mnil))) (mnil))))) (mnil))) (.nm 1) (sseq (sset 2 (mcall m__law_box (mcons (mvar 0) (mcons (mvar 1) (mnil)))))
  (sif (mnot (mtst (mcall allW (mcons (mlc (miR1 (mcons (mcon (.int 3)) (mnil))) (.nm 3) (myes) (mcall m__law_right (mcons (mvar 2) (mnil))) [3]) (mnil))))) (sret (mcon (.bl false))) (snx))))
  (sret (mcon (.bl true)))
def m_law : Fn := fnM 1 4 bd_law
theorem ok_law (T : Tx P K mg base) : FnG P w K mg base 15 (He.ga K "law") (T.fd 0) ["_law_script"] (spM (GG P w K) m_law) :=
  fn_okG (B := bd_law) (T.df 0 dd_law rfl) sc_law (hb := fun cdv A gd outer s H E hr => sm_cons (sm_for' PassesOwn.never rfl (im_range1 (by rfl) (T.fr "range" (by simp [frees])) (pm_cons (pm_bin om_add (pm_int) (pm_cB cm_min2 (by rfl) (T.fr "min" (by simp [frees])) bb_min (pm_cons (pm_int) (pm_cons (pm_cB cm_len (by rfl) (T.fr "len" (by simp [frees])) bb_len (pm_cons (pm_var (pv 0)) (pm_nil))) (pm_nil))))) (pm_nil))) (gm_name (pg_name (i := 1) sc_law.nd rfl (Or.inl rfl))) (sm_cons (sm_set (ps_set (i := 2) sc_law.nd rfl (Or.inr rfl) (pm_call (ok__law_box T) (hr.mono (by decide)) (by rfl) (T.gl "_law_box" (by simp [glos])) (T.kp 1 rfl) (b__law_box T) pass0 (pm_cons (pm_var (pv 0)) (pm_cons (pm_var (pv 1)) (pm_nil))))))
    (sm_one (sm_if (pm_tnot (pm_tst (pm_cB cm_all (by rfl) (T.fr "all" (by simp [frees])) bb_all (pm_cons (pm_lc (own := [("_law_lap", 3)]) rfl sc_law.nd (im_range1 (by rfl) (T.fr "range" (by simp [frees])) (pm_cons (pm_int) (pm_nil))) (blkOk_by (own := [("_law_lap", 3)]) (N := N_law) (sc := defScope s_law) (by decide +kernel)) (fun _ _ _ _ _ => gm_name (pg_name (i := 3) sc_law.nd rfl (Or.inl rfl))) (fun _ _ _ _ _ => tm_nil) (fun _ _ _ _ _ => pm_call (ok__law_right T) (hr.mono (by decide)) (by rfl) (T.gl "_law_right" (by simp [glos])) (T.kp 2 rfl) (b__law_right T) pass0 (pm_cons (pm_var (pv 2)) (pm_nil)))) (pm_nil))))) (sm_one (sm_ret (pm_bl))) (sm_nil)))))
    (sm_one (sm_ret (pm_bl))))
end

end
theorem obL_eq (s : PySem.W.SharedT) : ob s = hk.obs s.abs := obsY_eq (HandSHeadRun.getT_eq s)
theorem xnt_NoLib {w : World} {K : PySem.W.Frag} {h : Heap} {mg : Str → Option Value} (c : SaysY faAll fn [] tf exB xds fileX w h K) (hs : mg "super" = none) (hg : mg "NoLib" = some (.ref (He.ga K "NoLib"))) : XnF (PySem.Challenge.rw_latebound_k70_what_is_no_preload).prog K mg "NoLib" := by
  have v := c.val (d := xd_NoLib) (by simp [xds])
  refine xn_of (d := xd_NoLib) v.2 (xc_ok v.1 v.2 rfl PySem.F.excBase_LookupError PySem.W.kxs_LookupError PySem.F.store_LookupError hs (by kernel_rfl) (by kernel_rfl) (by kernel_rfl) rfl rfl (by decide +kernel) (by kernel_rfl) (by kernel_rfl) (by kernel_rfl) (by kernel_rfl) rfl rfl rfl (by decide) (by decide) (by decide) (fun _ _ _ _ _ _ _ _ _ _ => BindsTo.of_eq rfl) (fun _ _ _ _ => rfl)) hg
theorem xvt_NoLib {w : World} {K : PySem.W.Frag} {h : Heap} {mg : Str → Option Value} (c : SaysY faAll fn [] tf exB xds fileX w h K) (hs : mg "super" = none) (hg : mg "NoLib" = some (.ref (He.ga K "NoLib"))) : XvF (PySem.Challenge.rw_latebound_k70_what_is_no_preload).prog K mg "NoLib" "name" := by
  have v := c.val (d := xd_NoLib) (by simp [xds])
  exact ⟨xnt_NoLib c hs hg, xc_okF v.1 v.2 rfl PySem.F.excBase_LookupError PySem.W.kxs_LookupError PySem.F.store_LookupError hs (by kernel_rfl) (by kernel_rfl) (by kernel_rfl) rfl rfl (by decide +kernel) (by kernel_rfl) (by kernel_rfl) (by kernel_rfl) (by kernel_rfl) rfl rfl rfl (by decide) (by decide) (by decide) (fun _ _ _ _ _ _ _ _ _ _ => BindsTo.of_eq rfl) (fun _ _ _ _ => rfl)⟩
theorem xnt_NoUse {w : World} {K : PySem.W.Frag} {h : Heap} {mg : Str → Option Value} (c : SaysY faAll fn [] tf exB xds fileX w h K) (hs : mg "super" = none) (hg : mg "NoUse" = some (.ref (He.ga K "NoUse"))) : XnF (PySem.Challenge.rw_latebound_k70_what_is_no_preload).prog K mg "NoUse" := by
  have v := c.val (d := xd_NoUse) (by simp [xds])
  refine xn_of (d := xd_NoUse) v.2 (xc_ok v.1 v.2 rfl PySem.F.excBase_LookupError PySem.W.kxs_LookupError PySem.F.store_LookupError hs (by kernel_rfl) (by kernel_rfl) (by kernel_rfl) rfl rfl (by decide +kernel) (by kernel_rfl) (by kernel_rfl) (by kernel_rfl) (by kernel_rfl) rfl rfl rfl (by decide) (by decide) (by decide) (fun _ _ _ _ _ _ _ _ _ _ => BindsTo.of_eq rfl) (fun _ _ _ _ => rfl)) hg
theorem xvt_NoUse {w : World} {K : PySem.W.Frag} {h : Heap} {mg : Str → Option Value} (c : SaysY faAll fn [] tf exB xds fileX w h K) (hs : mg "super" = none) (hg : mg "NoUse" = some (.ref (He.ga K "NoUse"))) : XvF (PySem.Challenge.rw_latebound_k70_what_is_no_preload).prog K mg "NoUse" "number" := by
  have v := c.val (d := xd_NoUse) (by simp [xds])
  exact ⟨xnt_NoUse c hs hg, xc_okF v.1 v.2 rfl PySem.F.excBase_LookupError PySem.W.kxs_LookupError PySem.F.store_LookupError hs (by kernel_rfl) (by kernel_rfl) (by kernel_rfl) rfl rfl (by decide +kernel) (by kernel_rfl) (by kernel_rfl) (by kernel_rfl) (by kernel_rfl) rfl rfl rfl (by decide) (by decide) (by decide) (fun _ _ _ _ _ _ _ _ _ _ => BindsTo.of_eq rfl) (fun _ _ _ _ => rfl)⟩

section
/-! ### draws of the second kind, over any store -/
def draw2 (k a c n : Int) : Int × Int × Int :=
  if 0 < a then (a % k, a / k, n) else
    (((c + 51749 * (n + 1)) ^ 3 % 2147483549 * ((c + 51749 * (n + 1)) ^ 3 % 2147483549 % 30011 + 17) + (n + 1) * 7039) % 2147483629 / 32 % k, a, n + 1)
theorem draw2_in : DrIn draw2 := by
  intro a c n k ok hk
  unfold draw2
  by_cases h : 0 < a
  · rw [if_pos h]
    exact ⟨Int.emod_nonneg _ (by omega), Int.emod_lt_of_pos _ (by omega), Int.ediv_nonneg ok.a0 (by omega), ok.c0, ok.c1, ok.n0⟩
  · rw [if_neg h]
    have := ok.n0
    exact ⟨Int.emod_nonneg _ (by omega), Int.emod_lt_of_pos _ (by omega), ok.a0, ok.c0, ok.c1, by show (0 : Int) ≤ n + 1; omega⟩
theorem put_same {s : Ms} {b : Nat} {o : Mo} : (s.put b o).get b = some o := by rw [put_get', if_pos rfl]
theorem take_sp {s : Ms} {b m : Nat} {k : Int} (h : Bx' s b m) (hm : m < 1000000) (k1 : 1 ≤ k) (k2 : k ≤ 100000000) : Wp (m__law_take [.ref b, .int k] s) fun x => ∃ j : Int, x.1 = .int j ∧ 0 ≤ j ∧ j < k ∧ x.2.sz = s.sz ∧ Ext b s x.2 ∧ Bx' x.2 b (m + 1) := by
  obtain ⟨a, c, n, hb, ok, hn⟩ := h.ob
  have hin := draw2_in a c n k ok k1
  have fin : ∀ s' : Ms, m__law_take [.ref b, .int k] s = some (.int (draw2 k a c n).1, s') → s' = s.put b (.lst [.int (draw2 k a c n).2.1, .int c, .int (draw2 k a c n).2.2]) → (draw2 k a c n).2.2 ≤ n + 1 → Wp (m__law_take [.ref b, .int k] s) fun x => ∃ j : Int, x.1 = .int j ∧ 0 ≤ j ∧ j < k ∧ x.2.sz = s.sz ∧ Ext b s x.2 ∧ Bx' x.2 b (m + 1) := by
    intro s' e1 e2 e3
    subst e2
    exact ⟨_, e1, _, rfl, hin.1, hin.2.1, rfl, Ext.refl.put (.inl rfl), ⟨h.lt, _, _, _, put_same, hin.2.2, by omega⟩⟩
  have k0 : decide (0 < k) = true := decide_eq_true (by omega)
  have k1' : decide (k < 1073741824) = true := decide_eq_true (by omega)
  have ix0 : ixA (.ref b) (.int 0) s = some (.int a, s) := ixA_of (items_ref hb) rfl
  have ix1 : ixA (.ref b) (.int 1) s = some (.int c, s) := ixA_of (items_ref hb) rfl
  have ix2 : ixA (.ref b) (.int 2) s = some (.int n, s) := ixA_of (items_ref hb) rfl
  have ixN0 : ixN 3 0 = some 0 := rfl
  have ixN2 : ixN 3 2 = some 2 := rfl
  by_cases hp : 0 < a
  · have hd : decide (0 < a) = true := decide_eq_true hp
    refine fin _ ?_ rfl (by simp [draw2, hp]; omega)
    simp [iLt_eq, iEq_eq, lget_eq, lset_eq, lsome_eq, llen_eq, m__law_take, fnM, bd__law_take, sseq, sif, mtB, mop2, mvar, mcon, ix0, ix1, ix2, gtW, cmpI, sset, mcall, mcons, mnil, intW, modW, divW, ssubA, sret, hb, ixN0, draw2, hp, k0, k1', hd, k1]
  · have hd : decide (0 < a) = false := decide_eq_false hp
    have hc := ok.c0
    have hc1 := ok.c1
    have hn0 := ok.n0
    have sm : smI (c + 51749 * (n + 1)) = true := by unfold smI; rw [decide_eq_true (by omega), decide_eq_true (by omega)]; rfl
    have sm1 : smI 51749 = true := by decide
    have sm7 : smI 7039 = true := by decide
    have sm3 : ∀ j : Int, smI (j % 30011 + 17) = true := fun j => by unfold smI; rw [decide_eq_true (by omega), decide_eq_true (by omega)]; rfl
    have jx1 : ixA (.ref b) (.int 1) (s.put b (.lst [.int a, .int c, .int (n + 1)])) = some (.int c, s.put b (.lst [.int a, .int c, .int (n + 1)])) := ixA_of (items_ref put_same) rfl
    have jx2 : ixA (.ref b) (.int 2) (s.put b (.lst [.int a, .int c, .int (n + 1)])) = some (.int (n + 1), s.put b (.lst [.int a, .int c, .int (n + 1)])) := ixA_of (items_ref put_same) rfl
    refine fin _ ?_ rfl (by simp [draw2, hp])
    simp [iLt_eq, iEq_eq, lget_eq, lset_eq, lsome_eq, llen_eq, m__law_take, fnM, bd__law_take, sseq, sif, mtB, mop2, mvar, mcon, ix0, ix1, ix2, jx1, jx2, gtW, cmpI, sset, mcall, mcons, mnil, intW, modW, divW, addW, mulW, powW, ssubA, snx, sret, hb, ixN2, draw2, hp, k0, k1', hd, k1, sm, sm1, sm3, sm7]
theorem of_sp {s : Ms} {b m : Nat} {v : Mv} {ws : List Mv} (h : Bx' s b m) (hm : m < 1000000) (hv : Itm b s v ws) (h0 : ws ≠ []) (h1 : ws.length ≤ 100000000) : Wp (m__law_of [.ref b, v] s) fun x => x.1 ∈ ws ∧ x.2.sz = s.sz ∧ Ext b s x.2 ∧ Bx' x.2 b (m + 1) := by
  refine wp_fn [some (.ref b), some v] rfl rfl ?_
  unfold bd__law_of
  simp only [wp_ob, wp_om, wp_some, wp_mvar, sset, sexp, sret, sif, spar, spar3, snx, mtB, mtst, mop1, mop2, mcall, mcons, mnil, mcon, mif, mtup, mlst, mand, mor, mnot, mandV, morV, mnotV, lset_eq, List.getElem?_cons_zero, List.getElem?_cons_succ, List.set_cons_zero, List.set_cons_succ, cond_true, cond_false, lenW_of hv.items]
  have l0 : 0 < ws.length := List.length_pos_iff.mpr h0
  refine (take_sp h hm (k := (ws.length : Nat)) (by omega) (by omega)).mono fun x hx => ?_
  obtain ⟨w, s1⟩ := x
  obtain ⟨j, e, j0, j1, e1, e2, e3⟩ := hx
  simp only at e e1 e2 e3
  subst e
  have hj : j.toNat < ws.length := by omega
  exact ⟨_, ixA_of (hv.ext e2).items (atF_int j0 (List.getElem?_eq_getElem hj)), _, rfl, List.getElem_mem hj, e1, e2, e3⟩
def strV (xs : List Str) : List Mv := xs.map .str
/-- a list that is data is not the empty one -/
theorem toDL_ex {s : Ms} {α : Type} {f : α → Mv} {n : Nat} : ∀ {ys : List α}, (∀ y ∈ ys, ∃ d, toD n s (f y) = some d) → ∃ ds, toDL (toD n s) (ys.map f) = some ds ∧ ds.length = ys.length
  | [], _ => ⟨[], rfl, rfl⟩
  | y :: ys, h => by
    obtain ⟨d, hd⟩ := h y (by simp)
    obtain ⟨ds, e, l⟩ := toDL_ex (ys := ys) fun z hz => h z (by simp [hz])
    refine ⟨d :: ds, ?_, by simp [l]⟩
    show (toD n s (f y)).ob (fun d => (toDL (toD n s) (ys.map f)).om fun ds => d :: ds) = _
    rw [hd, e]; rfl
theorem ne_nilG {s : Ms} {α : Type} {f : α → Mv} {n t : Nat} {ys : List α} (g : s.get n = some (.lst (ys.map f))) (g' : s.get t = some (.lst [])) (h : ∀ y ∈ ys, ∃ d, toD 23 s (f y) = some d) : neW (.ref n) (.ref t) s = some (.bl (!ys.isEmpty), s) := by
  obtain ⟨ds, e, l⟩ := toDL_ex h
  have e1 : toD 24 s (.ref n) = some (.list ds) := by
    show (match s.get n with
      | some (.lst ws) => (toDL (toD 23 s) ws).om PyData.list
      | _ => none) = _
    rw [g]
    show (toDL (toD 23 s) (ys.map f)).om PyData.list = _
    rw [e]; rfl
  have e2 : toD 24 s (.ref t) = some (.list []) := by
    show (match s.get t with
      | some (.lst ws) => (toDL (toD 23 s) ws).om PyData.list
      | _ => none) = _
    rw [g']; rfl
  show (eqBo (.ref n) (.ref t) s).om _ = _
  have e3 : eqBo (.ref n) (.ref t) s = some ys.isEmpty := by
    show (toD 24 s (.ref n)).ob (fun d => (toD 24 s (.ref t)).om fun e => PyData.eqv d e) = _
    rw [e1, e2]
    cases ys <;> cases ds <;> simp_all [PyData.eqv, PyData.eqvAll]
  rw [e3]; rfl
theorem picked_sp {α : Type} {f : α → Mv} {s : Ms} {b m : Nat} {v : Mv} {xs : List α} {k : Int} (h : Bx' s b m) (hm : m + 12 < 1000000) (hv : Itm b s v (xs.map f)) (hl : xs.length ≤ 100) (ho : ∀ y ∈ xs, ∃ d, ∀ s, toD 23 s (f y) = some d) (k0 : 0 ≤ k) (k1 : k ≤ 10) : Wp (m__law_picked [.ref b, v, .int k] s) fun x => ∃ (n : Nat) (ys zs : List α), x.1 = .ref n ∧ s.sz ≤ n ∧ n < x.2.sz ∧ x.2.get n = some (.lst (ys.map f)) ∧ ys.length ≤ k.toNat ∧ (zs ++ ys).Perm xs ∧ Ext b s x.2 ∧ Bx' x.2 b (m + 12) := by
  refine wp_fn [some (.ref b), some v, some (.int k), none, none, none] rfl rfl ?_
  unfold bd__law_picked
  refine wp_seq ?_
  have lt := h.lt
  have hL : listW [v] s = some (.ref s.sz, push s (.lst (xs.map f))) := by
    show (items v s).ob (fun xs => newL xs s) = _
    rw [hv.items, ob_of, newL_of (by simp; omega)]
  simp only [wp_ob, wp_om, wp_some, wp_mvar, sset, sexp, sret, sif, spar, spar3, snx, mtB, mtst, mop1, mop2, mcall, mcons, mnil, mcon, mif, mtup, mlst, mand, mor, mnot, mandV, morV, mnotV, lset_eq, List.getElem?_cons_zero, List.getElem?_cons_succ, List.set_cons_zero, List.set_cons_succ, cond_true, cond_false, hL, newL_of (show ([] : List Mv).length ≤ 16777216 by decide)]
  refine ⟨trivial, wp_seq ?_⟩
  refine wp_for (wp_R1 ?_)
  simp only [wp_ob, wp_om, wp_some, wp_mvar, sset, sexp, sret, sif, spar, spar3, snx, mtB, mtst, mop1, mop2, mcall, mcons, mnil, mcon, mif, mtup, mlst, mand, mor, mnot, mandV, morV, mnotV, lset_eq, List.getElem?_cons_zero, List.getElem?_cons_succ, List.set_cons_zero, List.set_cons_succ, cond_true, cond_false, addW]
  refine (take_sp ((h.push).push) (by omega) (show 1 ≤ Int.add k 1 by show 1 ≤ k + 1; omega) (show k + 1 ≤ 100000000 by omega)).mono fun x hx => ?_
  obtain ⟨w, s1⟩ := x
  obtain ⟨j, e, j0, j1, e1, e2, e3⟩ := hx
  simp only at e e1 e2 e3
  subst e
  have j1 : j < k + 1 := j1
  refine ⟨j, rfl, okI_of j0 (by omega), ?_⟩
  have gL : s1.get s.sz = some (.lst (xs.map f)) := e2.at (by rw [push_sz, push_sz]; omega) (by omega) (by rw [push_get, if_neg (by rw [push_sz]; omega), push_get, if_pos rfl])
  have gF : s1.get (s.sz + 1) = some (.lst (([] : List α).map f)) := e2.at (by rw [push_sz, push_sz]; omega) (by omega) (by rw [push_get, if_pos push_sz.symm]; rfl)
  have ex1 : Ext b s s1 := (Ext.push.trans Ext.push).trans e2
  have z1 : s1.sz = s.sz + 2 := e1
  refine (wp_loop (rngL 0 j.toNat) (fun i r s' => ∃ (o : Option Mv) (ys zs : List α), r = [some (.ref b), some v, some (.int k), some (.ref s.sz), some (.ref (s.sz + 1)), o] ∧ s'.get s.sz = some (.lst (zs.map f)) ∧ s'.get (s.sz + 1) = some (.lst (ys.map f)) ∧ ys.length ≤ i ∧ (zs ++ ys).Perm xs ∧ s.sz + 2 ≤ s'.sz ∧ Ext b s s' ∧ Bx' s' b (m + 1 + i)) (fun i r s' _ _ => gives_rng) ?_ 1000000000 0 _ _ (by rw [rngL_len]; omega) (by omega) ?_).mono ?_
  · rintro i w r s' hw ⟨o, ys, zs, rfl, g1, g2, hl', hp, hz, hx, hB⟩
    obtain ⟨hi, rfl⟩ := rngL_get hw
    have hln := hp.length_eq
    simp only [List.length_append] at hln
    have ok : ∀ y ∈ zs, ∃ d, toD 23 (push s' (.lst [])) (f y) = some d := fun y hy => (ho y (hp.subset (List.mem_append_left _ hy))).elim fun d hd => ⟨d, hd _⟩
    refine ⟨_, rfl, ?_⟩
    have p1 : (push s' (.lst [])).get s.sz = some (.lst (zs.map f)) := by rw [push_get, if_neg (by omega)]; exact g1
    have p2 : (push s' (.lst [])).get (s.sz + 1) = some (.lst (ys.map f)) := by rw [push_get, if_neg (by omega)]; exact g2
    simp only [wp_ob, wp_om, wp_some, wp_mvar, sset, sexp, sret, sif, spar, spar3, snx, mtB, mtst, mop1, mop2, mcall, mcons, mnil, mcon, mif, mtup, mlst, mand, mor, mnot, mandV, morV, mnotV, lset_eq, List.getElem?_cons_zero, List.getElem?_cons_succ, List.set_cons_zero, List.set_cons_succ, cond_true, cond_false, newL_of (show ([] : List Mv).length ≤ 16777216 by decide), ne_nilG p1 Ms.get_push ok]
    cases zs with
    | nil =>
      simp only [wp_ob, wp_om, wp_some, wp_mvar, sset, sexp, sret, sif, spar, spar3, snx, mtB, mtst, mop1, mop2, mcall, mcons, mnil, mcon, mif, mtup, mlst, mand, mor, mnot, mandV, morV, mnotV, lset_eq, List.getElem?_cons_zero, List.getElem?_cons_succ, List.set_cons_zero, List.set_cons_succ, cond_true, cond_false, List.isEmpty_nil, Bool.not_true]
      exact ⟨trivial, _, ys, [], rfl, p1, p2, by omega, hp, by rw [push_sz]; omega, hx.trans Ext.push, hB.push.mono (by omega)⟩
    | cons z zs =>
      simp only [wp_ob, wp_om, wp_some, wp_mvar, sset, sexp, sret, sif, spar, spar3, snx, mtB, mtst, mop1, mop2, mcall, mcons, mnil, mcon, mif, mtup, mlst, mand, mor, mnot, mandV, morV, mnotV, lset_eq, List.getElem?_cons_zero, List.getElem?_cons_succ, List.set_cons_zero, List.set_cons_succ, cond_true, cond_false, List.isEmpty_cons, Bool.not_false]
      refine wp_app (n := s.sz + 1) (by rfl) p2 ?_
      simp only [wp_ob, wp_om, wp_some, wp_mvar, sset, sexp, sret, sif, spar, spar3, snx, mtB, mtst, mop1, mop2, mcall, mcons, mnil, mcon, mif, mtup, mlst, mand, mor, mnot, mandV, morV, mnotV, lset_eq, List.getElem?_cons_zero, List.getElem?_cons_succ, List.set_cons_zero, List.set_cons_succ, cond_true, cond_false]
      refine wp_pop (n := s.sz) (by rfl) p1 ?_
      simp only [wp_ob, wp_om, wp_some, wp_mvar, sset, sexp, sret, sif, spar, spar3, snx, mtB, mtst, mop1, mop2, mcall, mcons, mnil, mcon, mif, mtup, mlst, mand, mor, mnot, mandV, morV, mnotV, lset_eq, List.getElem?_cons_zero, List.getElem?_cons_succ, List.set_cons_zero, List.set_cons_succ, cond_true, cond_false, lenW_of (items_ref p1)]
      refine (take_sp hB.push (by omega) (by simp; omega) (by simp; simp at hln; omega)).mono fun x hx' => ?_
      obtain ⟨w, s2⟩ := x
      obtain ⟨j', e', j0', j1', e1', e2', e3'⟩ := hx'
      simp only at e' e1' e2' e3'
      subst e'
      have lj : j'.toNat < (z :: zs).length := by simp at j1' ⊢; omega
      refine ⟨j', (z :: zs).map f, f (z :: zs)[j'.toNat], rfl, j0', e2'.at (by rw [push_sz]; omega) (by omega) p1, by rw [List.getElem?_map, List.getElem?_eq_getElem lj]; rfl, ?_⟩
      refine ⟨_, ys.map f, rfl, ?_, by simp; omega, ?_⟩
      · show (s2.put s.sz _).get (s.sz + 1) = _
        rw [put_get', if_neg (by omega)]
        exact e2'.at (by rw [push_sz]; omega) (by omega) p2
      rw [push_sz] at e1'
      refine ⟨trivial, _, ys ++ [(z :: zs)[j'.toNat]], (z :: zs).eraseIdx j'.toNat, rfl, ?_, ?_, ?_, ?_, ?_, ?_, ?_⟩
      · rw [put_get', if_neg (by omega), put_get', if_pos rfl]
        rw [erase_map]
      · rw [put_get', if_pos rfl]
        simp
      · simp; omega
      · refine List.Perm.trans ?_ hp
        have q1 := erase_perm (z :: zs) j'.toNat lj
        have q2 : ((z :: zs).eraseIdx j'.toNat ++ (ys ++ [(z :: zs)[j'.toNat]])).Perm (((z :: zs)[j'.toNat] :: (z :: zs).eraseIdx j'.toNat) ++ ys) := by
          rw [← List.append_assoc]
          exact (List.perm_append_singleton _ _)
        exact q2.trans (q1.append_right ys)
      · show _ ≤ s2.sz
        omega
      · refine (Ext.put (Ext.put ((hx.trans Ext.push).trans e2') ?_) ?_)
        · exact .inr (Nat.le_refl _)
        · exact .inr (by omega)
      · exact (Bx'.put (Bx'.put e3' (by omega)) (by omega)).mono (by omega)
  · exact ⟨none, [], xs, rfl, gL, gF, by simp, by simp, Nat.le_of_eq z1.symm, ex1, e3.mono (by omega)⟩
  · rintro ⟨fl, r, s'⟩ ⟨e, o, ys, zs, e1, g1, g2, hl', hp, hz, hx, hB⟩
    simp only at e e1 g1 g2 hz hx hB
    subst e e1
    rw [rngL_len] at hl' hB
    refine ⟨rfl, ?_⟩
    simp only [wp_ob, wp_om, wp_some, wp_mvar, sset, sexp, sret, sif, spar, spar3, snx, mtB, mtst, mop1, mop2, mcall, mcons, mnil, mcon, mif, mtup, mlst, mand, mor, mnot, mandV, morV, mnotV, lset_eq, List.getElem?_cons_zero, List.getElem?_cons_succ, List.set_cons_zero, List.set_cons_succ, cond_true, cond_false]
    exact ⟨_, rfl, s.sz + 1, ys, zs, rfl, by omega, by omega, g2, by omega, hp, hx, hB.mono (by omega)⟩

end
section
theorem strOk_all {s : Ms} : ∀ (ys : List Str) (n : Nat), (∀ y ∈ ys, PyData.strOk y = true) → toDL (toD (n + 1) s) (strV ys) = some (ys.map .str)
  | [], _, _ => rfl
  | y :: ys, n, h => by
    show (toD (n + 1) s (.str y)).ob (fun d => (toDL (toD (n + 1) s) (strV ys)).om fun ds => d :: ds) = _
    rw [strOk_all ys n fun z hz => h z (by simp [hz])]
    show (cond (PyData.strOk y) (some (PyData.str y)) none).ob _ = _
    rw [h y (by simp)]; rfl
def pairV (ds : List (Str × Str)) : List Mv := ds.map fun d => .tup [.str d.1, .str d.2]
end
section
/-! ### a drawn library, a drawn program -/
structure PLib where
  own : Str
  needs : List Str
  defs : List (Str × Str)
  uses : List ((Str × Str) × Bool)
def useV (us : List ((Str × Str) × Bool)) : List Mv := us.map fun u => .tup [.str u.1.1, .str u.1.2, .bl u.2]
def PLib.mv (l : PLib) : Mv := .tup [.str l.own, .tup (strV l.needs), .tup (pairV l.defs), .tup (useV l.uses)]
theorem eq_str {x y : Str} {s : Ms} : eqW (.str x) (.str y) s = some (.bl (decide (x = y)), s) := by
  show (eqBo (.str x) (.str y) s).om _ = _
  show (some (strEq x y)).om _ = _
  rw [strEq_eq]; rfl
theorem ne_str {x y : Str} {s : Ms} : neW (.str x) (.str y) s = some (.bl (!decide (x = y)), s) := by
  show (some (strEq x y)).om _ = _
  rw [strEq_eq]; rfl
theorem eq_int {x y : Int} {s : Ms} : eqW (.int x) (.int y) s = some (.bl (decide (x = y)), s) := by
  show (some (iEq x y)).om _ = _
  rw [iEq_eq]; rfl
theorem tup_of {v : Mv} {ws : List Mv} {s : Ms} (h : items v s = some ws) (hl : ws.length ≤ 16777216) : tupleW [v] s = some (.tup ws, s) := by
  show (items v s).ob (fun xs => newT xs s) = _
  rw [h, ob_of, newT_of hl]

end
section
structure Plot where
  libs : List PLib
  early : List Str
  doors : List (Str × Str)
def Plot.mv (P : Plot) : Mv := .tup [.tup (P.libs.map PLib.mv), .tup (strV P.early), .tup (pairV P.doors)]
def Plot.folk (P : Plot) : List Str := P.libs.map (·.own)
def MODESD : List Str := [x_global, x_local, x_deep]
theorem modes_ok : ∀ y ∈ MODESD, PyData.strOk y = true := by decide +kernel
theorem toD_pair {s : Ms} {n : Nat} {d : Str × Str} (h1 : PyData.strOk d.1 = true) (h2 : PyData.strOk d.2 = true) : toD (n + 2) s (.tup [.str d.1, .str d.2]) = some (.tuple [.str d.1, .str d.2]) := by
  show (toDL (toD (n + 1) s) (strV [d.1, d.2])).om PyData.tuple = _
  rw [strOk_all [d.1, d.2] n (by simp [h1, h2])]; rfl
theorem toDL_pairs {s : Ms} {n : Nat} : ∀ (ds : List (Str × Str)), (∀ d ∈ ds, PyData.strOk d.1 = true ∧ PyData.strOk d.2 = true) → toDL (toD (n + 2) s) (pairV ds) = some (ds.map fun d => .tuple [.str d.1, .str d.2])
  | [], _ => rfl
  | d :: ds, h => by
    show (toD (n + 2) s (.tup [.str d.1, .str d.2])).ob (fun z => (toDL (toD (n + 2) s) (pairV ds)).om fun zs => z :: zs) = _
    rw [toD_pair (h d (by simp)).1 (h d (by simp)).2, toDL_pairs ds fun z hz => h z (by simp [hz])]; rfl
theorem any_pair (d : Str × Str) : ∀ ds : List (Str × Str), ((ds.map fun d => PyData.tuple [.str d.1, .str d.2]).any fun z => PyData.eqv z (.tuple [.str d.1, .str d.2])) = decide (d ∈ ds)
  | [] => by simp
  | e :: ds => by
    rw [List.map_cons, List.any_cons, any_pair d ds]
    have : PyData.eqv (.tuple [.str e.1, .str e.2]) (.tuple [.str d.1, .str d.2]) = decide (d = e) := by
      obtain ⟨e1, e2⟩ := e
      obtain ⟨d1, d2⟩ := d
      simp only [PyData.eqv, PyData.eqvAll, Bool.and_true, Prod.mk.injEq]
      by_cases h1 : e1 = d1
      · by_cases h2 : e2 = d2
        · subst h1; subst h2; simp
        · have h2' : ¬ d2 = e2 := fun z => h2 z.symm
          simp [h1, h2, h2']
      · have h1' : ¬ d1 = e1 := fun z => h1 z.symm
        simp [h1, h1']
    rw [this]
    by_cases h : d = e <;> simp [h]
theorem nin_pair {s : Ms} {n : Nat} {d : Str × Str} {ds : List (Str × Str)} (g : s.get n = some (.lst (pairV ds))) (hd : PyData.strOk d.1 = true ∧ PyData.strOk d.2 = true) (h : ∀ d ∈ ds, PyData.strOk d.1 = true ∧ PyData.strOk d.2 = true) : ninA (.tup [.str d.1, .str d.2]) (.ref n) s = some (.bl (!decide (d ∈ ds)), s) := by
  have h1 : dinW true (.tup [.str d.1, .str d.2]) (.ref n) s = none := by
    unfold dinW
    simp only [g]
    rfl
  have h2 : inBo (.tup [.str d.1, .str d.2]) (.ref n) s = some (decide (d ∈ ds)) := by
    unfold inBo
    rw [items_ref g, ob_of]
    show ((toD 24 s (.tup [.str d.1, .str d.2])).ob fun e => (toDL (toD 23 s) (pairV ds)).om fun es => es.any fun z => PyData.eqv z e) = _
    rw [toD_pair hd.1 hd.2, ob_of, toDL_pairs ds h, om_of, any_pair]
  unfold ninA
  rw [h1]
  show (inBo _ _ s).om _ = _
  rw [h2]; rfl
end
section
/-! ### values that read like tuples -/
mutual
inductive Rd (s : Ms) : Mv → Mv → Prop
  | non : Rd s .non .non
  | bl (b : Bool) : Rd s (.bl b) (.bl b)
  | int (i : Int) : Rd s (.int i) (.int i)
  | str (x : Str) : Rd s (.str x) (.str x)
  | tup {ws vs : List Mv} : RdL s ws vs → Rd s (.tup ws) (.tup vs)
  | lst {ws vs : List Mv} {n : Nat} : n < s.sz → s.get n = some (.lst vs) → RdL s ws vs → Rd s (.tup ws) (.ref n)
inductive RdL (s : Ms) : List Mv → List Mv → Prop
  | nil : RdL s [] []
  | cons {w v : Mv} {ws vs : List Mv} : Rd s w v → RdL s ws vs → RdL s (w :: ws) (v :: vs)
end
mutual
theorem Rd.ex0 {s s' : Ms} (x : Ex0 s s') : ∀ {w v : Mv}, Rd s w v → Rd s' w v
  | _, _, .non => .non
  | _, _, .bl b => .bl b
  | _, _, .int i => .int i
  | _, _, .str y => .str y
  | _, _, .tup l => .tup (RdL.ex0 x l)
  | _, _, .lst h g l => .lst (Nat.lt_of_lt_of_le h x.sz) (x.at h g) (RdL.ex0 x l)
theorem RdL.ex0 {s s' : Ms} (x : Ex0 s s') : ∀ {w v : List Mv}, RdL s w v → RdL s' w v
  | _, _, .nil => .nil
  | _, _, .cons a l => .cons (Rd.ex0 x a) (RdL.ex0 x l)
end
theorem RdL.length {s : Ms} : ∀ {ws vs : List Mv}, RdL s ws vs → vs.length = ws.length
  | _, _, .nil => rfl
  | _, _, .cons _ l => by rw [List.length_cons, List.length_cons, l.length]
theorem RdL.get {s : Ms} : ∀ {ws vs : List Mv}, RdL s ws vs → ∀ {i : Nat} {v : Mv}, vs[i]? = some v → ∃ w, ws[i]? = some w ∧ Rd s w v
  | _, _, .nil, i, v, e => by simp at e
  | _, _, .cons h l, 0, v, e => by simp at e; subst e; exact ⟨_, rfl, h⟩
  | _, _, .cons h l, i + 1, v, e => by simpa using l.get (i := i) (by simpa using e)
theorem RdL.append {s : Ms} : ∀ {ws ws' vs vs' : List Mv}, RdL s ws vs → RdL s ws' vs' → RdL s (ws ++ ws') (vs ++ vs')
  | _, _, _, _, .nil, h => h
  | _, _, _, _, .cons a l, h => .cons a (l.append h)
theorem Rd.items {s : Ms} {ws : List Mv} {v : Mv} (h : Rd s (.tup ws) v) : ∃ vs, items v s = some vs ∧ RdL s ws vs := by
  cases h with
  | tup l => exact ⟨_, rfl, l⟩
  | lst h g l => exact ⟨_, items_ref g, l⟩
theorem Rd.at {s : Ms} {ws : List Mv} {v : Mv} (h : Rd s (.tup ws) v) {i : Nat} {w : Mv} (e : ws[i]? = some w) : ∃ u, ixA v (.int (i : Int)) s = some (u, s) ∧ Rd s w u := by
  obtain ⟨vs, h1, h2⟩ := h.items
  have hi := (List.getElem?_eq_some_iff.mp e).1
  have hv : i < vs.length := by rw [h2.length]; exact hi
  obtain ⟨w', e1, e2⟩ := h2.get (List.getElem?_eq_getElem hv)
  rw [e] at e1; cases e1
  exact ⟨_, ixA_of h1 (atF_of (List.getElem?_eq_getElem hv)), e2⟩
theorem Rd.len {s : Ms} {ws : List Mv} {v : Mv} (h : Rd s (.tup ws) v) : lenW [v] s = some (.int (ws.length : Nat), s) := by
  obtain ⟨vs, h1, h2⟩ := h.items
  rw [lenW_of h1, h2.length]
theorem rd_map {s : Ms} {α : Type} {f : α → Mv} (h : ∀ a, Rd s (f a) (f a)) : ∀ l : List α, RdL s (l.map f) (l.map f)
  | [] => .nil
  | a :: l => .cons (h a) (rd_map h l)
theorem rd_strV {s : Ms} (xs : List Str) : RdL s (strV xs) (strV xs) := rd_map (fun _ => .str _) xs
theorem rd_pairV {s : Ms} (xs : List (Str × Str)) : RdL s (pairV xs) (pairV xs) := rd_map (fun _ => .tup (.cons (.str _) (.cons (.str _) .nil))) xs
theorem rd_useV {s : Ms} (xs : List ((Str × Str) × Bool)) : RdL s (useV xs) (useV xs) := rd_map (fun _ => .tup (.cons (.str _) (.cons (.str _) (.cons (.bl _) .nil)))) xs
theorem rd_lib {s : Ms} (l : PLib) : Rd s l.mv l.mv := .tup (.cons (.str _) (.cons (.tup (rd_strV _)) (.cons (.tup (rd_pairV _)) (.cons (.tup (rd_useV _)) .nil))))
theorem rd_plot {s : Ms} (P : Plot) : Rd s P.mv P.mv := .tup (.cons (.tup (rd_map rd_lib _)) (.cons (.tup (rd_strV _)) (.cons (.tup (rd_pairV _)) .nil)))
/-! ### lists in the place of tuples -/
inductive Pu : Nat → Mv → Prop
  | non {n : Nat} : Pu n .non
  | bl {n : Nat} (b : Bool) : Pu n (.bl b)
  | int {n : Nat} (i : Int) : Pu n (.int i)
  | str {n : Nat} (x : Str) : Pu n (.str x)
  | tup {n : Nat} {ws : List Mv} : ws.length ≤ 1000 → (∀ w ∈ ws, Pu n w) → Pu (n + 1) (.tup ws)
theorem pu_map {α : Type} {n : Nat} {f : α → Mv} (h : ∀ a, Pu n (f a)) {l : List α} (hl : l.length ≤ 1000) : Pu (n + 1) (.tup (l.map f)) := .tup (by simpa using hl) (fun w hw => by obtain ⟨a, _, rfl⟩ := List.mem_map.mp hw; exact h a)
theorem Pu.up {n m : Nat} {w : Mv} (h : Pu n w) : n ≤ m → Pu m w := by
  induction h generalizing m with
  | non => exact fun _ => .non
  | bl b => exact fun _ => .bl b
  | int i => exact fun _ => .int i
  | str x => exact fun _ => .str x
  | tup l _ ih =>
    intro hm
    obtain ⟨k, rfl⟩ : ∃ k, m = k + 1 := ⟨m - 1, by omega⟩
    exact .tup l fun w hw => ih w hw (by omega)
theorem pu_lib (l : PLib) (h1 : l.needs.length ≤ 1000) (h2 : l.defs.length ≤ 1000) (h3 : l.uses.length ≤ 1000) : Pu 3 l.mv := .tup (by simp) (by
  intro w hw
  simp only [List.mem_cons, List.not_mem_nil, or_false] at hw
  rcases hw with rfl | rfl | rfl | rfl
  · exact .str _
  · exact (pu_map (n := 0) (fun _ => .str _) h1).up (by omega)
  · exact pu_map (n := 1) (fun _ => .tup (by simp) (by simp; exact ⟨.str _, .str _⟩)) h2
  · exact pu_map (n := 1) (fun _ => .tup (by simp) (by simp; exact ⟨.str _, .str _, .bl _⟩)) h3)

end
section
theorem ty_tup {s : Ms} {ws : List Mv} : tyOf (.tup ws) s = some .tuple := rfl
theorem lists_sp : ∀ (d : Nat) (w : Mv) (s : Ms), Pu d w → Wp (m__law_lists (d + 1) [w] s) fun x => Rd x.2 w x.1 ∧ Ex0 s x.2
  | d, .non, s, _ => ⟨_, rfl, .non, Ex0.refl⟩
  | d, .bl b, s, _ => ⟨_, rfl, .bl b, Ex0.refl⟩
  | d, .int i, s, _ => ⟨_, rfl, .int i, Ex0.refl⟩
  | d, .str x, s, _ => ⟨_, rfl, .str x, Ex0.refl⟩
  | d + 1, .tup ws, s, h => by
    have hl : ws.length ≤ 1000 ∧ ∀ w ∈ ws, Pu d w := by cases h with | tup a b => exact ⟨a, b⟩
    refine wp_fn [some (.tup ws), none] rfl rfl ?_
    unfold b0__law_lists
    simp only [wp_ob, wp_om, wp_some, wp_mvar, sset, sexp, sret, sif, spar, spar3, snx, mtB, mtst, mop1, mop2, mcall, mcons, mnil, mcon, mif, mtup, mlst, mand, mor, mnot, mandV, morV, mnotV, lset_eq, List.getElem?_cons_zero, List.getElem?_cons_succ, List.set_cons_zero, List.set_cons_succ, cond_true, cond_false, misiT, ty_tup, isaT, List.any_cons, List.any_nil, decide_true, decide_false, Bool.or_true, Bool.true_or, Bool.or_false, tru, reduceCtorEq]
    refine wp_lc (wp_S' ?_)
    simp only [wp_ob, wp_om, wp_some, wp_mvar, sset, sexp, sret, sif, spar, spar3, snx, mtB, mtst, mop1, mop2, mcall, mcons, mnil, mcon, mif, mtup, mlst, mand, mor, mnot, mandV, morV, mnotV, lset_eq, List.getElem?_cons_zero, List.getElem?_cons_succ, List.set_cons_zero, List.set_cons_succ, cond_true, cond_false]
    refine ⟨ws, rfl, fun it git => ?_⟩
    refine (wp_flat ws (fun i acc s' => RdL s' (ws.take i) acc ∧ Ex0 s s') (fun i acc s' _ _ => git s' rfl) ?_ 1000000000 0 [] s (by omega) (by omega) ⟨.nil, Ex0.refl⟩).mono ?_
    · rintro i w acc s' hw ⟨a1, a2⟩
      unfold mstep
      simp only [wp_ob, wp_om, wp_some, wp_mvar, sset, sexp, sret, sif, spar, spar3, snx, mtB, mtst, mop1, mop2, mcall, mcons, mnil, mcon, mif, mtup, mlst, mand, mor, mnot, mandV, morV, mnotV, lset_eq, List.getElem?_cons_zero, List.getElem?_cons_succ, List.set_cons_zero, List.set_cons_succ, cond_true, cond_false, mwipe, Tg.asg, myes]
      refine (lists_sp d w s' (hl.2 w (List.mem_of_getElem? hw))).mono fun x hx => ?_
      refine ⟨?_, a2.trans hx.2⟩
      rw [List.take_add_one, hw]
      exact (a1.ex0 hx.2).append (.cons hx.1 .nil)
    · rintro ⟨acc, s'⟩ ⟨a1, a2⟩
      simp only [List.nil_append, List.take_length] at a1 a2
      refine ⟨by rw [a1.length]; omega, _, rfl, .lst (by rw [push_sz]; omega) Ms.get_push (a1.ex0 Ex0.push), a2.trans Ex0.push⟩
  | 0, .tup ws, s, h => by cases h
  | _, .ref _, _, h => by cases h
  | _, .ty _, _, h => by cases h
  | _, .fl _, _, h => by cases h
  | _, .cls _, _, h => by cases h

end
section
/-! ### texts in lists; libraries by name -/
theorem strs_of : ∀ xs : List Str, strsOf (strV xs) = some xs
  | [] => rfl
  | x :: xs => by
    show (strsOf (strV xs)).om (fun r => x :: r) = _
    rw [strs_of xs]; rfl
theorem any_strEq (x : Str) : ∀ xs : List Str, (xs.any fun y => strEq y x) = decide (x ∈ xs)
  | [] => by simp
  | y :: xs => by
    rw [List.any_cons, any_strEq x xs, strEq_eq]
    by_cases h : x = y
    · subst h; simp
    · have h' : ¬ y = x := fun z => h z.symm
      simp [h, h']
theorem inBo_strs {s : Ms} {v : Mv} {x : Str} {xs : List Str} (h : items v s = some (strV xs)) : inBo (.str x) v s = some (decide (x ∈ xs)) := by
  unfold inBo
  rw [h, ob_of]
  simp only [strs_of, any_strEq]
theorem inA_tup {s : Ms} {x : Str} {xs : List Str} : inA (.str x) (.tup (strV xs)) s = some (.bl (decide (x ∈ xs)), s) := by
  unfold inA
  show (inBo (.str x) (.tup (strV xs)) s).om _ = _
  rw [inBo_strs rfl]; rfl
theorem in_lst {s : Ms} {n : Nat} {x : Str} {xs : List Str} (h : s.get n = some (.lst (strV xs))) : inA (.str x) (.ref n) s = some (.bl (decide (x ∈ xs)), s) := by
  have e : dinW false (.str x) (.ref n) s = none := by
    unfold dinW
    simp only [h]
    rfl
  unfold inA
  rw [e]
  show (inBo (.str x) (.ref n) s).om _ = _
  rw [inBo_strs (items_ref h)]; rfl
theorem find_own : ∀ {ls : List PLib} {l : PLib}, (ls.map (·.own)).Nodup → l ∈ ls → ls.find? (fun k => decide (k.own = l.own)) = some l
  | k :: ls, l, nd, hl => by
    rw [List.map_cons, List.nodup_cons] at nd
    rw [List.find?_cons]
    by_cases h : k.own = l.own
    · rw [decide_eq_true h]
      rcases List.mem_cons.mp hl with rfl | hl'
      · rfl
      · exact (nd.1 (h ▸ List.mem_map_of_mem hl')).elim
    · rw [decide_eq_false h]
      rcases List.mem_cons.mp hl with rfl | hl'
      · exact (h rfl).elim
      · exact find_own nd.2 hl'
  | [], l, _, hl => by cases hl
theorem strV_get {xs : List Str} {i : Nat} {w : Mv} (h : (strV xs)[i]? = some w) : ∃ x, xs[i]? = some x ∧ w = .str x := by
  unfold strV at h
  rw [List.getElem?_map] at h
  cases e : xs[i]? with
  | none => rw [e] at h; cases h
  | some x => rw [e] at h; cases h; exact ⟨x, rfl, rfl⟩
theorem strV_len {xs : List Str} : (strV xs).length = xs.length := by simp [strV]
theorem strV_app {xs ys : List Str} : strV (xs ++ ys) = strV xs ++ strV ys := by simp [strV]
theorem cat_l {s : Ms} {n m : Nat} {x y : List Mv} (hn : s.get n = some (.lst x)) (hm : s.get m = some (.lst y)) (hl : x.length + y.length ≤ 16777216) : addW (.ref n) (.ref m) s = some (.ref s.sz, push s (.lst (x ++ y))) := by
  unfold addW
  simp only [hn, hm]
  rw [newL_of (by simpa using hl)]
theorem nT {ws : List Mv} {s : Ms} (h : ws.length ≤ 4) : newT ws s = some (.tup ws, s) := newT_of (by omega)
theorem ix0 {s : Ms} {a : Mv} {ws : List Mv} : ixA (.tup (a :: ws)) (.int 0) s = some (a, s) := rfl
theorem ix1 {s : Ms} {a b : Mv} {ws : List Mv} : ixA (.tup (a :: b :: ws)) (.int 1) s = some (b, s) := rfl
theorem ix2 {s : Ms} {a b c : Mv} {ws : List Mv} : ixA (.tup (a :: b :: c :: ws)) (.int 2) s = some (c, s) := rfl
theorem lenT {s : Ms} {ws : List Mv} : lenW [.tup ws] s = some (.int (ws.length : Nat), s) := rfl
theorem ltI {i j : Int} {s : Ms} : ltW (.int i) (.int j) s = some (.bl (decide (i < j)), s) := by
  show some (Mv.bl (iLt i j), s) = _
  rw [iLt_eq]
theorem Ex0.put {s s' : Ms} {n : Nat} {o : Mo} (h : Ex0 s s') (hn : s.sz ≤ n) : Ex0 s (s'.put n o) := ⟨h.sz, fun m hm => by rw [put_get_ne (by omega)]; exact h.get m hm⟩
theorem plot0 {P : Plot} {s : Ms} : ixA P.mv (.int 0) s = some (.tup (P.libs.map PLib.mv), s) := rfl
theorem lib0 {l : PLib} {s : Ms} : ixA l.mv (.int 0) s = some (.str l.own, s) := rfl
theorem lib2 {l : PLib} {s : Ms} : ixA l.mv (.int 2) s = some (.tup (pairV l.defs), s) := rfl
theorem lib3 {l : PLib} {s : Ms} : ixA l.mv (.int 3) s = some (.tup (useV l.uses), s) := rfl
theorem pairV_len {ds : List (Str × Str)} : (pairV ds).length = ds.length := by simp [pairV]
theorem useV_len {ds : List ((Str × Str) × Bool)} : (useV ds).length = ds.length := by simp [useV]
/-- what is asked of a program: names that are different, and known -/
structure PlotW (P : Plot) : Prop where
  nd : P.folk.Nodup
  needs : ∀ l ∈ P.libs, ∀ x ∈ l.needs, x ∈ P.folk
  len : P.libs.length ≤ 50
  lens : ∀ l ∈ P.libs, l.needs.length ≤ 100 ∧ l.defs.length ≤ 100 ∧ l.uses.length ≤ 20
  early : ∀ x ∈ P.early, x ∈ P.folk
  elen : P.early.length ≤ 100
  doors : ∀ d ∈ P.doors, d.1 ∈ P.folk
  dlen : P.doors.length ≤ 100
  main : P.libs ≠ []
  fok : ∀ x ∈ P.folk, PyData.strOk x = true
  dok : ∀ l ∈ P.libs, ∀ d ∈ l.defs, PyData.strOk d.1 = true ∧ PyData.strOk d.2 = true
  uok : ∀ l ∈ P.libs, ∀ u ∈ l.uses, PyData.strOk u.1.1 = true ∧ PyData.strOk u.1.2 = true
  fsz : ∀ x ∈ P.folk, x.cps.size ≤ 20
  dsz : ∀ l ∈ P.libs, ∀ d ∈ l.defs, d.1.cps.size ≤ 20 ∧ d.2.cps.size ≤ 20
  usz : ∀ l ∈ P.libs, ∀ u ∈ l.uses, u.1.1.cps.size ≤ 20 ∧ u.1.2.cps.size ≤ 20
def Plot.lib? (P : Plot) (x : Str) : Option PLib := P.libs.find? fun l => decide (l.own = x)
theorem lib_mem {P : Plot} {x : Str} {l : PLib} (h : P.lib? x = some l) : l ∈ P.libs ∧ l.own = x := ⟨List.mem_of_find?_eq_some h, by have := List.find?_some h; simpa using this⟩
theorem lib_some {P : Plot} {x : Str} (h : x ∈ P.folk) : ∃ l, P.lib? x = some l := by
  obtain ⟨l, hl, rfl⟩ := List.mem_map.mp h
  cases e : P.lib? l.own with
  | some k => exact ⟨k, rfl⟩
  | none =>
    have := List.find?_eq_none.mp e l hl
    simp at this
theorem lib_at {P : Plot} (w : PlotW P) {l : PLib} (h : l ∈ P.libs) : P.lib? l.own = some l := find_own w.nd h
def Plot.needs (P : Plot) (x : Str) : List Str := ((P.lib? x).map (·.needs)).getD []
/-! breadth first -/
def stepB (P : Plot) (i : Nat) (f : List Str) : List Str := match f[i]? with
  | some x => (P.needs x).foldl addN f
  | none => f
def bfsF (P : Plot) : Nat → Nat → List Str → List Str
  | 0, _, f => f
  | k + 1, i, f => if i < f.length then bfsF P k (i + 1) (stepB P i f) else f
def rowF (P : Plot) (names : List Str) : List Str := bfsF P (P.libs.length + 1) 0 (names.foldl addN [])
/-- as many as there are at most -/
theorem len_nd {α : Type} [DecidableEq α] : ∀ {xs ys : List α}, xs.Nodup → (∀ x ∈ xs, x ∈ ys) → xs.length ≤ ys.length
  | [], _, _, _ => Nat.zero_le _
  | x :: xs, ys, nd, h => by
    rw [List.nodup_cons] at nd
    have hx := h x (by simp)
    have := len_nd (xs := xs) (ys := ys.erase x) nd.2 fun y hy => (List.mem_erase_of_ne (fun z : y = x => nd.1 (z ▸ hy))).mpr (h y (by simp [hy]))
    rw [List.length_erase_of_mem hx] at this
    have := List.length_pos_of_mem hx
    rw [List.length_cons]
    omega
end
section
/-! ### drawn programs of the second kind -/
def POOL2 : List Str := [x_a, x_b, x_core, x_d, x_ext, x_fmt, x_zlib]
def PAIRS2 : List (Str × Str) := [(x_f, x_), (x_f, x_one), (x_f, x_two), (x_g, x_), (x_g, x_one), (x_g, x_two)]
theorem pool2_ok : ∀ y ∈ x_main :: POOL2, PyData.strOk y = true ∧ y.cps.size ≤ 20 := by decide +kernel
theorem pool2_nd : (x_main :: POOL2).Nodup := by decide +kernel
theorem pairs2_ok : ∀ d ∈ PAIRS2, (PyData.strOk d.1 = true ∧ PyData.strOk d.2 = true) ∧ d.1.cps.size ≤ 20 ∧ d.2.cps.size ≤ 20 := by decide +kernel
theorem cut_to {ws : List Mv} (k : Nat) : cutM ws none (some (k : Int)) = ws.take k := by
  unfold cutM
  rw [HT.sIx_none, HT.sIx_nat, List.drop_zero, Nat.sub_zero]
  by_cases h : k ≤ ws.length
  · rw [Nat.min_eq_left h]
  · rw [Nat.min_eq_right (by omega), List.take_of_length_le (by omega), List.take_of_length_le (by omega)]
theorem slice_to {s : Ms} {n : Nat} {ws : List Mv} (k : Nat) (g : s.get n = some (.lst ws)) (hl : ws.length ≤ 16777216) : slW (.ref n) none (some (k : Int)) s = some (.ref s.sz, push s (.lst (ws.take k))) := by
  unfold slW
  simp only [g]
  rw [cut_to, newL_of (by rw [List.length_take]; omega)]
theorem strV_take {xs : List Str} {k : Nat} : (strV xs).take k = strV (xs.take k) := by unfold strV; rw [List.map_take]
/-! sorted pairs of texts -/
def pairMv (d : Str × Str) : Mv := .tup [.str d.1, .str d.2]
def pairPd (d : Str × Str) : PyData := .tuple [.str d.1, .str d.2]
def sortP (ds : List (Str × Str)) : List (Str × Str) := isort (fun a b => leD (α := Unit) ((), pairPd a) ((), pairPd b)) ds
theorem leP_total : PySem.W.TotalLe (fun a b : Str × Str => leD (α := Unit) ((), pairPd a) ((), pairPd b)) := ⟨fun a b c => leD_total.trans _ _ _, fun a b => leD_total.total _ _⟩
theorem sortP_perm (ds : List (Str × Str)) : (sortP ds).Perm ds := isort_perm leP_total ds
/-- sorted, and all differ -/
def DS (ds : List (Str × Str)) : Prop := ∃ d0, ds = sortP d0 ∧ d0.Nodup
structure Lib2 (pool : List Str) (l : PLib) : Prop where
  nd : l.needs.Nodup
  nin : ∀ x ∈ l.needs, x ∈ pool ∧ x ≠ l.own
  nl : l.needs.length ≤ 2
  df : ∀ d ∈ l.defs, d ∈ PAIRS2
  dl : l.defs.length ≤ 3
  ds : DS l.defs
  us : ∀ u ∈ l.uses, u.1 ∈ PAIRS2
  ul : l.uses.length ≤ 2
structure Plot2 (most gates : Nat) (P : Plot) : Prop where
  fk : P.folk = x_main :: POOL2.take most
  libs : ∀ l ∈ P.libs, Lib2 (POOL2.take most) l
  mu : ∀ l ∈ P.libs, l.own = x_main → l.uses ≠ []
  end_ : P.early.Nodup
  ein : ∀ x ∈ P.early, x ∈ POOL2.take most
  elen : P.early.length ≤ 2
  din : ∀ d ∈ P.doors, d.1 ∈ POOL2.take most ∧ d.2 ∈ MODESD
  dlen : P.doors.length ≤ gates
theorem lz_pairs (ds : List (Str × Str)) : lzOk (ds.map pairPd) = true := by
  unfold lzOk
  rw [List.all_eq_true]
  intro d hd
  obtain ⟨e, he, rfl⟩ := List.mem_map.mp hd
  show ((ds.map pairPd).all fun e' => match e' with
    | .tuple ys => lz [.str e.1, .str e.2] ys
    | _ => false) = true
  rw [List.all_eq_true]
  intro d2 hd2
  obtain ⟨e2, he2, rfl⟩ := List.mem_map.mp hd2
  show (true && (!PyData.eqv _ _ || (true && (!PyData.eqv _ _ || true)))) = true
  simp
theorem isort_map {α β : Type} {le : β → β → Bool} {f : α → β} : ∀ l : List α, isort le (l.map f) = (isort (fun a b => le (f a) (f b)) l).map f
  | [] => rfl
  | x :: l => by
    show ins1 le (f x) (isort le (l.map f)) = (ins1 (fun a b => le (f a) (f b)) x (isort (fun a b => le (f a) (f b)) l)).map f
    rw [isort_map l]
    generalize isort (fun a b => le (f a) (f b)) l = zs
    induction zs with
    | nil => rfl
    | cons z zs ih =>
      rw [List.map_cons, ins1_cons, ins1_cons]
      cases le (f x) (f z) with
      | true => rfl
      | false =>
        show f z :: ins1 le (f x) (zs.map f) = f z :: (ins1 (fun a b => le (f a) (f b)) x zs).map f
        rw [ih]
theorem sorted_pairs {s : Ms} {n : Nat} {ds : List (Str × Str)} (g : s.get n = some (.lst (pairV ds))) (h : ∀ d ∈ ds, PyData.strOk d.1 = true ∧ PyData.strOk d.2 = true) (hl : ds.length ≤ 1000) : sortedDW [.ref n] s = some (.ref s.sz, push s (.lst (pairV (sortP ds)))) := by
  show (lstOf (.ref n) s).ob (fun xs => (toDL (toD 24 s) xs).ob fun es => cond (lzOk es) (newO (.lst ((isort leD (xs.zip es)).map (·.1))) s) none) = _
  have e1 : lstOf (.ref n) s = some (pairV ds) := items_ref g
  rw [e1, ob_of, toDL_pairs ds h, ob_of]
  show cond (lzOk (ds.map pairPd)) (newO (.lst ((isort leD ((ds.map pairMv).zip (ds.map pairPd))).map (·.1))) s) none = _
  rw [lz_pairs, cond_true, List.zip_map', isort_map, List.map_map]
  rfl
theorem eq_nilG {s : Ms} {α : Type} {f : α → Mv} {n t : Nat} {ys : List α} (g : s.get n = some (.lst (ys.map f))) (g' : s.get t = some (.lst [])) (h : ∀ y ∈ ys, ∃ d, toD 23 s (f y) = some d) : eqW (.ref n) (.ref t) s = some (.bl ys.isEmpty, s) := by
  obtain ⟨ds, e, l⟩ := toDL_ex h
  have e1 : toD 24 s (.ref n) = some (.list ds) := by
    show (match s.get n with
      | some (.lst ws) => (toDL (toD 23 s) ws).om PyData.list
      | _ => none) = _
    rw [g]
    show (toDL (toD 23 s) (ys.map f)).om PyData.list = _
    rw [e]; rfl
  have e2 : toD 24 s (.ref t) = some (.list []) := by
    show (match s.get t with
      | some (.lst ws) => (toDL (toD 23 s) ws).om PyData.list
      | _ => none) = _
    rw [g']; rfl
  show (eqBo (.ref n) (.ref t) s).om _ = _
  have e3 : eqBo (.ref n) (.ref t) s = some ys.isEmpty := by
    show (toD 24 s (.ref n)).ob (fun d => (toD 24 s (.ref t)).om fun e => PyData.eqv d e) = _
    rw [e1, e2]
    cases ys <;> cases ds <;> simp_all [PyData.eqv, PyData.eqvAll]
  rw [e3]; rfl

end
section
def libB2 : Fs := (sseq (sset 6 (mcall m__law_picked (mcons (mvar 0) (mcons (mlc (miS (mvar 3)) (.nm 14) (mtB (mop2 neW (mvar 14) (mvar 5))) (mvar 14) [14]) (mcons (mif (mtB (mop2 neW (mvar 5) (mcon (.str x_main)))) (mcon (.int 2)) (mcon (.int 1))) (mnil))))))
  (sseq (sset 7 (mlst (mcons (mtup (mcons (mcon (.str x_f)) (mcons (mcon (.str x_)) (mnil)))) (mcons (mtup (mcons (mcon (.str x_f)) (mcons (mcon (.str x_one)) (mnil)))) (mcons (mtup (mcons (mcon (.str x_f)) (mcons (mcon (.str x_two)) (mnil)))) (mcons (mtup (mcons (mcon (.str x_g)) (mcons (mcon (.str x_)) (mnil)))) (mcons (mtup (mcons (mcon (.str x_g)) (mcons (mcon (.str x_one)) (mnil)))) (mcons (mtup (mcons (mcon (.str x_g)) (mcons (mcon (.str x_two)) (mnil)))) (mnil)))))))))
  (sseq (sset 8 (mcall sortedDW (mcons (mcall m__law_picked (mcons (mvar 0) (mcons (mvar 7) (mcons (mif (mtB (mop2 neW (mvar 5) (mcon (.str x_main)))) (mcon (.int 3)) (mcon (.int 1))) (mnil))))) (mnil))))
  (sseq (sset 9 (mcall sortedDW (mcons (mcall m__law_picked (mcons (mvar 0) (mcons (mvar 7) (mcons (mcon (.int 2)) (mnil))))) (mnil))))
  (sseq (sif (mand (mtB (mop2 eqW (mvar 5) (mcon (.str x_main)))) (mtB (mop2 eqW (mvar 9) (mlst (mnil))))) (sset 9 (mlst (mcons (mtup (mcons (mcon (.str x_f)) (mcons (mcon (.str x_)) (mnil)))) (mnil)))) (snx))
  (sseq (sset 10 (mcall tupleW (mcons (mlc (miS (mvar 9)) (.nm 15) (myes) (mop2 addW (mvar 15) (mtup (mcons (mop2 eqW (mcall m__law_take (mcons (mvar 0) (mcons (mcon (.int 3)) (mnil)))) (mcon (.int 0))) (mnil)))) [15]) (mnil))))
  (sexp (mbmL appW (mvar 4) (mcons (mtup (mcons (mvar 5) (mcons (mcall tupleW (mcons (mvar 6) (mnil))) (mcons (mcall tupleW (mcons (mvar 8) (mnil))) (mcons (mvar 10) (mnil)))))) (mnil))))))))))
section
variable {s : Ms} {b m np nl : Nat} {pool : List Str} {ls : List PLib} {who : Str} {o1 o2 o6 o7 o8 o9 o10 o11 o12 o13 o14 o15 : Option Mv}
theorem data_str {x : Str} (h : PyData.strOk x = true) : ∃ d, ∀ s, toD 23 s (.str x) = some d := ⟨.str x, fun s => by
  show cond (PyData.strOk x) (some (PyData.str x)) none = _
  rw [h]; rfl⟩
theorem data_pair {d : Str × Str} (h : PyData.strOk d.1 = true ∧ PyData.strOk d.2 = true) : ∃ e, ∀ s, toD 23 s (pairMv d) = some e := ⟨_, fun _ => toD_pair h.1 h.2⟩
theorem pick_pairs (h : Bx' s b m) (hm : m + 12 < 1000000) {n7 : Nat} (g7 : s.get n7 = some (.lst (pairV PAIRS2))) (l7 : n7 < s.sz) (hne : n7 ≠ b) {k : Int} (k0 : 0 ≤ k) (k1 : k ≤ 3) : Wp (m__law_picked [.ref b, .ref n7, .int k] s) fun x => ∃ n ds, x.1 = .ref n ∧ s.sz ≤ n ∧ n < x.2.sz ∧ x.2.get n = some (.lst (pairV ds)) ∧ ds.length ≤ k.toNat ∧ (∀ d ∈ ds, d ∈ PAIRS2) ∧ ds.Nodup ∧ Ext b s x.2 ∧ Bx' x.2 b (m + 12) := by
  refine (picked_sp (f := pairMv) (xs := PAIRS2) h hm (.inr ⟨n7, rfl, l7, hne, g7⟩) (by decide) (fun d hd => data_pair (pairs2_ok d hd).1) k0 (by omega)).mono fun x hx => ?_
  obtain ⟨n, ys, zs, e, a, c, d, f, g, i, j⟩ := hx
  exact ⟨n, ys, e, a, c, d, f, fun y hy => g.subset (List.mem_append_right _ hy), (List.nodup_append.mp (g.nodup_iff.mpr (by decide +kernel))).2.1, i, j⟩
theorem lib2_sp (h : Bx' s b m) (hm : m + 60 < 1000000) (gp : s.get np = some (.lst (strV pool))) (lp : np < s.sz) (pne : np ≠ b) (gl : s.get nl = some (.lst (ls.map PLib.mv))) (ll : nl < s.sz) (lne : nl ≠ b) (pl : nl ≠ np) (pin : ∀ x ∈ pool, x ∈ POOL2) (pnd : pool.Nodup) (plen : pool.length ≤ 20) (lsl : ls.length ≤ 100) :
    Wp (libB2 [some (.ref b), o1, o2, some (.ref np), some (.ref nl), some (.str who), o6, o7, o8, o9, o10, o11, o12, o13, o14, o15] s) fun x => x.1 = .nx ∧ (∃ q6 q7 q8 q9 q10 q14 q15, x.2.1 = [some (.ref b), o1, o2, some (.ref np), some (.ref nl), some (.str who), q6, q7, q8, q9, q10, o11, o12, o13, q14, q15]) ∧ ∃ l : PLib, l.own = who ∧ Lib2 pool l ∧ (who = x_main → l.uses ≠ []) ∧ x.2.2.get nl = some (.lst ((ls ++ [l]).map PLib.mv)) ∧ ExtL [b, nl] s x.2.2 ∧ Bx' x.2.2 b (m + 60) := by
  have lt := h.lt
  have pok : ∀ x ∈ pool, PyData.strOk x = true := fun x hx => (pool2_ok x (by simp [pin x hx])).1
  unfold libB2
  refine wp_seq ?_
  simp only [sset, wp_om]
  have fl := List.length_filter_le (fun y => !decide (y = who)) pool
  have pk : ∀ k : Int, 0 ≤ k → k ≤ 2 → Wp (m__law_picked [.ref b, .ref s.sz, .int k] (push s (.lst (strV (pool.filter fun y => !decide (y = who)))))) fun x => ∃ n ys, x.1 = .ref n ∧ s.sz < n ∧ n < x.2.sz ∧ x.2.get n = some (.lst (strV ys)) ∧ ys.length ≤ 2 ∧ ys.Nodup ∧ (∀ y ∈ ys, y ∈ pool ∧ y ≠ who) ∧ Ext b s x.2 ∧ Bx' x.2 b (m + 12) := fun k k0 k1 => by
    refine (picked_sp (f := Mv.str) (xs := pool.filter fun y => !decide (y = who)) h.push (by omega) (.inr ⟨s.sz, rfl, by rw [push_sz]; omega, by omega, Ms.get_push⟩) (by omega) (fun y hy => data_str (pok y (List.mem_filter.mp hy).1)) k0 (by omega)).mono fun x hx => ?_
    obtain ⟨n, ys, zs, e, a, c, d, f, g, i, j⟩ := hx
    rw [push_sz] at a
    refine ⟨n, ys, e, by omega, c, d, by omega, (List.nodup_append.mp (g.nodup_iff.mpr (pnd.filter _))).2.1, fun y hy => ?_, Ext.push.trans i, j⟩
    have := List.mem_filter.mp (g.subset (List.mem_append_right _ hy))
    exact ⟨this.1, by simpa using this.2⟩
  have hN : Wp (mcall m__law_picked (mcons (mvar 0) (mcons (mlc (miS (mvar 3)) (.nm 14) (mtB (mop2 neW (mvar 14) (mvar 5))) (mvar 14) [14]) (mcons (mif (mtB (mop2 neW (mvar 5) (mcon (.str x_main)))) (mcon (.int 2)) (mcon (.int 1))) (mnil)))) [some (.ref b), o1, o2, some (.ref np), some (.ref nl), some (.str who), o6, o7, o8, o9, o10, o11, o12, o13, o14, o15] s) fun x => ∃ n ys, x.1 = .ref n ∧ s.sz < n ∧ n < x.2.sz ∧ x.2.get n = some (.lst (strV ys)) ∧ ys.length ≤ 2 ∧ ys.Nodup ∧ (∀ y ∈ ys, y ∈ pool ∧ y ≠ who) ∧ Ext b s x.2 ∧ Bx' x.2 b (m + 12) := by
    simp only [wp_ob, wp_om, wp_some, wp_mvar, sset, sexp, sret, sif, spar, spar3, snx, mtB, mtst, mop1, mop2, mcall, mcons, mnil, mcon, mif, mtup, mlst, mand, mor, mnot, mandV, morV, mnotV, lset_eq, List.getElem?_cons_zero, List.getElem?_cons_succ, List.set_cons_zero, List.set_cons_succ, cond_true, cond_false]
    refine wp_lc (wp_S' ?_)
    simp only [wp_ob, wp_om, wp_some, wp_mvar, sset, sexp, sret, sif, spar, spar3, snx, mtB, mtst, mop1, mop2, mcall, mcons, mnil, mcon, mif, mtup, mlst, mand, mor, mnot, mandV, morV, mnotV, lset_eq, List.getElem?_cons_zero, List.getElem?_cons_succ, List.set_cons_zero, List.set_cons_succ, cond_true, cond_false]
    refine ⟨strV pool, items_ref gp, fun it git => ?_⟩
    refine (wp_flat (strV pool) (fun i acc s' => s' = s ∧ acc = strV ((pool.take i).filter (fun y => !decide (y = who)))) (fun i acc s' _ a => git s' (a.1 ▸ items_ref gp)) ?_ 1000000000 0 [] s (by rw [strV_len]; omega) (by omega) ⟨rfl, rfl⟩).mono ?_
    · rintro i u acc s' hu ⟨rfl, rfl⟩
      obtain ⟨x, hx, rfl⟩ := strV_get hu
      unfold mstep
      simp only [wp_ob, wp_om, wp_some, wp_mvar, sset, sexp, sret, sif, spar, spar3, snx, mtB, mtst, mop1, mop2, mcall, mcons, mnil, mcon, mif, mtup, mlst, mand, mor, mnot, mandV, morV, mnotV, lset_eq, List.getElem?_cons_zero, List.getElem?_cons_succ, List.set_cons_zero, List.set_cons_succ, cond_true, cond_false, mwipe, Tg.asg, ne_str]
      rw [List.take_add_one, hx, List.filter_append, strV_app]
      by_cases hin : x = who
      · simp only [decide_eq_true hin, Bool.not_true]
        simp only [wp_ob, wp_om, wp_some, wp_mvar, sset, sexp, sret, sif, spar, spar3, snx, mtB, mtst, mop1, mop2, mcall, mcons, mnil, mcon, mif, mtup, mlst, mand, mor, mnot, mandV, morV, mnotV, lset_eq, List.getElem?_cons_zero, List.getElem?_cons_succ, List.set_cons_zero, List.set_cons_succ, cond_true, cond_false]
        refine ⟨trivial, ?_⟩
        simp [hin, strV]
      · simp only [decide_eq_false hin, Bool.not_false]
        simp only [wp_ob, wp_om, wp_some, wp_mvar, sset, sexp, sret, sif, spar, spar3, snx, mtB, mtst, mop1, mop2, mcall, mcons, mnil, mcon, mif, mtup, mlst, mand, mor, mnot, mandV, morV, mnotV, lset_eq, List.getElem?_cons_zero, List.getElem?_cons_succ, List.set_cons_zero, List.set_cons_succ, cond_true, cond_false]
        refine ⟨trivial, ?_⟩
        simp [hin, strV]
    rintro ⟨acc, s'⟩ ⟨e1, e2⟩
    simp only [List.nil_append] at e1 e2
    rw [strV_len, List.take_length] at e2
    subst e1 e2
    refine ⟨by rw [strV_len]; omega, ?_⟩
    simp only [wp_ob, wp_om, wp_some, wp_mvar, sset, sexp, sret, sif, spar, spar3, snx, mtB, mtst, mop1, mop2, mcall, mcons, mnil, mcon, mif, mtup, mlst, mand, mor, mnot, mandV, morV, mnotV, lset_eq, List.getElem?_cons_zero, List.getElem?_cons_succ, List.set_cons_zero, List.set_cons_succ, cond_true, cond_false, ne_str]
    cases decide (who = x_main)
    · simp only [wp_ob, wp_om, wp_some, wp_mvar, sset, sexp, sret, sif, spar, spar3, snx, mtB, mtst, mop1, mop2, mcall, mcons, mnil, mcon, mif, mtup, mlst, mand, mor, mnot, mandV, morV, mnotV, lset_eq, List.getElem?_cons_zero, List.getElem?_cons_succ, List.set_cons_zero, List.set_cons_succ, cond_true, cond_false, Bool.not_false]
      exact pk 2 (by omega) (by omega)
    · simp only [wp_ob, wp_om, wp_some, wp_mvar, sset, sexp, sret, sif, spar, spar3, snx, mtB, mtst, mop1, mop2, mcall, mcons, mnil, mcon, mif, mtup, mlst, mand, mor, mnot, mandV, morV, mnotV, lset_eq, List.getElem?_cons_zero, List.getElem?_cons_succ, List.set_cons_zero, List.set_cons_succ, cond_true, cond_false, Bool.not_true]
      exact pk 1 (by omega) (by omega)
  refine hN.mono fun x hx => ?_
  obtain ⟨w, s1⟩ := x
  obtain ⟨n6, ys, e, n61, n62, g6, yl, ynd, yin, X1, B1⟩ := hx
  simp only at e n62 g6 X1 B1
  subst e
  refine ⟨trivial, wp_seq ?_⟩
  simp only [wp_ob, wp_om, wp_some, wp_mvar, sset, sexp, sret, sif, spar, spar3, snx, mtB, mtst, mop1, mop2, mcall, mcons, mnil, mcon, mif, mtup, mlst, mand, mor, mnot, mandV, morV, mnotV, lset_eq, List.getElem?_cons_zero, List.getElem?_cons_succ, List.set_cons_zero, List.set_cons_succ, cond_true, cond_false, newT_of (show [Mv.str x_f, .str x_].length ≤ 16777216 by simp), newT_of (show [Mv.str x_f, .str x_one].length ≤ 16777216 by simp), newT_of (show [Mv.str x_f, .str x_two].length ≤ 16777216 by simp), newT_of (show [Mv.str x_g, .str x_].length ≤ 16777216 by simp), newT_of (show [Mv.str x_g, .str x_one].length ≤ 16777216 by simp), newT_of (show [Mv.str x_g, .str x_two].length ≤ 16777216 by simp)]
  rw [show [Mv.tup [.str x_f, .str x_], .tup [.str x_f, .str x_one], .tup [.str x_f, .str x_two], .tup [.str x_g, .str x_], .tup [.str x_g, .str x_one], .tup [.str x_g, .str x_two]] = pairV PAIRS2 from rfl, newL_of (show (pairV PAIRS2).length ≤ 16777216 by decide), wp_some]
  have g7 : (push s1 (.lst (pairV PAIRS2))).get s1.sz = some (.lst (pairV PAIRS2)) := Ms.get_push
  have x2 : Ex0 s1 (push s1 (.lst (pairV PAIRS2))) := Ex0.push
  have l7 : s1.sz < (push s1 (.lst (pairV PAIRS2))).sz := by simp only [push_sz]; omega
  generalize push s1 (.lst (pairV PAIRS2)) = s2 at g7 x2 l7 ⊢
  have z1 := X1.sz
  have B2 := B1.ex0 x2
  refine ⟨trivial, wp_seq ?_⟩
  simp only [sset, wp_om]
  have hD : Wp (mcall sortedDW (mcons (mcall m__law_picked (mcons (mvar 0) (mcons (mvar 7) (mcons (mif (mtB (mop2 neW (mvar 5) (mcon (.str x_main)))) (mcon (.int 3)) (mcon (.int 1))) (mnil))))) (mnil)) [some (.ref b), o1, o2, some (.ref np), some (.ref nl), some (.str who), some (.ref n6), some (.ref s1.sz), o8, o9, o10, o11, o12, o13, o14, o15] s2) fun x => ∃ n ds, x.1 = .ref n ∧ s2.sz ≤ n ∧ n < x.2.sz ∧ x.2.get n = some (.lst (pairV ds)) ∧ ds.length ≤ 3 ∧ (∀ d ∈ ds, d ∈ PAIRS2) ∧ DS ds ∧ Ext b s2 x.2 ∧ Bx' x.2 b (m + 24) := by
    have go : ∀ k : Int, 0 ≤ k → k ≤ 3 → Wp (m__law_picked [.ref b, .ref s1.sz, .int k] s2) fun x => Wp (sortedDW [x.1] x.2) fun x => ∃ n ds, x.1 = .ref n ∧ s2.sz ≤ n ∧ n < x.2.sz ∧ x.2.get n = some (.lst (pairV ds)) ∧ ds.length ≤ 3 ∧ (∀ d ∈ ds, d ∈ PAIRS2) ∧ DS ds ∧ Ext b s2 x.2 ∧ Bx' x.2 b (m + 24) := fun k k0 k1 => by
      refine (pick_pairs B2 (by omega) g7 l7 (by omega) k0 k1).mono fun x hx => ?_
      obtain ⟨w, s3⟩ := x
      obtain ⟨n, ds, e, a, c, d, f, g, dn, i, j⟩ := hx
      simp only at e c d i j
      subst e
      rw [sorted_pairs d (fun y hy => (pairs2_ok y (g y hy)).1) (by omega), wp_some]
      have pp := sortP_perm ds
      exact ⟨_, sortP ds, rfl, i.sz, by simp only [push_sz]; omega, Ms.get_push, by rw [pp.length_eq]; omega, fun y hy => g y (pp.subset hy), ⟨ds, rfl, dn⟩, i.trans Ext.push, j.push⟩
    simp only [wp_ob, wp_om, wp_some, wp_mvar, sset, sexp, sret, sif, spar, spar3, snx, mtB, mtst, mop1, mop2, mcall, mcons, mnil, mcon, mif, mtup, mlst, mand, mor, mnot, mandV, morV, mnotV, lset_eq, List.getElem?_cons_zero, List.getElem?_cons_succ, List.set_cons_zero, List.set_cons_succ, cond_true, cond_false, ne_str]
    cases decide (who = x_main)
    · simp only [wp_ob, wp_om, wp_some, wp_mvar, sset, sexp, sret, sif, spar, spar3, snx, mtB, mtst, mop1, mop2, mcall, mcons, mnil, mcon, mif, mtup, mlst, mand, mor, mnot, mandV, morV, mnotV, lset_eq, List.getElem?_cons_zero, List.getElem?_cons_succ, List.set_cons_zero, List.set_cons_succ, cond_true, cond_false, Bool.not_false]
      exact go 3 (by omega) (by omega)
    · simp only [wp_ob, wp_om, wp_some, wp_mvar, sset, sexp, sret, sif, spar, spar3, snx, mtB, mtst, mop1, mop2, mcall, mcons, mnil, mcon, mif, mtup, mlst, mand, mor, mnot, mandV, morV, mnotV, lset_eq, List.getElem?_cons_zero, List.getElem?_cons_succ, List.set_cons_zero, List.set_cons_succ, cond_true, cond_false, Bool.not_true]
      exact go 1 (by omega) (by omega)
  refine hD.mono fun x hx => ?_
  obtain ⟨w, s3⟩ := x
  obtain ⟨n8, ds, e, n81, n82, g8, dl, din, dds, X3, B3⟩ := hx
  simp only at e n82 g8 X3 B3
  subst e
  have X13 : Ext b s1 s3 := x2.ext.trans X3
  have z2 := x2.sz
  have z3 := X3.sz
  refine ⟨trivial, wp_seq ?_⟩
  simp only [wp_ob, wp_om, wp_some, wp_mvar, sset, sexp, sret, sif, spar, spar3, snx, mtB, mtst, mop1, mop2, mcall, mcons, mnil, mcon, mif, mtup, mlst, mand, mor, mnot, mandV, morV, mnotV, lset_eq, List.getElem?_cons_zero, List.getElem?_cons_succ, List.set_cons_zero, List.set_cons_succ, cond_true, cond_false]
  refine (pick_pairs (n7 := s1.sz) (k := 2) B3 (by omega) (X3.at l7 (by omega) g7) (by omega) (by omega) (by omega) (by omega)).mono fun x hx => ?_
  obtain ⟨w, s4⟩ := x
  obtain ⟨n, us0, e, a, c, d, f, g, _, i, j⟩ := hx
  simp only at e c d i j
  subst e
  rw [sorted_pairs d (fun y hy => (pairs2_ok y (g y hy)).1) (by omega), wp_some]
  have pp := sortP_perm us0
  have us : ∃ us, us = sortP us0 ∧ us.length ≤ 2 ∧ ∀ d ∈ us, d ∈ PAIRS2 := ⟨_, rfl, by rw [pp.length_eq]; omega, fun y hy => g y (pp.subset hy)⟩
  obtain ⟨us, eus, usl, usin⟩ := us
  rw [← eus]
  have X4 : Ext b s3 (push s4 (.lst (pairV us))) := i.trans Ext.push
  have B4 : Bx' (push s4 (.lst (pairV us))) b (m + 24 + 12) := j.push
  have g9 : (push s4 (.lst (pairV us))).get s4.sz = some (.lst (pairV us)) := Ms.get_push
  have l9 : s4.sz < (push s4 (.lst (pairV us))).sz := by simp only [push_sz]; omega
  have z4 := i.sz
  generalize hn9 : s4.sz = n9 at g9 l9 z4 ⊢
  generalize push s4 (.lst (pairV us)) = s5 at X4 B4 g9 l9 ⊢
  refine ⟨trivial, wp_seq ?_⟩
  -- main has a use
  have hU : Wp ((sif (mand (mtB (mop2 eqW (mvar 5) (mcon (.str x_main)))) (mtB (mop2 eqW (mvar 9) (mlst (mnil))))) (sset 9 (mlst (mcons (mtup (mcons (mcon (.str x_f)) (mcons (mcon (.str x_)) (mnil)))) (mnil)))) (snx)) [some (.ref b), o1, o2, some (.ref np), some (.ref nl), some (.str who), some (.ref n6), some (.ref s1.sz), some (.ref n8), some (.ref n9), o10, o11, o12, o13, o14, o15] s5) fun x => x.1 = .nx ∧ ∃ n9' us', x.2.1 = [some (.ref b), o1, o2, some (.ref np), some (.ref nl), some (.str who), some (.ref n6), some (.ref s1.sz), some (.ref n8), some (.ref n9'), o10, o11, o12, o13, o14, o15] ∧ n9' < x.2.2.sz ∧ s.sz ≤ n9' ∧ x.2.2.get n9' = some (.lst (pairV us')) ∧ us'.length ≤ 2 ∧ (∀ d ∈ us', d ∈ PAIRS2) ∧ (who = x_main → us' ≠ []) ∧ Ex0 s5 x.2.2 := by
    by_cases hw : who = x_main
    · have q9 : (push s5 (.lst [])).get n9 = some (.lst (us.map pairMv)) := Ex0.push.at l9 g9
      simp only [wp_ob, wp_om, wp_some, wp_mvar, sset, sexp, sret, sif, spar, spar3, snx, mtB, mtst, mop1, mop2, mcall, mcons, mnil, mcon, mif, mtup, mlst, mand, mor, mnot, mandV, morV, mnotV, lset_eq, List.getElem?_cons_zero, List.getElem?_cons_succ, List.set_cons_zero, List.set_cons_succ, cond_true, cond_false, eq_str, decide_eq_true hw, newL_of (show ([] : List Mv).length ≤ 16777216 by decide), eq_nilG q9 Ms.get_push fun y hy => (data_pair (pairs2_ok y (usin y hy)).1).elim fun d hd => ⟨d, hd _⟩]
      cases us with
      | nil =>
        simp only [wp_ob, wp_om, wp_some, wp_mvar, sset, sexp, sret, sif, spar, spar3, snx, mtB, mtst, mop1, mop2, mcall, mcons, mnil, mcon, mif, mtup, mlst, mand, mor, mnot, mandV, morV, mnotV, lset_eq, List.getElem?_cons_zero, List.getElem?_cons_succ, List.set_cons_zero, List.set_cons_succ, cond_true, cond_false, List.isEmpty_nil, newT_of (show [Mv.str x_f, .str x_].length ≤ 16777216 by simp), newL_of (show [Mv.tup [.str x_f, .str x_]].length ≤ 16777216 by simp)]
        exact ⟨trivial, _, [(x_f, x_)], rfl, by simp only [push_sz]; omega, by simp only [push_sz]; omega, Ms.get_push, by simp, by simp [PAIRS2], fun _ => by simp, Ex0.push.trans Ex0.push⟩
      | cons u us =>
        simp only [wp_ob, wp_om, wp_some, wp_mvar, sset, sexp, sret, sif, spar, spar3, snx, mtB, mtst, mop1, mop2, mcall, mcons, mnil, mcon, mif, mtup, mlst, mand, mor, mnot, mandV, morV, mnotV, lset_eq, List.getElem?_cons_zero, List.getElem?_cons_succ, List.set_cons_zero, List.set_cons_succ, cond_true, cond_false, List.isEmpty_cons]
        exact ⟨trivial, _, u :: us, rfl, by simp only [push_sz]; omega, by omega, q9, usl, usin, fun _ => by simp, Ex0.push⟩
    · simp only [wp_ob, wp_om, wp_some, wp_mvar, sset, sexp, sret, sif, spar, spar3, snx, mtB, mtst, mop1, mop2, mcall, mcons, mnil, mcon, mif, mtup, mlst, mand, mor, mnot, mandV, morV, mnotV, lset_eq, List.getElem?_cons_zero, List.getElem?_cons_succ, List.set_cons_zero, List.set_cons_succ, cond_true, cond_false, eq_str, decide_eq_false hw]
      exact ⟨trivial, _, us, rfl, l9, by omega, g9, usl, usin, fun z => (hw z).elim, Ex0.refl⟩
  refine hU.mono fun x hx => ?_
  obtain ⟨fl0, r0, s6⟩ := x
  obtain ⟨e, n9', us', er, a9, c9, d9, f9, i9, j9, x6⟩ := hx
  simp only at e er a9 d9 x6
  subst e er
  refine ⟨rfl, wp_seq ?_⟩
  simp only [wp_ob, wp_om, wp_some, wp_mvar, sset, sexp, sret, sif, spar, spar3, snx, mtB, mtst, mop1, mop2, mcall, mcons, mnil, mcon, mif, mtup, mlst, mand, mor, mnot, mandV, morV, mnotV, lset_eq, List.getElem?_cons_zero, List.getElem?_cons_succ, List.set_cons_zero, List.set_cons_succ, cond_true, cond_false]
  have B6 := B4.ex0 x6
  refine wp_lc (wp_S (b := b) ?_)
  simp only [wp_ob, wp_om, wp_some, wp_mvar, sset, sexp, sret, sif, spar, spar3, snx, mtB, mtst, mop1, mop2, mcall, mcons, mnil, mcon, mif, mtup, mlst, mand, mor, mnot, mandV, morV, mnotV, lset_eq, List.getElem?_cons_zero, List.getElem?_cons_succ, List.set_cons_zero, List.set_cons_succ, cond_true, cond_false]
  refine ⟨pairV us', .inr ⟨n9', rfl, a9, by omega, d9⟩, fun it git => ?_⟩
  refine (wp_flat (pairV us') (fun i acc s' => ∃ fs : List ((Str × Str) × Bool), acc = useV fs ∧ fs.map (·.1) = us'.take i ∧ Ext b s6 s' ∧ Bx' s' b (m + 36 + i)) (fun i acc s' _ ⟨_, _, _, x, _⟩ => git s' x) ?_ 1000000000 0 [] s6 (by rw [pairV_len]; omega) (by omega) ⟨[], rfl, rfl, Ext.refl, B6.mono (by omega)⟩).mono ?_
  · rintro i w acc s' hw ⟨fs, rfl, f1, f2, f3⟩
    have hi : i < us'.length := by have := (List.getElem?_eq_some_iff.mp hw).1; simpa [pairV] using this
    have hwe : w = .tup [.str us'[i].1, .str us'[i].2] := by
      unfold pairV at hw
      rw [List.getElem?_map, List.getElem?_eq_getElem hi] at hw
      cases hw; rfl
    subst hwe
    unfold mstep
    simp only [wp_ob, wp_om, wp_some, wp_mvar, sset, sexp, sret, sif, spar, spar3, snx, mtB, mtst, mop1, mop2, mcall, mcons, mnil, mcon, mif, mtup, mlst, mand, mor, mnot, mandV, morV, mnotV, lset_eq, List.getElem?_cons_zero, List.getElem?_cons_succ, List.set_cons_zero, List.set_cons_succ, cond_true, cond_false, mwipe, Tg.asg, myes]
    refine (take_sp f3 (by omega) (by omega) (by omega)).mono fun x hx => ?_
    obtain ⟨w, s4⟩ := x
    obtain ⟨j, g0, g1, g2, g3, g4, g5⟩ := hx
    simp only at g0 g1 g2 g3 g4 g5
    subst g0
    simp only [wp_ob, wp_om, wp_some, wp_mvar, sset, sexp, sret, sif, spar, spar3, snx, mtB, mtst, mop1, mop2, mcall, mcons, mnil, mcon, mif, mtup, mlst, mand, mor, mnot, mandV, morV, mnotV, lset_eq, List.getElem?_cons_zero, List.getElem?_cons_succ, List.set_cons_zero, List.set_cons_succ, cond_true, cond_false, eq_int, newT_of (show [Mv.bl (decide (j = 0))].length ≤ 16777216 by simp), addW, newT_of (show ([Mv.str us'[i].1, .str us'[i].2] ++ [Mv.bl (decide (j = 0))]).length ≤ 16777216 by simp)]
    refine ⟨fs ++ [(us'[i], decide (j = 0))], by simp [useV], ?_, f2.trans g4, g5.mono (by omega)⟩
    rw [List.map_append, f1, List.take_add_one, List.getElem?_eq_getElem hi]
    rfl
  rintro ⟨acc, s7⟩ ⟨fs, f0, f1, f2, f3⟩
  simp only [List.nil_append] at f0 f1 f2 f3
  rw [pairV_len] at f3 f1
  rw [List.take_length] at f1
  subst f0
  have fsl : fs.length = us'.length := by rw [← f1, List.length_map]
  refine ⟨by simp [useV]; omega, ?_⟩
  simp only [wp_ob, wp_om, wp_some, wp_mvar, sset, sexp, sret, sif, spar, spar3, snx, mtB, mtst, mop1, mop2, mcall, mcons, mnil, mcon, mif, mtup, mlst, mand, mor, mnot, mandV, morV, mnotV, lset_eq, List.getElem?_cons_zero, List.getElem?_cons_succ, List.set_cons_zero, List.set_cons_succ, cond_true, cond_false, tup_of (items_ref Ms.get_push) (show (useV fs).length ≤ 16777216 by simp [useV]; omega)]
  have X7 : Ext b s (push s7 (.lst (useV fs))) := ((((X1.trans X13).trans X4).trans x6.ext).trans f2).trans Ext.push
  have X17 : Ext b s1 (push s7 (.lst (useV fs))) := ((((X13).trans X4).trans x6.ext).trans f2).trans Ext.push
  have X37 : Ext b s3 (push s7 (.lst (useV fs))) := ((X4.trans x6.ext).trans f2).trans Ext.push
  have B7 : Bx' (push s7 (.lst (useV fs))) b (m + 40) := f3.push.mono (by omega)
  generalize push s7 (.lst (useV fs)) = s8 at X7 X17 X37 B7 ⊢
  refine ⟨trivial, ?_⟩
  have G4 : s8.get nl = some (.lst (ls.map PLib.mv)) := X7.at ll lne gl
  have T6 : tupleW [.ref n6] s8 = some (.tup (strV ys), s8) := tup_of (items_ref (X17.at n62 (by omega) g6)) (by rw [strV_len]; omega)
  have T8 : tupleW [.ref n8] s8 = some (.tup (pairV ds), s8) := tup_of (items_ref (X37.at n82 (by omega) g8)) (by rw [pairV_len]; omega)
  refine wp_app (n := nl) (by rfl) G4 ?_
  simp only [wp_ob, wp_om, wp_some, wp_mvar, sset, sexp, sret, sif, spar, spar3, snx, mtB, mtst, mop1, mop2, mcall, mcons, mnil, mcon, mif, mtup, mlst, mand, mor, mnot, mandV, morV, mnotV, lset_eq, List.getElem?_cons_zero, List.getElem?_cons_succ, List.set_cons_zero, List.set_cons_succ, cond_true, cond_false, T6, T8, newT_of (show [Mv.str who, .tup (strV ys), .tup (pairV ds), .tup (useV fs)].length ≤ 16777216 by simp)]
  refine ⟨_, _, rfl, G4, by rw [List.length_map]; omega, trivial, ⟨_, _, _, _, _, _, _, rfl⟩, ⟨who, ys, ds, fs⟩, rfl, ⟨ynd, yin, yl, din, dl, dds, fun u hu => i9 _ (f1 ▸ List.mem_map_of_mem hu), by show fs.length ≤ 2; omega⟩, fun z q => ?_, ?_, (X7.extL (by simp)).put (.inl (by simp)), (B7.put (by omega)).mono (by omega)⟩
  · have : fs = [] := q
    exact j9 z (by rw [← f1, this]; rfl)
  · rw [put_get_eq, List.map_append]; rfl
end

end
section
theorem pool_take {most : Nat} : (∀ x ∈ POOL2.take most, x ∈ POOL2) ∧ (POOL2.take most).Nodup ∧ (POOL2.take most).length ≤ 7 :=
  ⟨fun x hx => List.mem_of_mem_take hx, (List.Sublist.nodup (List.take_sublist _ _) (List.nodup_cons.mp pool2_nd).2), by rw [List.length_take]; exact Nat.min_le_right _ _⟩
section
variable {s : Ms} {b m np nm ng : Nat} {pool : List Str} {most gates : Nat}
/-- up to so many doors -/
theorem gates_sp {o1 o4 o5 o6 o7 o8 o9 o10 o12 o13 o14 o15 : Option Mv} (h : Bx' s b m) (hm : m + 60 < 1000000) (gp : s.get np = some (.lst (strV pool))) (lp : np < s.sz) (pne : np ≠ b) (gm : s.get nm = some (.lst (strV MODESD))) (lm : nm < s.sz) (mne : nm ≠ b) (pin : ∀ x ∈ pool, x ∈ POOL2) (plen : pool.length ≤ 20) (g2 : gates ≤ 8) :
    Wp ((mlc (miS (mcall m__law_picked (mcons (mvar 0) (mcons (mvar 3) (mcons (mvar 2) (mnil)))))) (.nm 5) (myes) (mtup (mcons (mvar 5) (mcons (mcall m__law_of (mcons (mvar 0) (mcons (mvar 11) (mnil)))) (mnil)))) [5]) [some (.ref b), o1, some (.int gates), some (.ref np), o4, o5, o6, o7, o8, o9, o10, some (.ref nm), o12, o13, o14, o15] s) fun x => ∃ n ds, x.1 = .ref n ∧ s.sz ≤ n ∧ n < x.2.sz ∧ x.2.get n = some (.lst (pairV ds)) ∧ ds.length ≤ gates ∧ (∀ d ∈ ds, d.1 ∈ pool ∧ d.2 ∈ MODESD) ∧ Ext b s x.2 ∧ Bx' x.2 b (m + 22) := by
  have lt := h.lt
  have pok : ∀ x ∈ pool, PyData.strOk x = true := fun x hx => (pool2_ok x (by simp [pin x hx])).1
  refine wp_lc (wp_S (b := b) ?_)
  simp only [wp_ob, wp_om, wp_some, wp_mvar, sset, sexp, sret, sif, spar, spar3, snx, mtB, mtst, mop1, mop2, mcall, mcons, mnil, mcon, mif, mtup, mlst, mand, mor, mnot, mandV, morV, mnotV, lset_eq, List.getElem?_cons_zero, List.getElem?_cons_succ, List.set_cons_zero, List.set_cons_succ, cond_true, cond_false]
  refine (picked_sp (f := Mv.str) (xs := pool) (k := (gates : Int)) h (by omega) (.inr ⟨np, rfl, lp, pne, gp⟩) (by omega) (fun y hy => data_str (pok y hy)) (by omega) (by omega)).mono fun x hx => ?_
  obtain ⟨w, s1⟩ := x
  obtain ⟨n, ys, zs, e, a, c, d, f, g, i, j⟩ := hx
  simp only at e c d i j
  subst e
  have f : ys.length ≤ gates := by simpa using f
  refine ⟨strV ys, .inr ⟨n, rfl, c, by omega, d⟩, fun it git => ?_⟩
  refine (wp_flat (strV ys) (fun i acc s' => ∃ ds : List (Str × Str), acc = pairV ds ∧ ds.map (·.1) = ys.take i ∧ (∀ d ∈ ds, d.2 ∈ MODESD) ∧ Ext b s1 s' ∧ Bx' s' b (m + 12 + i)) (fun i acc s' _ ⟨_, _, _, _, x, _⟩ => git s' x) ?_ 1000000000 0 [] s1 (by rw [strV_len]; omega) (by omega) ⟨[], rfl, rfl, by simp, Ext.refl, j⟩).mono ?_
  · rintro q w acc s' hw ⟨ds, rfl, f1, f4, f2, f3⟩
    obtain ⟨x, hx, rfl⟩ := strV_get hw
    have hq := (List.getElem?_eq_some_iff.mp hx).1
    unfold mstep
    simp only [wp_ob, wp_om, wp_some, wp_mvar, sset, sexp, sret, sif, spar, spar3, snx, mtB, mtst, mop1, mop2, mcall, mcons, mnil, mcon, mif, mtup, mlst, mand, mor, mnot, mandV, morV, mnotV, lset_eq, List.getElem?_cons_zero, List.getElem?_cons_succ, List.set_cons_zero, List.set_cons_succ, cond_true, cond_false, mwipe, Tg.asg, myes]
    refine (of_sp f3 (by omega) (ws := strV MODESD) (.inr ⟨nm, rfl, by have := i.sz; have := f2.sz; omega, mne, (i.trans f2).at lm mne gm⟩) (by decide) (by decide)).mono fun x hx => ?_
    obtain ⟨w, s4⟩ := x
    obtain ⟨g0, g1, g2, g3⟩ := hx
    simp only at g0 g1 g2 g3
    obtain ⟨y, hy, rfl⟩ := List.mem_map.mp g0
    simp only [wp_ob, wp_om, wp_some, wp_mvar, sset, sexp, sret, sif, spar, spar3, snx, mtB, mtst, mop1, mop2, mcall, mcons, mnil, mcon, mif, mtup, mlst, mand, mor, mnot, mandV, morV, mnotV, lset_eq, List.getElem?_cons_zero, List.getElem?_cons_succ, List.set_cons_zero, List.set_cons_succ, cond_true, cond_false, nT (show [Mv.str _, .str y].length ≤ 4 by simp)]
    refine ⟨ds ++ [(_, y)], by simp [pairV]; rfl, ?_, fun d hd => ?_, f2.trans g2, g3.mono (by omega)⟩
    · rw [List.map_append, f1, List.take_add_one, hx]; rfl
    · rcases List.mem_append.mp hd with z | z
      · exact f4 d z
      · simp at z; subst z; exact hy
  rintro ⟨acc, s4⟩ ⟨ds, f0, f1, f4, f2, f3⟩
  simp only [List.nil_append] at f0 f1 f2 f3
  rw [strV_len] at f3 f1
  rw [List.take_length] at f1
  subst f0
  have dl : ds.length = ys.length := by rw [← f1, List.length_map]
  refine ⟨by rw [pairV_len]; omega, _, ds, rfl, by have := i.sz; have := f2.sz; show s.sz ≤ s4.sz; omega, by simp only [push_sz]; omega, Ms.get_push, by omega, fun d hd => ⟨g.subset (List.mem_append_right _ (f1 ▸ List.mem_map_of_mem hd)), f4 d hd⟩, (i.trans f2).trans Ext.push, f3.push.mono (by omega)⟩
def againB : Fs := (sif (mand (mtB (mop2 neW (mvar 12) (mlst (mnil)))) (mand (mtB (mop2 ltW (mcall lenW (mcons (mvar 12) (mnil))) (mvar 2))) (mtB (mop2 eqW (mcall m__law_take (mcons (mvar 0) (mcons (mcon (.int 4)) (mnil)))) (mcon (.int 0)))))) (sseq (sset 13 (mtup (mcons (mop2 ixA (mop2 ixA (mvar 12) (mcon (.int 0))) (mcon (.int 0))) (mcons (mcall m__law_of (mcons (mvar 0) (mcons (mvar 11) (mnil)))) (mnil)))))
  (sset 12 (mop2 addW (mvar 12) (mop2 lmulW (mlst (mcons (mvar 13) (mnil))) (mcall intW (mcons (mop2 ninA (mvar 13) (mvar 12)) (mnil))))))) (snx))
theorem again_sp {o1 o3 o4 o5 o6 o7 o8 o9 o10 o13 o14 o15 : Option Mv} {ds : List (Str × Str)} (h : Bx' s b m) (hm : m + 60 < 1000000) (gd : s.get ng = some (.lst (pairV ds))) (lg : ng < s.sz) (gne : ng ≠ b) (gm : s.get nm = some (.lst (strV MODESD))) (lm : nm < s.sz) (mne : nm ≠ b) (pin : ∀ x ∈ pool, x ∈ POOL2) (din : ∀ d ∈ ds, d.1 ∈ pool ∧ d.2 ∈ MODESD) (dl : ds.length ≤ gates) (g2 : gates ≤ 8) :
    Wp (againB [some (.ref b), o1, some (.int gates), o3, o4, o5, o6, o7, o8, o9, o10, some (.ref nm), some (.ref ng), o13, o14, o15] s) fun x => x.1 = .nx ∧ ∃ n ds o13, x.2.1 = [some (.ref b), o1, some (.int gates), o3, o4, o5, o6, o7, o8, o9, o10, some (.ref nm), some (.ref n), o13, o14, o15] ∧ (n = ng ∨ s.sz ≤ n) ∧ n < x.2.2.sz ∧ x.2.2.get n = some (.lst (pairV ds)) ∧ ds.length ≤ gates ∧ (∀ d ∈ ds, d.1 ∈ pool ∧ d.2 ∈ MODESD) ∧ Ext b s x.2.2 ∧ Bx' x.2.2 b (m + 2) := by
  have lt := h.lt
  have dok : ∀ d ∈ ds, PyData.strOk d.1 = true ∧ PyData.strOk d.2 = true := fun d hd => ⟨(pool2_ok _ (by simp [pin _ (din d hd).1])).1, modes_ok _ (din d hd).2⟩
  unfold againB
  have q1 : (push s (.lst [])).get ng = some (.lst (ds.map pairMv)) := Ex0.push.at lg gd
  simp only [wp_ob, wp_om, wp_some, wp_mvar, sset, sexp, sret, sif, spar, spar3, snx, mtB, mtst, mop1, mop2, mcall, mcons, mnil, mcon, mif, mtup, mlst, mand, mor, mnot, mandV, morV, mnotV, lset_eq, List.getElem?_cons_zero, List.getElem?_cons_succ, List.set_cons_zero, List.set_cons_succ, cond_true, cond_false, newL_of (show ([] : List Mv).length ≤ 16777216 by decide), ne_nilG q1 Ms.get_push fun y hy => (data_pair (dok y hy)).elim fun d hd => ⟨d, hd _⟩]
  cases hds : ds with
  | nil =>
    simp only [wp_ob, wp_om, wp_some, wp_mvar, sset, sexp, sret, sif, spar, spar3, snx, mtB, mtst, mop1, mop2, mcall, mcons, mnil, mcon, mif, mtup, mlst, mand, mor, mnot, mandV, morV, mnotV, lset_eq, List.getElem?_cons_zero, List.getElem?_cons_succ, List.set_cons_zero, List.set_cons_succ, cond_true, cond_false, List.isEmpty_nil, Bool.not_true]
    subst hds
    exact ⟨trivial, ng, [], _, rfl, .inl rfl, by simp only [push_sz]; omega, q1, by simp, by simp, Ext.push, h.push.mono (by omega)⟩
  | cons d0 ds0 =>
    simp only [wp_ob, wp_om, wp_some, wp_mvar, sset, sexp, sret, sif, spar, spar3, snx, mtB, mtst, mop1, mop2, mcall, mcons, mnil, mcon, mif, mtup, mlst, mand, mor, mnot, mandV, morV, mnotV, lset_eq, List.getElem?_cons_zero, List.getElem?_cons_succ, List.set_cons_zero, List.set_cons_succ, cond_true, cond_false, List.isEmpty_cons, Bool.not_false, lenW_of (items_ref q1), ltI]
    rw [hds] at q1
    by_cases hlt : ((((d0 :: ds0).map pairMv).length : Nat) : Int) < (gates : Int)
    · rw [hds]
      simp only [decide_eq_true hlt]
      simp only [wp_ob, wp_om, wp_some, wp_mvar, sset, sexp, sret, sif, spar, spar3, snx, mtB, mtst, mop1, mop2, mcall, mcons, mnil, mcon, mif, mtup, mlst, mand, mor, mnot, mandV, morV, mnotV, lset_eq, List.getElem?_cons_zero, List.getElem?_cons_succ, List.set_cons_zero, List.set_cons_succ, cond_true, cond_false]
      refine (take_sp h.push (by omega) (by omega) (by omega)).mono fun x hx => ?_
      obtain ⟨w, s1⟩ := x
      obtain ⟨j, e, j0, j1, z1, x1, B1⟩ := hx
      simp only at e z1 x1 B1
      subst e
      rw [push_sz] at z1
      have X1 : Ext b s s1 := Ext.push.trans x1
      have G1 : s1.get ng = some (.lst (pairV (d0 :: ds0))) := x1.at (by simp only [push_sz]; omega) gne q1
      simp only [wp_ob, wp_om, wp_some, wp_mvar, sset, sexp, sret, sif, spar, spar3, snx, mtB, mtst, mop1, mop2, mcall, mcons, mnil, mcon, mif, mtup, mlst, mand, mor, mnot, mandV, morV, mnotV, lset_eq, List.getElem?_cons_zero, List.getElem?_cons_succ, List.set_cons_zero, List.set_cons_succ, cond_true, cond_false, eq_int]
      by_cases hj : j = 0
      · simp only [decide_eq_true hj]
        have i0 : ixA (.ref ng) (.int 0) s1 = some (pairMv d0, s1) := ixA_of (items_ref G1) (atF_of (i := 0) rfl)
        have i1 : ixA (pairMv d0) (.int 0) s1 = some (.str d0.1, s1) := rfl
        refine wp_seq ?_
        simp only [wp_ob, wp_om, wp_some, wp_mvar, sset, sexp, sret, sif, spar, spar3, snx, mtB, mtst, mop1, mop2, mcall, mcons, mnil, mcon, mif, mtup, mlst, mand, mor, mnot, mandV, morV, mnotV, lset_eq, List.getElem?_cons_zero, List.getElem?_cons_succ, List.set_cons_zero, List.set_cons_succ, cond_true, cond_false, i0, i1]
        refine (of_sp B1 (by omega) (ws := strV MODESD) (.inr ⟨nm, rfl, by omega, mne, X1.at lm mne gm⟩) (by decide) (by decide)).mono fun x hx => ?_
        obtain ⟨w, s2⟩ := x
        obtain ⟨g0, e1, x2, B2⟩ := hx
        simp only at g0 e1 x2 B2
        obtain ⟨y, hy, rfl⟩ := List.mem_map.mp g0
        have d0in := din d0 (by rw [hds]; simp)
        have yok : PyData.strOk d0.1 = true ∧ PyData.strOk y = true := ⟨(dok d0 (by rw [hds]; simp)).1, modes_ok _ hy⟩
        have G2 : s2.get ng = some (.lst (pairV (d0 :: ds0))) := x2.at (by omega) gne G1
        have nds1 : (push s2 (.lst [.tup [.str d0.1, .str y]])).get ng = some (.lst (pairV (d0 :: ds0))) := Ex0.push.at (by omega) G2
        have hnin : ninA (.tup [.str d0.1, .str y]) (.ref ng) (push s2 (.lst [.tup [.str d0.1, .str y]])) = some (.bl (!decide ((d0.1, y) ∈ d0 :: ds0)), push s2 (.lst [.tup [.str d0.1, .str y]])) := nin_pair (d := (d0.1, y)) nds1 yok (by rw [← hds]; exact dok)
        simp only [wp_ob, wp_om, wp_some, wp_mvar, sset, sexp, sret, sif, spar, spar3, snx, mtB, mtst, mop1, mop2, mcall, mcons, mnil, mcon, mif, mtup, mlst, mand, mor, mnot, mandV, morV, mnotV, lset_eq, List.getElem?_cons_zero, List.getElem?_cons_succ, List.set_cons_zero, List.set_cons_succ, cond_true, cond_false, nT (show [Mv.str d0.1, .str y].length ≤ 4 by simp)]
        refine ⟨trivial, ?_⟩
        simp only [wp_ob, wp_om, wp_some, wp_mvar, sset, sexp, sret, sif, spar, spar3, snx, mtB, mtst, mop1, mop2, mcall, mcons, mnil, mcon, mif, mtup, mlst, mand, mor, mnot, mandV, morV, mnotV, lset_eq, List.getElem?_cons_zero, List.getElem?_cons_succ, List.set_cons_zero, List.set_cons_succ, cond_true, cond_false, newL_of (show [Mv.tup [.str d0.1, .str y]].length ≤ 16777216 by simp), hnin, intW]
        have hmul : lmulW (.ref s2.sz) (.int (if (!decide ((d0.1, y) ∈ d0 :: ds0)) = true then 1 else 0)) (push s2 (.lst [.tup [.str d0.1, .str y]])) = some (.ref (s2.sz + 1), push (push s2 (.lst [.tup [.str d0.1, .str y]])) (.lst (pairV (if (d0.1, y) ∈ d0 :: ds0 then [] else [(d0.1, y)])))) := by
          unfold lmulW
          simp only [Ms.get_push]
          by_cases hin : (d0.1, y) ∈ d0 :: ds0
          · simp only [hin, decide_true, Bool.not_true, if_true]
            rfl
          · simp only [hin, decide_false, Bool.not_false, if_false, if_true]
            rfl
        have nds2 : (push (push s2 (.lst [.tup [.str d0.1, .str y]])) (.lst (pairV (if (d0.1, y) ∈ d0 :: ds0 then [] else [(d0.1, y)])))).get ng = some (.lst (pairV (d0 :: ds0))) := Ex0.push.at (by simp only [push_sz]; omega) nds1
        have nds3 : (push (push s2 (.lst [.tup [.str d0.1, .str y]])) (.lst (pairV (if (d0.1, y) ∈ d0 :: ds0 then [] else [(d0.1, y)])))).get (s2.sz + 1) = some (.lst (pairV (if (d0.1, y) ∈ d0 :: ds0 then [] else [(d0.1, y)]))) := by rw [push_get, if_pos push_sz.symm]
        have il : (if (d0.1, y) ∈ d0 :: ds0 then [] else [(d0.1, y)]).length ≤ 1 := by split <;> simp
        rw [hds] at dl
        simp only [wp_ob, wp_om, wp_some, wp_mvar, sset, sexp, sret, sif, spar, spar3, snx, mtB, mtst, mop1, mop2, mcall, mcons, mnil, mcon, mif, mtup, mlst, mand, mor, mnot, mandV, morV, mnotV, lset_eq, List.getElem?_cons_zero, List.getElem?_cons_succ, List.set_cons_zero, List.set_cons_succ, cond_true, cond_false, hmul, cat_l nds2 nds3 (by rw [pairV_len, pairV_len]; omega)]
        refine ⟨trivial, _, (d0 :: ds0) ++ (if (d0.1, y) ∈ d0 :: ds0 then [] else [(d0.1, y)]), _, rfl, .inr (by simp only [push_sz]; omega), by simp only [push_sz]; omega, ?_, ?_, ?_, ((X1.trans x2).trans Ext.push).trans (Ext.push.trans Ext.push), B2.push.push.push.mono (by omega)⟩
        · rw [Ms.get_push]; simp [pairV]
        · rw [List.length_append]
          rw [List.length_map] at hlt
          omega
        · intro d hd
          rcases List.mem_append.mp hd with z | z
          · exact din d (by rw [hds]; exact z)
          · split at z
            · cases z
            · simp at z; subst z; exact ⟨d0in.1, hy⟩
      · simp only [decide_eq_false hj]
        simp only [wp_ob, wp_om, wp_some, wp_mvar, sset, sexp, sret, sif, spar, spar3, snx, mtB, mtst, mop1, mop2, mcall, mcons, mnil, mcon, mif, mtup, mlst, mand, mor, mnot, mandV, morV, mnotV, lset_eq, List.getElem?_cons_zero, List.getElem?_cons_succ, List.set_cons_zero, List.set_cons_succ, cond_true, cond_false]
        exact ⟨trivial, ng, d0 :: ds0, _, rfl, .inl rfl, by omega, G1, by rw [← hds]; exact dl, by rw [← hds]; exact din, X1, B1.mono (by omega)⟩
    · rw [hds]
      simp only [decide_eq_false hlt]
      simp only [wp_ob, wp_om, wp_some, wp_mvar, sset, sexp, sret, sif, spar, spar3, snx, mtB, mtst, mop1, mop2, mcall, mcons, mnil, mcon, mif, mtup, mlst, mand, mor, mnot, mandV, morV, mnotV, lset_eq, List.getElem?_cons_zero, List.getElem?_cons_succ, List.set_cons_zero, List.set_cons_succ, cond_true, cond_false]
      exact ⟨trivial, ng, d0 :: ds0, _, rfl, .inl rfl, by simp only [push_sz]; omega, q1, by rw [← hds]; exact dl, by rw [← hds]; exact din, Ext.push, h.push.mono (by omega)⟩
end

end
section
theorem Ext.putN {b n : Nat} {s s' : Ms} {o : Mo} (h : Ext b s s') (hn : s.sz ≤ n) : Ext b s (s'.put n o) := h.put (.inr hn)
theorem program2_sp {s : Ms} {b m most gates : Nat} (h : Bx' s b m) (hm : m + 600 < 1000000) (m2 : most ≤ 7) (g2 : gates ≤ 8) : Wp (m__law_program [.ref b, .int most, .int gates] s) fun x => ∃ P : Plot, x.1 = P.mv ∧ Plot2 most gates P ∧ Ext b s x.2 ∧ Bx' x.2 b (m + 600) := by
  refine wp_fn [some (.ref b), some (.int most), some (.int gates), none, none, none, none, none, none, none, none, none, none, none, none, none] rfl rfl ?_
  unfold bd__law_program
  have lt := h.lt
  obtain ⟨pin, pnd, plen⟩ := pool_take (most := most)
  refine wp_seq ?_
  simp only [wp_ob, wp_om, wp_some, wp_mvar, sset, sexp, sret, sif, spar, spar3, snx, mtB, mtst, mop1, mop2, mcall, mcons, mnil, mcon, mif, mtup, mlst, mand, mor, mnot, mandV, morV, mnotV, lset_eq, List.getElem?_cons_zero, List.getElem?_cons_succ, List.set_cons_zero, List.set_cons_succ, cond_true, cond_false, mslice, osome, onone]
  rw [show [Mv.str x_a, .str x_b, .str x_core, .str x_d, .str x_ext, .str x_fmt, .str x_zlib] = strV POOL2 from rfl, newL_of (show (strV POOL2).length ≤ 16777216 by decide), wp_some]
  simp only [wp_ob, wp_om, wp_some, wp_mvar, sset, sexp, sret, sif, spar, spar3, snx, mtB, mtst, mop1, mop2, mcall, mcons, mnil, mcon, mif, mtup, mlst, mand, mor, mnot, mandV, morV, mnotV, lset_eq, List.getElem?_cons_zero, List.getElem?_cons_succ, List.set_cons_zero, List.set_cons_succ, cond_true, cond_false, slice_to most Ms.get_push (show (strV POOL2).length ≤ 16777216 by decide)]
  rw [strV_take]
  have g3 : (push (push s (.lst (strV POOL2))) (.lst (strV (POOL2.take most)))).get (push s (.lst (strV POOL2))).sz = some (.lst (strV (POOL2.take most))) := Ms.get_push
  have x1 : Ex0 s (push (push s (.lst (strV POOL2))) (.lst (strV (POOL2.take most)))) := Ex0.push.trans Ex0.push
  have l3 : (push s (.lst (strV POOL2))).sz < (push (push s (.lst (strV POOL2))) (.lst (strV (POOL2.take most)))).sz := by simp only [push_sz]; omega
  have z3 : s.sz ≤ (push s (.lst (strV POOL2))).sz := by simp only [push_sz]; omega
  generalize (push s (.lst (strV POOL2))).sz = np at g3 l3 z3 ⊢
  generalize push (push s (.lst (strV POOL2))) (.lst (strV (POOL2.take most))) = s1 at g3 x1 l3 ⊢
  generalize hpool : POOL2.take most = pool at g3 pin pnd plen ⊢
  refine ⟨trivial, wp_seq ?_⟩
  simp only [wp_ob, wp_om, wp_some, wp_mvar, sset, sexp, sret, sif, spar, spar3, snx, mtB, mtst, mop1, mop2, mcall, mcons, mnil, mcon, mif, mtup, mlst, mand, mor, mnot, mandV, morV, mnotV, lset_eq, List.getElem?_cons_zero, List.getElem?_cons_succ, List.set_cons_zero, List.set_cons_succ, cond_true, cond_false, newL_of (show ([] : List Mv).length ≤ 16777216 by decide)]
  refine ⟨trivial, wp_seq (wp_for (wp_S' ?_))⟩
  have g4 : (push s1 (.lst [])).get s1.sz = some (.lst (([] : List PLib).map PLib.mv)) := Ms.get_push
  have x2 : Ex0 s1 (push s1 (.lst [])) := Ex0.push
  have l4 : s1.sz < (push s1 (.lst [])).sz := by simp only [push_sz]; omega
  have z4 := x1.sz
  generalize hnl : s1.sz = nl at g4 l4 ⊢
  generalize push s1 (.lst []) = s2 at g4 x2 l4 ⊢
  have g32 := x2.at l3 g3
  have l32 := Nat.lt_of_lt_of_le l3 x2.sz
  have hc : addW (.ref s2.sz) (.ref np) (push s2 (.lst [.str x_main])) = some (.ref (push s2 (.lst [.str x_main])).sz, push (push s2 (.lst [.str x_main])) (.lst (strV (x_main :: pool)))) := by
    rw [cat_l (x := [.str x_main]) (y := strV pool) Ms.get_push (Ex0.push.at l32 g32) (by rw [strV_len]; simp; omega)]; rfl
  simp only [wp_ob, wp_om, wp_some, wp_mvar, sset, sexp, sret, sif, spar, spar3, snx, mtB, mtst, mop1, mop2, mcall, mcons, mnil, mcon, mif, mtup, mlst, mand, mor, mnot, mandV, morV, mnotV, lset_eq, List.getElem?_cons_zero, List.getElem?_cons_succ, List.set_cons_zero, List.set_cons_succ, cond_true, cond_false, newL_of (show [Mv.str x_main].length ≤ 16777216 by simp), hc]
  have ga : (push (push s2 (.lst [.str x_main])) (.lst (strV (x_main :: pool)))).get (push s2 (.lst [.str x_main])).sz = some (.lst (strV (x_main :: pool))) := Ms.get_push
  have x3 : Ex0 s2 (push (push s2 (.lst [.str x_main])) (.lst (strV (x_main :: pool)))) := Ex0.push.trans Ex0.push
  have la : (push s2 (.lst [.str x_main])).sz < (push (push s2 (.lst [.str x_main])) (.lst (strV (x_main :: pool)))).sz := by simp only [push_sz]; omega
  have za : s2.sz ≤ (push s2 (.lst [.str x_main])).sz := by simp only [push_sz]; omega
  generalize (push s2 (.lst [.str x_main])).sz = na at ga la za ⊢
  generalize push (push s2 (.lst [.str x_main])) (.lst (strV (x_main :: pool))) = s3 at ga x3 la ⊢
  refine ⟨strV (x_main :: pool), items_ref ga, fun it git => ?_⟩
  have X3 : Ext b s s3 := ((x1.trans x2).trans x3).ext
  have B3 : Bx' s3 b m := ((h.ex0 x1).ex0 x2).ex0 x3
  have z12 := x2.sz
  have z23 := x3.sz
  refine (wp_loop (strV (x_main :: pool)) (fun i r s' => ∃ (o5 o6 o7 o8 o9 o10 o14 o15 : Option Mv) (ls : List PLib), r = [some (.ref b), some (.int most), some (.int gates), some (.ref np), some (.ref nl), o5, o6, o7, o8, o9, o10, none, none, none, o14, o15] ∧ s'.get na = some (.lst (strV (x_main :: pool))) ∧ s'.get np = some (.lst (strV pool)) ∧ s'.get nl = some (.lst (ls.map PLib.mv)) ∧ ls.map (·.own) = (x_main :: pool).take i ∧ (∀ l ∈ ls, Lib2 pool l ∧ (l.own = x_main → l.uses ≠ [])) ∧ s3.sz ≤ s'.sz ∧ Ext b s s' ∧ Bx' s' b (m + 60 * i)) (fun i r s' _ hI => by
    obtain ⟨_, _, _, _, _, _, _, _, _, _, g, _⟩ := hI
    exact git s' (items_ref g)) ?_ 1000000000 0 _ s3 (by rw [strV_len, List.length_cons]; omega) (by omega) ⟨none, none, none, none, none, none, none, none, [], rfl, ga, (x3.at l32 g32), x3.at l4 g4, rfl, by simp, Nat.le_refl _, X3, B3⟩).mono ?_
  · rintro i w r s' hw ⟨o5, o6, o7, o8, o9, o10, o14, o15, ls, rfl, a1, a2, a3, a4, a5, a6, a7, a8⟩
    obtain ⟨x, hx, rfl⟩ := strV_get hw
    have hi := (List.getElem?_eq_some_iff.mp hx).1
    rw [List.length_cons] at hi
    have lsl : ls.length ≤ 20 := by have := congrArg List.length a4; rw [List.length_map, List.length_take] at this; omega
    refine ⟨[some (.ref b), some (.int most), some (.int gates), some (.ref np), some (.ref nl), some (.str x), o6, o7, o8, o9, o10, none, none, none, o14, o15], rfl, ?_⟩
    refine (lib2_sp a8 (by omega) a2 (by omega) (by omega) a3 (by omega) (by omega) (by omega) (by rw [← hpool] at *; exact fun y hy => List.mem_of_mem_take hy) pnd (by omega) (by omega)).mono fun y hy => ?_
    obtain ⟨fl, r1, s4⟩ := y
    obtain ⟨e, ⟨q6, q7, q8, q9, q10, q14, q15, er⟩, l, d1, d2, d3, d4, d5, d6⟩ := hy
    simp only at e er d4 d5 d6
    subst e er
    refine ⟨rfl, _, _, _, _, _, _, _, _, ls ++ [l], rfl, d5.at (by omega) (by simp; omega) a1, d5.at (by omega) (by simp; omega) a2, d4, ?_, ?_, Nat.le_trans a6 d5.sz, ?_, d6.mono (by omega)⟩
    · rw [List.map_append, a4, List.take_add_one, hx, ← d1]; rfl
    · intro l' hl'
      rcases List.mem_append.mp hl' with z | z
      · exact a5 l' z
      · simp at z; subst z; exact ⟨d2, fun q => d3 (d1.symm.trans q)⟩
    · exact ⟨Nat.le_trans a7.sz d5.sz, fun n hn hb => by rw [d5.get n (Nat.lt_of_lt_of_le hn a7.sz) (by simp; omega)]; exact a7.get n hn hb⟩
  rintro ⟨fl1, r, s5⟩ ⟨e, o5, o6, o7, o8, o9, o10, o14, o15, ls, e1, a1, a2, a3, a4, a5, a6, a7, a8⟩
  simp only at e e1 a1 a2 a3 a6 a7 a8
  subst e e1
  rw [strV_len] at a4 a8
  rw [List.take_length] at a4
  rw [List.length_cons] at a8
  refine ⟨rfl, wp_seq ?_⟩
  simp only [wp_ob, wp_om, wp_some, wp_mvar, sset, sexp, sret, sif, spar, spar3, snx, mtB, mtst, mop1, mop2, mcall, mcons, mnil, mcon, mif, mtup, mlst, mand, mor, mnot, mandV, morV, mnotV, lset_eq, List.getElem?_cons_zero, List.getElem?_cons_succ, List.set_cons_zero, List.set_cons_succ, cond_true, cond_false]
  rw [show [Mv.str x_global, .str x_local, .str x_deep] = strV MODESD from rfl, newL_of (show (strV MODESD).length ≤ 16777216 by decide), wp_some]
  have gm : (push s5 (.lst (strV MODESD))).get s5.sz = some (.lst (strV MODESD)) := Ms.get_push
  have x6 : Ex0 s5 (push s5 (.lst (strV MODESD))) := Ex0.push
  have lm : s5.sz < (push s5 (.lst (strV MODESD))).sz := by simp only [push_sz]; omega
  generalize push s5 (.lst (strV MODESD)) = s6 at gm x6 lm ⊢
  refine ⟨trivial, wp_seq ?_⟩
  have B6 : Bx' s6 b (m + 480) := (a8.ex0 x6).mono (by omega)
  simp only [sset, wp_om]
  simp only [wp_ob, wp_om, wp_some, wp_mvar, sset, sexp, sret, sif, spar, spar3, snx, mtB, mtst, mop1, mop2, mcall, mcons, mnil, mcon, mif, mtup, mlst, mand, mor, mnot, mandV, morV, mnotV, lset_eq, List.getElem?_cons_zero, List.getElem?_cons_succ, List.set_cons_zero, List.set_cons_succ, cond_true, cond_false]
  have pin2 : ∀ x ∈ pool, x ∈ POOL2 := by rw [← hpool]; exact fun y hy => List.mem_of_mem_take hy
  refine (gates_sp (pool := pool) (gates := gates) B6 (by omega) (x6.at (by omega) a2) (Nat.lt_of_lt_of_le (by omega) x6.sz) (by omega) gm lm (by omega) pin2 (by omega) g2).mono fun y hy => ?_
  obtain ⟨w, s7⟩ := y
  obtain ⟨ng, ds, e, ng1, ng2, gd, dl, din, X7, B7⟩ := hy
  simp only at e ng2 gd X7 B7
  subst e
  refine ⟨trivial, wp_seq ?_⟩
  have z6 := x6.sz
  have z7 := X7.sz
  refine (again_sp (nm := s5.sz) (ng := ng) (pool := pool) (gates := gates) B7 (by omega) gd ng2 (by omega) (X7.at lm (by omega) gm) (by omega) (by omega) pin2 din dl g2).mono fun y hy => ?_
  obtain ⟨fl, r, s8⟩ := y
  obtain ⟨e, n2, ds2, o13, er, n21, n22, gd2, dl2, din2, X8, B8⟩ := hy
  simp only at e er n22 gd2 X8 B8
  subst e er
  refine ⟨rfl, ?_⟩
  have X58 : Ext b s5 s8 := (x6.ext.trans X7).trans X8
  have ll : ls.length = pool.length + 1 := by have := congrArg List.length a4; rw [List.length_map, List.length_cons] at this; exact this
  have T2 : tupleW [.ref nl] s8 = some (.tup (ls.map PLib.mv), s8) := tup_of (items_ref (X58.at (by omega) (by omega) a3)) (by rw [List.length_map]; omega)
  have pok : ∀ x ∈ pool, PyData.strOk x = true := fun x hx => (pool2_ok x (by simp [pin2 x hx])).1
  have hE : Wp (mif (mtB (mop2 eqW (mcall m__law_take (mcons (mvar 0) (mcons (mcon (.int 3)) (mnil)))) (mcon (.int 0)))) (mcall m__law_picked (mcons (mvar 0) (mcons (mvar 3) (mcons (mcon (.int 1)) (mnil))))) (mlst (mnil)) [some (.ref b), some (.int most), some (.int gates), some (.ref np), some (.ref nl), o5, o6, o7, o8, o9, o10, some (.ref s5.sz), some (.ref n2), o13, o14, o15] s8) fun x => ∃ n ys, x.1 = .ref n ∧ x.2.get n = some (.lst (strV ys)) ∧ ys.length ≤ 2 ∧ ys.Nodup ∧ (∀ y ∈ ys, y ∈ pool) ∧ Ext b s8 x.2 ∧ Bx' x.2 b (m + 540) := by
    simp only [wp_ob, wp_om, wp_some, wp_mvar, sset, sexp, sret, sif, spar, spar3, snx, mtB, mtst, mop1, mop2, mcall, mcons, mnil, mcon, mif, mtup, mlst, mand, mor, mnot, mandV, morV, mnotV, lset_eq, List.getElem?_cons_zero, List.getElem?_cons_succ, List.set_cons_zero, List.set_cons_succ, cond_true, cond_false]
    refine (take_sp B8 (by omega) (by omega) (by omega)).mono fun x hx => ?_
    obtain ⟨w, s9⟩ := x
    obtain ⟨q, y0, y1, y2, y3, y4, y5⟩ := hx
    simp only at y0 y1 y2 y3 y4 y5
    subst y0
    simp only [wp_ob, wp_om, wp_some, wp_mvar, sset, sexp, sret, sif, spar, spar3, snx, mtB, mtst, mop1, mop2, mcall, mcons, mnil, mcon, mif, mtup, mlst, mand, mor, mnot, mandV, morV, mnotV, lset_eq, List.getElem?_cons_zero, List.getElem?_cons_succ, List.set_cons_zero, List.set_cons_succ, cond_true, cond_false, eq_int]
    by_cases hq : q = 0
    · simp only [decide_eq_true hq]
      simp only [wp_ob, wp_om, wp_some, wp_mvar, sset, sexp, sret, sif, spar, spar3, snx, mtB, mtst, mop1, mop2, mcall, mcons, mnil, mcon, mif, mtup, mlst, mand, mor, mnot, mandV, morV, mnotV, lset_eq, List.getElem?_cons_zero, List.getElem?_cons_succ, List.set_cons_zero, List.set_cons_succ, cond_true, cond_false]
      refine (picked_sp (f := Mv.str) (xs := pool) (k := 1) y5 (by omega) (.inr ⟨np, rfl, by omega, by omega, (X58.trans y4).at (by omega) (by omega) a2⟩) (by omega) (fun y hy => data_str (pok y hy)) (by omega) (by omega)).mono fun x hx => ?_
      obtain ⟨w, s10⟩ := x
      obtain ⟨n, ys, zs, t0, t1, t2, t3, t4, t5, t6, t7⟩ := hx
      simp only at t0 t1 t2 t3 t4 t5 t6 t7
      exact ⟨n, ys, t0, t3, by omega, (List.nodup_append.mp (t5.nodup_iff.mpr pnd)).2.1, fun y hy => t5.subset (List.mem_append_right _ hy), y4.trans t6, t7.mono (by omega)⟩
    · simp only [decide_eq_false hq]
      simp only [wp_ob, wp_om, wp_some, wp_mvar, sset, sexp, sret, sif, spar, spar3, snx, mtB, mtst, mop1, mop2, mcall, mcons, mnil, mcon, mif, mtup, mlst, mand, mor, mnot, mandV, morV, mnotV, lset_eq, List.getElem?_cons_zero, List.getElem?_cons_succ, List.set_cons_zero, List.set_cons_succ, cond_true, cond_false, newL_of (show ([] : List Mv).length ≤ 16777216 by decide)]
      exact ⟨s9.sz, [], rfl, Ms.get_push, by simp, by simp, by simp, y4.trans Ext.push, y5.push.mono (by omega)⟩
  simp only [sret, mtup, mcons, mnil, mcall, wp_ob, wp_om, wp_some, wp_mvar, List.getElem?_cons_zero, List.getElem?_cons_succ, T2] at hE ⊢
  refine hE.mono fun x hx => ?_
  obtain ⟨w, s9⟩ := x
  obtain ⟨n, ys, t0, t1, t2, t3, t4, t5, t6⟩ := hx
  simp only at t0 t1 t5 t6
  subst t0
  have T3 : tupleW [.ref n] s9 = some (.tup (strV ys), s9) := tup_of (items_ref t1) (by rw [strV_len]; omega)
  have T4 : tupleW [.ref n2] s9 = some (.tup (pairV ds2), s9) := tup_of (items_ref (t5.at n22 (by omega) gd2)) (by rw [pairV_len]; omega)
  simp only [wp_ob, wp_om, wp_some, wp_mvar, sset, sexp, sret, sif, spar, spar3, snx, mtB, mtst, mop1, mop2, mcall, mcons, mnil, mcon, mif, mtup, mlst, mand, mor, mnot, mandV, morV, mnotV, lset_eq, List.getElem?_cons_zero, List.getElem?_cons_succ, List.set_cons_zero, List.set_cons_succ, cond_true, cond_false, T3, T4, newT_of (show [Mv.tup (ls.map PLib.mv), .tup (strV ys), .tup (pairV ds2)].length ≤ 16777216 by simp)]
  refine ⟨_, rfl, ⟨ls, ys, ds2⟩, rfl, ?_, (a7.trans X58).trans t5, t6.mono (by omega)⟩
  rw [← hpool] at a4 a5 t4 din2
  exact ⟨a4, fun l hl => (a5 l hl).1, fun l hl => (a5 l hl).2, t3, t4, t2, din2, dl2⟩
theorem Plot2.w {most gates : Nat} {P : Plot} (h : Plot2 most gates P) (hm : most ≤ 7) (hg : gates ≤ 100) : PlotW P := by
  obtain ⟨pin, pnd, plen⟩ := pool_take (most := most)
  have fl : P.folk.length = P.libs.length := by unfold Plot.folk; rw [List.length_map]
  have h1 := h.fk
  have h2 := congrArg List.length h1
  rw [List.length_cons] at h2
  have ink : ∀ x ∈ POOL2.take most, x ∈ P.folk := fun x hx => by rw [h1]; exact List.mem_cons_of_mem _ hx
  have fok : ∀ x ∈ P.folk, PyData.strOk x = true ∧ x.cps.size ≤ 20 := fun x hx => by
    rw [h1] at hx
    refine pool2_ok x ?_
    rcases List.mem_cons.mp hx with z | z
    · simp [z]
    · simp [pin x z]
  refine ⟨?_, fun l hl x hx => ink x ((h.libs l hl).nin x hx).1, by omega, fun l hl => ?_, fun x hx => ink x (h.ein x hx), by have := h.elen; omega, fun d hd => ink _ (h.din d hd).1, by have := h.dlen; omega, fun z => by rw [z, List.length_nil] at fl; omega, fun x hx => (fok x hx).1, fun l hl d hd => (pairs2_ok d ((h.libs l hl).df d hd)).1, fun l hl u hu => (pairs2_ok u.1 ((h.libs l hl).us u hu)).1, fun x hx => (fok x hx).2, fun l hl d hd => (pairs2_ok d ((h.libs l hl).df d hd)).2, fun l hl u hu => (pairs2_ok u.1 ((h.libs l hl).us u hu)).2⟩
  · rw [h1]
    have := pool2_nd
    rw [List.nodup_cons] at this ⊢
    exact ⟨fun z => this.1 (pin _ z), pnd⟩
  · have := h.libs l hl
    have a1 := this.nl
    have a2 := this.dl
    have a3 := this.ul
    omega
theorem pu_plotW {P : Plot} (w : PlotW P) : Pu 5 P.mv := .tup (by simp) (by
  intro z hz
  simp only [List.mem_cons, List.not_mem_nil, or_false] at hz
  have wl := w.len
  have we := w.elen
  have wd := w.dlen
  rcases hz with rfl | rfl | rfl
  · refine .tup (by rw [List.length_map]; omega) fun y hy => ?_
    obtain ⟨l, hl, rfl⟩ := List.mem_map.mp hy
    have := w.lens l hl
    exact pu_lib l (by omega) (by omega) (by omega)
  · exact (Pu.tup (n := 0) (by rw [strV_len]; omega) fun y hy => by obtain ⟨x, _, rfl⟩ := List.mem_map.mp hy; exact .str _).up (by omega)
  · exact (Pu.tup (n := 1) (by rw [pairV_len]; omega) fun y hy => by
      obtain ⟨x, _, rfl⟩ := List.mem_map.mp hy
      exact .tup (by simp) (by simp; exact ⟨.str _, .str _⟩)).up (by omega))

end
section
/-! ### rows of libraries -/
theorem as_tuples_sp : ∀ (d : Nat) (w v : Mv) (s : Ms), Pu d w → Rd s w v → Wp (m_as_tuples (d + 1) [v] s) fun x => x.1 = w ∧ Ex0 s x.2
  | d, .non, _, s, _, r => by cases r; exact ⟨_, rfl, rfl, Ex0.refl⟩
  | d, .bl b, _, s, _, r => by cases r; exact ⟨_, rfl, rfl, Ex0.refl⟩
  | d, .int i, _, s, _, r => by cases r; exact ⟨_, rfl, rfl, Ex0.refl⟩
  | d, .str x, _, s, _, r => by cases r; exact ⟨_, rfl, rfl, Ex0.refl⟩
  | d + 1, .tup ws, v, s, h, r => by
    have hl : ws.length ≤ 1000 ∧ ∀ w ∈ ws, Pu d w := by cases h with | tup a b => exact ⟨a, b⟩
    obtain ⟨vs, hi, rl⟩ := r.items
    have vl := rl.length
    have hv : ∃ t, tyOf v s = some t ∧ ([Mty.list, .tuple].any fun c => isaT t c) = true := by
      cases r with
      | tup l => exact ⟨.tuple, rfl, rfl⟩
      | lst a g l => exact ⟨.list, by
          show (match s.get _ with
            | some (.lst _) => some Mty.list
            | some (.dk _) => some .dict
            | _ => none) = _
          rw [g], rfl⟩
    obtain ⟨t, ht, hc⟩ := hv
    refine wp_fn [some v, none] rfl rfl ?_
    unfold b0_as_tuples
    simp only [wp_ob, wp_om, wp_some, wp_mvar, sset, sexp, sret, sif, spar, spar3, snx, mtB, mtst, mop1, mop2, mcall, mcons, mnil, mcon, mif, mtup, mlst, mand, mor, mnot, mandV, morV, mnotV, lset_eq, List.getElem?_cons_zero, List.getElem?_cons_succ, List.set_cons_zero, List.set_cons_succ, cond_true, cond_false, misiT, ht, hc, tru]
    refine wp_lc (wp_S' ?_)
    simp only [wp_ob, wp_om, wp_some, wp_mvar, sset, sexp, sret, sif, spar, spar3, snx, mtB, mtst, mop1, mop2, mcall, mcons, mnil, mcon, mif, mtup, mlst, mand, mor, mnot, mandV, morV, mnotV, lset_eq, List.getElem?_cons_zero, List.getElem?_cons_succ, List.set_cons_zero, List.set_cons_succ, cond_true, cond_false]
    refine ⟨vs, hi, fun it git => ?_⟩
    refine (wp_flat vs (fun i acc s' => acc = ws.take i ∧ Ex0 s s') (fun i acc s' _ a => git s' ?_) ?_ 1000000000 0 [] s (by omega) (by omega) ⟨rfl, Ex0.refl⟩).mono ?_
    · cases r with
      | tup l => cases hi; rfl
      | lst b g l =>
        have : items (.ref _) s = _ := items_ref g
        rw [this] at hi
        cases hi
        exact items_ref (a.2.at b g)
    · rintro i w acc s' hw ⟨rfl, a2⟩
      obtain ⟨u, hu, ru⟩ := rl.get hw
      unfold mstep
      simp only [wp_ob, wp_om, wp_some, wp_mvar, sset, sexp, sret, sif, spar, spar3, snx, mtB, mtst, mop1, mop2, mcall, mcons, mnil, mcon, mif, mtup, mlst, mand, mor, mnot, mandV, morV, mnotV, lset_eq, List.getElem?_cons_zero, List.getElem?_cons_succ, List.set_cons_zero, List.set_cons_succ, cond_true, cond_false, mwipe, Tg.asg, myes]
      refine (as_tuples_sp d u w s' (hl.2 u (List.mem_of_getElem? hu)) (ru.ex0 a2)).mono fun x hx => ?_
      obtain ⟨e1, e2⟩ := hx
      refine ⟨?_, a2.trans e2⟩
      rw [List.take_add_one, hu, e1]; rfl
    · rintro ⟨acc, s'⟩ ⟨a1, a2⟩
      simp only [List.nil_append] at a1 a2
      rw [vl, List.take_length] at a1
      subst a1
      refine ⟨by show acc.length ≤ _; omega, ?_⟩
      have hT : tupleW [.ref s'.sz] (push s' (.lst acc)) = some (.tup acc, push s' (.lst acc)) := tup_of (items_ref Ms.get_push) (by omega)
      simp only [wp_ob, wp_om, wp_some, wp_mvar, sset, sexp, sret, sif, spar, spar3, snx, mtB, mtst, mop1, mop2, mcall, mcons, mnil, mcon, mif, mtup, mlst, mand, mor, mnot, mandV, morV, mnotV, lset_eq, List.getElem?_cons_zero, List.getElem?_cons_succ, List.set_cons_zero, List.set_cons_succ, cond_true, cond_false, hT]
      exact ⟨_, rfl, rfl, a2.trans Ex0.push⟩
  | 0, .tup ws, _, s, h, _ => by cases h
  | _, .ref _, _, _, h, _ => by cases h
  | _, .ty _, _, _, h, _ => by cases h
  | _, .fl _, _, _, h, _ => by cases h
  | _, .cls _, _, _, h, _ => by cases h
def libV (P : Plot) (x : Str) : Mv := match P.lib? x with
  | none => .non
  | some l => l.mv
theorem lib_of_eq {s : Ms} {P : Plot} {nm : Str} (hl : P.libs.length ≤ 1000) : Wp (m_lib_of [P.mv, .str nm] s) fun x => Ex0 s x.2 ∧ x.1 = libV P nm := by
  refine wp_fn [some P.mv, some (.str nm), none, none] rfl rfl ?_
  unfold bd_lib_of
  refine wp_seq ?_
  simp only [sset, wp_om]
  refine wp_lc (wp_S' ?_)
  simp only [wp_ob, wp_om, wp_some, wp_mvar, sset, sexp, sret, sif, spar, spar3, snx, mtB, mtst, mop1, mop2, mcall, mcons, mnil, mcon, mif, mtup, mlst, mand, mor, mnot, mandV, morV, mnotV, lset_eq, List.getElem?_cons_zero, List.getElem?_cons_succ, List.set_cons_zero, List.set_cons_succ, cond_true, cond_false, plot0]
  refine ⟨P.libs.map PLib.mv, rfl, fun it git => ?_⟩
  refine (wp_flat (P.libs.map PLib.mv) (fun i acc s' => s' = s ∧ acc = ((P.libs.take i).filter fun l => decide (l.own = nm)).map PLib.mv) (fun i acc s' _ a => git s' rfl) ?_ 1000000000 0 [] s (by simp; omega) (by omega) ⟨rfl, rfl⟩).mono ?_
  · rintro i w acc s' hw ⟨rfl, rfl⟩
    rw [List.getElem?_map] at hw
    cases e : P.libs[i]? with
    | none => rw [e] at hw; cases hw
    | some l =>
      rw [e] at hw
      cases hw
      unfold mstep
      simp only [wp_ob, wp_om, wp_some, wp_mvar, sset, sexp, sret, sif, spar, spar3, snx, mtB, mtst, mop1, mop2, mcall, mcons, mnil, mcon, mif, mtup, mlst, mand, mor, mnot, mandV, morV, mnotV, lset_eq, List.getElem?_cons_zero, List.getElem?_cons_succ, List.set_cons_zero, List.set_cons_succ, cond_true, cond_false, mwipe, Tg.asg, lib0, eq_str]
      rw [List.take_add_one, e, List.filter_append, List.map_append]
      by_cases hn : l.own = nm
      · simp only [hn, decide_true]
        try simp only [wp_ob, wp_om, wp_some, wp_mvar, sset, sexp, sret, sif, spar, spar3, snx, mtB, mtst, mop1, mop2, mcall, mcons, mnil, mcon, mif, mtup, mlst, mand, mor, mnot, mandV, morV, mnotV, lset_eq, List.getElem?_cons_zero, List.getElem?_cons_succ, List.set_cons_zero, List.set_cons_succ, cond_true, cond_false]
        refine ⟨trivial, ?_⟩
        simp [hn]
      · simp only [hn, decide_false]
        try simp only [wp_ob, wp_om, wp_some, wp_mvar, sset, sexp, sret, sif, spar, spar3, snx, mtB, mtst, mop1, mop2, mcall, mcons, mnil, mcon, mif, mtup, mlst, mand, mor, mnot, mandV, morV, mnotV, lset_eq, List.getElem?_cons_zero, List.getElem?_cons_succ, List.set_cons_zero, List.set_cons_succ, cond_true, cond_false]
        refine ⟨trivial, ?_⟩
        simp [hn]
  · rintro ⟨acc, s'⟩ ⟨a1, a2⟩
    simp only [List.nil_append] at a1 a2
    subst a1
    rw [List.length_map, List.take_length] at a2
    have al2 := List.length_filter_le (fun l : PLib => decide (l.own = nm)) P.libs
    have al : acc.length ≤ 1000 := by rw [a2, List.length_map]; omega
    refine ⟨by show acc.length ≤ _; omega, trivial, ?_⟩
    have hL : lenW [.ref s'.sz] (push s' (.lst acc)) = some (.int (acc.length : Nat), push s' (.lst acc)) := lenW_of (items_ref Ms.get_push)
    have fh : P.lib? nm = (P.libs.filter fun l => decide (l.own = nm)).head? := by unfold Plot.lib?; rw [List.head?_filter]
    unfold libV
    rw [fh]
    cases hF : P.libs.filter fun l => decide (l.own = nm) with
    | nil =>
      rw [hF] at a2
      subst a2
      have hg : gtW (.int ((List.map PLib.mv []).length : Nat)) (.int 0) (push s' (.lst (List.map PLib.mv []))) = some (.bl false, push s' (.lst (List.map PLib.mv []))) := rfl
      simp only [wp_ob, wp_om, wp_some, wp_mvar, sset, sexp, sret, sif, spar, spar3, snx, mtB, mtst, mop1, mop2, mcall, mcons, mnil, mcon, mif, mtup, mlst, mand, mor, mnot, mandV, morV, mnotV, lset_eq, List.getElem?_cons_zero, List.getElem?_cons_succ, List.set_cons_zero, List.set_cons_succ, cond_true, cond_false, hL, hg]
      exact ⟨_, rfl, Ex0.push, rfl⟩
    | cons l ls =>
      rw [hF] at a2
      subst a2
      have hx : ixA (.ref s'.sz) (.int 0) (push s' (.lst ((l :: ls).map PLib.mv))) = some (l.mv, push s' (.lst ((l :: ls).map PLib.mv))) := ixA_of (items_ref Ms.get_push) rfl
      have hg : gtW (.int (((l :: ls).map PLib.mv).length : Nat)) (.int 0) (push s' (.lst ((l :: ls).map PLib.mv))) = some (.bl true, push s' (.lst ((l :: ls).map PLib.mv))) := rfl
      simp only [wp_ob, wp_om, wp_some, wp_mvar, sset, sexp, sret, sif, spar, spar3, snx, mtB, mtst, mop1, mop2, mcall, mcons, mnil, mcon, mif, mtup, mlst, mand, mor, mnot, mandV, morV, mnotV, lset_eq, List.getElem?_cons_zero, List.getElem?_cons_succ, List.set_cons_zero, List.set_cons_succ, cond_true, cond_false, hL, hg, hx]
      exact ⟨_, rfl, Ex0.push, rfl⟩
theorem libV_some {P : Plot} {x : Str} {l : PLib} (h : P.lib? x = some l) : libV P x = l.mv := by unfold libV; rw [h]
theorem isnot_lib {l : PLib} {s : Ms} : isW false l.mv .non s = some (.bl false, s) := rfl
theorem lib_at_eq {s : Ms} {P : Plot} {nm : Str} {l : PLib} (hl : P.libs.length ≤ 1000) (h : P.lib? nm = some l) : Wp (m_lib_at [P.mv, .str nm] s) fun x => Ex0 s x.2 ∧ x.1 = l.mv := by
  refine wp_fn [some P.mv, some (.str nm), none] rfl rfl ?_
  unfold bd_lib_at
  refine wp_seq ?_
  simp only [wp_ob, wp_om, wp_some, wp_mvar, sset, sexp, sret, sif, spar, spar3, snx, mtB, mtst, mop1, mop2, mcall, mcons, mnil, mcon, mif, mtup, mlst, mand, mor, mnot, mandV, morV, mnotV, lset_eq, List.getElem?_cons_zero, List.getElem?_cons_succ, List.set_cons_zero, List.set_cons_succ, cond_true, cond_false]
  refine (lib_of_eq hl).mono fun x hx => ?_
  obtain ⟨w, s1⟩ := x
  obtain ⟨e1, e2⟩ := hx
  simp only at e1 e2
  rw [libV_some h] at e2
  subst e2
  refine ⟨trivial, wp_seq ?_⟩
  simp only [wp_ob, wp_om, wp_some, wp_mvar, sset, sexp, sret, sif, spar, spar3, snx, mtB, mtst, mop1, mop2, mcall, mcons, mnil, mcon, mif, mtup, mlst, mand, mor, mnot, mandV, morV, mnotV, lset_eq, List.getElem?_cons_zero, List.getElem?_cons_succ, List.set_cons_zero, List.set_cons_succ, cond_true, cond_false, isnot_lib]
  exact ⟨trivial, _, rfl, e1, rfl⟩

end
section
/-! ### a process, as plain data -/
inductive Ans where
  | bound (o v : Str) | nobody | lost | torn
deriving DecidableEq
def Ans.mv : Ans → Mv
  | .bound o v => .tup [.str x_bound, .str o, .str v]
  | .nobody => .tup tw_NOBODY
  | .lost => .tup tw_LOST
  | .torn => .tup tw_TORN
structure St where
  counts : List Nat
  opened : List Nat
  pub : List Str
  deep : List Str
  slots : List ((Str × Nat) × Ans)
structure Gr where
  P : Plot
  first : List Str
  rows : List (List Str)
def Gr.row (G : Gr) (k : Nat) : List Str := G.rows.getD k []
def hereF (G : Gr) (op : List Nat) : List Str := op.foldl (fun acc k => (G.row k).foldl addN acc) G.first
structure GrW (G : Gr) : Prop where
  w : PlotW G.P
  pu : Pu 7 G.P.mv
  fnd : G.first.Nodup
  fin : ∀ x ∈ G.first, x ∈ G.P.folk
  rnd : ∀ k, (G.row k).Nodup
  rin : ∀ k, ∀ x ∈ G.row k, x ∈ G.P.folk
  rl : G.rows.length = G.P.doors.length
def nkey (p : Str × Nat) : NestedKey := .tup [.text p.1, .num (p.2 : Int)]
def keyV (p : Str × Nat) : Mv := .tup [.str p.1, .int (p.2 : Int)]
def slE (e : (Str × Nat) × Ans) : NestedKey × Mv × Mv := (nkey e.1, keyV e.1, e.2.mv)
def slO : List ((Str × Nat) × Ans) → Mo
  | [] => .dk []
  | e :: es => .dn ((e :: es).map slE)
def intV (ns : List Nat) : List Mv := ns.map fun (n : Nat) => .int (n : Int)
structure PA where
  n : Nat
  a1 : Nat
  a2 : Nat
  a3 : Nat
  a4 : Nat
  a5 : Nat
  a6 : Nat
  a7 : Nat
  a8 : Nat
  a9 : Nat
  rs : List Nat
def PA.all (p : PA) : List Nat := p.n :: p.a1 :: p.a2 :: p.a4 :: p.a5 :: p.a6 :: p.a7 :: p.a8 :: p.a9 :: p.rs
def fs10 (P : Plot) (p : PA) : List (Nat × Mv) := [(3, .ref p.a3), (0, P.mv), (1, .ref p.a1), (2, .ref p.a2), (4, .ref p.a4), (5, .ref p.a5), (6, .ref p.a6), (7, .ref p.a7), (8, .ref p.a8), (9, .ref p.a9)]
structure PAt (s : Ms) (p : PA) (G : Gr) (st : St) : Prop where
  nd : p.all.Nodup
  lt : ∀ x ∈ p.all, x < s.sz
  o : s.get p.n = some (.ins 0 (fs10 G.P p))
  first : s.get p.a1 = some (.lst (strV G.first))
  rows : s.get p.a2 = some (.lst (p.rs.map .ref))
  rl : p.rs.length = G.rows.length
  row : ∀ k r, p.rs[k]? = some r → s.get r = some (.lst (strV (G.row k)))
  counts : s.get p.a4 = some (.lst (intV st.counts))
  opened : s.get p.a5 = some (.lst (intV st.opened))
  pub : s.get p.a6 = some (.lst (strV st.pub))
  deep : s.get p.a7 = some (.lst (strV st.deep))
  slots : s.get p.a8 = some (slO st.slots)
  here : s.get p.a9 = some (.dk (hdk (hereF G st.opened)))
section
variable {s s' : Ms} {p : PA} {G : Gr} {st : St}
theorem PAt.ext {L : List Nat} (h : PAt s p G st) (x : ExtL L s s') (d : ∀ y ∈ p.all, y ∉ L) : PAt s' p G st := by
  have g : ∀ {y : Nat} {o : Option Mo}, y ∈ p.all → s.get y = o → s'.get y = o := fun hy e => x.at (h.lt _ hy) (d _ hy) e
  exact ⟨h.nd, fun y hy => Nat.lt_of_lt_of_le (h.lt y hy) x.sz, g (by simp [PA.all]) h.o, g (by simp [PA.all]) h.first, g (by simp [PA.all]) h.rows, h.rl, fun k r hk => g (by simp [PA.all, List.mem_of_getElem? hk]) (h.row k r hk), g (by simp [PA.all]) h.counts, g (by simp [PA.all]) h.opened, g (by simp [PA.all]) h.pub, g (by simp [PA.all]) h.deep, g (by simp [PA.all]) h.slots, g (by simp [PA.all]) h.here⟩
theorem PAt.ex0 (h : PAt s p G st) (x : Ex0 s s') : PAt s' p G st := h.ext (L := []) x.extL fun _ _ => by simp
end

end
section
/-! ### what a process tells of itself -/
theorem Wp.eq {α : Type} {o : Option α} {x : α} (h : Wp o fun y => y = x) : o = some x := by obtain ⟨y, e, rfl⟩ := h; exact e
theorem folk_len {P : Plot} (w : PlotW P) {xs : List Str} (nd : xs.Nodup) (h : ∀ x ∈ xs, x ∈ P.folk) : xs.length ≤ 50 := by
  have := len_nd nd h
  unfold Plot.folk at this
  rw [List.length_map] at this
  have := w.len
  omega
theorem mem_here {G : Gr} {op : List Nat} {x : Str} : x ∈ hereF G op ↔ x ∈ G.first ∨ ∃ k ∈ op, x ∈ G.row k := by
  unfold hereF
  generalize G.first = acc
  induction op generalizing acc with
  | nil => simp
  | cons k op ih =>
    rw [List.foldl_cons, ih, mem_foldN]
    simp only [List.mem_cons]
    constructor
    · rintro ((h | h) | ⟨j, h1, h2⟩)
      · exact .inl h
      · exact .inr ⟨k, .inl rfl, h⟩
      · exact .inr ⟨j, .inr h1, h2⟩
    · rintro (h | ⟨j, h1 | h1, h2⟩)
      · exact .inl (.inl h)
      · exact .inl (.inr (h1 ▸ h2))
      · exact .inr ⟨j, h1, h2⟩
theorem here_in {G : Gr} (g : GrW G) {op : List Nat} {x : Str} (h : x ∈ hereF G op) : x ∈ G.P.folk := by
  rcases mem_here.mp h with h | ⟨k, _, h⟩
  · exact g.fin x h
  · exact g.rin k x h
/-- what is kept of a stand -/
structure StW (G : Gr) (st : St) : Prop where
  cl : st.counts.length = G.P.doors.length
  ond : st.opened.Nodup
  oin : ∀ k ∈ st.opened, k < G.P.doors.length
  oc : ∀ k, k ∈ st.opened ↔ ∃ c, st.counts[k]? = some c ∧ 0 < c
  pnd : st.pub.Nodup
  pin : ∀ x ∈ st.pub, x ∈ G.P.folk
  dnd : st.deep.Nodup
  din : ∀ x ∈ st.deep, x ∈ hereF G st.opened
  snd : (st.slots.map (·.1)).Nodup
  sin : ∀ e ∈ st.slots, e.1.1 ∈ hereF G st.opened ∧ e.1.2 < 20
  sok : ∀ e ∈ st.slots, ∀ o v, e.2 = .bound o v → (PyData.strOk o = true ∧ PyData.strOk v = true) ∧ o.cps.size ≤ 20 ∧ v.cps.size ≤ 20
theorem sortS_len (xs : List Str) : (sortS xs).length = xs.length := (sortS_perm xs).length_eq
section
variable {s : Ms} {p : PA} {G : Gr} {st : St}
theorem PAt.f (h : PAt s p G st) {k : Nat} {w : Mv} (g : getM k (fs10 G.P p) = some w) : fldW 0 k (.ref p.n) s = some (w, s) := fld_of h.o g
theorem sorted_strs {n : Nat} {xs : List Str} (h : s.get n = some (.lst (strV xs))) (hl : xs.length < 64) : sortedW [.ref n] s = some (.ref s.sz, push s (.lst (strV (sortS xs)))) := by
  show (lstOf (.ref n) s).ob (fun xs => (strsOf xs).ob fun ys => cond (Nat.blt ys.length 64) (newL ((sortS ys).map .str) s) none) = _
  have : lstOf (.ref n) s = some (strV xs) := items_ref h
  rw [this, ob_of, strs_of, ob_of, nblt, decide_eq_true hl, cond_true, newL_of (by rw [List.length_map, sortS_len]; omega)]
  rfl
theorem StW.plen (w : StW G st) (g : GrW G) : st.pub.length ≤ 50 := folk_len g.w w.pnd w.pin
theorem StW.dlen (w : StW G st) (g : GrW G) : st.deep.length ≤ 50 := folk_len g.w w.dnd fun x hx => here_in g (w.din x hx)
/-! slots as rows -/
end

end
section
/-! ### which version serves; what calls tell -/
theorem leI {i j : Int} {s : Ms} : leW (.int i) (.int j) s = some (.bl (decide (i ≤ j)), s) := by
  show some (Mv.bl (!iLt j i), s) = _
  rw [iLt_eq]
  by_cases h : i ≤ j
  · rw [decide_eq_true h, decide_eq_false (by omega)]; rfl
  · rw [decide_eq_false h, decide_eq_true (by omega)]; rfl
abbrev useMv (u : (Str × Str) × Bool) : Mv := .tup [.str u.1.1, .str u.1.2, .bl u.2]
def servB (d u : Str × Str) : Bool := decide (d.1 = u.1) && (decide (d.2 = u.2) || decide (x_ ∈ [d.2, u.2]))
def optV : Option Str → Mv
  | none => .non
  | some x => .str x
theorem use_at_sp {P : Plot} {s : Ms} {x : Str} {l : PLib} {i : Nat} {u : (Str × Str) × Bool} (hl : P.libs.length ≤ 1000) (h : P.lib? x = some l) (hu : l.uses[i]? = some u) : Wp (m_use_at [P.mv, .str x, .int (i : Int)] s) fun y => y.1 = useMv u ∧ Ex0 s y.2 := by
  refine wp_fn [some P.mv, some (.str x), some (.int (i : Int)), none] rfl rfl ?_
  unfold bd_use_at
  refine wp_seq ?_
  simp only [wp_ob, wp_om, wp_some, wp_mvar, sset, sexp, sret, sif, spar, spar3, snx, mtB, mtst, mop1, mop2, mcall, mcons, mnil, mcon, mif, mtup, mlst, mand, mor, mnot, mandV, morV, mnotV, lset_eq, List.getElem?_cons_zero, List.getElem?_cons_succ, List.set_cons_zero, List.set_cons_succ, cond_true, cond_false]
  refine (lib_at_eq hl h).mono fun y hy => ?_
  obtain ⟨w, s1⟩ := y
  obtain ⟨x1, e1⟩ := hy
  simp only at x1 e1
  subst e1
  refine ⟨trivial, wp_seq ?_⟩
  have hi := (List.getElem?_eq_some_iff.mp hu).1
  have d0 : decide ((0 : Int) ≤ (i : Int)) = true := decide_eq_true (by omega)
  have d1 : decide ((i : Int) < (l.uses.length : Int)) = true := decide_eq_true (by omega)
  simp only [wp_ob, wp_om, wp_some, wp_mvar, sset, sexp, sret, sif, spar, spar3, snx, mtB, mtst, mop1, mop2, mcall, mcons, mnil, mcon, mif, mtup, mlst, mand, mor, mnot, mandV, morV, mnotV, lset_eq, List.getElem?_cons_zero, List.getElem?_cons_succ, List.set_cons_zero, List.set_cons_succ, cond_true, cond_false, mchain, lib3, lenT, useV_len, leI, ltI, d0, d1, tru, Bool.not_true]
  refine ⟨trivial, ?_⟩
  have hx : ixA (.tup (useV l.uses)) (.int (i : Int)) s1 = some (useMv u, s1) := ixA_of rfl (atF_of (by unfold useV; rw [List.getElem?_map, hu]; rfl))
  simp only [wp_ob, wp_om, wp_some, wp_mvar, sset, sexp, sret, sif, spar, spar3, snx, mtB, mtst, mop1, mop2, mcall, mcons, mnil, mcon, mif, mtup, mlst, mand, mor, mnot, mandV, morV, mnotV, lset_eq, List.getElem?_cons_zero, List.getElem?_cons_succ, List.set_cons_zero, List.set_cons_succ, cond_true, cond_false, hx]
  exact ⟨_, rfl, rfl, x1⟩
section
variable {s : Ms} {p : PA} {G : Gr} {st : St}
end

end
section
/-! ### a process changed: calls -/
def PA.own (p : PA) : List Nat := [p.n, p.a4, p.a5, p.a6, p.a7, p.a8]
def PA.key (p : PA) : Nat × Nat × Nat × Nat × List Nat := (p.n, p.a1, p.a2, p.a3, p.rs)
def PNew (s : Ms) (p p' : PA) : Prop := (∀ z ∈ p'.own, z ∈ p.own ∨ s.sz ≤ z) ∧ (p'.a9 = p.a9 ∨ s.sz ≤ p'.a9)
theorem pnew0 {s : Ms} {p : PA} : PNew s p p := ⟨fun _ z => .inl z, .inl rfl⟩
def PPost (s : Ms) (p : PA) (G : Gr) (st : St) (y : Ms) : Prop := ∃ p' : PA, p'.key = p.key ∧ PNew s p p' ∧ PAt y p' G st ∧ ExtL p.own s y
section
variable {s : Ms} {p : PA} {G : Gr} {st : St}
theorem PPost.of {y : Ms} (h : PAt y p G st) (x : ExtL p.own s y) : PPost s p G st y := ⟨p, rfl, pnew0, h, x⟩
theorem PPost.after {s1 y : Ms} {p1 : PA} (h : PPost s1 p1 G st y) (x : ExtL p.own s s1) (hn : p1.key = p.key) (ha : PNew s p p1) : PPost s p G st y := by
  obtain ⟨p', e, a, b, c⟩ := h
  refine ⟨p', e.trans hn, ⟨fun z hz => ?_, ?_⟩, b, x.trans' c ha.1⟩
  · rcases a.1 z hz with q | q
    · exact ha.1 z q
    · exact .inr (Nat.le_trans x.sz q)
  · rcases a.2 with q | q
    · rw [q]; exact ha.2
    · exact .inr (Nat.le_trans x.sz q)
end

end
section
/-! ### a process changed: doors -/
section
variable {s : Ms} {p : PA} {G : Gr} {st : St}
/-- the row of a door, as it stands in the process -/
theorem PAt.hr (h : PAt s p G st) : ∀ k r, p.rs[k]? = some r → r < s.sz ∧ s.get r = some (.lst (strV (G.row k))) := fun k r hk => ⟨h.lt r (by simp [PA.all, List.mem_of_getElem? hk]), h.row k r hk⟩
end

end
section
/-! ### doors opened and shut -/
section
variable {s : Ms} {p : PA} {G : Gr} {st : St}
end

end
section
/-! ### doors shut -/
section
variable {s : Ms} {p : PA} {G : Gr} {st : St}
end

end
section
/-! ### steps -/
section
variable {s : Ms} {p : PA} {G : Gr} {st : St}
inductive Step where
  | opn (k : Nat) | cls (k : Nat) | call (x : Str) (i : Nat)
deriving DecidableEq
def useOf (P : Plot) (x : Str) (i : Nat) : (Str × Str) × Bool := match P.lib? x with
  | some l => l.uses.getD i ((x_, x_), false)
  | none => ((x_, x_), false)
theorem use_of {P : Plot} {x : Str} {i : Nat} {l : PLib} (h : P.lib? x = some l) (hi : i < l.uses.length) : l.uses[i]? = some (useOf P x i) := by
  unfold useOf
  rw [h]
  simp only
  rw [List.getD_eq_getElem?_getD, List.getElem?_eq_getElem hi]; rfl
end
/-! ### how a process begins -/
def grF (P : Plot) : Gr := ⟨P, rowF P (((P.libs.map (·.own)).headD x_) :: P.early), P.doors.map fun d => rowF P [d.1]⟩
end
section
/-! ### a twin of a process without slots -/
def Gnd (s : Ms) (p : PA) (P : Plot) : Prop := s.get p.a3 = some (.ins 1 [(0, P.mv), (1, .ref p.a1), (2, .ref p.a2)]) ∧ p.a3 < s.sz
section
variable {s s' : Ms} {p : PA} {P : Plot} {st : St}
theorem Gnd.ext {L : List Nat} (h : Gnd s p P) (x : ExtL L s s') (d : p.a3 ∉ L) : Gnd s' p P := ⟨x.at h.2 d h.1, Nat.lt_of_lt_of_le h.2 x.sz⟩
theorem Gnd.ex0 (h : Gnd s p P) (x : Ex0 s s') : Gnd s' p P := h.ext (L := []) x.extL (fun z => by cases z)
theorem Gnd.own (h : Gnd s p P) (a : PAt s p (grF P) st) : p.a3 ∉ p.own := by
  intro z
  have e := h.1
  simp only [PA.own, List.mem_cons, List.not_mem_nil, or_false] at z
  rcases z with z | z | z | z | z | z
  · rw [z, a.o] at e; cases e
  · rw [z, a.counts] at e; cases e
  · rw [z, a.opened] at e; cases e
  · rw [z, a.pub] at e; cases e
  · rw [z, a.deep] at e; cases e
  · rw [z, a.slots] at e
    cases hs : st.slots <;> rw [hs] at e <;> cases e
end

end
section
/-! ### sets of tuples: dicts whose values are True -/
section
variable {α : Type} [DecidableEq α] {f : α → Mv} {κ : α → NestedKey}
structure Kf (f : α → Mv) (κ : α → NestedKey) : Prop where
  k : ∀ x, keyT (f x) = some (κ x)
  one : ∀ x, key1 (f x) = none
  inj : ∀ x y, κ x = κ y → x = y
end
/-! the bases, and the spots of the law -/
abbrev BK := List Nat × List Nat × List Str × List Str
abbrev SP := List Nat × List Str × List Str
end
section
/-! ### the steps of a walk -/
section
variable {s : Ms} {p : PA} {G : Gr} {st : St}
end

end
section
/-! ### walking layer by layer: known at the push, known at the pop -/
section
variable {σ τ β γ : Type} [DecidableEq β] [DecidableEq γ]
/-- the first ones of a row whose keys are not known -/
def fresh (key : σ → β) : List β → List σ → List σ
  | _, [] => []
  | kn, x :: xs => if key x ∈ kn then fresh key kn xs else x :: fresh key (kn ++ [key x]) xs
end

end
section
/-! ### a walk over bases, in plain words -/
section
variable {α : Type} [DecidableEq α]
def arr : Nat → List α → List (List α)
  | 0, _ => [[]]
  | n + 1, xs => [] :: xs.flatMap fun x => (arr n (xs.erase x)).map (x :: ·)
end
abbrev Wk := St × List Step
/-- what holds of all that a walk comes to -/
structure WInv (P : Plot) (st : St) : Prop where
  w : StW (grF P) st
  sl : st.slots = []
  cn : ∀ k, k < P.doors.length → st.counts[k]? = some (if k ∈ st.opened then 1 else 0)
end
section
/-! ### the store of a walk -/
section
variable {P : Plot} {s s' s0 : Ms} {L : List Nat} {w : Mv} {x : Wk} {p : PA} {ws : List Mv} {xs : List Wk}
variable {K F A : Nat} {kn : List BK} {fo la : List Wk}
end

end
section
/-! ### walk(program) -/
structure FewB (P : Plot) : Prop where
  w : PlotW P
  pu : Pu 7 P.mv
  f : P.folk.length ≤ 6
  d : P.doors.length ≤ 3
section
variable {P : Plot} {s s' s0 : Ms} {v : Mv} {x : Wk} {p : PA} {K F A m Ly : Nat} {kn : List BK} {fo : List Wk} {Z L : List Wk} {o0 o1 o2 o6 o7 o8 o9 o10 o11 : Option Mv}
end

end
section
/-! ### bases(program) -/

end
section
/-! ### lists in the place of tuples, as data -/
mutual
inductive LsD : Mv → PyData → Prop
  | bl (b : Bool) : LsD (.bl b) (.bool b)
  | str (x : Str) : PyData.strOk x = true → LsD (.str x) (.str x)
  | tup {ws : List Mv} {ds : List PyData} : LsDL ws ds → LsD (.tup ws) (.list ds)
inductive LsDL : List Mv → List PyData → Prop
  | nil : LsDL [] []
  | cons {w : Mv} {d : PyData} {ws : List Mv} {ds : List PyData} : LsD w d → LsDL ws ds → LsDL (w :: ws) (d :: ds)
end
theorem LsDL.get : ∀ {ws : List Mv} {ds : List PyData}, LsDL ws ds → ∀ {i : Nat} {w : Mv}, ws[i]? = some w → ∃ d, ds[i]? = some d ∧ LsD w d
  | _, _, .nil, i, w, e => by simp at e
  | _, _, .cons h l, 0, w, e => by simp at e; subst e; exact ⟨_, rfl, h⟩
  | _, _, .cons h l, i + 1, w, e => by simpa using l.get (i := i) (by simpa using e)
theorem LsDL.len : ∀ {ws : List Mv} {ds : List PyData}, LsDL ws ds → ds.length = ws.length
  | _, _, .nil => rfl
  | _, _, .cons _ l => by rw [List.length_cons, List.length_cons, l.len]
mutual
theorem LsD.lay : ∀ {w : Mv} {d : PyData}, LsD w d → PyData.canLay0 d = true
  | _, _, .bl b => by simp [PyData.canLay0]
  | _, _, .str x h => by simpa [PyData.canLay0] using h
  | _, _, .tup l => by simpa [PyData.canLay0] using l.lay
theorem LsDL.lay : ∀ {ws : List Mv} {ds : List PyData}, LsDL ws ds → PyData.canLayAll0 ds = true
  | _, _, .nil => by simp [PyData.canLayAll0]
  | _, _, .cons h l => by simp [PyData.canLayAll0, h.lay, l.lay]
end
end
section
/-! ### the law's own rows -/
theorem fold_filter : ∀ {zs f : List Str}, zs.Nodup → zs.foldl addN f = f ++ zs.filter fun x => !decide (x ∈ f)
  | [], f, _ => by simp
  | z :: zs, f, nd => by
    rw [List.nodup_cons] at nd
    rw [List.foldl_cons, fold_filter nd.2, List.filter_cons]
    unfold addN
    by_cases h : z ∈ f
    · rw [if_pos h, decide_eq_true h]; rfl
    · rw [if_neg h, decide_eq_false h]
      have e : zs.filter (fun x => !decide (x ∈ f ++ [z])) = zs.filter fun x => !decide (x ∈ f) := by
        refine List.filter_congr fun x hx => ?_
        have : x ≠ z := fun q => nd.1 (q ▸ hx)
        by_cases hf : x ∈ f <;> simp [hf, this]
      rw [e, List.append_assoc]; rfl
structure Own2 (P : Plot) : Prop extends FewB P where
  nn : ∀ l ∈ P.libs, l.needs.Nodup
  fn : (((P.libs.map (·.own)).headD x_) :: P.early).Nodup
  l2 : ∀ l ∈ P.libs, ∃ pool, Lib2 pool l
  dm : ∀ d ∈ P.doors, PyData.strOk d.2 = true
section
variable {P : Plot} {s : Ms}
theorem lib1_sp (w : PlotW P) {x : Str} {l : PLib} (hl : P.lib? x = some l) : Wp (m__law_lib [P.mv, .str x] s) fun y => y.1 = l.mv ∧ Ex0 s y.2 := by
  have wl := w.len
  refine wp_fn [some P.mv, some (.str x), none] rfl rfl ?_
  unfold bd__law_lib
  simp only [wp_ob, wp_om, wp_some, wp_mvar, sset, sexp, sret, sif, spar, spar3, snx, mtB, mtst, mop1, mop2, mcall, mcons, mnil, mcon, mif, mtup, mlst, mand, mor, mnot, mandV, morV, mnotV, lset_eq, List.getElem?_cons_zero, List.getElem?_cons_succ, List.set_cons_zero, List.set_cons_succ, cond_true, cond_false]
  refine wp_lc (wp_S' ?_)
  simp only [wp_ob, wp_om, wp_some, wp_mvar, sset, sexp, sret, sif, spar, spar3, snx, mtB, mtst, mop1, mop2, mcall, mcons, mnil, mcon, mif, mtup, mlst, mand, mor, mnot, mandV, morV, mnotV, lset_eq, List.getElem?_cons_zero, List.getElem?_cons_succ, List.set_cons_zero, List.set_cons_succ, cond_true, cond_false, plot0]
  refine ⟨P.libs.map PLib.mv, rfl, fun it git => ?_⟩
  refine (wp_flat (P.libs.map PLib.mv) (fun i acc s' => s' = s ∧ acc = ((P.libs.take i).filter fun l => decide (l.own = x)).map PLib.mv) (fun i acc s' _ _ => git s' rfl) ?_ 1000000000 0 [] s (by rw [List.length_map]; omega) (by omega) ⟨rfl, rfl⟩).mono ?_
  · rintro i u acc s' hu ⟨rfl, rfl⟩
    rw [List.getElem?_map] at hu
    cases e : P.libs[i]? with
    | none => rw [e] at hu; cases hu
    | some l =>
      rw [e] at hu
      cases hu
      unfold mstep
      simp only [wp_ob, wp_om, wp_some, wp_mvar, sset, sexp, sret, sif, spar, spar3, snx, mtB, mtst, mop1, mop2, mcall, mcons, mnil, mcon, mif, mtup, mlst, mand, mor, mnot, mandV, morV, mnotV, lset_eq, List.getElem?_cons_zero, List.getElem?_cons_succ, List.set_cons_zero, List.set_cons_succ, cond_true, cond_false, mwipe, Tg.asg, lib0, eq_str]
      rw [List.take_add_one, e, List.filter_append, List.map_append]
      by_cases h : l.own = x
      · simp only [decide_eq_true h]
        simp only [wp_ob, wp_om, wp_some, wp_mvar, sset, sexp, sret, sif, spar, spar3, snx, mtB, mtst, mop1, mop2, mcall, mcons, mnil, mcon, mif, mtup, mlst, mand, mor, mnot, mandV, morV, mnotV, lset_eq, List.getElem?_cons_zero, List.getElem?_cons_succ, List.set_cons_zero, List.set_cons_succ, cond_true, cond_false]
        exact ⟨trivial, by simp [h]⟩
      · simp only [decide_eq_false h]
        simp only [wp_ob, wp_om, wp_some, wp_mvar, sset, sexp, sret, sif, spar, spar3, snx, mtB, mtst, mop1, mop2, mcall, mcons, mnil, mcon, mif, mtup, mlst, mand, mor, mnot, mandV, morV, mnotV, lset_eq, List.getElem?_cons_zero, List.getElem?_cons_succ, List.set_cons_zero, List.set_cons_succ, cond_true, cond_false]
        exact ⟨trivial, by simp [h]⟩
  rintro ⟨acc, s'⟩ ⟨e1, e2⟩
  simp only [List.nil_append] at e1 e2
  rw [List.length_map, List.take_length] at e2
  subst e1 e2
  have fl := List.length_filter_le (fun l => decide (l.own = x)) P.libs
  refine ⟨by rw [List.length_map]; omega, ?_⟩
  have h0 : ∃ ls, P.libs.filter (fun l => decide (l.own = x)) = l :: ls := by
    have e : (P.libs.filter fun l => decide (l.own = x)).head? = some l := by rw [List.head?_filter]; exact hl
    cases hf : P.libs.filter (fun l => decide (l.own = x)) with
    | nil => rw [hf] at e; cases e
    | cons a ls => rw [hf] at e; cases e; exact ⟨ls, rfl⟩
  obtain ⟨ls, h0⟩ := h0
  have hix : ixA (.ref s'.sz) (.int 0) (push s' (.lst ((P.libs.filter fun l => decide (l.own = x)).map PLib.mv))) = some (l.mv, push s' (.lst ((P.libs.filter fun l => decide (l.own = x)).map PLib.mv))) := ixA_of (items_ref Ms.get_push) (atF_of (i := 0) (by rw [h0]; rfl))
  simp only [wp_ob, wp_om, wp_some, wp_mvar, sset, sexp, sret, sif, spar, spar3, snx, mtB, mtst, mop1, mop2, mcall, mcons, mnil, mcon, mif, mtup, mlst, mand, mor, mnot, mandV, morV, mnotV, lset_eq, List.getElem?_cons_zero, List.getElem?_cons_succ, List.set_cons_zero, List.set_cons_succ, cond_true, cond_false, hix]
  exact ⟨_, rfl, rfl, Ex0.push⟩
end

end
section
/-! ### the law's own turns -/
structure QOk (P : Plot) (q : SP) : Prop where
  o : ∀ k ∈ q.1, k < P.doors.length
  ol : q.1.length ≤ 10
  pl : q.2.1.length ≤ 50
  dl : q.2.2.length ≤ 20
section
variable {P : Plot} {s : Ms}
end

end
section
/-! ### the law's own walk, in plain words -/
abbrev Lk := SP × List Step
def keepS (op : List Nat) : Step → Bool
  | .opn k => !decide (k ∈ op)
  | _ => true
end
section
/-! ### the law's own walk, told: its store and its turns -/
section
variable {P : Plot} {s s' s0 : Ms} {K F A m : Nat} {kn : List SP} {fo la : List Lk}
end

end
section
/-! ### the law's own walk, told -/
section
variable {P : Plot} {s s' s0 : Ms} {K F A m Ly : Nat} {kn : List SP} {fo L : List Lk}
end

end
section
/-! ### the bases that are due -/
section
variable {s : Ms} {P : Plot}
theorem wp_rlc {A : Fa} {E : Fe} {r : Me} {n j : Nat} (f : Nat → Mv) (hn : n ≤ 1000) (hj : j < r.length) (hA : Wp (A r s) fun y => y.1 = [.int (n : Int)] ∧ Ex0 s y.2) (hE : ∀ i, i < n → ∀ s', Ex0 s s' → Wp (E (r.set j (some (.int (i : Int)))) s') fun y => y.1 = f i ∧ Ex0 s' y.2) : Wp (mlc (miR1 A) (.nm j) myes E [j] r s) fun y => ∃ m, y.1 = .ref m ∧ s.sz ≤ m ∧ m < y.2.sz ∧ y.2.get m = some (.lst ((List.range n).map f)) ∧ Ex0 s y.2 := by
  refine wp_lc (wp_R1 (hA.mono fun y hy => ?_))
  obtain ⟨v, s1⟩ := y
  obtain ⟨e1, x1⟩ := hy
  simp only at e1 x1
  subst e1
  refine ⟨_, rfl, okI_of (by omega) (by omega), ?_⟩
  refine (wp_flat (rngL 0 (n : Int).toNat) (fun k acc s' => acc = (List.range k).map f ∧ Ex0 s s') (fun k acc s'' _ _ => gives_rng) ?_ 1000000000 0 [] s1 (by rw [rngL_len]; omega) (by omega) ⟨rfl, x1⟩).mono ?_
  · rintro k u acc s' hu ⟨rfl, xx⟩
    obtain ⟨hk, rfl⟩ := rngL_get hu
    have ek : (0 : Int) + (k : Int) = (k : Int) := by omega
    rw [ek]
    have er : lset (mwipe r [j]) j (some (.int (k : Int))) = r.set j (some (.int (k : Int))) := by
      show lset (lset r j none) j _ = _
      rw [lset_eq, lset_eq, List.set_set]
    show Wp ((some (lset (mwipe r [j]) j (some (.int (k : Int))))).ob fun r1 => (myes r1 s').ob fun c => cond c.1 ((E r1 c.2).om fun x => ([x.1], x.2)) (some ([], c.2))) _
    rw [ob_of, er]
    show Wp ((E (r.set j (some (.int (k : Int)))) s').om fun x => ([x.1], x.2)) _
    rw [wp_om]
    refine (hE k (by omega) s' xx).mono fun y hy => ?_
    obtain ⟨e, x2⟩ := hy
    refine ⟨?_, xx.trans x2⟩
    rw [List.range_succ, List.map_append, e]; rfl
  rintro ⟨acc, s2⟩ ⟨e2, x2⟩
  simp only [List.nil_append] at e2 x2
  rw [rngL_len, Int.toNat_natCast] at e2
  subst e2
  exact ⟨by rw [List.length_map, List.length_range]; omega, _, rfl, x2.sz, by simp only [push_sz]; omega, Ms.get_push, x2.trans Ex0.push⟩
end

end
section
/-! ### modest programs -/
section
variable {P : Plot} {s s' : Ms} {K A B : Nat} {kn : List SP} {L : List SP} {o1 o5 o6 : Option Mv}
end

end
section
/-! ### alike -/
theorem eq_bl {b c : Bool} {s : Ms} : eqW (.bl b) (.bl c) s = some (.bl (decide (b = c)), s) := by cases b <;> cases c <;> rfl
theorem ne_bl {b : Bool} {s : Ms} : neW (.bl b) (.bl b) s = some (.bl false, s) := by cases b <;> rfl
theorem zipM_len : ∀ {xs ys : List Mv}, xs.length = ys.length → (zipM xs ys).length = xs.length
  | [], [], _ => rfl
  | x :: xs, y :: ys, h => by
    show (zipM xs ys).length + 1 = xs.length + 1
    rw [zipM_len (by simpa using h)]
theorem gives_zl {s : Ms} {n m : Nat} {xs ys : List Mv} (h1 : s.get n = some (.lst xs)) (h2 : s.get m = some (.lst ys)) : Gives (.zl n m) (zipM xs ys) s := fun i => by
  show (match s.get n, s.get m with
    | some (.lst xs), some (.lst ys) => some (match lget xs i, lget ys i with
      | some x, some y => some (Mv.tup [x, y])
      | _, _ => none)
    | _, _ => none) = _
  rw [h1, h2]
  show some (match lget xs i, lget ys i with
      | some x, some y => some (Mv.tup [x, y])
      | _, _ => none) = _
  rw [lget_eq, lget_eq, zipM_get]
  try (generalize xs[i]? = p; generalize ys[i]? = q; cases p <;> cases q <;> rfl)
def tailS (d : Nat) : Fs := sret (mandV (mop2 eqW (mcall lenW (mcons (mvar 0) (mnil))) (mcall lenW (mcons (mvar 1) (mnil)))) (mcall allW (mcons (mlc (miZ (mcons (mvar 0) (mcons (mvar 1) (mnil)))) (.tp [2, 3]) (myes) (mcall (m__law_same d) (mcons (mvar 2) (mcons (mvar 3) (mnil)))) [2, 3]) (mnil))))
section
variable {s : Ms} {d : Nat} {a b : Mv} {ws us : List Mv} {it : It0}
theorem tail_sp (hw : ws.length = us.length) (hl : ws.length ≤ 16777216) (ha : lenW [a] s = some (.int (ws.length : Int), s)) (hb : lenW [b] s = some (.int (us.length : Int), s)) (hz : miZ (mcons (mvar 0) (mcons (mvar 1) (mnil))) [some a, some b, none, none] s = some (it, s)) (hg : ∀ s', Ex0 s s' → Gives it (zipM ws us) s') (he : ∀ (i : Nat) (w u : Mv), ws[i]? = some w → us[i]? = some u → ∀ s', Ex0 s s' → Wp (m__law_same d [w, u] s') fun y => y.1 = .bl true ∧ Ex0 s' y.2) :
    Wp (tailS d [some a, some b, none, none] s) fun y => ∃ w, y.1 = .rt w ∧ w = .bl true ∧ Ex0 s y.2.2 := by
  unfold tailS
  simp only [wp_ob, wp_om, wp_some, wp_mvar, sset, sexp, sret, sif, spar, spar3, snx, mtB, mtst, mop1, mop2, mcall, mcons, mnil, mcon, mif, mtup, mlst, mand, mor, mnot, mandV, morV, mnotV, lset_eq, List.getElem?_cons_zero, List.getElem?_cons_succ, List.set_cons_zero, List.set_cons_succ, cond_true, cond_false, ha, hb, eq_int, hw]
  simp only [decide_true]
  simp only [wp_ob, wp_om, wp_some, wp_mvar, sset, sexp, sret, sif, spar, spar3, snx, mtB, mtst, mop1, mop2, mcall, mcons, mnil, mcon, mif, mtup, mlst, mand, mor, mnot, mandV, morV, mnotV, lset_eq, List.getElem?_cons_zero, List.getElem?_cons_succ, List.set_cons_zero, List.set_cons_succ, cond_true, cond_false]
  refine wp_lc ?_
  rw [hz, wp_some]
  have zl := zipM_len hw
  refine (wp_flat (zipM ws us) (fun i acc s' => acc = List.replicate i (Mv.bl true) ∧ Ex0 s s') (fun i acc s' _ a => hg s' a.2) ?_ 1000000000 0 [] s (by omega) (by omega) ⟨rfl, Ex0.refl⟩).mono ?_
  · rintro i u acc s' hu ⟨rfl, xx⟩
    rw [zipM_get] at hu
    cases e1 : ws[i]? with
    | none => rw [e1] at hu; cases hu
    | some w =>
      cases e2 : us[i]? with
      | none => rw [e1, e2] at hu; cases hu
      | some v =>
        rw [e1, e2] at hu
        cases hu
        unfold mstep
        have ha : (Tg.tp [2, 3]).asg (.tup [w, v]) (mwipe [some a, some b, none, none] [2, 3]) = some [some a, some b, some w, some v] := rfl
        rw [ha, ob_of]
        simp only [wp_ob, wp_om, wp_some, wp_mvar, sset, sexp, sret, sif, spar, spar3, snx, mtB, mtst, mop1, mop2, mcall, mcons, mnil, mcon, mif, mtup, mlst, mand, mor, mnot, mandV, morV, mnotV, lset_eq, List.getElem?_cons_zero, List.getElem?_cons_succ, List.set_cons_zero, List.set_cons_succ, cond_true, cond_false, myes]
        refine (he i w v e1 e2 s' xx).mono fun y hy => ?_
        obtain ⟨h1, h2⟩ := hy
        rw [h1]
        exact ⟨by rw [List.replicate_succ'], xx.trans h2⟩
  · rintro ⟨acc, s2⟩ ⟨h1, h2⟩
    simp only [List.nil_append] at h1 h2
    subst h1
    refine ⟨by rw [List.length_replicate]; omega, ?_⟩
    rw [all_rep Ms.get_push, wp_some]
    exact ⟨_, rfl, rfl, h2.trans Ex0.push⟩
theorem same_tup (hl : ws.length ≤ 16777216) (hw : ws.length = us.length) (he : ∀ (i : Nat) (w u : Mv), ws[i]? = some w → us[i]? = some u → ∀ s', Ex0 s s' → Wp (m__law_same d [w, u] s') fun y => y.1 = .bl true ∧ Ex0 s' y.2) : Wp (m__law_same (d + 1) [.tup ws, .tup us] s) fun y => y.1 = .bl true ∧ Ex0 s y.2 := by
  refine wp_fn [some (.tup ws), some (.tup us), none, none] rfl rfl ?_
  have T := tail_sp (it := .seq (zipM ws us)) (a := .tup ws) (b := .tup us) (s := s) hw hl rfl (by rw [lenW_of (ws := us) rfl]) rfl (fun s' _ => gives_seq) he
  revert T
  unfold b0__law_same
  show Wp (tailS d _ _) _ → Wp (sseq (sif _ (sseq (sif _ _ _) (sseq (sif _ _ _) (tailS d))) snx) _ _ _) _
  generalize tailS d = X
  intro T
  refine wp_seq_rt (wp_sift ?_)
  simp only [wp_ob, wp_om, wp_some, wp_mvar, sset, sexp, sret, sif, spar, spar3, snx, mtB, mtst, mop1, mop2, mcall, mcons, mnil, mcon, mif, mtup, mlst, mand, mor, mnot, mandV, morV, mnotV, lset_eq, List.getElem?_cons_zero, List.getElem?_cons_succ, List.set_cons_zero, List.set_cons_succ, cond_true, cond_false, misiT, ty_tup, isaT, List.any_cons, List.any_nil, decide_true, decide_false, Bool.or_true, Bool.true_or, Bool.or_false, tru, reduceCtorEq]
  refine ⟨trivial, wp_seq (wp_siff ?_)⟩
  simp only [wp_ob, wp_om, wp_some, wp_mvar, sset, sexp, sret, sif, spar, spar3, snx, mtB, mtst, mop1, mop2, mcall, mcons, mnil, mcon, mif, mtup, mlst, mand, mor, mnot, mandV, morV, mnotV, lset_eq, List.getElem?_cons_zero, List.getElem?_cons_succ, List.set_cons_zero, List.set_cons_succ, cond_true, cond_false, isiW, ty_tup, ne_bl]
  refine ⟨trivial, trivial, wp_seq (wp_siff ?_)⟩
  simp only [wp_ob, wp_om, wp_some, wp_mvar, sset, sexp, sret, sif, spar, spar3, snx, mtB, mtst, mop1, mop2, mcall, mcons, mnil, mcon, mif, mtup, mlst, mand, mor, mnot, mandV, morV, mnotV, lset_eq, List.getElem?_cons_zero, List.getElem?_cons_succ, List.set_cons_zero, List.set_cons_succ, cond_true, cond_false, isiW, ty_tup, ne_bl]
  refine ⟨trivial, trivial, ?_⟩
  exact T.mono fun z hz => (by obtain ⟨w, e1, e2, e3⟩ := hz; exact ⟨w, e1, w, rfl, e2, e3⟩)
theorem same_lst {n m : Nat} (hn : s.get n = some (.lst ws)) (hm : s.get m = some (.lst us)) (ln : n < s.sz) (lm : m < s.sz) (hl : ws.length ≤ 16777216) (hw : ws.length = us.length) (he : ∀ (i : Nat) (w u : Mv), ws[i]? = some w → us[i]? = some u → ∀ s', Ex0 s s' → Wp (m__law_same d [w, u] s') fun y => y.1 = .bl true ∧ Ex0 s' y.2) : Wp (m__law_same (d + 1) [.ref n, .ref m] s) fun y => y.1 = .bl true ∧ Ex0 s y.2 := by
  have tn : tyOf (.ref n) s = some .list := by unfold tyOf; simp only [hn]
  have tm : tyOf (.ref m) s = some .list := by unfold tyOf; simp only [hm]
  refine wp_fn [some (.ref n), some (.ref m), none, none] rfl rfl ?_
  have hz : miZ (mcons (mvar 0) (mcons (mvar 1) (mnil))) [some (.ref n), some (.ref m), none, none] s = some (.zl n m, s) := by
    show (match s.get n, s.get m with
      | some (.lst _), some (.lst _) => some (It0.zl n m, s)
      | _, _ => none) = _
    rw [hn, hm]
  have T := tail_sp (it := .zl n m) (a := .ref n) (b := .ref m) (s := s) hw hl (lenW_of (items_ref hn)) (lenW_of (items_ref hm)) hz (fun s' x => gives_zl (x.at ln hn) (x.at lm hm)) he
  revert T
  unfold b0__law_same
  show Wp (tailS d _ _) _ → Wp (sseq (sif _ (sseq (sif _ _ _) (sseq (sif _ _ _) (tailS d))) snx) _ _ _) _
  generalize tailS d = X
  intro T
  refine wp_seq_rt (wp_sift ?_)
  simp only [wp_ob, wp_om, wp_some, wp_mvar, sset, sexp, sret, sif, spar, spar3, snx, mtB, mtst, mop1, mop2, mcall, mcons, mnil, mcon, mif, mtup, mlst, mand, mor, mnot, mandV, morV, mnotV, lset_eq, List.getElem?_cons_zero, List.getElem?_cons_succ, List.set_cons_zero, List.set_cons_succ, cond_true, cond_false, misiT, tm, isaT, List.any_cons, List.any_nil, decide_true, decide_false, Bool.or_true, Bool.true_or, Bool.or_false, tru, reduceCtorEq]
  refine ⟨trivial, wp_seq (wp_siff ?_)⟩
  simp only [wp_ob, wp_om, wp_some, wp_mvar, sset, sexp, sret, sif, spar, spar3, snx, mtB, mtst, mop1, mop2, mcall, mcons, mnil, mcon, mif, mtup, mlst, mand, mor, mnot, mandV, morV, mnotV, lset_eq, List.getElem?_cons_zero, List.getElem?_cons_succ, List.set_cons_zero, List.set_cons_succ, cond_true, cond_false, isiW, tn, tm, ne_bl]
  refine ⟨trivial, trivial, wp_seq (wp_siff ?_)⟩
  simp only [wp_ob, wp_om, wp_some, wp_mvar, sset, sexp, sret, sif, spar, spar3, snx, mtB, mtst, mop1, mop2, mcall, mcons, mnil, mcon, mif, mtup, mlst, mand, mor, mnot, mandV, morV, mnotV, lset_eq, List.getElem?_cons_zero, List.getElem?_cons_succ, List.set_cons_zero, List.set_cons_succ, cond_true, cond_false, isiW, tn, tm, ne_bl]
  refine ⟨trivial, trivial, ?_⟩
  exact T.mono fun z hz => (by obtain ⟨w, e1, e2, e3⟩ := hz; exact ⟨w, e1, w, rfl, e2, e3⟩)
/-- texts and numbers -/
inductive Pn : Nat → Mv → Prop
  | int {n : Nat} (i : Int) : Pn n (.int i)
  | str {n : Nat} (x : Str) : Pn n (.str x)
  | bl {n : Nat} (b : Bool) : Pn n (.bl b)
  | tup {n : Nat} {ws : List Mv} : ws.length ≤ 16777216 → (∀ w ∈ ws, Pn n w) → Pn (n + 1) (.tup ws)
theorem same_int {i : Int} : Wp (m__law_same (d + 1) [.int i, .int i] s) fun y => y.1 = .bl true ∧ Ex0 s y.2 := by
  have ty : tyOf (.int i) s = some .int := rfl
  refine wp_fn [some (.int i), some (.int i), none, none] rfl rfl ?_
  unfold b0__law_same
  refine wp_seq (wp_siff ?_)
  simp only [wp_ob, wp_om, wp_some, wp_mvar, sset, sexp, sret, sif, spar, spar3, snx, mtB, mtst, mop1, mop2, mcall, mcons, mnil, mcon, mif, mtup, mlst, mand, mor, mnot, mandV, morV, mnotV, lset_eq, List.getElem?_cons_zero, List.getElem?_cons_succ, List.set_cons_zero, List.set_cons_succ, cond_true, cond_false, misiT, ty, isaT, List.any_cons, List.any_nil, decide_true, decide_false, Bool.or_true, Bool.true_or, Bool.or_false, tru, reduceCtorEq]
  refine ⟨rfl, trivial, wp_seq (wp_siff (wp_orf ?_))⟩
  have hn : isW false (.int i) .non s = some (.bl false, s) := rfl
  simp only [wp_ob, wp_om, wp_some, wp_mvar, sset, sexp, sret, sif, spar, spar3, snx, mtB, mtst, mop1, mop2, mcall, mcons, mnil, mcon, mif, mtup, mlst, mand, mor, mnot, mandV, morV, mnotV, lset_eq, List.getElem?_cons_zero, List.getElem?_cons_succ, List.set_cons_zero, List.set_cons_succ, cond_true, cond_false, hn]
  refine ⟨trivial, ?_⟩
  simp only [wp_ob, wp_om, wp_some, wp_mvar, sset, sexp, sret, sif, spar, spar3, snx, mtB, mtst, mop1, mop2, mcall, mcons, mnil, mcon, mif, mtup, mlst, mand, mor, mnot, mandV, morV, mnotV, lset_eq, List.getElem?_cons_zero, List.getElem?_cons_succ, List.set_cons_zero, List.set_cons_succ, cond_true, cond_false, misiT, ty, isaT, List.any_cons, List.any_nil, decide_true, decide_false, Bool.or_true, Bool.true_or, Bool.or_false, tru, reduceCtorEq, Bool.and_false, Bool.and_true]
  refine ⟨trivial, trivial, ?_⟩
  simp only [wp_ob, wp_om, wp_some, wp_mvar, sset, sexp, sret, sif, spar, spar3, snx, mtB, mtst, mop1, mop2, mcall, mcons, mnil, mcon, mif, mtup, mlst, mand, mor, mnot, mandV, morV, mnotV, lset_eq, List.getElem?_cons_zero, List.getElem?_cons_succ, List.set_cons_zero, List.set_cons_succ, cond_true, cond_false, isiW, ty, isaT, decide_true, decide_false, Bool.or_true, Bool.true_or, Bool.or_false, reduceCtorEq, Bool.not_false, eq_int, Bool.and_false, Bool.and_true, Bool.false_and, Bool.false_or]
  exact ⟨_, rfl, rfl, Ex0.refl⟩
theorem same_str {x : Str} : Wp (m__law_same (d + 1) [.str x, .str x] s) fun y => y.1 = .bl true ∧ Ex0 s y.2 := by
  have ty : tyOf (.str x) s = some .str := rfl
  refine wp_fn [some (.str x), some (.str x), none, none] rfl rfl ?_
  unfold b0__law_same
  refine wp_seq (wp_siff ?_)
  simp only [wp_ob, wp_om, wp_some, wp_mvar, sset, sexp, sret, sif, spar, spar3, snx, mtB, mtst, mop1, mop2, mcall, mcons, mnil, mcon, mif, mtup, mlst, mand, mor, mnot, mandV, morV, mnotV, lset_eq, List.getElem?_cons_zero, List.getElem?_cons_succ, List.set_cons_zero, List.set_cons_succ, cond_true, cond_false, misiT, ty, isaT, List.any_cons, List.any_nil, decide_true, decide_false, Bool.or_true, Bool.true_or, Bool.or_false, tru, reduceCtorEq]
  refine ⟨rfl, trivial, wp_seq_rt (wp_sift (wp_orf ?_))⟩
  have hn : isW false (.str x) .non s = some (.bl false, s) := rfl
  simp only [wp_ob, wp_om, wp_some, wp_mvar, sset, sexp, sret, sif, spar, spar3, snx, mtB, mtst, mop1, mop2, mcall, mcons, mnil, mcon, mif, mtup, mlst, mand, mor, mnot, mandV, morV, mnotV, lset_eq, List.getElem?_cons_zero, List.getElem?_cons_succ, List.set_cons_zero, List.set_cons_succ, cond_true, cond_false, hn]
  refine ⟨trivial, ?_⟩
  simp only [wp_ob, wp_om, wp_some, wp_mvar, sset, sexp, sret, sif, spar, spar3, snx, mtB, mtst, mop1, mop2, mcall, mcons, mnil, mcon, mif, mtup, mlst, mand, mor, mnot, mandV, morV, mnotV, lset_eq, List.getElem?_cons_zero, List.getElem?_cons_succ, List.set_cons_zero, List.set_cons_succ, cond_true, cond_false, misiT, ty, isaT, List.any_cons, List.any_nil, decide_true, decide_false, Bool.or_true, Bool.true_or, Bool.or_false, tru, reduceCtorEq, Bool.and_false, Bool.and_true]
  refine ⟨trivial, ?_⟩
  simp only [wp_ob, wp_om, wp_some, wp_mvar, sset, sexp, sret, sif, spar, spar3, snx, mtB, mtst, mop1, mop2, mcall, mcons, mnil, mcon, mif, mtup, mlst, mand, mor, mnot, mandV, morV, mnotV, lset_eq, List.getElem?_cons_zero, List.getElem?_cons_succ, List.set_cons_zero, List.set_cons_succ, cond_true, cond_false, isiW, ty, isaT, decide_true, decide_false, Bool.or_true, Bool.true_or, Bool.or_false, reduceCtorEq, eq_str, eq_bl, hn]
  exact ⟨_, rfl, _, rfl, rfl, Ex0.refl⟩
theorem same_bl {b : Bool} : Wp (m__law_same (d + 1) [.bl b, .bl b] s) fun y => y.1 = .bl true ∧ Ex0 s y.2 := by
  have ty : tyOf (.bl b) s = some .bool := rfl
  refine wp_fn [some (.bl b), some (.bl b), none, none] rfl rfl ?_
  unfold b0__law_same
  refine wp_seq (wp_siff ?_)
  simp only [wp_ob, wp_om, wp_some, wp_mvar, sset, sexp, sret, sif, spar, spar3, snx, mtB, mtst, mop1, mop2, mcall, mcons, mnil, mcon, mif, mtup, mlst, mand, mor, mnot, mandV, morV, mnotV, lset_eq, List.getElem?_cons_zero, List.getElem?_cons_succ, List.set_cons_zero, List.set_cons_succ, cond_true, cond_false, misiT, ty, isaT, List.any_cons, List.any_nil, decide_true, decide_false, Bool.or_true, Bool.true_or, Bool.or_false, tru, reduceCtorEq]
  refine ⟨rfl, trivial, wp_seq_rt (wp_sift (wp_orf ?_))⟩
  have hn : isW false (.bl b) .non s = some (.bl false, s) := rfl
  simp only [wp_ob, wp_om, wp_some, wp_mvar, sset, sexp, sret, sif, spar, spar3, snx, mtB, mtst, mop1, mop2, mcall, mcons, mnil, mcon, mif, mtup, mlst, mand, mor, mnot, mandV, morV, mnotV, lset_eq, List.getElem?_cons_zero, List.getElem?_cons_succ, List.set_cons_zero, List.set_cons_succ, cond_true, cond_false, hn]
  refine ⟨trivial, ?_⟩
  simp only [wp_ob, wp_om, wp_some, wp_mvar, sset, sexp, sret, sif, spar, spar3, snx, mtB, mtst, mop1, mop2, mcall, mcons, mnil, mcon, mif, mtup, mlst, mand, mor, mnot, mandV, morV, mnotV, lset_eq, List.getElem?_cons_zero, List.getElem?_cons_succ, List.set_cons_zero, List.set_cons_succ, cond_true, cond_false, misiT, ty, isaT, List.any_cons, List.any_nil, decide_true, decide_false, Bool.or_true, Bool.true_or, Bool.or_false, tru, reduceCtorEq, Bool.and_false, Bool.and_true]
  refine ⟨trivial, ?_⟩
  simp only [wp_ob, wp_om, wp_some, wp_mvar, sset, sexp, sret, sif, spar, spar3, snx, mtB, mtst, mop1, mop2, mcall, mcons, mnil, mcon, mif, mtup, mlst, mand, mor, mnot, mandV, morV, mnotV, lset_eq, List.getElem?_cons_zero, List.getElem?_cons_succ, List.set_cons_zero, List.set_cons_succ, cond_true, cond_false, isiW, ty, isaT, decide_true, decide_false, Bool.or_true, Bool.true_or, Bool.or_false, reduceCtorEq, eq_bl, hn]
  exact ⟨_, rfl, _, rfl, rfl, Ex0.refl⟩
end
theorem same_pn {n : Nat} {v : Mv} (h : Pn n v) : ∀ {d : Nat} {s : Ms}, n < d → Wp (m__law_same d [v, v] s) fun y => y.1 = .bl true ∧ Ex0 s y.2 := by
  induction h with
  | int i =>
    intro d s hd
    obtain ⟨e, rfl⟩ : ∃ e, d = e + 1 := ⟨d - 1, by omega⟩
    exact same_int
  | str x =>
    intro d s hd
    obtain ⟨e, rfl⟩ : ∃ e, d = e + 1 := ⟨d - 1, by omega⟩
    exact same_str
  | bl b =>
    intro d s hd
    obtain ⟨e, rfl⟩ : ∃ e, d = e + 1 := ⟨d - 1, by omega⟩
    exact same_bl
  | tup hl _ ih =>
    intro d s hd
    obtain ⟨e, rfl⟩ : ∃ e, d = e + 1 := ⟨d - 1, by omega⟩
    refine same_tup hl rfl fun i w u h1 h2 s' _ => ?_
    rw [h1] at h2
    cases h2
    exact ih w (List.mem_of_getElem? h1) (by omega)

end
section
/-! ### runs of the walk; drawn programs are few -/
theorem Pn.up {n m : Nat} {v : Mv} (h : Pn n v) : n ≤ m → Pn m v := by
  induction h generalizing m with
  | int i => exact fun _ => .int i
  | str x => exact fun _ => .str x
  | bl b => exact fun _ => .bl b
  | tup l _ ih =>
    intro hm
    obtain ⟨k, rfl⟩ : ∃ k, m = k + 1 := ⟨m - 1, by omega⟩
    exact .tup l fun w hw => ih w hw (by omega)
theorem own2_of {most gates : Nat} {P : Plot} (h : Plot2 most gates P) (hm : most ≤ 5) (hg : gates ≤ 3) : Own2 P := by
  have w := h.w (by omega) (by omega)
  have hp := pool2_nd
  rw [List.nodup_cons] at hp
  refine ⟨⟨w, (pu_plotW w).up (by omega), ?_, Nat.le_trans h.dlen hg⟩, fun l hl => (h.libs l hl).nd, ?_, fun l hl => ⟨_, h.libs l hl⟩, fun d hd => (show ∀ m ∈ MODESD, PyData.strOk m = true by decide +kernel) _ (h.din d hd).2⟩
  · rw [h.fk, List.length_cons, List.length_take]
    omega
  · have hf := h.fk
    unfold Plot.folk at hf
    rw [hf]
    show (x_main :: P.early).Nodup
    rw [List.nodup_cons]
    exact ⟨fun z => hp.1 (List.mem_of_mem_take (h.ein _ z)), h.end_⟩

end
section
/-! ### versions, told by the law -/
def versL (ds : List (Str × Str)) (u : Str × Str) : Option Str := match (ds.filter fun d => servB d u).map (·.2) with
  | [] => none
  | y :: ys => some (if u.2 ∈ y :: ys then u.2 else minS y ys)
def givesL (ds : List (Str × Str)) (u : Str × Str) : Option Str := match (ds.filter fun d => servB d u).map (·.2) with
  | [] => none
  | y :: ys => some (if u.2 ∈ y :: ys then u.2 else y)
theorem gives_all : ∀ d0 ∈ arr 3 PAIRS2, ∀ u ∈ PAIRS2, versL (sortP d0) u = givesL (sortP d0) u := by decide +kernel
section
variable {P : Plot} {s : Ms}
end

end
section
/-! ### first answers, told by the law -/
theorem serv_eq {d u : Str × Str} : (decide (d.1 = u.1) && (decide (d.2 ∈ [x_, u.2]) || decide (u.2 = x_))) = servB d u := by
  unfold servB
  congr 1
  by_cases h1 : d.2 = u.2
  · simp [h1]
  · by_cases h2 : d.2 = x_
    · simp [h2]
    · by_cases h3 : u.2 = x_
      · simp [h3]
      · have h4 : ¬ x_ = d.2 := fun z => h2 z.symm
        have h5 : ¬ x_ = u.2 := fun z => h3 z.symm
        simp [h1, h2, h3, h4, h5]
section
variable {P : Plot} {s : Ms}
theorem pairV_get {ds : List (Str × Str)} {i : Nat} {w : Mv} (h : (pairV ds)[i]? = some w) : ∃ d, ds[i]? = some d ∧ w = .tup [.str d.1, .str d.2] := by
  unfold pairV at h
  rw [List.getElem?_map] at h
  cases e : ds[i]? with
  | none => rw [e] at h; cases h
  | some d => rw [e] at h; cases h; exact ⟨d, rfl, rfl⟩
theorem pairV_app {a b : List (Str × Str)} : pairV (a ++ b) = pairV a ++ pairV b := by unfold pairV; rw [List.map_append]
theorem lgives_sp (w : PlotW P) {o : Str} {l : PLib} (hl : P.lib? o = some l) {u : (Str × Str) × Bool} : Wp (m__law_gives [P.mv, .str o, useMv u] s) fun y => y.1 = optV (givesL l.defs u.1) ∧ Ex0 s y.2 := by
  have dl := (w.lens l (lib_mem hl).1).2.1
  refine wp_fn [some P.mv, some (.str o), some (useMv u), none, none, none] rfl rfl ?_
  unfold bd__law_gives
  refine wp_seq ?_
  simp only [wp_ob, wp_om, wp_some, wp_mvar, sset, sexp, sret, sif, spar, spar3, snx, mtB, mtst, mop1, mop2, mcall, mcons, mnil, mcon, mif, mtup, mlst, mand, mor, mnot, mandV, morV, mnotV, lset_eq, List.getElem?_cons_zero, List.getElem?_cons_succ, List.set_cons_zero, List.set_cons_succ, cond_true, cond_false]
  refine wp_lc (wp_S' ?_)
  simp only [wp_ob, wp_om, wp_some, wp_mvar, sset, sexp, sret, sif, spar, spar3, snx, mtB, mtst, mop1, mop2, mcall, mcons, mnil, mcon, mif, mtup, mlst, mand, mor, mnot, mandV, morV, mnotV, lset_eq, List.getElem?_cons_zero, List.getElem?_cons_succ, List.set_cons_zero, List.set_cons_succ, cond_true, cond_false]
  refine (lib1_sp w hl).mono fun y hy => ?_
  obtain ⟨v, s1⟩ := y
  obtain ⟨ev, x1⟩ := hy
  simp only at ev x1
  subst ev
  simp only [wp_ob, wp_om, wp_some, wp_mvar, sset, sexp, sret, sif, spar, spar3, snx, mtB, mtst, mop1, mop2, mcall, mcons, mnil, mcon, mif, mtup, mlst, mand, mor, mnot, mandV, morV, mnotV, lset_eq, List.getElem?_cons_zero, List.getElem?_cons_succ, List.set_cons_zero, List.set_cons_succ, cond_true, cond_false, lib2]
  refine ⟨pairV l.defs, rfl, fun it git => ?_⟩
  refine (wp_flat (pairV l.defs) (fun i acc s' => s' = s1 ∧ acc = pairV ((l.defs.take i).filter fun d => servB d u.1)) (fun i acc s' _ _ => git s' rfl) ?_ 1000000000 0 [] s1 (by rw [pairV_len]; omega) (by omega) ⟨rfl, rfl⟩).mono ?_
  · rintro i v acc s' hv ⟨rfl, rfl⟩
    obtain ⟨d, hd, rfl⟩ := pairV_get hv
    have h1 : ∀ {s' : Ms}, inA (.str d.2) (.tup [.str x_, .str u.1.2]) s' = some (.bl (decide (d.2 ∈ [x_, u.1.2])), s') := fun {s'} => inA_tup (xs := [x_, u.1.2])
    unfold mstep
    simp only [wp_ob, wp_om, wp_some, wp_mvar, sset, sexp, sret, sif, spar, spar3, snx, mtB, mtst, mop1, mop2, mcall, mcons, mnil, mcon, mif, mtup, mlst, mand, mor, mnot, mandV, morV, mnotV, lset_eq, List.getElem?_cons_zero, List.getElem?_cons_succ, List.set_cons_zero, List.set_cons_succ, cond_true, cond_false, mwipe, Tg.asg, useMv, ix0, ix1, eq_str, nT (show [Mv.str x_, .str u.1.2].length ≤ 4 by simp), h1]
    rw [List.take_add_one, hd, List.filter_append, pairV_app]
    have fin : ∀ {b : Bool}, (decide (d.1 = u.1.1) && (decide (d.2 ∈ [x_, u.1.2]) || decide (u.1.2 = x_))) = b → (some d).toList.filter (fun d => servB d u.1) = if b = true then [d] else [] := fun {b} e => by
      show [d].filter (fun d => servB d u.1) = _
      rw [List.filter_cons, ← serv_eq, e]
      cases b <;> rfl
    cases e1 : decide (d.1 = u.1.1) with
    | false =>
      simp only [wp_ob, wp_om, wp_some, wp_mvar, sset, sexp, sret, sif, spar, spar3, snx, mtB, mtst, mop1, mop2, mcall, mcons, mnil, mcon, mif, mtup, mlst, mand, mor, mnot, mandV, morV, mnotV, lset_eq, List.getElem?_cons_zero, List.getElem?_cons_succ, List.set_cons_zero, List.set_cons_succ, cond_true, cond_false]
      refine ⟨trivial, ?_⟩
      rw [fin (b := false) (by rw [e1]; rfl)]; rfl
    | true =>
      simp only [wp_ob, wp_om, wp_some, wp_mvar, sset, sexp, sret, sif, spar, spar3, snx, mtB, mtst, mop1, mop2, mcall, mcons, mnil, mcon, mif, mtup, mlst, mand, mor, mnot, mandV, morV, mnotV, lset_eq, List.getElem?_cons_zero, List.getElem?_cons_succ, List.set_cons_zero, List.set_cons_succ, cond_true, cond_false, ix0, ix1, nT (show [Mv.str x_, .str u.1.2].length ≤ 4 by simp), h1]
      cases e2 : decide (d.2 ∈ [x_, u.1.2]) with
      | true =>
        simp only [wp_ob, wp_om, wp_some, wp_mvar, sset, sexp, sret, sif, spar, spar3, snx, mtB, mtst, mop1, mop2, mcall, mcons, mnil, mcon, mif, mtup, mlst, mand, mor, mnot, mandV, morV, mnotV, lset_eq, List.getElem?_cons_zero, List.getElem?_cons_succ, List.set_cons_zero, List.set_cons_succ, cond_true, cond_false]
        refine ⟨trivial, ?_⟩
        rw [fin (b := true) (by rw [e1, e2]; rfl)]; rfl
      | false =>
        simp only [wp_ob, wp_om, wp_some, wp_mvar, sset, sexp, sret, sif, spar, spar3, snx, mtB, mtst, mop1, mop2, mcall, mcons, mnil, mcon, mif, mtup, mlst, mand, mor, mnot, mandV, morV, mnotV, lset_eq, List.getElem?_cons_zero, List.getElem?_cons_succ, List.set_cons_zero, List.set_cons_succ, cond_true, cond_false, ix1, eq_str]
        cases e3 : decide (u.1.2 = x_) with
        | true =>
          simp only [wp_ob, wp_om, wp_some, wp_mvar, sset, sexp, sret, sif, spar, spar3, snx, mtB, mtst, mop1, mop2, mcall, mcons, mnil, mcon, mif, mtup, mlst, mand, mor, mnot, mandV, morV, mnotV, lset_eq, List.getElem?_cons_zero, List.getElem?_cons_succ, List.set_cons_zero, List.set_cons_succ, cond_true, cond_false]
          refine ⟨trivial, ?_⟩
          rw [fin (b := true) (by rw [e1, e2, e3]; rfl)]; rfl
        | false =>
          simp only [wp_ob, wp_om, wp_some, wp_mvar, sset, sexp, sret, sif, spar, spar3, snx, mtB, mtst, mop1, mop2, mcall, mcons, mnil, mcon, mif, mtup, mlst, mand, mor, mnot, mandV, morV, mnotV, lset_eq, List.getElem?_cons_zero, List.getElem?_cons_succ, List.set_cons_zero, List.set_cons_succ, cond_true, cond_false]
          refine ⟨trivial, ?_⟩
          rw [fin (b := false) (by rw [e1, e2, e3]; rfl)]; rfl
  rintro ⟨acc, s2⟩ ⟨e1, e2⟩
  simp only [List.nil_append] at e1 e2
  rw [pairV_len, List.take_length] at e2
  subst e1 e2
  have fl := List.length_filter_le (fun d => servB d u.1) l.defs
  have fok : ∀ d ∈ l.defs.filter (fun d => servB d u.1), PyData.strOk d.1 = true ∧ PyData.strOk d.2 = true := fun d hd => w.dok l (lib_mem hl).1 d (List.mem_filter.mp hd).1
  unfold givesL
  generalize l.defs.filter (fun d => servB d u.1) = fs at fl fok ⊢
  refine ⟨by rw [pairV_len]; omega, trivial, wp_seq ?_⟩
  have gA : (push s2 (.lst (pairV fs))).get s2.sz = some (.lst (pairV fs)) := Ms.get_push
  have xA : Ex0 s2 (push s2 (.lst (pairV fs))) := Ex0.push
  have lA : s2.sz < (push s2 (.lst (pairV fs))).sz := by simp only [push_sz]; omega
  generalize s2.sz = A at gA lA ⊢
  generalize push s2 (.lst (pairV fs)) = s3 at gA xA lA ⊢
  simp only [wp_ob, wp_om, wp_some, wp_mvar, sset, sexp, sret, sif, spar, spar3, snx, mtB, mtst, mop1, mop2, mcall, mcons, mnil, mcon, mif, mtup, mlst, mand, mor, mnot, mandV, morV, mnotV, lset_eq, List.getElem?_cons_zero, List.getElem?_cons_succ, List.set_cons_zero, List.set_cons_succ, cond_true, cond_false]
  refine wp_lc (wp_S' ?_)
  simp only [wp_ob, wp_om, wp_some, wp_mvar, sset, sexp, sret, sif, spar, spar3, snx, mtB, mtst, mop1, mop2, mcall, mcons, mnil, mcon, mif, mtup, mlst, mand, mor, mnot, mandV, morV, mnotV, lset_eq, List.getElem?_cons_zero, List.getElem?_cons_succ, List.set_cons_zero, List.set_cons_succ, cond_true, cond_false]
  refine ⟨pairV fs, items_ref gA, fun it2 git2 => ?_⟩
  refine (wp_flat (pairV fs) (fun i acc s' => s' = s3 ∧ acc = pairV ((fs.take i).filter fun d => decide (d.2 = u.1.2))) (fun i acc s' _ a => git2 s' (by rw [a.1]; exact items_ref gA)) ?_ 1000000000 0 [] s3 (by rw [pairV_len]; omega) (by omega) ⟨rfl, rfl⟩).mono ?_
  · rintro i v acc s' hv ⟨rfl, rfl⟩
    obtain ⟨d, hd, rfl⟩ := pairV_get hv
    unfold mstep
    simp only [wp_ob, wp_om, wp_some, wp_mvar, sset, sexp, sret, sif, spar, spar3, snx, mtB, mtst, mop1, mop2, mcall, mcons, mnil, mcon, mif, mtup, mlst, mand, mor, mnot, mandV, morV, mnotV, lset_eq, List.getElem?_cons_zero, List.getElem?_cons_succ, List.set_cons_zero, List.set_cons_succ, cond_true, cond_false, mwipe, Tg.asg, useMv, ix1, eq_str]
    rw [List.take_add_one, hd, List.filter_append, pairV_app]
    by_cases h : d.2 = u.1.2
    · simp only [decide_eq_true h]
      simp only [wp_ob, wp_om, wp_some, wp_mvar, sset, sexp, sret, sif, spar, spar3, snx, mtB, mtst, mop1, mop2, mcall, mcons, mnil, mcon, mif, mtup, mlst, mand, mor, mnot, mandV, morV, mnotV, lset_eq, List.getElem?_cons_zero, List.getElem?_cons_succ, List.set_cons_zero, List.set_cons_succ, cond_true, cond_false]
      exact ⟨trivial, by simp [h, pairV]⟩
    · simp only [decide_eq_false h]
      simp only [wp_ob, wp_om, wp_some, wp_mvar, sset, sexp, sret, sif, spar, spar3, snx, mtB, mtst, mop1, mop2, mcall, mcons, mnil, mcon, mif, mtup, mlst, mand, mor, mnot, mandV, morV, mnotV, lset_eq, List.getElem?_cons_zero, List.getElem?_cons_succ, List.set_cons_zero, List.set_cons_succ, cond_true, cond_false]
      exact ⟨trivial, by simp [h, pairV]⟩
  rintro ⟨acc, s4⟩ ⟨e1, e2⟩
  simp only [List.nil_append] at e1 e2
  rw [pairV_len, List.take_length] at e2
  subst e1 e2
  have fl2 := List.length_filter_le (fun d => decide (d.2 = u.1.2)) fs
  refine ⟨by rw [pairV_len]; omega, trivial, ?_⟩
  have gB : (push s4 (.lst (pairV (fs.filter fun d => decide (d.2 = u.1.2))))).get s4.sz = some (.lst (pairV (fs.filter fun d => decide (d.2 = u.1.2)))) := Ms.get_push
  have xB : Ex0 s4 (push s4 (.lst (pairV (fs.filter fun d => decide (d.2 = u.1.2))))) := Ex0.push
  have lB : s4.sz < (push s4 (.lst (pairV (fs.filter fun d => decide (d.2 = u.1.2))))).sz := by simp only [push_sz]; omega
  have gA2 := xB.at lA gA
  have lA2 := Nat.lt_of_lt_of_le lA xB.sz
  generalize s4.sz = B at gB lB ⊢
  generalize push s4 (.lst (pairV (fs.filter fun d => decide (d.2 = u.1.2)))) = s5 at gB xB lB gA2 lA2 ⊢
  have X : Ex0 s s5 := (x1.trans xA).trans xB
  have q9 : (push s5 (.lst [])).get A = some (.lst (fs.map pairMv)) := Ex0.push.at lA2 gA2
  simp only [wp_ob, wp_om, wp_some, wp_mvar, sset, sexp, sret, sif, spar, spar3, snx, mtB, mtst, mop1, mop2, mcall, mcons, mnil, mcon, mif, mtup, mlst, mand, mor, mnot, mandV, morV, mnotV, lset_eq, List.getElem?_cons_zero, List.getElem?_cons_succ, List.set_cons_zero, List.set_cons_succ, cond_true, cond_false, newL_of (show ([] : List Mv).length ≤ 16777216 by decide), ne_nilG q9 Ms.get_push fun y hy => (data_pair (fok y hy)).elim fun d hd => ⟨d, hd _⟩]
  cases hfs : fs with
  | nil =>
    simp only [wp_ob, wp_om, wp_some, wp_mvar, sset, sexp, sret, sif, spar, spar3, snx, mtB, mtst, mop1, mop2, mcall, mcons, mnil, mcon, mif, mtup, mlst, mand, mor, mnot, mandV, morV, mnotV, lset_eq, List.getElem?_cons_zero, List.getElem?_cons_succ, List.set_cons_zero, List.set_cons_succ, cond_true, cond_false, List.isEmpty_nil, Bool.not_true]
    exact ⟨_, rfl, rfl, X.trans Ex0.push⟩
  | cons d ds =>
    rw [← hfs]
    have : (!fs.isEmpty) = true := by rw [hfs]; rfl
    rw [this, cond_true]
    have gA3 : (push s5 (.lst [])).get A = some (.lst (pairV fs)) := Ex0.push.at lA2 gA2
    have gB3 : (push s5 (.lst [])).get B = some (.lst (pairV (fs.filter fun d => decide (d.2 = u.1.2)))) := Ex0.push.at lB gB
    simp only [wp_ob, wp_om, wp_some, wp_mvar, sset, sexp, sret, sif, spar, spar3, snx, mtB, mtst, mop1, mop2, mcall, mcons, mnil, mcon, mif, mtup, mlst, mand, mor, mnot, mandV, morV, mnotV, lset_eq, List.getElem?_cons_zero, List.getElem?_cons_succ, List.set_cons_zero, List.set_cons_succ, cond_true, cond_false]
    rw [cat_l gB3 gA3 (by rw [pairV_len, pairV_len]; omega), wp_some, ← pairV_app]
    dsimp only
    have hhd : ∃ d', ((fs.filter fun d => decide (d.2 = u.1.2)) ++ fs)[0]? = some d' ∧ d'.2 = if u.1.2 ∈ fs.map (·.2) then u.1.2 else d.2 := by
      cases hx : fs.filter fun d => decide (d.2 = u.1.2) with
      | nil =>
        refine ⟨d, by rw [hfs]; rfl, ?_⟩
        rw [if_neg]
        intro z
        obtain ⟨y, hy, e⟩ := List.mem_map.mp z
        have : y ∈ fs.filter fun d => decide (d.2 = u.1.2) := List.mem_filter.mpr ⟨hy, decide_eq_true e⟩
        rw [hx] at this
        cases this
      | cons y ys =>
        have hy : y ∈ fs.filter fun d => decide (d.2 = u.1.2) := by rw [hx]; simp
        have := List.mem_filter.mp hy
        have e : y.2 = u.1.2 := of_decide_eq_true this.2
        exact ⟨y, rfl, by rw [if_pos (List.mem_map.mpr ⟨y, this.1, e⟩), e]⟩
    obtain ⟨d', hd1, hd2⟩ := hhd
    have hix : ixA (.ref (push s5 (.lst [])).sz) (.int 0) (push (push s5 (.lst [])) (.lst (pairV ((fs.filter fun d => decide (d.2 = u.1.2)) ++ fs)))) = some (.tup [.str d'.1, .str d'.2], push (push s5 (.lst [])) (.lst (pairV ((fs.filter fun d => decide (d.2 = u.1.2)) ++ fs)))) := ixA_of (items_ref Ms.get_push) (atF_of (i := 0) (by unfold pairV; rw [List.getElem?_map, hd1]; rfl))
    simp only [wp_ob, wp_om, wp_some, wp_mvar, sset, sexp, sret, sif, spar, spar3, snx, mtB, mtst, mop1, mop2, mcall, mcons, mnil, mcon, mif, mtup, mlst, mand, mor, mnot, mandV, morV, mnotV, lset_eq, List.getElem?_cons_zero, List.getElem?_cons_succ, List.set_cons_zero, List.set_cons_succ, cond_true, cond_false, hix, ix1]
    refine ⟨_, rfl, ?_, (X.trans Ex0.push).trans Ex0.push⟩
    rw [hd2, hfs]; rfl
theorem use_get {l : PLib} {i : Nat} {u : (Str × Str) × Bool} (hu : l.uses[i]? = some u) : ixA (.tup (useV l.uses)) (.int (i : Int)) s = some (useMv u, s) := ixA_of rfl (atF_of (by unfold useV; rw [List.getElem?_map, hu]; rfl))
end

end
section
/-! ### all calls -/
def libCalls (l : PLib) : List (Str × Nat) := (List.range l.uses.length).map fun i => (l.own, i)
def callsP (P : Plot) : List (Str × Nat) := P.libs.flatMap libCalls
theorem nd_inj {α β : Type} {f : α → β} : ∀ {l : List α}, (l.map f).Nodup → ∀ a ∈ l, ∀ b ∈ l, f a = f b → a = b
  | [], _, a, ha, _, _, _ => by cases ha
  | x :: l, nd, a, ha, b, hb, e => by
    rw [List.map_cons, List.nodup_cons] at nd
    rcases List.mem_cons.mp ha with h1 | h1
    · rcases List.mem_cons.mp hb with h2 | h2
      · rw [h1, h2]
      · exact (nd.1 (List.mem_map.mpr ⟨b, h2, by rw [← e, h1]⟩)).elim
    · rcases List.mem_cons.mp hb with h2 | h2
      · exact (nd.1 (List.mem_map.mpr ⟨a, h1, by rw [e, h2]⟩)).elim
      · exact nd_inj nd.2 a h1 b h2 e
theorem flat_le {α β : Type} {f : α → List β} {k : Nat} : ∀ {l : List α}, (∀ x ∈ l, (f x).length ≤ k) → (l.flatMap f).length ≤ l.length * k
  | [], _ => by simp
  | x :: l, h => by
    rw [List.flatMap_cons, List.length_append, List.length_cons, Nat.succ_mul]
    have := h x (by simp)
    have := flat_le (l := l) fun y hy => h y (by simp [hy])
    omega
theorem calls_mem {P : Plot} (w : PlotW P) {c : Str × Nat} (h : c ∈ callsP P) : ∃ l u, P.lib? c.1 = some l ∧ l.uses[c.2]? = some u := by
  obtain ⟨l, hl, hc⟩ := List.mem_flatMap.mp h
  obtain ⟨i, hi, rfl⟩ := List.mem_map.mp hc
  have hi := List.mem_range.mp hi
  obtain ⟨l', hl'⟩ := lib_some (P := P) (x := l.own) (List.mem_map.mpr ⟨l, hl, rfl⟩)
  have := lib_mem hl'
  have : l' = l := by
    have nd := w.nd
    unfold Plot.folk at nd
    exact nd_inj nd _ this.1 _ hl this.2
  subst this
  exact ⟨l', l'.uses[i], hl', List.getElem?_eq_getElem hi⟩
section
variable {P : Plot} {s : Ms}
theorem calls_len (w : PlotW P) : (callsP P).length ≤ 1000 := by
  have := flat_le (f := libCalls) (k := 20) (l := P.libs) fun l hl => by
    unfold libCalls
    rw [List.length_map, List.length_range]
    exact (w.lens l hl).2.2
  have := w.len
  unfold callsP
  omega
theorem calls_take {i : Nat} {l : PLib} (h : P.libs[i]? = some l) : (P.libs.take (i + 1)).flatMap libCalls = (P.libs.take i).flatMap libCalls ++ libCalls l := by
  rw [List.take_add_one, h, List.flatMap_append]
  show _ ++ [l].flatMap libCalls = _
  rw [List.flatMap_cons, List.flatMap_nil, List.append_nil]
theorem lcalls_sp (w : PlotW P) : Wp (m__law_calls [P.mv] s) fun y => ∃ n, y.1 = .ref n ∧ s.sz ≤ n ∧ n < y.2.sz ∧ y.2.get n = some (.lst ((callsP P).map keyV)) ∧ Ex0 s y.2 := by
  have wl := w.len
  have cl := calls_len w
  refine wp_fn [some P.mv, none, none, none] rfl rfl ?_
  unfold bd__law_calls
  refine wp_seq ?_
  simp only [wp_ob, wp_om, wp_some, wp_mvar, sset, sexp, sret, sif, spar, spar3, snx, mtB, mtst, mop1, mop2, mcall, mcons, mnil, mcon, mif, mtup, mlst, mand, mor, mnot, mandV, morV, mnotV, lset_eq, List.getElem?_cons_zero, List.getElem?_cons_succ, List.set_cons_zero, List.set_cons_succ, cond_true, cond_false, newL_of (show ([] : List Mv).length ≤ 16777216 by decide)]
  refine ⟨trivial, wp_seq (wp_for (wp_S' ?_))⟩
  simp only [wp_ob, wp_om, wp_some, wp_mvar, sset, sexp, sret, sif, spar, spar3, snx, mtB, mtst, mop1, mop2, mcall, mcons, mnil, mcon, mif, mtup, mlst, mand, mor, mnot, mandV, morV, mnotV, lset_eq, List.getElem?_cons_zero, List.getElem?_cons_succ, List.set_cons_zero, List.set_cons_succ, cond_true, cond_false, plot0]
  refine ⟨P.libs.map PLib.mv, rfl, fun it git => ?_⟩
  refine (wp_loop (P.libs.map PLib.mv) (fun i r s' => ∃ a o2 o3, r = [some P.mv, some (.ref a), o2, o3] ∧ s.sz ≤ a ∧ a < s'.sz ∧ s'.get a = some (.lst (((P.libs.take i).flatMap libCalls).map keyV)) ∧ Ex0 s s') (fun i r s' _ _ => git s' rfl) ?_ 1000000000 0 _ _ (by rw [List.length_map]; omega) (by omega) ⟨s.sz, none, none, rfl, Nat.le_refl _, by simp only [push_sz]; omega, Ms.get_push, Ex0.push⟩).mono ?_
  · rintro i u r s' hu ⟨a, o2, o3, rfl, a0, a1, a2, xx⟩
    rw [List.getElem?_map] at hu
    cases e : P.libs[i]? with
    | none => rw [e] at hu; cases hu
    | some l =>
      rw [e] at hu
      cases hu
      have ul := (w.lens l (List.mem_of_getElem? e)).2.2
      refine ⟨[some P.mv, some (.ref a), some l.mv, o3], rfl, ?_⟩
      simp only [wp_ob, wp_om, wp_some, wp_mvar, sset, sexp, sret, sif, spar, spar3, snx, mtB, mtst, mop1, mop2, mcall, mcons, mnil, mcon, mif, mtup, mlst, mand, mor, mnot, mandV, morV, mnotV, lset_eq, List.getElem?_cons_zero, List.getElem?_cons_succ, List.set_cons_zero, List.set_cons_succ, cond_true, cond_false]
      refine (wp_rlc (n := l.uses.length) (j := 3) (fun i => keyV (l.own, i)) (by omega) (by simp) ?_ ?_).mono ?_
      · simp only [wp_ob, wp_om, wp_some, wp_mvar, sset, sexp, sret, sif, spar, spar3, snx, mtB, mtst, mop1, mop2, mcall, mcons, mnil, mcon, mif, mtup, mlst, mand, mor, mnot, mandV, morV, mnotV, lset_eq, List.getElem?_cons_zero, List.getElem?_cons_succ, List.set_cons_zero, List.set_cons_succ, cond_true, cond_false, lib3, lenW_of (show items (.tup (useV l.uses)) s' = some (useV l.uses) from rfl), useV_len]
        exact ⟨trivial, Ex0.refl⟩
      · intro k hk s3 x3
        simp only [wp_ob, wp_om, wp_some, wp_mvar, sset, sexp, sret, sif, spar, spar3, snx, mtB, mtst, mop1, mop2, mcall, mcons, mnil, mcon, mif, mtup, mlst, mand, mor, mnot, mandV, morV, mnotV, lset_eq, List.getElem?_cons_zero, List.getElem?_cons_succ, List.set_cons_zero, List.set_cons_succ, cond_true, cond_false, List.set, lib0, nT (show [Mv.str l.own, .int (k : Int)].length ≤ 4 by simp)]
        exact ⟨rfl, Ex0.refl⟩
      · rintro ⟨u, s3⟩ ⟨n, eu, n1, n2, gn, x3⟩
        simp only at eu n2 gn x3
        subst eu
        dsimp only
        have fl : ((P.libs.take i).flatMap libCalls).length ≤ 1000 := by
          have := flat_le (f := libCalls) (k := 20) (l := P.libs.take i) fun l hl => by
            unfold libCalls
            rw [List.length_map, List.length_range]
            exact (w.lens l (List.mem_of_mem_take hl)).2.2
          rw [List.length_take] at this
          omega
        rw [cat_l (x3.at a1 a2) gn (by rw [List.length_map, List.length_map, List.length_range]; omega), wp_some]
        refine ⟨trivial, _, _, _, rfl, ?_, by simp only [push_sz]; omega, ?_, (xx.trans x3).trans Ex0.push⟩
        · have := xx.sz
          have := x3.sz
          show s.sz ≤ s3.sz
          omega
        · rw [Ms.get_push, calls_take e, List.map_append]
          unfold libCalls
          rw [List.map_map]; rfl
  · rintro ⟨fl, r, s3⟩ ⟨ef, a, o2, o3, er, a0, a1, a2, x3⟩
    simp only at ef er a1 a2 x3
    subst ef er
    rw [List.length_map, List.take_length] at a2
    refine ⟨rfl, ?_⟩
    simp only [wp_ob, wp_om, wp_some, wp_mvar, sset, sexp, sret, sif, spar, spar3, snx, mtB, mtst, mop1, mop2, mcall, mcons, mnil, mcon, mif, mtup, mlst, mand, mor, mnot, mandV, morV, mnotV, lset_eq, List.getElem?_cons_zero, List.getElem?_cons_succ, List.set_cons_zero, List.set_cons_succ, cond_true, cond_false]
    exact ⟨_, rfl, a, rfl, a0, a1, a2, x3⟩
end

end
section
/-! ### dicts with keys that are tuples -/
section
variable {α β : Type} [DecidableEq α] {f : α → Mv} {κ : α → NestedKey} {g : β → Mv}
end
/-! the answers, and definitions, as keys -/
def ansS : Ans → List Str
  | .bound o v => [x_bound, o, v]
  | .nobody => [x_nobody]
  | .lost => [x_lost]
  | .torn => [x_torn]
theorem ans_mv : ∀ a : Ans, a.mv = .tup (strV (ansS a))
  | .bound _ _ => rfl
  | .nobody => rfl
  | .lost => rfl
  | .torn => rfl
end
section
/-! ### first runs -/
section
variable {P : Plot} {s : Ms}
end

end
section
/-! ### all definitions, sorted -/
section
variable {P : Plot} {s : Ms}
end

end
section
/-! ### live definitions -/
open Classical in
end
section
/-! ### dead, told -/
section
variable {P : Plot} {s : Ms}
end

end
section
/-! ### dead(program), and the law's own -/
section
variable {P : Plot} {s : Ms}
end

end
section
/-! ### bindings(program, name, i) -/
section
variable {P : Plot} {s : Ms}
end

end
section
/-! ### the walk meets all bases -/
section
variable {σ β : Type} [DecidableEq β]
end
section
variable {P : Plot}
end

end
section
/-! ### rows: what they begin with, and that they are the least that is closed -/
section
variable {P : Plot}
theorem fold_nd {zs : List Str} (nd : zs.Nodup) : zs.foldl addN [] = zs := by
  rw [fold_filter nd]
  simp
/-- the program with another preload -/
def withE (P : Plot) (E : List Str) : Plot := { P with early := E }
def mainF (P : Plot) : Str := (P.libs.map (·.own)).headD x_
end

end
section
/-! ### what holds at each base -/
section
variable {P : Plot}
/-! what is found along some libraries -/
def noneA (u : (Str × Str) × Bool) : Ans := if u.2 then .nobody else .lost
end

end
section
/-! ### what a call is told with a preload, from the rows alone -/
section
variable {P : Plot} {E : List Str}
section
variable (w : PlotW (withE P E)) (pu : Pu 7 (withE P E).mv) {y : Str} {u : (Str × Str) × Bool}
include w pu
/-! a library outside of the first row -/
end
end

end
section
/-! ### a library outside of a first row that gives nothing: the same as without a preload -/
section
variable {P : Plot} {E E2 : List Str}
/-- two stands, one with each preload, that differ inside of F alone -/
structure RelE (F : List Str) (a b : St) : Prop where
  o : a.opened = b.opened
  p : a.pub.filter (fun z => !decide (z ∈ F)) = b.pub.filter (fun z => !decide (z ∈ F))
  d : ∀ z, z ∉ F → (z ∈ a.deep ↔ z ∈ b.deep)
section
variable {F : List Str} (hF1 : ∀ z ∈ rowF P (mainF P :: E), z ∈ F) (hF2 : ∀ z ∈ rowF P (mainF P :: E2), z ∈ F)
include hF1 hF2
omit hF1 hF2 in
end
end

end
section
/-! ### the names of the wants are enough -/
section
variable {P : Plot}
variable {E W : List Str} (w : PlotW P) (hE : ∀ x ∈ E, x ∈ P.folk)
include w hE in
include w hE in
include w hE in
/-! all tuples of so many different names -/
end

end
section
/-! ### comprehensions over a known list -/
section
variable {α β : Type} {L : List Nat} {J : Ms → Prop} {T T1 : Tg} {C C1 : Ft} {E : Fe} {vs vs1 : List Nat} {r : Me} {s : Ms}
theorem wp_flatF (xs : List α) (g : α → Mv) (st : Mv → Ms → Option (List Mv × Ms)) (f : α → List Mv) (it : It0) (hl : xs.length < 1000000000)
    (hG : ∀ s', J s' → ExtL L s s' → Gives it (xs.map g) s') (hS : ∀ x ∈ xs, ∀ s', J s' → ExtL L s s' → Wp (st (g x) s') fun y => y.1 = f x ∧ J y.2 ∧ ExtL L s' y.2) (j : J s) :
    Wp (mflat it st 1000000000 0 s) fun y => y.1 = xs.flatMap f ∧ J y.2 ∧ ExtL L s y.2 := by
  refine (wp_flat (xs.map g) (fun i acc s' => acc = (xs.take i).flatMap f ∧ J s' ∧ ExtL L s s') (fun i acc s' _ a => hG s' a.2.1 a.2.2) ?_ 1000000000 0 [] s (by rw [List.length_map]; omega) (by omega) ⟨rfl, j, ExtL.refl⟩).mono ?_
  · rintro i w acc s' hw ⟨rfl, j1, x1⟩
    rw [List.getElem?_map] at hw
    cases e : xs[i]? with
    | none => rw [e] at hw; cases hw
    | some x =>
      rw [e] at hw
      cases hw
      refine (hS x (List.mem_of_getElem? e) s' j1 x1).mono fun y hy => ?_
      obtain ⟨u, s2⟩ := y
      obtain ⟨e1, j2, x2⟩ := hy
      simp only at e1 j2 x2
      refine ⟨?_, j2, x1.trans x2⟩
      rw [List.take_add_one, e, List.flatMap_append, e1]; simp
  · rintro ⟨acc, s2⟩ ⟨e1, j1, x1⟩
    simp only [List.nil_append] at e1
    rw [List.length_map, List.take_length] at e1
    exact ⟨e1, j1, x1⟩
theorem flat_if (xs : List α) (p : α → Bool) (f : α → Mv) : xs.flatMap (fun x => if p x = true then [f x] else []) = (xs.filter p).map f := by
  induction xs with
  | nil => rfl
  | cons x xs ih =>
    rw [List.flatMap_cons, ih]
    cases h : p x with
    | true => rw [List.filter_cons_of_pos h, if_pos rfl]; rfl
    | false => rw [List.filter_cons_of_neg (by simp [h]), if_neg (by simp)]; rfl
/-- [E for T in I if C] -/
theorem wp_lcf (xs : List α) (g : α → Mv) (ρ : α → Me) (p : α → Bool) (f : α → Mv) {I : Fi} (hl : xs.length ≤ 16777216)
    (hI : Wp (I r s) fun y => J y.2 ∧ ExtL L s y.2 ∧ ∀ s', J s' → ExtL L y.2 s' → Gives y.1 (xs.map g) s')
    (hT : ∀ x ∈ xs, T.asg (g x) (mwipe r vs) = some (ρ x))
    (hC : ∀ x ∈ xs, ∀ s', J s' → ExtL L s s' → Wp (C (ρ x) s') fun y => y.1 = p x ∧ J y.2 ∧ ExtL L s' y.2)
    (hE : ∀ x ∈ xs, p x = true → ∀ s', J s' → ExtL L s s' → Wp (E (ρ x) s') fun y => y.1 = f x ∧ J y.2 ∧ ExtL L s' y.2) :
    Wp (mlc I T C E vs r s) fun y => ∃ s2, y = (.ref s2.sz, push s2 (.lst ((xs.filter p).map f))) ∧ J s2 ∧ ExtL L s s2 := by
  unfold mlc
  rw [wp_ob]
  refine hI.mono fun y hy => ?_
  obtain ⟨it, s1⟩ := y
  obtain ⟨j1, x1, hG⟩ := hy
  simp only at j1 x1 hG
  rw [wp_ob]
  refine (wp_flatF (s := s1) (J := J) (L := L) xs g _ (fun x => if p x = true then [f x] else []) it (by omega) hG (fun x hx s' j' x' => ?_) j1).mono ?_
  · unfold mstep
    rw [hT x hx, ob_of, wp_ob]
    refine (hC x hx s' j' (x1.trans x')).mono fun y hy => ?_
    obtain ⟨b, s2⟩ := y
    obtain ⟨e, j2, x2⟩ := hy
    simp only at e j2 x2
    subst e
    cases hp : p x with
    | false => exact ⟨_, rfl, by rw [if_neg (by simp)], j2, x2⟩
    | true =>
      show Wp ((E (ρ x) s2).om _) _
      rw [wp_om]
      refine (hE x hx hp s2 j2 ((x1.trans x').trans x2)).mono fun y hy => ?_
      obtain ⟨w, s3⟩ := y
      obtain ⟨e, j3, x3⟩ := hy
      simp only at e j3 x3
      exact ⟨by rw [if_pos rfl, e], j3, x2.trans x3⟩
  · rintro ⟨acc, s2⟩ ⟨e, j2, x2⟩
    simp only at e j2 x2
    rw [flat_if] at e
    subst e
    have hl2 : ((xs.filter p).map f).length ≤ 16777216 := by
      rw [List.length_map]
      exact Nat.le_trans (List.length_filter_le _ _) hl
    exact ⟨_, newL_of hl2, s2, rfl, j2, x1.trans x2⟩
/-- what is walked over -/
theorem gives_at {A : Fe} {v : Mv} {s1 : Ms} {ws : List Mv} (hA : A r s = some (v, s1)) (j : J s1) (x : ExtL L s s1) (hv : ∀ s', J s' → ExtL L s1 s' → items v s' = some ws) : Wp (miS A r s) fun y => J y.2 ∧ ExtL L s y.2 ∧ ∀ s', J s' → ExtL L y.2 s' → Gives y.1 ws s' := by
  refine wp_S' ?_
  rw [hA, wp_some]
  exact ⟨ws, hv s1 j ExtL.refl, fun it git => ⟨j, x, fun s' j' x' => git s' (hv s' j' x')⟩⟩
theorem gives_rngI {n : Nat} : Gives (.rng 0 n) ((List.range n).map fun (k : Nat) => Mv.int (k : Int)) s := by
  intro i
  show some (cond (Nat.blt i n) (some (Mv.int (0 + (i : Int)))) none) = _
  rw [List.getElem?_map]
  by_cases h : i < n
  · rw [show Nat.blt i n = true from Nat.blt_eq.mpr h, List.getElem?_range h]
    simp
  · rw [show Nat.blt i n = false by cases e : Nat.blt i n with
      | false => rfl
      | true => exact (h (Nat.blt_eq.mp e)).elim, List.getElem?_eq_none (by simpa using h)]
    rfl
/-- all([..]), any([..]) over truths -/
theorem bools_of : ∀ bs : List Bool, boolsOf (bs.map Mv.bl) = some bs
  | [] => rfl
  | b :: bs => by
    show (boolsOf (bs.map Mv.bl)).om _ = _
    rw [bools_of bs]; rfl
theorem all_bls {n : Nat} {bs : List Bool} (h : s.get n = some (.lst (bs.map Mv.bl))) : allW [.ref n] s = some (.bl (bs.all id), s) := by
  show (lstOf (.ref n) s).ob (fun xs => (boolsOf xs).om fun bs => (Mv.bl (bs.all id), s)) = _
  have : lstOf (.ref n) s = some (bs.map Mv.bl) := items_ref h
  rw [this, ob_of, bools_of]; rfl
end

end
section
/-! ### along rows: who gives something -/
theorem isnot_optV {v : Option Str} {s : Ms} : isW true (optV v) .non s = some (.bl v.isSome, s) := by cases v <;> rfl
section
variable {P : Plot} {s : Ms}
end

end
section
/-! ### a Trial: what it holds, and what it tells -/
section
variable {α β : Type} [DecidableEq α] {f : α → Mv} {κ : α → NestedKey} {g : β → Mv}
end
/-- equal answers -/
def ansOk (a : Ans) : Prop := ∀ z ∈ ansS a, PyData.strOk z = true
section
variable {P : Plot} {s s' : Ms} {N t d : Nat}
theorem ex_of {a b : Ms} (x : ExtL [] a b) : Ex0 a b := ⟨x.sz, fun n hn => x.get n hn (by simp)⟩
end

end
section
/-! ### a Trial: what a call is told, and whether it is what is wanted -/
section
variable {P : Plot} {s s' : Ms} {N t d : Nat}
theorem none_ok {u : (Str × Str) × Bool} : ansOk (noneA u) := by
  have c : PyData.strOk x_nobody = true ∧ PyData.strOk x_lost = true := by decide +kernel
  intro z hz
  unfold noneA at hz
  split at hz
  · simp only [ansS, List.mem_singleton] at hz; rw [hz]; exact c.1
  · simp only [ansS, List.mem_singleton] at hz; rw [hz]; exact c.2
end

end
section
section
variable {P : Plot} {s s' : Ms} {N t d : Nat}
end

end
section
abbrev Want := (Str × Nat) × Ans
def wantV (c : Want) : Mv := .tup [.str c.1.1, .int (c.1.2 : Int), c.2.mv]
def WantOk (P : Plot) (c : Want) : Prop := ∃ l, P.lib? c.1.1 = some l ∧ c.1.2 < l.uses.length ∧ ansOk c.2
section
variable {P : Plot} {s s' : Ms} {N t d : Nat}
end

end
section
/-! ### names, and all rows of them -/
theorem slT1 {s : Ms} {ws : List Mv} (hl : ws.length ≤ 16777216) : slW (.tup ws) (some 1) none s = some (.tup ws.tail, s) := by
  show newT (cutM ws (some 1) none) s = _
  have : cutM ws (some 1) none = ws.tail := by
    unfold cutM
    rw [HT.sIx_none, show (1 : Int) = ((1 : Nat) : Int) from rfl, HT.sIx_nat]
    cases ws with
    | nil => simp
    | cons w ws => simp
  rw [this, newT_of (by rw [List.length_tail]; omega)]
noncomputable def othersF (P : Plot) : List Str := sortS (P.libs.tail.map (·.own))
section
variable {P : Plot} {s s' : Ms}
theorem others_mem (w : PlotW P) {x : Str} : x ∈ othersF P ↔ x ∈ P.folk ∧ x ≠ mainF P := by
  unfold othersF
  rw [(sortS_perm _).mem_iff]
  have nd := w.nd
  unfold Plot.folk at nd ⊢
  unfold mainF
  cases h : P.libs with
  | nil => exact (w.main h).elim
  | cons l ls =>
    rw [h] at nd
    rw [List.map_cons] at nd ⊢
    simp only [List.tail_cons, List.headD_cons, List.mem_cons]
    constructor
    · exact fun hx => ⟨.inr hx, fun e => (List.nodup_cons.mp nd).1 (e ▸ hx)⟩
    · exact fun hx => hx.1.resolve_left hx.2
theorem others_sp (w : PlotW P) {m : Fn} (hm : m = fnM 1 2 (sret (mcall sortedW (mcons (mlc (miS (mslice (mop2 ixA (mvar 0) (mcon (.int 0))) (osome (mcon (.int 1))) (onone))) (.nm 1) (myes) (mop2 ixA (mvar 1) (mcon (.int 0))) [1]) (mnil))))) : Wp (m [P.mv] s) fun z => ∃ n, z.1 = .ref n ∧ s.sz ≤ n ∧ n < z.2.sz ∧ z.2.get n = some (.lst (strV (othersF P))) ∧ Ex0 s z.2 := by
  subst hm
  have wl := w.len
  refine wp_fn [some P.mv, none] rfl rfl ?_
  unfold sret
  rw [wp_om]
  simp only [mcall, mcons, mnil, wp_ob, wp_om, wp_some]
  refine (wp_lcf (L := []) (J := fun _ => True) P.libs.tail PLib.mv (fun l => [some P.mv, some l.mv]) (fun _ => true) (fun l => .str l.own) (by rw [List.length_tail]; omega) (gives_at (L := []) (J := fun _ => True) (v := .tup (P.libs.tail.map PLib.mv)) ?_ trivial ExtL.refl fun s' _ x' => rfl) (fun k _ => rfl) (fun k hk s' _ x' => ⟨_, rfl, rfl, trivial, ExtL.refl⟩) (fun k hk _ s' _ x' => ?_)).mono ?_
  · refine Wp.eq ?_
    unfold mslice osome onone
    simp only [wp_ob, wp_om, wp_some, wp_mvar, sset, sexp, sret, sif, spar, spar3, snx, mtB, mtst, mop1, mop2, mcall, mcons, mnil, mcon, mif, mtup, mlst, mand, mor, mnot, mandV, morV, mnotV, lset_eq, List.getElem?_cons_zero, List.getElem?_cons_succ, List.set_cons_zero, List.set_cons_succ, cond_true, cond_false, plot0]
    rw [slT1 (by rw [List.length_map]; omega), wp_some, List.map_tail]
  · simp only [wp_ob, wp_om, wp_some, wp_mvar, sset, sexp, sret, sif, spar, spar3, snx, mtB, mtst, mop1, mop2, mcall, mcons, mnil, mcon, mif, mtup, mlst, mand, mor, mnot, mandV, morV, mnotV, lset_eq, List.getElem?_cons_zero, List.getElem?_cons_succ, List.set_cons_zero, List.set_cons_succ, cond_true, cond_false, lib0]
    exact ⟨trivial, trivial, ExtL.refl⟩
  rintro ⟨v, s3⟩ ⟨s4, e, _, x4⟩
  cases e
  rw [List.filter_eq_self.mpr fun _ _ => rfl]
  have X4 := ex_of x4
  have e1 : P.libs.tail.map (fun l => Mv.str l.own) = strV (P.libs.tail.map (·.own)) := by unfold strV; rw [List.map_map]; rfl
  rw [e1, sorted_strs Ms.get_push (by rw [List.length_map, List.length_tail]; omega), wp_some]
  have := X4.sz
  exact ⟨_, rfl, _, rfl, by simp only [push_sz]; omega, by simp only [push_sz]; omega, Ms.get_push, (X4.trans Ex0.push).trans Ex0.push⟩
theorem others_of_sp (w : PlotW P) : Wp (m_others_of [P.mv] s) fun z => ∃ n, z.1 = .ref n ∧ s.sz ≤ n ∧ n < z.2.sz ∧ z.2.get n = some (.lst (strV (othersF P))) ∧ Ex0 s z.2 := others_sp w rfl
end

end
section
/-! ### the least preload, told -/
section
variable {p : List Str → Bool} {names : List Str}
end
section
variable {P : Plot} {s s' : Ms} {N t d : Nat}
theorem pu_want {c : Want} : Pu 2 (wantV c) := by
  refine .tup (by simp) fun w hw => ?_
  simp only [List.mem_cons, List.not_mem_nil, or_false] at hw
  rcases hw with rfl | rfl | rfl
  · exact .str _
  · exact .int _
  · rw [ans_mv]
    refine .tup ?_ fun w hw => ?_
    · rw [strV_len]
      cases c.2 <;> simp [ansS]
    · obtain ⟨x, _, rfl⟩ := List.mem_map.mp hw
      exact .str _
theorem looked_sp (w : PlotW P) (pu : Pu 7 P.mv) {v0 v1 : Mv} {C : List Want} (h0 : Rd s P.mv v0) (h1 : Rd s (.tup (C.map wantV)) v1) (hC : ∀ c ∈ C, WantOk P c) (hl : C.length ≤ 1000) : Wp (m_looked [v0, v1] s) fun z => z.1 = .tup [P.mv, .tup (C.map wantV)] ∧ Ex0 s z.2 := by
  have wl := w.len
  refine wp_fn [some v0, some v1, none, none, none] rfl rfl ?_
  unfold bd_looked
  refine wp_seq ?_
  unfold spar
  simp only [wp_ob, wp_om, wp_some, wp_mvar, sset, sexp, sret, sif, spar, spar3, snx, mtB, mtst, mop1, mop2, mcall, mcons, mnil, mcon, mif, mtup, mlst, mand, mor, mnot, mandV, morV, mnotV, lset_eq, List.getElem?_cons_zero, List.getElem?_cons_succ, List.set_cons_zero, List.set_cons_succ, cond_true, cond_false]
  refine (as_tuples_sp 7 P.mv v0 s pu h0).mono fun z hz => ?_
  obtain ⟨u, s1⟩ := z
  obtain ⟨e1, x1⟩ := hz
  simp only at e1 x1
  subst e1
  refine (as_tuples_sp 7 (.tup (C.map wantV)) v1 s1 ((show Pu 3 (.tup (C.map wantV)) from .tup (by rw [List.length_map]; exact hl) fun w hw => by
    obtain ⟨c, _, rfl⟩ := List.mem_map.mp hw
    exact pu_want).up (by omega)) (h1.ex0 x1)).mono fun z hz => ?_
  obtain ⟨u, s2⟩ := z
  obtain ⟨e2, x2⟩ := hz
  simp only at e2 x2
  subst e2
  refine ⟨trivial, wp_seq (wp_for (wp_S' ?_))⟩
  simp only [wp_ob, wp_om, wp_some, wp_mvar, sset, sexp, sret, sif, spar, spar3, snx, mtB, mtst, mop1, mop2, mcall, mcons, mnil, mcon, mif, mtup, mlst, mand, mor, mnot, mandV, morV, mnotV, lset_eq, List.getElem?_cons_zero, List.getElem?_cons_succ, List.set_cons_zero, List.set_cons_succ, cond_true, cond_false]
  refine ⟨C.map wantV, rfl, fun it git => ?_⟩
  refine (wp_loop (C.map wantV) (fun k r s' => (∃ o2 o3 o4, r = [some P.mv, some (.tup (C.map wantV)), o2, o3, o4]) ∧ Ex0 s2 s') (fun k r s' _ a => git s' rfl) ?_ 1000000000 0 _ s2 (by rw [List.length_map]; omega) (by omega) ⟨⟨_, _, _, rfl⟩, Ex0.refl⟩).mono ?_
  · rintro k w' r s' hw ⟨⟨o2, o3, o4, rfl⟩, xx⟩
    rw [List.getElem?_map] at hw
    cases ec : C[k]? with
    | none => rw [ec] at hw; cases hw
    | some c =>
      rw [ec] at hw
      cases hw
      obtain ⟨l, hlib, hi, _⟩ := hC c (List.mem_of_getElem? ec)
      refine ⟨[some P.mv, some (.tup (C.map wantV)), some (.str c.1.1), some (.int (c.1.2 : Int)), some c.2.mv], rfl, ?_⟩
      simp only [wp_ob, wp_om, wp_some, wp_mvar, sset, sexp, sret, sif, spar, spar3, snx, mtB, mtst, mop1, mop2, mcall, mcons, mnil, mcon, mif, mtup, mlst, mand, mor, mnot, mandV, morV, mnotV, lset_eq, List.getElem?_cons_zero, List.getElem?_cons_succ, List.set_cons_zero, List.set_cons_succ, cond_true, cond_false]
      refine (use_at_sp (by omega) hlib (use_of hlib hi)).mono fun z hz => ?_
      exact ⟨trivial, ⟨_, _, _, rfl⟩, xx.trans hz.2⟩
  · rintro ⟨fl, r, s3⟩ ⟨ef, ⟨o2, o3, o4, er⟩, x3⟩
    simp only at ef er x3
    subst ef er
    refine ⟨rfl, ?_⟩
    simp only [wp_ob, wp_om, wp_some, wp_mvar, sset, sexp, sret, sif, spar, spar3, snx, mtB, mtst, mop1, mop2, mcall, mcons, mnil, mcon, mif, mtup, mlst, mand, mor, mnot, mandV, morV, mnotV, lset_eq, List.getElem?_cons_zero, List.getElem?_cons_succ, List.set_cons_zero, List.set_cons_succ, cond_true, cond_false, nT (show [P.mv, Mv.tup (C.map wantV)].length ≤ 4 by simp)]
    exact ⟨_, rfl, rfl, (x1.trans x2).trans x3⟩
end

end
section
section
variable {P : Plot} {s s' : Ms} {N t d : Nat}
end

end
section
/-! ### what is heard, by the law's own walk -/
section
variable {P : Plot} {s s' : Ms}
end

end
section
/-! ### what is given, by the law's own walk; its least preload -/
section
variable {P : Plot} {s s' : Ms} {N : Nat}
end

end
section
/-! ### drawn wishes -/
theorem slTk {s : Ms} {ws : List Mv} (k : Nat) (hl : ws.length ≤ 16777216) : slW (.tup ws) none (some (k : Int)) s = some (.tup (ws.take k), s) := by
  show newT (cutM ws none (some (k : Int))) s = _
  rw [cut_to, newT_of (by rw [List.length_take]; omega)]
theorem givesL_mem {ds : List (Str × Str)} {u : Str × Str} {v : Str} (h : givesL ds u = some v) : ∃ d ∈ ds, servB d u = true ∧ d.2 = v := by
  have hm : v ∈ (ds.filter fun d => servB d u).map (·.2) := by
    unfold givesL at h
    split at h
    · cases h
    · rename_i y ys e
      rw [e]
      cases h
      split
      · rename_i hu
        exact hu
      · simp
  obtain ⟨d, hd, e⟩ := List.mem_map.mp hm
  exact ⟨d, (List.mem_filter.mp hd).1, (List.mem_filter.mp hd).2, e⟩
theorem ans_data {a : Ans} (h : ansOk a) (s : Ms) : ∃ d, toD 23 s a.mv = some d := by
  rw [ans_mv]
  exact ⟨_, by
    show (toDL (toD 22 _) (strV (ansS a))).om PyData.tuple = _
    rw [strOk_all _ 21 h]; rfl⟩
theorem nin_keysL {s : Ms} {n : Nat} {ks : List (Str × Nat)} {k : Str × Nat} (g : s.get n = some (.lst (ks.map keyV))) (h1 : PyData.strOk k.1 = true) (h2 : ∀ j ∈ ks, PyData.strOk j.1 = true) : ninA (keyV k) (.ref n) s = some (.bl (!decide (k ∈ ks)), s) := by
  have t1 : ∀ (m : Nat) (j : Str × Nat), PyData.strOk j.1 = true → toD (m + 2) s (keyV j) = some (.tuple [.str j.1, .int (j.2 : Int)]) := fun m j hj => by
    show ((cond (PyData.strOk j.1) (some (PyData.str j.1)) none).ob fun d => (some [PyData.int (j.2 : Int)]).om fun ds => d :: ds).om PyData.tuple = _
    rw [hj]; rfl
  have t2 : toDL (toD 23 s) (ks.map keyV) = some (ks.map fun j => .tuple [.str j.1, .int (j.2 : Int)]) := by
    clear g
    induction ks with
    | nil => rfl
    | cons j ks ih =>
      show (toD 23 s (keyV j)).ob (fun d => (toDL (toD 23 s) (ks.map keyV)).om fun ds => d :: ds) = _
      rw [t1 21 j (h2 j (by simp)), ih fun z hz => h2 z (by simp [hz])]; rfl
  have t3 : ((ks.map fun j => PyData.tuple [.str j.1, .int (j.2 : Int)]).any fun z => PyData.eqv z (.tuple [.str k.1, .int (k.2 : Int)])) = decide (k ∈ ks) := by
    clear g t2 h2
    induction ks with
    | nil => simp
    | cons j ks ih =>
      rw [List.map_cons, List.any_cons, ih]
      have : PyData.eqv (.tuple [.str j.1, .int (j.2 : Int)]) (.tuple [.str k.1, .int (k.2 : Int)]) = decide (k = j) := by
        simp only [PyData.eqv, PyData.eqvAll, Bool.and_true]
        by_cases hk : k = j
        · subst hk; simp
        · rw [decide_eq_false hk]
          by_cases h3 : j.1 = k.1
          · have : ¬ (j.2 : Int) = (k.2 : Int) := fun z => hk (Prod.ext h3.symm (by omega))
            simp [h3, this]
          · simp [h3]
      rw [this]
      by_cases hk : k = j <;> simp [hk]
  have e1 : dinW true (keyV k) (.ref n) s = none := by
    unfold dinW
    simp only [g]
    rfl
  have e2 : inBo (keyV k) (.ref n) s = some (decide (k ∈ ks)) := by
    unfold inBo
    rw [items_ref g, ob_of]
    show ((toD 24 s (keyV k)).ob fun e => (toDL (toD 23 s) (ks.map keyV)).om fun es => es.any fun z => PyData.eqv z e) = _
    rw [t1 22 k h1, ob_of, t2, om_of, t3]
  unfold ninA
  rw [e1]
  show (inBo _ _ s).om _ = _
  rw [e2]; rfl
/-- what a library gives for a use, as it is held in the law -/
def giveV (u : Str × Str) (l : PLib) : Mv := .tup [.str x_bound, .str l.own, optV (givesL l.defs u)]
section
variable {P : Plot} {s : Ms} {b m : Nat}
theorem give_ans (w : PlotW P) {u : Str × Str} {l : PLib} (hl : l ∈ P.libs) (h : (givesL l.defs u).isSome = true) : ∃ v, givesL l.defs u = some v ∧ giveV u l = (Ans.bound l.own v).mv ∧ ansOk (.bound l.own v) := by
  obtain ⟨v, hv⟩ := Option.isSome_iff_exists.mp h
  obtain ⟨d, hd, _, e⟩ := givesL_mem hv
  refine ⟨v, hv, by unfold giveV; rw [hv]; rfl, fun z hz => ?_⟩
  have h1 : PyData.strOk l.own = true := w.fok _ (List.mem_map.mpr ⟨l, hl, rfl⟩)
  have h2 : PyData.strOk v = true := e ▸ (w.dok l hl d hd).2
  have h3 : PyData.strOk x_bound = true := by decide +kernel
  simp only [ansS, List.mem_cons, List.not_mem_nil, or_false] at hz
  rcases hz with rfl | rfl | rfl
  · exact h3
  · exact h1
  · exact h2
theorem wish_sp (o : Own2 P) (hne : callsP P ≠ []) (h : Bx' s b m) (hm : m + 10 < 1000000) : Wp (m__law_wish [.ref b, P.mv] s) fun z => ∃ c : Want, z.1 = wantV c ∧ WantOk P c ∧ Ext b s z.2 ∧ Bx' z.2 b (m + 6) := by
  have w := o.w
  have wl := w.len
  have bl := h.lt
  refine wp_fn [some (.ref b), some P.mv, none, none, none, none, none, none, none] rfl rfl ?_
  unfold bd__law_wish
  refine wp_seq ?_
  simp only [wp_ob, wp_om, wp_some, wp_mvar, sset, sexp, sret, sif, spar, spar3, snx, mtB, mtst, mop1, mop2, mcall, mcons, mnil, mcon, mif, mtup, mlst, mand, mor, mnot, mandV, morV, mnotV, lset_eq, List.getElem?_cons_zero, List.getElem?_cons_succ, List.set_cons_zero, List.set_cons_succ, cond_true, cond_false]
  refine (lcalls_sp w).mono fun y hy => ?_
  obtain ⟨v, s1⟩ := y
  obtain ⟨C, e, c1, c2, gC, x1⟩ := hy
  simp only at e c2 gC x1
  subst e
  refine ⟨trivial, wp_seq ?_⟩
  have B1 := h.ex0 x1
  have cl := calls_len w
  unfold sasg
  simp only [wp_ob, wp_om, wp_some, wp_mvar, sset, sexp, sret, sif, spar, spar3, snx, mtB, mtst, mop1, mop2, mcall, mcons, mnil, mcon, mif, mtup, mlst, mand, mor, mnot, mandV, morV, mnotV, lset_eq, List.getElem?_cons_zero, List.getElem?_cons_succ, List.set_cons_zero, List.set_cons_succ, cond_true, cond_false]
  refine (of_sp B1 (by omega) (.inr ⟨C, rfl, c2, by omega, gC⟩) (by simpa using hne) (by rw [List.length_map]; omega)).mono fun y hy => ?_
  obtain ⟨v, s2⟩ := y
  obtain ⟨hv, _, x2, B2⟩ := hy
  simp only at hv x2 B2
  obtain ⟨⟨y, i⟩, hk, rfl⟩ := List.mem_map.mp hv
  obtain ⟨l, u, hlib, hu⟩ := calls_mem w hk
  simp only at hlib hu
  refine ⟨[some (.ref b), some P.mv, some (.ref C), some (.str y), some (.int (i : Int)), none, none, none, none], rfl, trivial, wp_seq ?_⟩
  simp only [wp_ob, wp_om, wp_some, wp_mvar, sset, sexp, sret, sif, spar, spar3, snx, mtB, mtst, mop1, mop2, mcall, mcons, mnil, mcon, mif, mtup, mlst, mand, mor, mnot, mandV, morV, mnotV, lset_eq, List.getElem?_cons_zero, List.getElem?_cons_succ, List.set_cons_zero, List.set_cons_succ, cond_true, cond_false]
  refine (lib1_sp w hlib).mono fun z hz => ?_
  obtain ⟨v, s3⟩ := z
  obtain ⟨e, x3⟩ := hz
  simp only at e x3
  subst e
  simp only [wp_ob, wp_om, wp_some, wp_mvar, sset, sexp, sret, sif, spar, spar3, snx, mtB, mtst, mop1, mop2, mcall, mcons, mnil, mcon, mif, mtup, mlst, mand, mor, mnot, mandV, morV, mnotV, lset_eq, List.getElem?_cons_zero, List.getElem?_cons_succ, List.set_cons_zero, List.set_cons_succ, cond_true, cond_false, lib3, use_get hu]
  refine (take_sp (B2.ex0 x3) (by omega) (k := 9) (by omega) (by omega)).mono fun z hz => ?_
  obtain ⟨v, s4⟩ := z
  obtain ⟨j, e, j0, j1, _, x4, B4⟩ := hz
  simp only at e x4 B4
  subst e
  simp only [wp_ob, wp_om, wp_some, wp_mvar, sset, sexp, sret, sif, spar, spar3, snx, mtB, mtst, mop1, mop2, mcall, mcons, mnil, mcon, mif, mtup, mlst, mand, mor, mnot, mandV, morV, mnotV, lset_eq, List.getElem?_cons_zero, List.getElem?_cons_succ, List.set_cons_zero, List.set_cons_succ, cond_true, cond_false, nT (show [useMv u, Mv.int j].length ≤ 4 by simp)]
  refine ⟨[some (.ref b), some P.mv, some (.ref C), some (.str y), some (.int (i : Int)), some (useMv u), some (.int j), none, none], rfl, trivial, wp_seq ?_⟩
  have X4 := ((x1.ext (b := b)).trans x2).trans ((x3.ext).trans x4)
  -- what the libraries give
  simp only [sset, wp_om]
  refine (wp_lcf (L := []) (J := fun _ => True) P.libs PLib.mv (fun l => [some (.ref b), some P.mv, some (.ref C), some (.str y), some (.int (i : Int)), some (useMv u), some (.int j), none, some l.mv]) (fun _ => true) (giveV u.1) (by omega) (gives_at (L := []) (J := fun _ => True) (v := .tup (P.libs.map PLib.mv)) (s1 := s4) rfl trivial ExtL.refl fun s' _ _ => rfl) (fun k _ => rfl) (fun k hk s' j x' => ⟨_, rfl, rfl, j, ExtL.refl⟩) (fun k hk _ s' _ x' => ?_)).mono ?_
  · simp only [wp_ob, wp_om, wp_some, wp_mvar, sset, sexp, sret, sif, spar, spar3, snx, mtB, mtst, mop1, mop2, mcall, mcons, mnil, mcon, mif, mtup, mlst, mand, mor, mnot, mandV, morV, mnotV, lset_eq, List.getElem?_cons_zero, List.getElem?_cons_succ, List.set_cons_zero, List.set_cons_succ, cond_true, cond_false, lib0]
    refine (lgives_sp w (lib_at w hk) (u := u)).mono fun z hz => ?_
    obtain ⟨v, s5⟩ := z
    obtain ⟨e, x5⟩ := hz
    simp only at e x5
    subst e
    simp only [wp_ob, wp_om, wp_some, wp_mvar, sset, sexp, sret, sif, spar, spar3, snx, mtB, mtst, mop1, mop2, mcall, mcons, mnil, mcon, mif, mtup, mlst, mand, mor, mnot, mandV, morV, mnotV, lset_eq, List.getElem?_cons_zero, List.getElem?_cons_succ, List.set_cons_zero, List.set_cons_succ, cond_true, cond_false, nT (show [Mv.str x_bound, .str k.own, optV (givesL k.defs u.1)].length ≤ 4 by simp)]
    exact ⟨by trivial, trivial, x5.extL⟩
  rintro ⟨v, t5⟩ ⟨s5, e, _, x5⟩
  cases e
  rw [List.filter_eq_self.mpr fun _ _ => rfl]
  have X5 : Ex0 s4 (push s5 (.lst (P.libs.map (giveV u.1)))) := (ex_of x5).trans Ex0.push
  have g5 : (push s5 (.lst (P.libs.map (giveV u.1)))).get s5.sz = some (.lst (P.libs.map (giveV u.1))) := Ms.get_push
  have l5 : s5.sz < (push s5 (.lst (P.libs.map (giveV u.1)))).sz := by simp only [push_sz]; omega
  generalize s5.sz = M at g5 l5 ⊢
  generalize push s5 (.lst (P.libs.map (giveV u.1))) = s6 at X5 g5 l5 ⊢
  refine ⟨trivial, wp_seq ?_⟩
  simp only [sset, wp_om]
  refine (wp_lcf (L := []) (J := fun _ => True) P.libs (giveV u.1) (fun l => [some (.ref b), some P.mv, some (.ref C), some (.str y), some (.int (i : Int)), some (useMv u), some (.int j), some (.ref M), some (giveV u.1 l)]) (fun l => (givesL l.defs u.1).isSome) (giveV u.1) (by omega) (gives_at (L := []) (J := fun _ => True) (v := .ref M) (s1 := s6) rfl trivial ExtL.refl fun s' _ x' => items_ref ((ex_of x').at l5 g5)) (fun k _ => rfl) (fun k hk s' _ x' => ?_) (fun k hk _ s' _ x' => ?_)).mono ?_
  · have h2 : ixA (giveV u.1 k) (.int 2) s' = some (optV (givesL k.defs u.1), s') := rfl
    simp only [wp_ob, wp_om, wp_some, wp_mvar, sset, sexp, sret, sif, spar, spar3, snx, mtB, mtst, mop1, mop2, mcall, mcons, mnil, mcon, mif, mtup, mlst, mand, mor, mnot, mandV, morV, mnotV, lset_eq, List.getElem?_cons_zero, List.getElem?_cons_succ, List.set_cons_zero, List.set_cons_succ, cond_true, cond_false, h2, isnot_optV]
    exact ⟨trivial, trivial, ExtL.refl⟩
  · simp only [wp_ob, wp_om, wp_some, wp_mvar, sset, sexp, sret, sif, spar, spar3, snx, mtB, mtst, mop1, mop2, mcall, mcons, mnil, mcon, mif, mtup, mlst, mand, mor, mnot, mandV, morV, mnotV, lset_eq, List.getElem?_cons_zero, List.getElem?_cons_succ, List.set_cons_zero, List.set_cons_succ, cond_true, cond_false]
    exact ⟨trivial, trivial, ExtL.refl⟩
  rintro ⟨v, t7⟩ ⟨s7, e, _, x7⟩
  cases e
  have hin : ∀ l ∈ P.libs.filter (fun l => (givesL l.defs u.1).isSome), l ∈ P.libs ∧ (givesL l.defs u.1).isSome = true := fun l hl => List.mem_filter.mp hl
  have hfl : (P.libs.filter fun l => (givesL l.defs u.1).isSome).length ≤ 50 := Nat.le_trans (List.length_filter_le _ _) wl
  generalize P.libs.filter (fun l => (givesL l.defs u.1).isSome) = fs at hin hfl ⊢
  have X7 : Ex0 s6 (push s7 (.lst (fs.map (giveV u.1)))) := (ex_of x7).trans Ex0.push
  have g7 : (push s7 (.lst (fs.map (giveV u.1)))).get s7.sz = some (.lst (fs.map (giveV u.1))) := Ms.get_push
  have l7 : s7.sz < (push s7 (.lst (fs.map (giveV u.1)))).sz := by simp only [push_sz]; omega
  have n7 : s4.sz ≤ s7.sz := by have := X5.sz; have := (ex_of x7).sz; omega
  generalize s7.sz = K at g7 l7 n7 ⊢
  generalize push s7 (.lst (fs.map (giveV u.1))) = s8 at X7 g7 l7 ⊢
  have X48 := X5.trans X7
  have B8 := B4.ex0 X48
  have X8 := X4.trans X48.ext
  have Kb : K ≠ b := by have := X4.sz; omega
  have hdat : ∀ s' l, l ∈ fs → ∃ d, toD 23 s' (giveV u.1 l) = some d := fun s' l hl => by
    obtain ⟨v, _, e, ok⟩ := give_ans w (hin l hl).1 (hin l hl).2
    rw [e]
    exact ans_data ok s'
  have x9 : Ex0 s8 (push s8 (.lst [])) := Ex0.push
  have hne9 : neW (.ref K) (.ref s8.sz) (push s8 (.lst [])) = some (.bl (!fs.isEmpty), push s8 (.lst [])) := ne_nilG (x9.at l7 g7) Ms.get_push fun l hl => hdat _ l hl
  have hlit : ∀ s', newL [] s' = some (.ref s'.sz, push s' (.lst [])) := fun s' => newL_of (by simp)
  refine ⟨trivial, ?_⟩
  by_cases hc : fs ≠ [] ∧ j < 7
  · obtain ⟨hf, hj⟩ := hc
    have he : fs.isEmpty = false := by cases fs with | nil => exact (hf rfl).elim | cons _ _ => rfl
    refine wp_seq_rt (wp_sift (wp_andt ?_))
    simp only [wp_ob, wp_om, wp_some, wp_mvar, sset, sexp, sret, sif, spar, spar3, snx, mtB, mtst, mop1, mop2, mcall, mcons, mnil, mcon, mif, mtup, mlst, mand, mor, mnot, mandV, morV, mnotV, lset_eq, List.getElem?_cons_zero, List.getElem?_cons_succ, List.set_cons_zero, List.set_cons_succ, cond_true, cond_false, hlit, hne9, he, Bool.not_false]
    refine ⟨trivial, ?_⟩
    simp only [wp_ob, wp_om, wp_some, wp_mvar, sset, sexp, sret, sif, spar, spar3, snx, mtB, mtst, mop1, mop2, mcall, mcons, mnil, mcon, mif, mtup, mlst, mand, mor, mnot, mandV, morV, mnotV, lset_eq, List.getElem?_cons_zero, List.getElem?_cons_succ, List.set_cons_zero, List.set_cons_succ, cond_true, cond_false, ltI, decide_eq_true hj]
    refine ⟨trivial, ?_⟩
    refine (of_sp (B8.ex0 x9) (by omega) (.inr ⟨K, rfl, by have := x9.sz; omega, Kb, x9.at l7 g7⟩) (by simpa using hf) (by rw [List.length_map]; omega)).mono fun z hz => ?_
    obtain ⟨v, s10⟩ := z
    obtain ⟨hv, _, x10, B10⟩ := hz
    simp only at hv x10 B10
    obtain ⟨k, hk, rfl⟩ := List.mem_map.mp hv
    obtain ⟨v, hv, e, ok⟩ := give_ans w (hin k hk).1 (hin k hk).2
    rw [e]
    simp only [wp_ob, wp_om, wp_some, wp_mvar, sset, sexp, sret, sif, spar, spar3, snx, mtB, mtst, mop1, mop2, mcall, mcons, mnil, mcon, mif, mtup, mlst, mand, mor, mnot, mandV, morV, mnotV, lset_eq, List.getElem?_cons_zero, List.getElem?_cons_succ, List.set_cons_zero, List.set_cons_succ, cond_true, cond_false, nT (show [Mv.str y, .int (i : Int), (Ans.bound k.own v).mv].length ≤ 4 by simp)]
    exact ⟨_, rfl, _, rfl, ((y, i), .bound k.own v), rfl, ⟨l, hlib, (List.getElem?_eq_some_iff.mp hu).1, ok⟩, (X8.trans x9.ext).trans x10, B10.mono (by omega)⟩
  · have hcond : Wp ((sif (mand (mtB (mop2 neW (mvar 7) (mlst (mnil)))) (mtB (mop2 ltW (mvar 6) (mcon (.int 7))))) (sret (mtup (mcons (mvar 3) (mcons (mvar 4) (mcons (mcall m__law_of (mcons (mvar 0) (mcons (mvar 7) (mnil)))) (mnil)))))) (snx)) [some (.ref b), some P.mv, some (.ref C), some (.str y), some (.int (i : Int)), some (useMv u), some (.int j), some (.ref K), none] s8) fun x => x = (.nx, [some (.ref b), some P.mv, some (.ref C), some (.str y), some (.int (i : Int)), some (useMv u), some (.int j), some (.ref K), none], push s8 (.lst [])) := by
      refine wp_siff ?_
      by_cases hf : fs = []
      · refine wp_andf ?_
        have he : fs.isEmpty = true := by rw [hf]; rfl
        simp only [wp_ob, wp_om, wp_some, wp_mvar, sset, sexp, sret, sif, spar, spar3, snx, mtB, mtst, mop1, mop2, mcall, mcons, mnil, mcon, mif, mtup, mlst, mand, mor, mnot, mandV, morV, mnotV, lset_eq, List.getElem?_cons_zero, List.getElem?_cons_succ, List.set_cons_zero, List.set_cons_succ, cond_true, cond_false, hlit, hne9, he, Bool.not_true]
        exact ⟨trivial, by trivial, by trivial⟩
      · have hj : ¬ j < 7 := fun z => hc ⟨hf, z⟩
        have he : fs.isEmpty = false := by cases fs with | nil => exact (hf rfl).elim | cons _ _ => rfl
        refine wp_andt ?_
        simp only [wp_ob, wp_om, wp_some, wp_mvar, sset, sexp, sret, sif, spar, spar3, snx, mtB, mtst, mop1, mop2, mcall, mcons, mnil, mcon, mif, mtup, mlst, mand, mor, mnot, mandV, morV, mnotV, lset_eq, List.getElem?_cons_zero, List.getElem?_cons_succ, List.set_cons_zero, List.set_cons_succ, cond_true, cond_false, hlit, hne9, he, Bool.not_false]
        refine ⟨trivial, ?_⟩
        simp only [wp_ob, wp_om, wp_some, wp_mvar, sset, sexp, sret, sif, spar, spar3, snx, mtB, mtst, mop1, mop2, mcall, mcons, mnil, mcon, mif, mtup, mlst, mand, mor, mnot, mandV, morV, mnotV, lset_eq, List.getElem?_cons_zero, List.getElem?_cons_succ, List.set_cons_zero, List.set_cons_succ, cond_true, cond_false, ltI, decide_eq_false hj]
        exact ⟨trivial, by trivial⟩
    refine wp_seq (hcond.mono ?_)
    rintro _ rfl
    have B9 := B8.ex0 x9
    have X9 := X8.trans (x9.ext (b := b))
    generalize push s8 (.lst []) = s9 at B9 X9 ⊢
    refine ⟨rfl, ?_⟩
    by_cases hj : j = 7
    · refine wp_seq_rt (wp_sift ?_)
      simp only [wp_ob, wp_om, wp_some, wp_mvar, sset, sexp, sret, sif, spar, spar3, snx, mtB, mtst, mop1, mop2, mcall, mcons, mnil, mcon, mif, mtup, mlst, mand, mor, mnot, mandV, morV, mnotV, lset_eq, List.getElem?_cons_zero, List.getElem?_cons_succ, List.set_cons_zero, List.set_cons_succ, cond_true, cond_false, eq_int, decide_eq_true hj]
      refine ⟨trivial, ?_⟩
      rw [newL_of (by simp), wp_some]
      have y1 : Ex0 s9 (push s9 (.lst [.str x_a, .str x_main, .str x_nowhere])) := Ex0.push
      refine (of_sp (B9.ex0 y1) (by omega) (ws := [.str x_a, .str x_main, .str x_nowhere]) (.inr ⟨s9.sz, rfl, by simp only [push_sz]; omega, by have := B9.lt; omega, Ms.get_push⟩) (by simp) (by simp)).mono fun z hz => ?_
      obtain ⟨v, s10⟩ := z
      obtain ⟨hv, _, x10, B10⟩ := hz
      simp only at hv x10 B10
      obtain ⟨q, hq, rfl⟩ : ∃ q : Str, PyData.strOk q = true ∧ v = .str q := by
        have c1 : PyData.strOk x_a = true ∧ PyData.strOk x_main = true ∧ PyData.strOk x_nowhere = true := by decide +kernel
        simp only [List.mem_cons, List.not_mem_nil, or_false] at hv
        rcases hv with rfl | rfl | rfl
        · exact ⟨_, c1.1, rfl⟩
        · exact ⟨_, c1.2.1, rfl⟩
        · exact ⟨_, c1.2.2, rfl⟩
      simp only [wp_ob, wp_om, wp_some, wp_mvar, sset, sexp, sret, sif, spar, spar3, snx, mtB, mtst, mop1, mop2, mcall, mcons, mnil, mcon, mif, mtup, mlst, mand, mor, mnot, mandV, morV, mnotV, lset_eq, List.getElem?_cons_zero, List.getElem?_cons_succ, List.set_cons_zero, List.set_cons_succ, cond_true, cond_false]
      rw [newL_of (by simp), wp_some]
      have y2 : Ex0 s10 (push s10 (.lst [.str x_, .str x_one])) := Ex0.push
      refine (of_sp (B10.ex0 y2) (by omega) (ws := [.str x_, .str x_one]) (.inr ⟨s10.sz, rfl, by simp only [push_sz]; omega, by have := B10.lt; omega, Ms.get_push⟩) (by simp) (by simp)).mono fun z hz => ?_
      obtain ⟨v, s11⟩ := z
      obtain ⟨hv, _, x11, B11⟩ := hz
      simp only at hv x11 B11
      obtain ⟨q2, hq2, rfl⟩ : ∃ q : Str, PyData.strOk q = true ∧ v = .str q := by
        have c1 : PyData.strOk x_ = true ∧ PyData.strOk x_one = true := by decide +kernel
        simp only [List.mem_cons, List.not_mem_nil, or_false] at hv
        rcases hv with rfl | rfl
        · exact ⟨_, c1.1, rfl⟩
        · exact ⟨_, c1.2, rfl⟩
      simp only [wp_ob, wp_om, wp_some, wp_mvar, sset, sexp, sret, sif, spar, spar3, snx, mtB, mtst, mop1, mop2, mcall, mcons, mnil, mcon, mif, mtup, mlst, mand, mor, mnot, mandV, morV, mnotV, lset_eq, List.getElem?_cons_zero, List.getElem?_cons_succ, List.set_cons_zero, List.set_cons_succ, cond_true, cond_false, nT (show [Mv.str x_bound, .str q, .str q2].length ≤ 4 by simp), nT (show [Mv.str y, .int (i : Int), .tup [.str x_bound, .str q, .str q2]].length ≤ 4 by simp)]
      have c3 : PyData.strOk x_bound = true := by decide +kernel
      refine ⟨_, rfl, _, rfl, ((y, i), .bound q q2), rfl, ⟨l, hlib, (List.getElem?_eq_some_iff.mp hu).1, fun z hz => ?_⟩, (((X9.trans y1.ext).trans x10).trans y2.ext).trans x11, B11.mono (by omega)⟩
      simp only [ansS, List.mem_cons, List.not_mem_nil, or_false] at hz
      rcases hz with rfl | rfl | rfl
      · exact c3
      · exact hq
      · exact hq2
    · have hcond2 : Wp ((sif (mtB (mop2 eqW (mvar 6) (mcon (.int 7)))) (sret (mtup (mcons (mvar 3) (mcons (mvar 4) (mcons (mtup (mcons (mcon (.str x_bound)) (mcons (mcall m__law_of (mcons (mvar 0) (mcons (mlst (mcons (mcon (.str x_a)) (mcons (mcon (.str x_main)) (mcons (mcon (.str x_nowhere)) (mnil))))) (mnil)))) (mcons (mcall m__law_of (mcons (mvar 0) (mcons (mlst (mcons (mcon (.str x_)) (mcons (mcon (.str x_one)) (mnil)))) (mnil)))) (mnil))))) (mnil)))))) (snx)) [some (.ref b), some P.mv, some (.ref C), some (.str y), some (.int (i : Int)), some (useMv u), some (.int j), some (.ref K), none] s9) fun x => x = (.nx, [some (.ref b), some P.mv, some (.ref C), some (.str y), some (.int (i : Int)), some (useMv u), some (.int j), some (.ref K), none], s9) := by
        refine wp_siff ?_
        simp only [wp_ob, wp_om, wp_some, wp_mvar, sset, sexp, sret, sif, spar, spar3, snx, mtB, mtst, mop1, mop2, mcall, mcons, mnil, mcon, mif, mtup, mlst, mand, mor, mnot, mandV, morV, mnotV, lset_eq, List.getElem?_cons_zero, List.getElem?_cons_succ, List.set_cons_zero, List.set_cons_succ, cond_true, cond_false, eq_int, decide_eq_false hj]
        exact ⟨trivial, by trivial⟩
      refine wp_seq (hcond2.mono ?_)
      rintro _ rfl
      refine ⟨rfl, ?_⟩
      have h2 : ixA (useMv u) (.int 2) s9 = some (.bl u.2, s9) := rfl
      have okn : ansOk (noneA u) := none_ok
      have hq : Wp ((mif (mtst (mop2 ixA (mvar 5) (mcon (.int 2)))) (mtup (mcons (mcon (.str x_nobody)) (mnil))) (mtup (mcons (mcon (.str x_lost)) (mnil)))) [some (.ref b), some P.mv, some (.ref C), some (.str y), some (.int (i : Int)), some (useMv u), some (.int j), some (.ref K), none] s9) fun x => x = ((noneA u).mv, s9) := by
        cases hu2 : u.2 with
        | true =>
          have hn : noneA u = .nobody := by unfold noneA; rw [hu2]; rfl
          rw [hn]
          simp only [wp_ob, wp_om, wp_some, wp_mvar, sset, sexp, sret, sif, spar, spar3, snx, mtB, mtst, mop1, mop2, mcall, mcons, mnil, mcon, mif, mtup, mlst, mand, mor, mnot, mandV, morV, mnotV, lset_eq, List.getElem?_cons_zero, List.getElem?_cons_succ, List.set_cons_zero, List.set_cons_succ, cond_true, cond_false, h2, hu2]
          refine ⟨true, rfl, ?_⟩
          simp only [wp_ob, wp_om, wp_some, wp_mvar, sset, sexp, sret, sif, spar, spar3, snx, mtB, mtst, mop1, mop2, mcall, mcons, mnil, mcon, mif, mtup, mlst, mand, mor, mnot, mandV, morV, mnotV, lset_eq, List.getElem?_cons_zero, List.getElem?_cons_succ, List.set_cons_zero, List.set_cons_succ, cond_true, cond_false, nT (show [Mv.str x_nobody].length ≤ 4 by simp)]
          rfl
        | false =>
          have hn : noneA u = .lost := by unfold noneA; rw [hu2]; rfl
          rw [hn]
          simp only [wp_ob, wp_om, wp_some, wp_mvar, sset, sexp, sret, sif, spar, spar3, snx, mtB, mtst, mop1, mop2, mcall, mcons, mnil, mcon, mif, mtup, mlst, mand, mor, mnot, mandV, morV, mnotV, lset_eq, List.getElem?_cons_zero, List.getElem?_cons_succ, List.set_cons_zero, List.set_cons_succ, cond_true, cond_false, h2, hu2]
          refine ⟨false, rfl, ?_⟩
          simp only [wp_ob, wp_om, wp_some, wp_mvar, sset, sexp, sret, sif, spar, spar3, snx, mtB, mtst, mop1, mop2, mcall, mcons, mnil, mcon, mif, mtup, mlst, mand, mor, mnot, mandV, morV, mnotV, lset_eq, List.getElem?_cons_zero, List.getElem?_cons_succ, List.set_cons_zero, List.set_cons_succ, cond_true, cond_false, nT (show [Mv.str x_lost].length ≤ 4 by simp)]
          rfl
      simp only [sret, wp_om, mtup, mcons, mnil, wp_ob, wp_mvar, wp_some, List.getElem?_cons_zero, List.getElem?_cons_succ]
      refine hq.mono ?_
      rintro _ rfl
      rw [nT (by simp), wp_some]
      exact ⟨_, rfl, ((y, i), noneA u), rfl, ⟨l, hlib, (List.getElem?_eq_some_iff.mp hu).1, okn⟩, X9, B9.mono (by omega)⟩
theorem wishes_sp (o : Own2 P) (hne : callsP P ≠ []) {most : Int} (m1 : 1 ≤ most) (m2 : most ≤ 8) (h : Bx' s b m) (hm : m + 100 < 1000000) : Wp (m__law_wishes [.ref b, P.mv, .int most] s) fun z => ∃ C : List Want, z.1 = .tup (C.map wantV) ∧ (∀ c ∈ C, WantOk P c) ∧ C ≠ [] ∧ (C.length : Int) ≤ most ∧ (C.map (·.1)).Nodup ∧ Ext b s z.2 ∧ Bx' z.2 b (m + 60) := by
  have w := o.w
  have bl := h.lt
  refine wp_fn [some (.ref b), some P.mv, some (.int most), none, none, none, none] rfl rfl ?_
  unfold bd__law_wishes
  refine wp_seq ?_
  simp only [wp_ob, wp_om, wp_some, wp_mvar, sset, sexp, sret, sif, spar, spar3, snx, mtB, mtst, mop1, mop2, mcall, mcons, mnil, mcon, mif, mtup, mlst, mand, mor, mnot, mandV, morV, mnotV, lset_eq, List.getElem?_cons_zero, List.getElem?_cons_succ, List.set_cons_zero, List.set_cons_succ, cond_true, cond_false]
  rw [newL_of (by simp), wp_some]
  have x0 : Ex0 s (push s (.lst [])) := Ex0.push
  have g0 : (push s (.lst [])).get s.sz = some (.lst (([] : List Want).map wantV)) := Ms.get_push
  have l0 : s.sz < (push s (.lst [])).sz := by simp only [push_sz]; omega
  have n0 : s.sz ≤ s.sz := Nat.le_refl _
  generalize hF : (s.sz : Nat) = F at g0 l0
  generalize push s (.lst []) = s1 at x0 g0 l0 ⊢
  have B1 := h.ex0 x0
  refine ⟨trivial, wp_seq (wp_for (wp_R1 ?_))⟩
  simp only [wp_ob, wp_om, wp_some, wp_mvar, sset, sexp, sret, sif, spar, spar3, snx, mtB, mtst, mop1, mop2, mcall, mcons, mnil, mcon, mif, mtup, mlst, mand, mor, mnot, mandV, morV, mnotV, lset_eq, List.getElem?_cons_zero, List.getElem?_cons_succ, List.set_cons_zero, List.set_cons_succ, cond_true, cond_false]
  refine (take_sp B1 (by omega) (k := most) (by omega) (by omega)).mono fun z hz => ?_
  obtain ⟨v, s2⟩ := z
  obtain ⟨j, e, j0, j1, _, x2, B2⟩ := hz
  simp only at e x2 B2
  subst e
  have ha : addW (.int 1) (.int j) s2 = some (.int (1 + j), s2) := rfl
  simp only [wp_ob, wp_om, wp_some, wp_mvar, sset, sexp, sret, sif, spar, spar3, snx, mtB, mtst, mop1, mop2, mcall, mcons, mnil, mcon, mif, mtup, mlst, mand, mor, mnot, mandV, morV, mnotV, lset_eq, List.getElem?_cons_zero, List.getElem?_cons_succ, List.set_cons_zero, List.set_cons_succ, cond_true, cond_false, ha]
  refine ⟨1 + j, rfl, okI_of (by omega) (by omega), ?_⟩
  have hFb : F ≠ b := by omega
  have g2 := x2.at l0 hFb g0
  have l2 : F < s2.sz := by have := x2.sz; omega
  have X2 : Ext b s s2 := x0.ext.trans x2
  refine (wp_loop ((List.range (1 + j).toNat).map fun (k : Nat) => Mv.int (k : Int)) (fun k r s' => ∃ (C : List Want) (o4 o5 o6 : Option Mv), r = [some (.ref b), some P.mv, some (.int most), some (.ref F), o4, o5, o6] ∧ F < s'.sz ∧ s'.get F = some (.lst (C.map wantV)) ∧ (∀ c ∈ C, WantOk P c) ∧ (0 < k → C ≠ []) ∧ C.length ≤ k ∧ (C.map (·.1)).Nodup ∧ Ext b s s' ∧ Bx' s' b (m + 1 + 6 * k)) (fun k r s' _ _ => gives_rngI) ?_ 1000000000 0 _ s2 (by rw [List.length_map, List.length_range]; omega) (by omega) ⟨[], _, _, _, rfl, l2, g2, by simp, by omega, by simp, by simp, X2, B2⟩).mono ?_
  · rintro k w' r s' hw ⟨C, o4, o5, o6, rfl, lF, gF, okC, neC, lC, ndC, xx, Bk⟩
    rw [List.getElem?_map] at hw
    have hk : k < (1 + j).toNat := Classical.byContradiction fun h => by
      rw [List.getElem?_eq_none (by rw [List.length_range]; omega)] at hw
      cases hw
    refine ⟨[some (.ref b), some P.mv, some (.int most), some (.ref F), some w', o5, o6], rfl, wp_seq (Wp.mono (Q := fun x => ∃ (c : Want) (s3 : Ms), x = (.nx, [some (.ref b), some P.mv, some (.int most), some (.ref F), some w', some (wantV c), o6], s3) ∧ WantOk P c ∧ Ext b s' s3 ∧ Bx' s3 b (m + 1 + 6 * k + 6)) ?_ ?_)⟩
    · simp only [wp_ob, wp_om, wp_some, wp_mvar, sset, sexp, sret, sif, spar, spar3, snx, mtB, mtst, mop1, mop2, mcall, mcons, mnil, mcon, mif, mtup, mlst, mand, mor, mnot, mandV, morV, mnotV, lset_eq, List.getElem?_cons_zero, List.getElem?_cons_succ, List.set_cons_zero, List.set_cons_succ, cond_true, cond_false]
      refine (wish_sp o hne Bk (by omega)).mono fun z hz => ?_
      obtain ⟨v, s3⟩ := z
      obtain ⟨c, e, okc, x3, B3⟩ := hz
      simp only at e x3 B3
      subst e
      exact ⟨c, s3, rfl, okc, x3, B3⟩
    rintro _ ⟨c, s3, rfl, okc, x3, B3⟩
    have gF3 := x3.at lF hFb gF
    have lF3 : F < s3.sz := by have := x3.sz; omega
    refine ⟨rfl, ?_⟩
    dsimp only
    have hsl : ∀ (d : Want) (s' : Ms), slW (wantV d) none (some 2) s' = some (keyV d.1, s') := fun d s' => slTk 2 (by simp)
    have okk : ∀ d : Want, WantOk P d → PyData.strOk d.1.1 = true := fun d hd => by
      obtain ⟨l, hl, _⟩ := hd
      exact w.fok _ (List.mem_map.mpr ⟨l, (lib_mem hl).1, (lib_mem hl).2⟩)
    have hn : Wp (mop2 ninA (mslice (mvar 5) (onone) (osome (mcon (.int 2)))) (mlc (miS (mvar 3)) (.nm 6) (myes) (mslice (mvar 6) (onone) (osome (mcon (.int 2)))) [6]) [some (.ref b), some P.mv, some (.int most), some (.ref F), some w', some (wantV c), o6] s3) fun x => x.1 = .bl (!decide (c.1 ∈ C.map (·.1))) ∧ Ex0 s3 x.2 := by
      unfold mslice osome onone
      simp only [wp_ob, wp_om, wp_some, wp_mvar, sset, sexp, sret, sif, spar, spar3, snx, mtB, mtst, mop1, mop2, mcall, mcons, mnil, mcon, mif, mtup, mlst, mand, mor, mnot, mandV, morV, mnotV, lset_eq, List.getElem?_cons_zero, List.getElem?_cons_succ, List.set_cons_zero, List.set_cons_succ, cond_true, cond_false, hsl]
      refine (wp_lcf (L := []) (J := fun _ => True) C wantV (fun d => [some (.ref b), some P.mv, some (.int most), some (.ref F), some w', some (wantV c), some (wantV d)]) (fun _ => true) (fun d => keyV d.1) (by omega) (gives_at (L := []) (J := fun _ => True) (v := .ref F) (s1 := s3) rfl trivial ExtL.refl fun s' _ x' => items_ref ((ex_of x').at lF3 gF3)) (fun k _ => rfl) (fun k hk s' j x' => ⟨_, rfl, rfl, j, ExtL.refl⟩) (fun k hk _ s' _ x' => ?_)).mono ?_
      · simp only [wp_ob, wp_om, wp_some, wp_mvar, sset, sexp, sret, sif, spar, spar3, snx, mtB, mtst, mop1, mop2, mcall, mcons, mnil, mcon, mif, mtup, mlst, mand, mor, mnot, mandV, morV, mnotV, lset_eq, List.getElem?_cons_zero, List.getElem?_cons_succ, List.set_cons_zero, List.set_cons_succ, cond_true, cond_false, hsl]
        exact ⟨trivial, trivial, ExtL.refl⟩
      rintro ⟨u, t4⟩ ⟨s4, e, _, x4⟩
      cases e
      rw [List.filter_eq_self.mpr fun _ _ => rfl]
      have em : C.map (fun d => keyV d.1) = (C.map (·.1)).map keyV := by rw [List.map_map]; rfl
      rw [em, nin_keysL Ms.get_push (okk c okc) fun z hz => by
        obtain ⟨d, hd, rfl⟩ := List.mem_map.mp hz
        exact okk d (okC d hd), wp_some]
      exact ⟨rfl, (ex_of x4).trans Ex0.push⟩
    by_cases hin : c.1 ∈ C.map (·.1)
    · refine Wp.mono (Q := fun x => ∃ s4, x = (.nx, [some (.ref b), some P.mv, some (.int most), some (.ref F), some w', some (wantV c), o6], s4) ∧ Ex0 s3 s4) (wp_siff ?_) ?_
      · simp only [mtB, wp_ob]
        refine hn.mono fun x hx => ?_
        obtain ⟨v, s4⟩ := x
        obtain ⟨e, x4⟩ := hx
        simp only at e x4
        subst e
        rw [show (!decide (c.1 ∈ C.map (·.1))) = false by simp only [hin, decide_true, Bool.not_true]]
        simp only [wp_ob, wp_om, wp_some, wp_mvar, sset, sexp, sret, sif, spar, spar3, snx, mtB, mtst, mop1, mop2, mcall, mcons, mnil, mcon, mif, mtup, mlst, mand, mor, mnot, mandV, morV, mnotV, lset_eq, List.getElem?_cons_zero, List.getElem?_cons_succ, List.set_cons_zero, List.set_cons_succ, cond_true, cond_false]
        exact ⟨trivial, s4, rfl, x4⟩
      rintro _ ⟨s4, rfl, x4⟩
      refine ⟨rfl, C, _, _, _, rfl, by have := x4.sz; show F < s4.sz; omega, x4.at lF3 gF3, okC, fun _ hC => ?_, by omega, ndC, (xx.trans x3).trans x4.ext, (B3.ex0 x4).mono (by omega)⟩
      rw [hC] at hin
      cases hin
    · refine Wp.mono (Q := fun x => ∃ s4, x = (.nx, [some (.ref b), some P.mv, some (.int most), some (.ref F), some w', some (wantV c), o6], s4.put F (.lst (C.map wantV ++ [wantV c]))) ∧ Ex0 s3 s4) (wp_sift ?_) ?_
      · simp only [mtB, wp_ob]
        refine hn.mono fun x hx => ?_
        obtain ⟨v, s4⟩ := x
        obtain ⟨e, x4⟩ := hx
        simp only at e x4
        subst e
        rw [show (!decide (c.1 ∈ C.map (·.1))) = true by simp only [hin, decide_false, Bool.not_false]]
        simp only [wp_ob, wp_om, wp_some, wp_mvar, sset, sexp, sret, sif, spar, spar3, snx, mtB, mtst, mop1, mop2, mcall, mcons, mnil, mcon, mif, mtup, mlst, mand, mor, mnot, mandV, morV, mnotV, lset_eq, List.getElem?_cons_zero, List.getElem?_cons_succ, List.set_cons_zero, List.set_cons_succ, cond_true, cond_false]
        refine ⟨trivial, ?_⟩
        refine wp_app (n := F) rfl (x4.at lF3 gF3) ?_
        simp only [wp_ob, wp_om, wp_some, wp_mvar, sset, sexp, sret, sif, spar, spar3, snx, mtB, mtst, mop1, mop2, mcall, mcons, mnil, mcon, mif, mtup, mlst, mand, mor, mnot, mandV, morV, mnotV, lset_eq, List.getElem?_cons_zero, List.getElem?_cons_succ, List.set_cons_zero, List.set_cons_succ, cond_true, cond_false]
        exact ⟨_, _, rfl, x4.at lF3 gF3, by rw [List.length_map]; omega, s4, rfl, x4⟩
      rintro _ ⟨s4, rfl, x4⟩
      refine ⟨rfl, C ++ [c], _, _, _, rfl, by have := x4.sz; show F < s4.sz; omega, ?_, fun d hd => ?_, fun _ => by simp, by rw [List.length_append, List.length_singleton]; omega, ?_, ((xx.trans x3).trans x4.ext).putN (by omega), ((B3.ex0 x4).mono (by omega)).put hFb⟩
      · rw [put_get_eq, List.map_append]; rfl
      · rcases List.mem_append.mp hd with hd | hd
        · exact okC d hd
        · rw [List.mem_singleton.mp hd]; exact okc
      · rw [List.map_append, List.nodup_append]
        refine ⟨ndC, by simp, fun a ha b hb => ?_⟩
        rw [List.map_singleton, List.mem_singleton] at hb
        subst hb
        rintro rfl
        exact hin ha
  · rintro ⟨fl, r, s3⟩ ⟨ef, C, o4, o5, o6, er, lF, gF, okC, neC, lC, ndC, xx, B3⟩
    simp only at ef er lF gF xx B3
    subst ef er
    rw [List.length_map, List.length_range] at lC B3 neC
    refine ⟨rfl, ?_⟩
    simp only [wp_ob, wp_om, wp_some, wp_mvar, sset, sexp, sret, sif, spar, spar3, snx, mtB, mtst, mop1, mop2, mcall, mcons, mnil, mcon, mif, mtup, mlst, mand, mor, mnot, mandV, morV, mnotV, lset_eq, List.getElem?_cons_zero, List.getElem?_cons_succ, List.set_cons_zero, List.set_cons_succ, cond_true, cond_false]
    rw [tup_of (items_ref gF) (by rw [List.length_map]; omega), wp_some]
    exact ⟨_, rfl, C, rfl, okC, neC (by omega), by omega, ndC, xx, B3.mono (by omega)⟩
end

end
section
/-! ### the least preload is the one that the law finds -/
section
variable {P : Plot} {N : Nat}
end
section
variable {P : Plot} {s s' : Ms} {N : Nat}
end

end
section
/-! ### lists instead of tuples, whatever is drawn behind it -/
/-! ### a drawn program, as all these laws draw it -/
theorem calls_ne {most gates : Nat} {P : Plot} (h : Plot2 most gates P) : callsP P ≠ [] := fun e => by
  have hm : x_main ∈ P.folk := by rw [h.fk]; simp
  unfold Plot.folk at hm
  obtain ⟨l, hl, hl2⟩ := List.mem_map.mp hm
  have hu := h.mu l hl hl2
  have : (l.own, 0) ∈ callsP P := List.mem_flatMap.mpr ⟨l, hl, List.mem_map.mpr ⟨0, List.mem_range.mpr (List.length_pos_iff.mpr hu), rfl⟩⟩
  rw [e] at this
  cases this
section
variable {s : Ms} {b m : Nat}
end
/-! ### right: the least preload -/
end
section
/-! ### how many preloads give all; lean ones; which are shown -/
section
variable {P : Plot} {s s' : Ms} {N t d : Nat}
end

end
section
/-! ### names by their signs -/
abbrev LETS : Str := xh_6162636465666768696a6b6c6d6e6f707172737475767778797a
def nameB (x : Str) : Bool := (decide (0 < x.length) && decide (x.length ≤ 8)) && (x.cps.toList.all fun c => LETS.cps.toList.any fun d => Nat.beq d c)
theorem is_name_str {s : Ms} {x : Str} (hl : x.length ≤ 1000) : Wp (m_is_name [.str x] s) fun y => y.1 = .bl (nameB x) ∧ Ex0 s y.2 := by
  refine wp_fn [some (.str x), none] rfl rfl ?_
  unfold bd_is_name
  have hL : lenW [.str x] s = some (.int (x.length : Nat), s) := by
    show (cond (Nat.ble x.length 16777216) (some x.length) none).om _ = _
    rw [Nat.ble_eq_true_of_le (by omega)]; rfl
  by_cases hc : 0 < x.length ∧ x.length ≤ 8
  · refine wp_seq ?_
    have c1 : iLt 0 (x.length : Int) = true := by rw [iLt_eq]; exact decide_eq_true (by omega)
    have c2 : iLt 8 (x.length : Int) = false := by rw [iLt_eq]; exact decide_eq_false (by omega)
    simp only [wp_ob, wp_om, wp_some, wp_mvar, sset, sexp, sret, sif, spar, spar3, snx, mtB, mtst, mop1, mop2, mcall, mcons, mnil, mcon, mif, mtup, mlst, mand, mor, mnot, mandV, morV, mnotV, lset_eq, List.getElem?_cons_zero, List.getElem?_cons_succ, List.set_cons_zero, List.set_cons_succ, cond_true, cond_false, isiW, tyOf, isaT, decide_true, Bool.true_or, tru, Bool.not_true, mchain, hL, ltW, leW, cmpI, c1, c2, Bool.not_false]
    refine ⟨trivial, ?_⟩
    refine wp_lc ?_
    simp only [wp_ob, wp_om, wp_some, wp_mvar, sset, sexp, sret, sif, spar, spar3, snx, mtB, mtst, mop1, mop2, mcall, mcons, mnil, mcon, mif, mtup, mlst, mand, mor, mnot, mandV, morV, mnotV, lset_eq, List.getElem?_cons_zero, List.getElem?_cons_succ, List.set_cons_zero, List.set_cons_succ, cond_true, cond_false, miX]
    have hf : mflat (.seq (signs x)) (mstep (.nm 1) myes (mop2 sgIn (mvar 1) (mcon (.str LETS))) (mwipe [some (.str x), none] [1])) 1000000000 0 s = some ((x.cps.toList.map fun c => LETS.cps.toList.any fun d => Nat.beq d c).map .bl, s) := by
      have e := flat_pure (it := .seq (signs x)) (st := mstep (.nm 1) myes (mop2 sgIn (mvar 1) (mcon (.str LETS))) (mwipe [some (.str x), none] [1])) (ws := signs x) (s := s) (fun w => match w with | .str a => (match a.cps.toList with | [c] => [.bl (LETS.cps.toList.any fun d => Nat.beq d c)] | _ => []) | _ => []) (by simp only [signs, List.length_map]; have : x.cps.toList.length = x.length := (by simp [Str.length]); omega) gives_seq (by
        intro w hw
        obtain ⟨c, _, rfl⟩ := List.mem_map.mp hw
        rfl)
      rw [e]
      congr 2
      unfold signs
      generalize x.cps.toList = l
      induction l with
      | nil => rfl
      | cons c l ih => rw [List.map_cons, List.flatMap_cons, ih]; rfl
    rw [hf, wp_some]
    have ll : x.cps.toList.length = x.length := by simp [Str.length]
    refine ⟨by simp only [List.length_map]; omega, ?_⟩
    have hA : allW [.ref s.sz] (push s (.lst ((x.cps.toList.map fun c => LETS.cps.toList.any fun d => Nat.beq d c).map .bl))) = some (.bl (nameB x), push s (.lst ((x.cps.toList.map fun c => LETS.cps.toList.any fun d => Nat.beq d c).map .bl))) := by
      show ((lstOf (.ref s.sz) _).ob fun xs => (boolsOf xs).om fun bs => (Mv.bl (bs.all id), _)) = _
      have : lstOf (.ref s.sz) (push s (.lst ((x.cps.toList.map fun c => LETS.cps.toList.any fun d => Nat.beq d c).map .bl))) = some ((x.cps.toList.map fun c => LETS.cps.toList.any fun d => Nat.beq d c).map .bl) := items_ref Ms.get_push
      rw [this, ob_of, bools_of, om_of]
      unfold nameB
      rw [decide_eq_true hc.1, decide_eq_true hc.2, List.all_map]
      rfl
    exact ⟨_, hA, _, rfl, rfl, Ex0.push⟩
  · have hn : nameB x = false := by
      unfold nameB
      by_cases h0 : 0 < x.length
      · rw [decide_eq_false (p := x.length ≤ 8) (by omega)]; simp
      · rw [decide_eq_false (p := 0 < x.length) h0]; simp
    unfold sseq
    by_cases h0 : 0 < x.length
    · have c1 : iLt 0 (x.length : Int) = true := by rw [iLt_eq]; exact decide_eq_true (by omega)
      have c2 : iLt 8 (x.length : Int) = true := by rw [iLt_eq]; exact decide_eq_true (by omega)
      simp only [wp_ob, wp_om, wp_some, wp_mvar, sset, sexp, sret, sif, spar, spar3, snx, mtB, mtst, mop1, mop2, mcall, mcons, mnil, mcon, mif, mtup, mlst, mand, mor, mnot, mandV, morV, mnotV, lset_eq, List.getElem?_cons_zero, List.getElem?_cons_succ, List.set_cons_zero, List.set_cons_succ, cond_true, cond_false, isiW, tyOf, isaT, decide_true, Bool.true_or, tru, Bool.not_true, mchain, hL, ltW, leW, cmpI, c1, c2, Bool.not_false]
      exact ⟨_, rfl, by rw [hn], Ex0.refl⟩
    · have c1 : iLt 0 (x.length : Int) = false := by rw [iLt_eq]; exact decide_eq_false (by omega)
      simp only [wp_ob, wp_om, wp_some, wp_mvar, sset, sexp, sret, sif, spar, spar3, snx, mtB, mtst, mop1, mop2, mcall, mcons, mnil, mcon, mif, mtup, mlst, mand, mor, mnot, mandV, morV, mnotV, lset_eq, List.getElem?_cons_zero, List.getElem?_cons_succ, List.set_cons_zero, List.set_cons_succ, cond_true, cond_false, isiW, tyOf, isaT, decide_true, Bool.true_or, tru, Bool.not_true, mchain, hL, ltW, leW, cmpI, c1, Bool.not_false]
      exact ⟨_, rfl, by rw [hn], Ex0.refl⟩
/-! ### which preloads are shown -/
theorem wp_methO {c : Nat} {f : Fn} {O : Fe} {A : Fa} {r : Me} {s : Ms} {Q : Mv × Ms → Prop} (h : Wp (O r s) fun y => ∃ n fs, y.1 = .ref n ∧ y.2.get n = some (.ins c fs) ∧ Wp (A r y.2) fun z => Wp (f (.ref n :: z.1) z.2) Q) : Wp (mmeth c f O A r s) Q := by
  unfold mmeth
  rw [wp_ob]
  refine h.mono fun y hy => ?_
  obtain ⟨v, s1⟩ := y
  obtain ⟨n, fs, e, g, h2⟩ := hy
  simp only at e g h2
  subst e
  simp only [g]
  rw [beq_t, cond_true, wp_ob]
  exact h2
theorem dd_nd {xs : List Str} (nd : xs.Nodup) : ddF xs = xs := by
  rw [ddF_eq]
  exact fold_nd nd
def nmOk (x : Str) : Prop := nameB x = true ∧ x.length ≤ 1000
theorem pool2_nm : ∀ y ∈ x_main :: POOL2, nmOk y := by
  unfold nmOk
  decide +kernel
section
variable {P : Plot} {s s' : Ms} {N : Nat}
theorem are_names_sp {E : List Str} (hn : ∀ x ∈ E, nmOk x) (nd : E.Nodup) (hl : E.length ≤ 1000) : Wp (m_are_names [.tup (strV E)] s) fun z => z.1 = .bl true ∧ Ex0 s z.2 := by
  refine wp_fn [some (.tup (strV E)), none] rfl rfl ?_
  unfold bd_are_names
  have ty : tyOf (.tup (strV E)) s = some .tuple := rfl
  have hA : Wp ((mlc (miS (mvar 0)) (.nm 1) (myes) (mcall m_is_name (mcons (mvar 1) (mnil))) [1]) [some (.tup (strV E)), none] s) fun x => Wp (allW [x.1] x.2) fun z => z.1 = .bl true ∧ Ex0 s z.2 := by
    refine (wp_lcf (L := []) (J := fun _ => True) E Mv.str (fun x => [some (.tup (strV E)), some (.str x)]) (fun _ => true) (fun _ => .bl true) (by omega) (gives_at (L := []) (J := fun _ => True) (v := .tup (strV E)) (s1 := s) rfl trivial ExtL.refl fun _ _ _ => rfl) (fun k _ => rfl) (fun k hk s' j x' => ⟨_, rfl, rfl, j, ExtL.refl⟩) (fun x hx _ s' _ x' => ?_)).mono ?_
    · simp only [wp_ob, wp_om, wp_some, wp_mvar, sset, sexp, sret, sif, spar, spar3, snx, mtB, mtst, mop1, mop2, mcall, mcons, mnil, mcon, mif, mtup, mlst, mand, mor, mnot, mandV, morV, mnotV, lset_eq, List.getElem?_cons_zero, List.getElem?_cons_succ, List.set_cons_zero, List.set_cons_succ, cond_true, cond_false]
      refine (is_name_str (hn x hx).2).mono fun z hz => ?_
      rw [(hn x hx).1] at hz
      exact ⟨hz.1, trivial, hz.2.extL⟩
    rintro ⟨u, t2⟩ ⟨s2, e, _, x2⟩
    cases e
    rw [List.filter_eq_self.mpr fun _ _ => rfl]
    have eb : E.map (fun _ => Mv.bl true) = (E.map fun _ => true).map Mv.bl := by rw [List.map_map]; rfl
    dsimp only
    rw [eb, all_bls Ms.get_push, wp_some]
    refine ⟨?_, (ex_of x2).trans Ex0.push⟩
    rw [List.all_map]
    have : (id ∘ fun _ : Str => true) = fun _ => true := rfl
    rw [this, List.all_eq_true.mpr fun _ _ => rfl]
  refine wp_seq (wp_siff (wp_orf ?_))
  simp only [wp_ob, wp_om, wp_some, wp_mvar, sset, sexp, sret, sif, spar, spar3, snx, mtB, mtst, mop1, mop2, mcall, mcons, mnil, mcon, mif, mtup, mlst, mand, mor, mnot, mandV, morV, mnotV, lset_eq, List.getElem?_cons_zero, List.getElem?_cons_succ, List.set_cons_zero, List.set_cons_succ, cond_true, cond_false, isiW, ty, isaT, decide_true, Bool.true_or, tru, Bool.not_true]
  refine ⟨trivial, ?_⟩
  refine hA.mono fun z hz => hz.mono fun z hz => ?_
  obtain ⟨u, s2⟩ := z
  obtain ⟨e, x2⟩ := hz
  simp only at e x2
  subst e
  refine ⟨true, rfl, rfl, trivial, ?_⟩
  have hl2 : (mlenS (mvar 0)) [some (.tup (strV E)), none] s2 = some (.int (E.length : Nat), s2) := by
    show ((strsOf (strV E)).ob fun ys => cond (Nat.ble (llen ys) 1000) (some (Mv.int ((ddF ys).length : Nat), s2)) none) = _
    rw [strs_of, ob_of, llen_eq, Nat.ble_eq_true_of_le hl, dd_nd nd]; rfl
  simp only [wp_ob, wp_om, wp_some, wp_mvar, sset, sexp, sret, sif, spar, spar3, snx, mtB, mtst, mop1, mop2, mcall, mcons, mnil, mcon, mif, mtup, mlst, mand, mor, mnot, mandV, morV, mnotV, lset_eq, List.getElem?_cons_zero, List.getElem?_cons_succ, List.set_cons_zero, List.set_cons_succ, cond_true, cond_false, hl2, lenT, strV_len, eq_int, decide_true]
  exact ⟨_, rfl, rfl, x2⟩
theorem is_preload_sp (w : PlotW P) {E : List Str} (hE : ∀ x ∈ E, x ∈ othersF P) (hn : ∀ x ∈ E, nmOk x) (nd : E.Nodup) (hl : E.length ≤ 1000) : Wp (m_is_preload [P.mv, .tup (strV E)] s) fun z => z.1 = .bl true ∧ Ex0 s z.2 := by
  refine wp_fn [some P.mv, some (.tup (strV E)), none] rfl rfl ?_
  unfold bd_is_preload
  simp only [sret, wp_om, mandV, wp_ob, mcall, mcons, mnil, wp_mvar, List.getElem?_cons_zero, List.getElem?_cons_succ, wp_some]
  refine (are_names_sp hn nd hl).mono fun z hz => ?_
  obtain ⟨u, s1⟩ := z
  obtain ⟨e, x1⟩ := hz
  simp only at e x1
  subst e
  simp only [wp_ob, wp_om, wp_some]
  refine (wp_lcf (L := []) (J := fun _ => True) E Mv.str (fun x => [some P.mv, some (.tup (strV E)), some (.str x)]) (fun _ => true) (fun _ => .bl true) (by omega) (gives_at (L := []) (J := fun _ => True) (v := .tup (strV E)) (s1 := s1) rfl trivial ExtL.refl fun _ _ _ => rfl) (fun k _ => rfl) (fun k hk s' j x' => ⟨_, rfl, rfl, j, ExtL.refl⟩) (fun x hx _ s' _ x' => ?_)).mono ?_
  · simp only [wp_ob, wp_om, wp_some, wp_mvar, sset, sexp, sret, sif, spar, spar3, snx, mtB, mtst, mop1, mop2, mcall, mcons, mnil, mcon, mif, mtup, mlst, mand, mor, mnot, mandV, morV, mnotV, lset_eq, List.getElem?_cons_zero, List.getElem?_cons_succ, List.set_cons_zero, List.set_cons_succ, cond_true, cond_false]
    refine (others_of_sp w).mono fun z hz => ?_
    obtain ⟨u, s2⟩ := z
    obtain ⟨n, e, n1, n2, gn, x2⟩ := hz
    simp only at e n1 n2 gn x2
    subst e
    rw [in_lst gn, wp_some]
    exact ⟨by rw [decide_eq_true (hE x hx)], trivial, x2.extL⟩
  rintro ⟨u, t2⟩ ⟨s2, e, _, x2⟩
  cases e
  rw [List.filter_eq_self.mpr fun _ _ => rfl]
  have eb : E.map (fun _ => Mv.bl true) = (E.map fun _ => true).map Mv.bl := by rw [List.map_map]; rfl
  dsimp only
  rw [eb, all_bls Ms.get_push, wp_some]
  refine ⟨_, rfl, ?_, (x1.trans (ex_of x2)).trans Ex0.push⟩
  rw [List.all_map]
  have : (id ∘ fun _ : Str => true) = fun _ => true := rfl
  rw [this, List.all_eq_true.mpr fun _ _ => rfl]
/-! what a program gives as it is -/
end

end
section
/-! ### what is no preload -/
noncomputable def nbV : Mv → Bool
  | .str x => nameB x
  | _ => false
section
variable {P : Plot} {s : Ms}
theorem isi_no {w : Mv} {t c : Mty} (h : tyOf w s = some t) (ht : isaT t c = false) : isiW [w, .ty c] s = some (.bl false, s) := by
  show (tyOf w s).om _ = _
  rw [h]
  show some (Mv.bl (isaT t c), s) = _
  rw [ht]
theorem is_name_no {w : Mv} {t : Mty} (h : tyOf w s = some t) (ht : isaT t .str = false) : Wp (m_is_name [w] s) fun y => y.1 = .bl false ∧ Ex0 s y.2 := by
  refine wp_fn [some w, none] rfl rfl ?_
  unfold bd_is_name
  refine wp_seq_rt (wp_sift (wp_ort ?_))
  simp only [wp_ob, wp_om, wp_some, wp_mvar, sset, sexp, sret, sif, spar, spar3, snx, mtB, mtst, mop1, mop2, mcall, mcons, mnil, mcon, mif, mtup, mlst, mand, mor, mnot, mandV, morV, mnotV, lset_eq, List.getElem?_cons_zero, List.getElem?_cons_succ, List.set_cons_zero, List.set_cons_succ, cond_true, cond_false, isi_no h ht, tru, Bool.not_false]
  exact ⟨trivial, trivial, _, rfl, _, rfl, rfl, Ex0.refl⟩
theorem are_names_ty {v : Mv} {t : Mty} (h : tyOf v s = some t) (ht : isaT t .tuple = false) : Wp (m_are_names [v] s) fun z => z.1 = .bl false ∧ Ex0 s z.2 := by
  refine wp_fn [some v, none] rfl rfl ?_
  unfold bd_are_names
  refine wp_seq_rt (wp_sift (wp_ort ?_))
  simp only [wp_ob, wp_om, wp_some, wp_mvar, sset, sexp, sret, sif, spar, spar3, snx, mtB, mtst, mop1, mop2, mcall, mcons, mnil, mcon, mif, mtup, mlst, mand, mor, mnot, mandV, morV, mnotV, lset_eq, List.getElem?_cons_zero, List.getElem?_cons_succ, List.set_cons_zero, List.set_cons_succ, cond_true, cond_false, isi_no h ht, tru, Bool.not_false]
  exact ⟨trivial, trivial, _, rfl, _, rfl, rfl, Ex0.refl⟩
theorem are_names_all {ws : List Mv} (hw : ∀ w ∈ ws, ∀ s', Ex0 s s' → Wp (m_is_name [w] s') fun z => z.1 = .bl (nbV w) ∧ Ex0 s' z.2) (hl : ws.length ≤ 1000) : Wp ((mlc (miS (mvar 0)) (.nm 1) (myes) (mcall m_is_name (mcons (mvar 1) (mnil))) [1]) [some (.tup ws), none] s) fun x => Wp (allW [x.1] x.2) fun z => z.1 = .bl (ws.all nbV) ∧ Ex0 s z.2 := by
  refine (wp_lcf (L := []) (J := fun _ => True) ws id (fun x => [some (.tup ws), some x]) (fun _ => true) (fun x => .bl (nbV x)) (by omega) (gives_at (L := []) (J := fun _ => True) (v := .tup ws) (s1 := s) rfl trivial ExtL.refl fun _ _ _ => (by rw [List.map_id]; rfl)) (fun k _ => rfl) (fun k hk s' j x' => ⟨_, rfl, rfl, j, ExtL.refl⟩) (fun x hx _ s' _ x' => ?_)).mono ?_
  · simp only [wp_ob, wp_om, wp_some, wp_mvar, sset, sexp, sret, sif, spar, spar3, snx, mtB, mtst, mop1, mop2, mcall, mcons, mnil, mcon, mif, mtup, mlst, mand, mor, mnot, mandV, morV, mnotV, lset_eq, List.getElem?_cons_zero, List.getElem?_cons_succ, List.set_cons_zero, List.set_cons_succ, cond_true, cond_false]
    refine (hw x hx s' (ex_of x')).mono fun z hz => ?_
    exact ⟨hz.1, trivial, hz.2.extL⟩
  rintro ⟨u, t2⟩ ⟨s2, e, _, x2⟩
  cases e
  rw [List.filter_eq_self.mpr fun _ _ => rfl]
  have eb : ws.map (fun x => Mv.bl (nbV x)) = (ws.map nbV).map Mv.bl := by rw [List.map_map]; rfl
  dsimp only
  rw [eb, all_bls Ms.get_push, wp_some]
  refine ⟨?_, (ex_of x2).trans Ex0.push⟩
  rw [List.all_map]
  rfl
theorem are_names_no {ws : List Mv} (hw : ∀ w ∈ ws, ∀ s', Ex0 s s' → Wp (m_is_name [w] s') fun z => z.1 = .bl (nbV w) ∧ Ex0 s' z.2) (hl : ws.length ≤ 1000) (hb : ws.all nbV = false) : Wp (m_are_names [.tup ws] s) fun z => z.1 = .bl false ∧ Ex0 s z.2 := by
  refine wp_fn [some (.tup ws), none] rfl rfl ?_
  unfold bd_are_names
  have ty : tyOf (.tup ws) s = some .tuple := rfl
  have hA := are_names_all hw hl
  refine wp_seq_rt (wp_sift (wp_orf ?_))
  simp only [wp_ob, wp_om, wp_some, wp_mvar, sset, sexp, sret, sif, spar, spar3, snx, mtB, mtst, mop1, mop2, mcall, mcons, mnil, mcon, mif, mtup, mlst, mand, mor, mnot, mandV, morV, mnotV, lset_eq, List.getElem?_cons_zero, List.getElem?_cons_succ, List.set_cons_zero, List.set_cons_succ, cond_true, cond_false, isiW, ty, isaT, decide_true, Bool.true_or, tru, Bool.not_true]
  refine ⟨trivial, ?_⟩
  refine hA.mono fun z hz => hz.mono fun z hz => ?_
  obtain ⟨u, s2⟩ := z
  obtain ⟨e, x2⟩ := hz
  simp only at e x2
  subst e
  rw [hb]
  exact ⟨false, rfl, rfl, _, rfl, _, rfl, rfl, x2⟩
theorem is_name_E {E : List Str} (hn : ∀ x ∈ E, nmOk x) : ∀ w ∈ strV E, ∀ s', Ex0 s s' → Wp (m_is_name [w] s') fun z => z.1 = .bl (nbV w) ∧ Ex0 s' z.2 := by
  intro w hw s' _
  obtain ⟨x, hx, rfl⟩ := List.mem_map.mp hw
  exact is_name_str (hn x hx).2
theorem are_names_D {E : List Str} (hn : ∀ x ∈ E, nmOk x) (hl : E.length ≤ 1000) : Wp (m_are_names [.tup (strV E)] s) fun z => z.1 = .bl (decide ((ddF E).length = E.length)) ∧ Ex0 s z.2 := by
  refine wp_fn [some (.tup (strV E)), none] rfl rfl ?_
  unfold bd_are_names
  have ty : tyOf (.tup (strV E)) s = some .tuple := rfl
  have hA := are_names_all (s := s) (is_name_E hn) (by rw [strV_len]; exact hl)
  have hb : (strV E).all nbV = true := List.all_eq_true.mpr fun w hw => by
    obtain ⟨x, hx, rfl⟩ := List.mem_map.mp hw
    exact (hn x hx).1
  refine wp_seq (wp_siff (wp_orf ?_))
  simp only [wp_ob, wp_om, wp_some, wp_mvar, sset, sexp, sret, sif, spar, spar3, snx, mtB, mtst, mop1, mop2, mcall, mcons, mnil, mcon, mif, mtup, mlst, mand, mor, mnot, mandV, morV, mnotV, lset_eq, List.getElem?_cons_zero, List.getElem?_cons_succ, List.set_cons_zero, List.set_cons_succ, cond_true, cond_false, isiW, ty, isaT, decide_true, Bool.true_or, tru, Bool.not_true]
  refine ⟨trivial, ?_⟩
  refine hA.mono fun z hz => hz.mono fun z hz => ?_
  obtain ⟨u, s2⟩ := z
  obtain ⟨e, x2⟩ := hz
  simp only at e x2
  subst e
  rw [hb]
  refine ⟨true, rfl, rfl, trivial, ?_⟩
  have hl2 : (mlenS (mvar 0)) [some (.tup (strV E)), none] s2 = some (.int ((ddF E).length : Nat), s2) := by
    show ((strsOf (strV E)).ob fun ys => cond (Nat.ble (llen ys) 1000) (some (Mv.int ((ddF ys).length : Nat), s2)) none) = _
    rw [strs_of, ob_of, llen_eq, Nat.ble_eq_true_of_le hl]; rfl
  simp only [wp_ob, wp_om, wp_some, wp_mvar, sset, sexp, sret, sif, spar, spar3, snx, mtB, mtst, mop1, mop2, mcall, mcons, mnil, mcon, mif, mtup, mlst, mand, mor, mnot, mandV, morV, mnotV, lset_eq, List.getElem?_cons_zero, List.getElem?_cons_succ, List.set_cons_zero, List.set_cons_succ, cond_true, cond_false, hl2, lenT, strV_len, eq_int]
  refine ⟨_, rfl, ?_, x2⟩
  congr 1
  by_cases h : (ddF E).length = E.length
  · rw [decide_eq_true h, decide_eq_true (by omega)]
  · rw [decide_eq_false h, decide_eq_false (by omega)]
theorem is_preload_no {v : Mv} (h : Wp (m_are_names [v] s) fun z => z.1 = .bl false ∧ Ex0 s z.2) : Wp (m_is_preload [P.mv, v] s) fun z => z.1 = .bl false ∧ Ex0 s z.2 := by
  refine wp_fn [some P.mv, some v, none] rfl rfl ?_
  unfold bd_is_preload
  simp only [sret, wp_om, mandV, wp_ob, mcall, mcons, mnil, wp_mvar, List.getElem?_cons_zero, List.getElem?_cons_succ, wp_some]
  refine h.mono fun z hz => ?_
  obtain ⟨u, s1⟩ := z
  obtain ⟨e, x1⟩ := hz
  simp only at e x1
  subst e
  exact ⟨_, rfl, _, rfl, rfl, x1⟩
theorem is_preload_D (w : PlotW P) {E : List Str} (hn : ∀ x ∈ E, nmOk x) (hl : E.length ≤ 1000) (hb : (decide ((ddF E).length = E.length) && E.all fun x => decide (x ∈ othersF P)) = false) : Wp (m_is_preload [P.mv, .tup (strV E)] s) fun z => z.1 = .bl false ∧ Ex0 s z.2 := by
  by_cases hd : (ddF E).length = E.length
  · rw [decide_eq_true hd, Bool.true_and] at hb
    refine wp_fn [some P.mv, some (.tup (strV E)), none] rfl rfl ?_
    unfold bd_is_preload
    simp only [sret, wp_om, mandV, wp_ob, mcall, mcons, mnil, wp_mvar, List.getElem?_cons_zero, List.getElem?_cons_succ, wp_some]
    refine (are_names_D hn hl).mono fun z hz => ?_
    obtain ⟨u, s1⟩ := z
    obtain ⟨e, x1⟩ := hz
    rw [decide_eq_true hd] at e
    simp only at e x1
    subst e
    simp only [wp_ob, wp_om, wp_some]
    refine (wp_lcf (L := []) (J := fun _ => True) E Mv.str (fun x => [some P.mv, some (.tup (strV E)), some (.str x)]) (fun _ => true) (fun x => .bl (decide (x ∈ othersF P))) (by omega) (gives_at (L := []) (J := fun _ => True) (v := .tup (strV E)) (s1 := s1) rfl trivial ExtL.refl fun _ _ _ => rfl) (fun k _ => rfl) (fun k hk s' j x' => ⟨_, rfl, rfl, j, ExtL.refl⟩) (fun x hx _ s' _ x' => ?_)).mono ?_
    · simp only [wp_ob, wp_om, wp_some, wp_mvar, sset, sexp, sret, sif, spar, spar3, snx, mtB, mtst, mop1, mop2, mcall, mcons, mnil, mcon, mif, mtup, mlst, mand, mor, mnot, mandV, morV, mnotV, lset_eq, List.getElem?_cons_zero, List.getElem?_cons_succ, List.set_cons_zero, List.set_cons_succ, cond_true, cond_false]
      refine (others_of_sp w).mono fun z hz => ?_
      obtain ⟨u, s2⟩ := z
      obtain ⟨n, e, n1, n2, gn, x2⟩ := hz
      simp only at e n1 n2 gn x2
      subst e
      rw [in_lst gn, wp_some]
      exact ⟨rfl, trivial, x2.extL⟩
    rintro ⟨u, t2⟩ ⟨s2, e, _, x2⟩
    cases e
    rw [List.filter_eq_self.mpr fun _ _ => rfl]
    have eb : E.map (fun x => Mv.bl (decide (x ∈ othersF P))) = (E.map fun x => decide (x ∈ othersF P)).map Mv.bl := by rw [List.map_map]; rfl
    dsimp only
    rw [eb, all_bls Ms.get_push, wp_some]
    refine ⟨_, rfl, ?_, (x1.trans (ex_of x2)).trans Ex0.push⟩
    rw [List.all_map]
    show Mv.bl (E.all fun x => decide (x ∈ othersF P)) = _
    rw [hb]
  · refine is_preload_no ((are_names_D hn hl).mono fun z hz => ?_)
    rw [decide_eq_false hd] at hz
    exact hz
theorem shows_no (w : PlotW P) (pu : Pu 7 P.mv) {v0 v1 v : Mv} (h0 : Rd s P.mv v0) (h1 : Rd s (.tup []) v1) (h : ∀ s', Ex0 s s' → Wp (m_is_preload [P.mv, v] s') fun z => z.1 = .bl false ∧ Ex0 s' z.2) : Wp (m_shows_preload [v0, v1, v] s) fun z => z.1 = .bl false ∧ Ex0 s z.2 := by
  refine wp_fn [some v0, some v1, some v] rfl rfl ?_
  unfold bd_shows_preload
  refine wp_seq ?_
  unfold sasg
  simp only [wp_ob, wp_om, wp_some, wp_mvar, sset, sexp, sret, sif, spar, spar3, snx, mtB, mtst, mop1, mop2, mcall, mcons, mnil, mcon, mif, mtup, mlst, mand, mor, mnot, mandV, morV, mnotV, lset_eq, List.getElem?_cons_zero, List.getElem?_cons_succ, List.set_cons_zero, List.set_cons_succ, cond_true, cond_false]
  refine (looked_sp (C := []) w pu h0 h1 (fun c hc => by cases hc) (by simp)).mono fun z hz => ?_
  obtain ⟨u, s1⟩ := z
  obtain ⟨e, x1⟩ := hz
  simp only at e x1
  subst e
  refine ⟨[some P.mv, some (.tup []), some v], rfl, trivial, ?_⟩
  simp only [sret, wp_om, mandV, wp_ob, mcall, mcons, mnil, wp_mvar, List.getElem?_cons_zero, List.getElem?_cons_succ, wp_some]
  refine (h s1 x1).mono fun z hz => ?_
  obtain ⟨u, s2⟩ := z
  obtain ⟨e, x2⟩ := hz
  simp only at e x2
  subst e
  exact ⟨_, rfl, _, rfl, rfl, x1.trans x2⟩
theorem trial70 {r : Me} {A : Fa} (hA : A r s = some ([P.mv], s)) : Wp (mmake 0 m_Trial___init__ A r s) fun z => ∃ t fs, z.1 = .ref t ∧ s.sz ≤ t ∧ z.2.get t = some (.ins 0 fs) ∧ Ex0 s z.2 := by
  refine wp_make ?_
  rw [hA, wp_some]
  refine wp_proc [some (.ref s.sz), some P.mv] rfl rfl ?_
  unfold bd_Trial___init__
  refine wp_seq (wp_fldset ?_)
  simp only [wp_ob, wp_om, wp_some, wp_mvar, sset, sexp, sret, sif, spar, spar3, snx, mtB, mtst, mop1, mop2, mcall, mcons, mnil, mcon, mif, mtup, mlst, mand, mor, mnot, mandV, morV, mnotV, lset_eq, List.getElem?_cons_zero, List.getElem?_cons_succ, List.set_cons_zero, List.set_cons_succ, cond_true, cond_false]
  refine ⟨s.sz, [], rfl, Ms.get_push, by simp, trivial, wp_fldset ?_⟩
  have hdn : mdn [some (.ref s.sz), some P.mv] ((push s (.ins 0 [])).put s.sz (.ins 0 (putM 0 P.mv []))) = some (.ref ((push s (.ins 0 [])).put s.sz (.ins 0 (putM 0 P.mv []))).sz, push ((push s (.ins 0 [])).put s.sz (.ins 0 (putM 0 P.mv []))) (.dk [])) := rfl
  rw [hdn, wp_some]
  have ez : ((push s (.ins 0 [])).put s.sz (.ins 0 (putM 0 P.mv []))).sz = s.sz + 1 := rfl
  have x1 : Ex0 s ((push s (.ins 0 [])).put s.sz (.ins 0 (putM 0 P.mv []))) := Ex0.push.put (Nat.le_refl _)
  have g1 : ((push s (.ins 0 [])).put s.sz (.ins 0 (putM 0 P.mv []))).get s.sz = some (.ins 0 [(0, P.mv)]) := put_get_eq
  generalize (push s (.ins 0 [])).put s.sz (.ins 0 (putM 0 P.mv [])) = s1 at ez x1 g1 ⊢
  exact ⟨s.sz, [(0, P.mv)], rfl, Ex0.push.at (by omega) g1, by simp, by trivial, by trivial, s.sz, _, rfl, Nat.le_refl _, put_get_eq, (x1.trans Ex0.push).put (Nat.le_refl _)⟩
theorem shows_yes (w : PlotW P) (pu : Pu 7 P.mv) {v0 v1 : Mv} (h0 : Rd s P.mv v0) (h1 : Rd s (.tup []) v1) {E : List Str} (hE : ∀ x ∈ E, x ∈ othersF P) (hn : ∀ x ∈ E, nmOk x) (nd : E.Nodup) (hl : E.length ≤ 1000) : Wp (m_shows_preload [v0, v1, .tup (strV E)] s) fun z => z.1 = .bl true ∧ Ex0 s z.2 := by
  refine wp_fn [some v0, some v1, some (.tup (strV E))] rfl rfl ?_
  unfold bd_shows_preload
  refine wp_seq ?_
  unfold sasg
  simp only [wp_ob, wp_om, wp_some, wp_mvar, sset, sexp, sret, sif, spar, spar3, snx, mtB, mtst, mop1, mop2, mcall, mcons, mnil, mcon, mif, mtup, mlst, mand, mor, mnot, mandV, morV, mnotV, lset_eq, List.getElem?_cons_zero, List.getElem?_cons_succ, List.set_cons_zero, List.set_cons_succ, cond_true, cond_false]
  refine (looked_sp (C := []) w pu h0 h1 (fun c hc => by cases hc) (by simp)).mono fun z hz => ?_
  obtain ⟨u, s1⟩ := z
  obtain ⟨e, x1⟩ := hz
  simp only at e x1
  subst e
  refine ⟨[some P.mv, some (.tup []), some (.tup (strV E))], rfl, trivial, ?_⟩
  simp only [sret, wp_om, mandV, wp_ob, mcall, mcons, mnil, wp_mvar, List.getElem?_cons_zero, List.getElem?_cons_succ, wp_some]
  refine (is_preload_sp w hE hn nd hl).mono fun z hz => ?_
  obtain ⟨u, s2⟩ := z
  obtain ⟨e, x2⟩ := hz
  simp only at e x2
  subst e
  simp only
  refine wp_methO ?_
  refine (trial70 rfl).mono fun z hz => ?_
  obtain ⟨u, s3⟩ := z
  obtain ⟨t, fs, e, t1, g3, x3⟩ := hz
  simp only at e g3 x3
  subst e
  refine ⟨t, fs, rfl, g3, ?_⟩
  simp only [wp_ob, wp_om, wp_some, wp_mvar, sset, sexp, sret, sif, spar, spar3, snx, mtB, mtst, mop1, mop2, mcall, mcons, mnil, mcon, mif, mtup, mlst, mand, mor, mnot, mandV, morV, mnotV, lset_eq, List.getElem?_cons_zero, List.getElem?_cons_succ, List.set_cons_zero, List.set_cons_succ, cond_true, cond_false]
  refine wp_fn [some (.ref t), some (.tup (strV E)), some (.tup []), none] rfl rfl ?_
  unfold bd_Trial_gives_all
  have hc : (mlc (miS (mvar 2)) (.nm 3) (myes) (mno) [3]) [some (.ref t), some (.tup (strV E)), some (.tup []), none] s3 = some (.ref s3.sz, push s3 (.lst [])) := rfl
  have ha : allW [.ref s3.sz] (push s3 (.lst [])) = some (.bl true, push s3 (.lst [])) := all_bls (bs := []) Ms.get_push
  simp only [wp_ob, wp_om, wp_some, wp_mvar, sset, sexp, sret, sif, spar, spar3, snx, mtB, mtst, mop1, mop2, mcall, mcons, mnil, mcon, mif, mtup, mlst, mand, mor, mnot, mandV, morV, mnotV, lset_eq, List.getElem?_cons_zero, List.getElem?_cons_succ, List.set_cons_zero, List.set_cons_succ, cond_true, cond_false, hc, ha]
  exact ⟨_, rfl, _, rfl, rfl, ((x1.trans x2).trans x3).trans Ex0.push⟩
end

end
section
theorem wp_fnV {np nl : Nat} {F : Fe} {ws : List Mv} {s : Ms} {Q : Mv × Ms → Prop} (r : Me) (hl : ws.length = np) (hr : lsome (nl - np) ws = r) (h : Wp (F r s) Q) : Wp (fnV np nl F ws s) Q := by
  subst hl hr
  unfold fnV
  rw [Nat.beq_refl, cond_true]
  exact h
theorem wp_vseq {A : Fs} {F : Fe} {r : Me} {s : Ms} {Q : Mv × Ms → Prop} (h : Wp (A r s) fun x => x.1 = .nx ∧ Wp (F x.2.1 x.2.2) Q) : Wp (vseq A F r s) Q := by
  obtain ⟨⟨fl, r1, s1⟩, e, e1, h2⟩ := h
  simp only at e1 h2
  subst e1
  unfold vseq
  rw [e, ob_of]
  exact h2
theorem wp_vif {T : Ft} {F : Fe} {r : Me} {s : Ms} {Q : Mv × Ms → Prop} (h : Wp (T r s) fun x => x.1 = true ∧ Wp (F r x.2) Q) : Wp (vif T F r s) Q := by
  obtain ⟨⟨b, s1⟩, e, e1, h2⟩ := h
  simp only at e1 h2
  subst e1
  unfold vif
  rw [e, ob_of]
  exact h2
/-! ### lists in the place of tuples: they stay -/
def Soft (s0 : Ms) (lo : Nat) (w v : Mv) : Prop := ∀ s', s0.sz ≤ s'.sz → (∀ n, lo ≤ n → n < s0.sz → s'.get n = s0.get n) → Rd s' w v
theorem Soft.at {s0 s' : Ms} {lo b : Nat} {w v : Mv} (h : Soft s0 lo w v) (x : Ext b s0 s') (hb : b < lo) : Rd s' w v := h s' x.sz fun n n1 n2 => x.get n n2 (by omega)

end
section
/-! ### a row that is refused -/
theorem wp_vfor {I : Fi} {T : Tg} {B : Fs} {F : Fe} {r : Me} {s : Ms} {Q : Mv × Ms → Prop} (h : Wp (I r s) fun x => Wp (mloopV x.1 T B F 1000000000 0 r x.2) Q) : Wp (vfor I T B F r s) Q := by
  unfold vfor
  rw [wp_ob]; exact h
theorem wp_loopV {it : It0} {T : Tg} {B : Fs} {F : Fe} {Q : Mv × Ms → Prop} (ws : List Mv) (k : Nat) (I : Nat → Me → Ms → Prop) (hk : k < ws.length) (ha : ∀ i r s, i ≤ k → I i r s → Gives it ws s)
    (hs : ∀ i w r s, i < k → ws[i]? = some w → I i r s → ∃ r1, T.asg w r = some r1 ∧ Wp (B r1 s) fun x => x.1 = .nx ∧ I (i + 1) x.2.1 x.2.2)
    (he : ∀ w r s, ws[k]? = some w → I k r s → ∃ r1, T.asg w r = some r1 ∧ B r1 s = none ∧ Wp (F r1 s) Q) : ∀ (m i : Nat) (r : Me) (s : Ms), k < m + i → i ≤ k → I i r s → Wp (mloopV it T B F m i r s) Q
  | 0, i, r, s, hm, hi, _ => by omega
  | m + 1, i, r, s, hm, hi, h => by
    rw [mloopV_succ, ha i r s hi h i]
    have e : ws[i]? = some (ws[i]'(by omega)) := List.getElem?_eq_getElem (by omega)
    rw [e]
    show Wp ((T.asg _ r).ob _) _
    by_cases hik : i = k
    · subst hik
      obtain ⟨r1, e1, e2, e3⟩ := he _ r s e h
      rw [e1, ob_of, e2]
      exact e3
    · obtain ⟨r1, e1, x, e2, e3, e4⟩ := hs i _ r s (by omega) e h
      obtain ⟨fl, r2, s2⟩ := x
      simp only at e3
      subst e3
      rw [e1, ob_of, e2]
      exact wp_loopV ws k I hk ha hs he m (i + 1) r2 s2 (by omega) (by omega) e4
theorem lib_at_none {P : Plot} {x : Str} {s : Ms} (hl : P.libs.length ≤ 1000) (h : P.lib? x = none) : m_lib_at [P.mv, .str x] s = none := by
  obtain ⟨⟨w, s1⟩, e, x1, e2⟩ := lib_of_eq (s := s) (nm := x) hl
  have e3 : libV P x = .non := by unfold libV; rw [h]
  simp only [e3] at e2
  subst e2
  have hi : isW false .non .non s1 = some (.bl true, s1) := rfl
  unfold m_lib_at fnM bd_lib_at
  simp only [lsome_eq, sseq, sset, mcall, mcons, mnil, mvar, lget_eq, lset_eq]
  simp [e, hi, sif, mtB, mop2, mvar, mcon, sno, lget_eq, Option.ob, Option.om]
theorem ob_none {α β : Type} {o : Option α} {f : α → Option β} (h : Wp o fun x => f x = none) : o.ob f = none := by
  obtain ⟨x, e, q⟩ := h
  rw [e, ob_of]; exact q
theorem vseq_none {A : Fs} {F : Fe} {r : Me} {s : Ms} (h : Wp (A r s) fun x => x.1 = .nx ∧ F x.2.1 x.2.2 = none) : vseq A F r s = none := by
  obtain ⟨⟨fl, r1, s1⟩, e, e1, q⟩ := h
  simp only at e1
  subst e1
  unfold vseq
  rw [e, ob_of]
  exact q
theorem vif_none {T : Ft} {F : Fe} {r : Me} {s : Ms} (h : Wp (T r s) fun x => x.1 = false) : vif T F r s = none := by
  obtain ⟨⟨b, s1⟩, e, e1⟩ := h
  simp only at e1
  subst e1
  unfold vif
  rw [e]; rfl
theorem fnV_none {np nl : Nat} {F : Fe} {ws : List Mv} {s : Ms} (r : Me) (hl : ws.length = np) (hr : lsome (nl - np) ws = r) (h : F r s = none) : fnV np nl F ws s = none := by
  unfold fnV
  rw [hl, hr, h]
  cases Nat.beq np np <;> rfl
theorem vfor_none {I : Fi} {T : Tg} {B : Fs} {F : Fe} {r : Me} {s : Ms} (h : Wp (I r s) fun x => mloopV x.1 T B F 1000000000 0 r x.2 = none) : vfor I T B F r s = none := by
  unfold vfor
  exact ob_none h
theorem loopV_none {it : It0} {T : Tg} {B : Fs} {F : Fe} (ws : List Mv) (k : Nat) (I : Nat → Me → Ms → Prop) (hk : k < ws.length) (ha : ∀ i r s, i ≤ k → I i r s → Gives it ws s)
    (hs : ∀ i w r s, i < k → ws[i]? = some w → I i r s → ∃ r1, T.asg w r = some r1 ∧ Wp (B r1 s) fun x => x.1 = .nx ∧ I (i + 1) x.2.1 x.2.2)
    (he : ∀ w r s, ws[k]? = some w → I k r s → ∃ r1, T.asg w r = some r1 ∧ B r1 s = none ∧ F r1 s = none) : ∀ (m i : Nat) (r : Me) (s : Ms), k < m + i → i ≤ k → I i r s → mloopV it T B F m i r s = none
  | 0, i, r, s, hm, hi, _ => by omega
  | m + 1, i, r, s, hm, hi, h => by
    rw [mloopV_succ, ha i r s hi h i]
    have e : ws[i]? = some (ws[i]'(by omega)) := List.getElem?_eq_getElem (by omega)
    rw [e]
    show (T.asg _ r).ob _ = none
    by_cases hik : i = k
    · subst hik
      obtain ⟨r1, e1, e2, e3⟩ := he _ r s e h
      rw [e1, ob_of, e2]
      exact e3
    · obtain ⟨r1, e1, x, e2, e3, e4⟩ := hs i _ r s (by omega) e h
      obtain ⟨fl, r2, s2⟩ := x
      simp only at e3
      subst e3
      rw [e1, ob_of, e2]
      exact loopV_none ws k I hk ha hs he m (i + 1) r2 s2 (by omega) (by omega) e4
/-! ### a use that is refused -/
section
variable {P : Plot} {s : Ms} {x : Str} {i : Int} {l : PLib}
theorem sexp_none {A : Fe} {r : Me} (h : A r s = none) : sexp A r s = none := by unfold sexp; rw [h]; rfl
theorem sset_none {k : Nat} {A : Fe} {r : Me} (h : A r s = none) : sset k A r s = none := by unfold sset; rw [h]; rfl
theorem sseq_none {A B : Fs} {r : Me} (h : A r s = none) : sseq A B r s = none := by unfold sseq; rw [h]; rfl
theorem sseq_none2 {A B : Fs} {r : Me} (h : Wp (A r s) fun x => x.1 = .nx ∧ B x.2.1 x.2.2 = none) : sseq A B r s = none := by
  obtain ⟨⟨fl, r1, s1⟩, e, e1, q⟩ := h
  simp only at e1
  subst e1
  unfold sseq
  rw [e, ob_of]
  exact q
theorem sift_none {C : Ft} {A B : Fs} {r : Me} (h : Wp (C r s) fun x => x.1 = true ∧ A r x.2 = none) : sif C A B r s = none := by
  obtain ⟨⟨b, s1⟩, e, e1, q⟩ := h
  simp only at e1
  subst e1
  unfold sif
  rw [e, ob_of]
  exact q
theorem fnM_none {np nl : Nat} {B : Fs} {ws : List Mv} (r : Me) (hl : ws.length = np) (hr : lsome (nl - np) ws = r) (h : B r s = none) : fnM np nl B ws s = none := by
  unfold fnM
  rw [hl, hr, h]
  cases Nat.beq np np <;> rfl
theorem use_noL (hl : P.libs.length ≤ 1000) (h : P.lib? x = none) : m_use_at [P.mv, .str x, .int i] s = none := by
  refine fnM_none [some P.mv, some (.str x), some (.int i), none] rfl rfl ?_
  unfold bd_use_at
  refine sseq_none (sset_none ?_)
  show (m_lib_at [P.mv, .str x] s) = none
  exact lib_at_none hl h
theorem useL_sp (hl : P.libs.length ≤ 1000) (h : P.lib? x = none) : Wp (vL_use_at [P.mv, .str x, .int i] s) fun y => y.1 = .str x ∧ Ex0 s y.2 := by
  refine wp_fnV [some P.mv, some (.str x), some (.int i), none] rfl rfl ?_
  unfold vdL_use_at
  simp only [wp_ob, wp_om, wp_some, wp_mvar, sset, sexp, sret, sif, spar, spar3, snx, mtB, mtst, mop1, mop2, mcall, mcons, mnil, mcon, mif, mtup, mlst, mand, mor, mnot, mandV, morV, mnotV, lset_eq, List.getElem?_cons_zero, List.getElem?_cons_succ, List.set_cons_zero, List.set_cons_succ, cond_true, cond_false]
  refine wp_fnV [some P.mv, some (.str x), none] rfl rfl ?_
  unfold vdL_lib_at
  refine wp_vseq ?_
  simp only [wp_ob, wp_om, wp_some, wp_mvar, sset, sexp, sret, sif, spar, spar3, snx, mtB, mtst, mop1, mop2, mcall, mcons, mnil, mcon, mif, mtup, mlst, mand, mor, mnot, mandV, morV, mnotV, lset_eq, List.getElem?_cons_zero, List.getElem?_cons_succ, List.set_cons_zero, List.set_cons_succ, cond_true, cond_false]
  refine (lib_of_eq hl).mono fun y hy => ?_
  obtain ⟨w1, s2⟩ := y
  obtain ⟨x2, e2⟩ := hy
  simp only at x2 e2
  have e3 : libV P x = .non := by unfold libV; rw [h]
  rw [e3] at e2
  subst e2
  refine ⟨trivial, wp_vif ?_⟩
  have hi : isW false .non .non s2 = some (.bl true, s2) := rfl
  simp only [wp_ob, wp_om, wp_some, wp_mvar, sset, sexp, sret, sif, spar, spar3, snx, mtB, mtst, mop1, mop2, mcall, mcons, mnil, mcon, mif, mtup, mlst, mand, mor, mnot, mandV, morV, mnotV, lset_eq, List.getElem?_cons_zero, List.getElem?_cons_succ, List.set_cons_zero, List.set_cons_succ, cond_true, cond_false, hi]
  exact ⟨by trivial, by trivial, x2⟩
theorem out_test (hb : ¬ (0 ≤ i ∧ i < (l.uses.length : Int))) {t : Me} : (mnot (mtB (mchain leW ltW (mcon (.int 0)) (mvar 2) (mcall lenW (mcons (mop2 ixA (mvar 3) (mcon (.int 3))) (mnil)))))) [some P.mv, some (.str x), some (.int i), some l.mv] s = some (true, s) := by
  have : Wp ((mnot (mtB (mchain leW ltW (mcon (.int 0)) (mvar 2) (mcall lenW (mcons (mop2 ixA (mvar 3) (mcon (.int 3))) (mnil)))))) [some P.mv, some (.str x), some (.int i), some l.mv] s) fun z => z = (true, s) := by
    by_cases h0 : 0 ≤ i
    · have d0 : decide ((0 : Int) ≤ i) = true := decide_eq_true h0
      have d1 : decide (i < (l.uses.length : Int)) = false := decide_eq_false fun z => hb ⟨h0, z⟩
      simp only [wp_ob, wp_om, wp_some, wp_mvar, sset, sexp, sret, sif, spar, spar3, snx, mtB, mtst, mop1, mop2, mcall, mcons, mnil, mcon, mif, mtup, mlst, mand, mor, mnot, mandV, morV, mnotV, lset_eq, List.getElem?_cons_zero, List.getElem?_cons_succ, List.set_cons_zero, List.set_cons_succ, cond_true, cond_false, mchain, lib3, lenT, useV_len, leI, ltI, d0, d1, tru, Bool.not_false]
      try exact ⟨_, rfl, rfl⟩
    · have d0 : decide ((0 : Int) ≤ i) = false := decide_eq_false h0
      simp only [wp_ob, wp_om, wp_some, wp_mvar, sset, sexp, sret, sif, spar, spar3, snx, mtB, mtst, mop1, mop2, mcall, mcons, mnil, mcon, mif, mtup, mlst, mand, mor, mnot, mandV, morV, mnotV, lset_eq, List.getElem?_cons_zero, List.getElem?_cons_succ, List.set_cons_zero, List.set_cons_succ, cond_true, cond_false, mchain, leI, d0, tru, Bool.not_false]
      try exact ⟨_, rfl, rfl⟩
  obtain ⟨z, e, rfl⟩ := this
  exact e
theorem use_noU (hl : P.libs.length ≤ 1000) (h : P.lib? x = some l) (hb : ¬ (0 ≤ i ∧ i < (l.uses.length : Int))) : m_use_at [P.mv, .str x, .int i] s = none := by
  refine fnM_none [some P.mv, some (.str x), some (.int i), none] rfl rfl ?_
  unfold bd_use_at
  refine sseq_none2 ?_
  simp only [wp_ob, wp_om, wp_some, wp_mvar, sset, sexp, sret, sif, spar, spar3, snx, mtB, mtst, mop1, mop2, mcall, mcons, mnil, mcon, mif, mtup, mlst, mand, mor, mnot, mandV, morV, mnotV, lset_eq, List.getElem?_cons_zero, List.getElem?_cons_succ, List.set_cons_zero, List.set_cons_succ, cond_true, cond_false]
  refine (lib_at_eq hl h).mono fun y hy => ?_
  obtain ⟨w, s1⟩ := y
  obtain ⟨x1, e1⟩ := hy
  simp only at x1 e1
  subst e1
  refine ⟨trivial, sseq_none (sift_none ?_)⟩
  rw [out_test hb (t := []), wp_some]
  exact ⟨by trivial, rfl⟩
theorem useU_noL (hl : P.libs.length ≤ 1000) (h : P.lib? x = some l) : vL_use_at [P.mv, .str x, .int i] s = none := by
  refine fnV_none [some P.mv, some (.str x), some (.int i), none] rfl rfl ?_
  show vL_lib_at [P.mv, .str x] s = none
  refine fnV_none [some P.mv, some (.str x), none] rfl rfl ?_
  unfold vdL_lib_at
  refine vseq_none ?_
  simp only [wp_ob, wp_om, wp_some, wp_mvar, sset, sexp, sret, sif, spar, spar3, snx, mtB, mtst, mop1, mop2, mcall, mcons, mnil, mcon, mif, mtup, mlst, mand, mor, mnot, mandV, morV, mnotV, lset_eq, List.getElem?_cons_zero, List.getElem?_cons_succ, List.set_cons_zero, List.set_cons_succ, cond_true, cond_false]
  refine (lib_of_eq hl).mono fun y hy => ?_
  obtain ⟨w1, s2⟩ := y
  obtain ⟨x2, e2⟩ := hy
  simp only at x2 e2
  rw [libV_some h] at e2
  subst e2
  refine ⟨trivial, vif_none ?_⟩
  simp only [wp_ob, wp_om, wp_some, wp_mvar, sset, sexp, sret, sif, spar, spar3, snx, mtB, mtst, mop1, mop2, mcall, mcons, mnil, mcon, mif, mtup, mlst, mand, mor, mnot, mandV, morV, mnotV, lset_eq, List.getElem?_cons_zero, List.getElem?_cons_succ, List.set_cons_zero, List.set_cons_succ, cond_true, cond_false, isnot_lib]
theorem useU_sp (hl : P.libs.length ≤ 1000) (h : P.lib? x = some l) (hb : ¬ (0 ≤ i ∧ i < (l.uses.length : Int))) : Wp (vU_use_at [P.mv, .str x, .int i] s) fun y => y.1 = .int i ∧ Ex0 s y.2 := by
  refine wp_fnV [some P.mv, some (.str x), some (.int i), none] rfl rfl ?_
  unfold vdU_use_at
  refine wp_vseq ?_
  simp only [wp_ob, wp_om, wp_some, wp_mvar, sset, sexp, sret, sif, spar, spar3, snx, mtB, mtst, mop1, mop2, mcall, mcons, mnil, mcon, mif, mtup, mlst, mand, mor, mnot, mandV, morV, mnotV, lset_eq, List.getElem?_cons_zero, List.getElem?_cons_succ, List.set_cons_zero, List.set_cons_succ, cond_true, cond_false]
  refine (lib_at_eq hl h).mono fun y hy => ?_
  obtain ⟨w, s1⟩ := y
  obtain ⟨x1, e1⟩ := hy
  simp only at x1 e1
  subst e1
  refine ⟨trivial, wp_vif ?_⟩
  rw [out_test hb (t := []), wp_some]
  simp only [wp_ob, wp_om, wp_some, wp_mvar, sset, sexp, sret, sif, spar, spar3, snx, mtB, mtst, mop1, mop2, mcall, mcons, mnil, mcon, mif, mtup, mlst, mand, mor, mnot, mandV, morV, mnotV, lset_eq, List.getElem?_cons_zero, List.getElem?_cons_succ, List.set_cons_zero, List.set_cons_succ, cond_true, cond_false]
  exact ⟨by trivial, by trivial, x1⟩
end

end
section
/-! ### wishes of which one is wrong -/
def wishV (x : Str) (i : Int) (a : Mv) : Mv := .tup [.str x, .int i, a]
def LibNo (P : Plot) (x : Str) : Prop := P.lib? x = none
def UseNo (P : Plot) (x : Str) (i : Int) : Prop := ∃ l, P.lib? x = some l ∧ ¬ (0 ≤ i ∧ i < (l.uses.length : Int))
section
variable {P : Plot} {s : Ms} {x : Str} {i : Int} {a : Mv} {C : List Want} {rest : List Mv} {v0 v1 : Mv}
def allW3 (C : List Want) (x : Str) (i : Int) (a : Mv) (rest : List Mv) : List Mv := C.map wantV ++ wishV x i a :: rest
theorem all_get (k : Nat) {w : Mv} (hk : k < C.length) (h : (allW3 C x i a rest)[k]? = some w) : ∃ c ∈ C, w = wantV c := by
  unfold allW3 at h
  rw [List.getElem?_append_left (by rw [List.length_map]; exact hk), List.getElem?_map] at h
  cases ec : C[k]? with
  | none => rw [ec] at h; cases h
  | some c => rw [ec] at h; cases h; exact ⟨c, List.mem_of_getElem? ec, rfl⟩
theorem all_at {w : Mv} (h : (allW3 C x i a rest)[C.length]? = some w) : w = wishV x i a := by
  unfold allW3 at h
  rw [List.getElem?_append_right (by rw [List.length_map]; exact Nat.le_refl _), List.length_map, Nat.sub_self] at h
  cases h
  rfl
theorem par70 (pu : Pu 7 P.mv) (h0 : Rd s P.mv v0) {W : List Mv} (h1 : Rd s (.tup W) v1) (hW : Pu 7 (.tup W)) : Wp ((spar 0 1 (mcons (mcall (m_as_tuples 8) (mcons (mvar 0) (mnil))) (mcons (mcall (m_as_tuples 8) (mcons (mvar 1) (mnil))) (mnil)))) [some v0, some v1, none, none, none] s) fun y => y.1 = .nx ∧ y.2.1 = [some P.mv, some (.tup W), none, none, none] ∧ Ex0 s y.2.2 := by
  unfold spar
  simp only [wp_ob, wp_om, wp_some, wp_mvar, sset, sexp, sret, sif, spar, spar3, snx, mtB, mtst, mop1, mop2, mcall, mcons, mnil, mcon, mif, mtup, mlst, mand, mor, mnot, mandV, morV, mnotV, lset_eq, List.getElem?_cons_zero, List.getElem?_cons_succ, List.set_cons_zero, List.set_cons_succ, cond_true, cond_false]
  refine (as_tuples_sp 7 P.mv v0 s pu h0).mono fun z hz => ?_
  obtain ⟨u, s1⟩ := z
  obtain ⟨e1, x1⟩ := hz
  simp only at e1 x1
  subst e1
  refine (as_tuples_sp 7 (.tup W) v1 s1 hW (h1.ex0 x1)).mono fun z hz => ?_
  obtain ⟨u, s2⟩ := z
  obtain ⟨e2, x2⟩ := hz
  simp only at e2 x2
  subst e2
  exact ⟨trivial, rfl, x1.trans x2⟩
theorem good70 (w : PlotW P) {k : Nat} {w' : Mv} {r : Me} {s' s2 : Ms} (hC : ∀ c ∈ C, WantOk P c) (hk : k < C.length) (hw : (allW3 C x i a rest)[k]? = some w') (hr : (∃ o2 o3 o4, r = [some P.mv, some (.tup (allW3 C x i a rest)), o2, o3, o4]) ∧ Ex0 s2 s') : ∃ r1, (Tg.tp [2, 3, 4]).asg w' r = some r1 ∧ Wp ((sexp (mcall m_use_at (mcons (mvar 0) (mcons (mvar 2) (mcons (mvar 3) (mnil)))))) r1 s') fun y => y.1 = .nx ∧ (∃ o2 o3 o4, y.2.1 = [some P.mv, some (.tup (allW3 C x i a rest)), o2, o3, o4]) ∧ Ex0 s2 y.2.2 := by
  have wl := w.len
  obtain ⟨⟨o2, o3, o4, rfl⟩, xx⟩ := hr
  obtain ⟨c, hc, rfl⟩ := all_get k hk hw
  obtain ⟨l, hlib, hi, _⟩ := hC c hc
  refine ⟨[some P.mv, some (.tup (allW3 C x i a rest)), some (.str c.1.1), some (.int (c.1.2 : Int)), some c.2.mv], rfl, ?_⟩
  simp only [wp_ob, wp_om, wp_some, wp_mvar, sset, sexp, sret, sif, spar, spar3, snx, mtB, mtst, mop1, mop2, mcall, mcons, mnil, mcon, mif, mtup, mlst, mand, mor, mnot, mandV, morV, mnotV, lset_eq, List.getElem?_cons_zero, List.getElem?_cons_succ, List.set_cons_zero, List.set_cons_succ, cond_true, cond_false]
  refine (use_at_sp (by omega) hlib (use_of hlib hi)).mono fun z hz => ?_
  exact ⟨trivial, ⟨_, _, _, rfl⟩, xx.trans hz.2⟩
theorem all_lt : C.length < (allW3 C x i a rest).length := by unfold allW3; simp
theorem lookedL_sp (w : PlotW P) (pu : Pu 7 P.mv) (h0 : Rd s P.mv v0) (h1 : Rd s (.tup (allW3 C x i a rest)) v1) (hW : Pu 7 (.tup (allW3 C x i a rest))) (hC : ∀ c ∈ C, WantOk P c) (hl : C.length ≤ 1000) (hb : LibNo P x) : Wp (vL_looked [v0, v1] s) fun y => y.1 = .str x ∧ Ex0 s y.2 := by
  have wl := w.len
  refine wp_fnV [some v0, some v1, none, none, none] rfl rfl ?_
  unfold vdL_looked
  refine wp_vseq ((par70 pu h0 h1 hW).mono fun y hy => ?_)
  obtain ⟨fl, r, s2⟩ := y
  obtain ⟨e1, e2, x2⟩ := hy
  simp only at e1 e2 x2
  subst e1 e2
  refine ⟨rfl, wp_vfor (wp_S' ?_)⟩
  simp only [wp_ob, wp_om, wp_some, wp_mvar, sset, sexp, sret, sif, spar, spar3, snx, mtB, mtst, mop1, mop2, mcall, mcons, mnil, mcon, mif, mtup, mlst, mand, mor, mnot, mandV, morV, mnotV, lset_eq, List.getElem?_cons_zero, List.getElem?_cons_succ, List.set_cons_zero, List.set_cons_succ, cond_true, cond_false]
  refine ⟨allW3 C x i a rest, rfl, fun it git => ?_⟩
  refine wp_loopV (allW3 C x i a rest) C.length (fun k r s' => (∃ o2 o3 o4, r = [some P.mv, some (.tup (allW3 C x i a rest)), o2, o3, o4]) ∧ Ex0 s2 s') all_lt (fun k r s' _ _ => git s' rfl) (fun k w' r s' hk hw hr => good70 w hC hk hw hr) ?_ 1000000000 0 _ _ (by omega) (by omega) ⟨⟨_, _, _, rfl⟩, Ex0.refl⟩
  rintro w' r s' hw ⟨⟨o2, o3, o4, rfl⟩, xx⟩
  have := all_at hw
  subst this
  refine ⟨[some P.mv, some (.tup (allW3 C x i a rest)), some (.str x), some (.int i), some a], rfl, ?_, ?_⟩
  · refine sexp_none ?_
    exact use_noL (by omega) hb
  · simp only [wp_ob, wp_om, wp_some, wp_mvar, sset, sexp, sret, sif, spar, spar3, snx, mtB, mtst, mop1, mop2, mcall, mcons, mnil, mcon, mif, mtup, mlst, mand, mor, mnot, mandV, morV, mnotV, lset_eq, List.getElem?_cons_zero, List.getElem?_cons_succ, List.set_cons_zero, List.set_cons_succ, cond_true, cond_false]
    refine (useL_sp (by omega) hb).mono fun z hz => ?_
    exact ⟨hz.1, (x2.trans xx).trans hz.2⟩
theorem lookedU_sp (w : PlotW P) (pu : Pu 7 P.mv) (h0 : Rd s P.mv v0) (h1 : Rd s (.tup (allW3 C x i a rest)) v1) (hW : Pu 7 (.tup (allW3 C x i a rest))) (hC : ∀ c ∈ C, WantOk P c) (hl : C.length ≤ 1000) (hb : UseNo P x i) : Wp (vU_looked [v0, v1] s) fun y => y.1 = .int i ∧ Ex0 s y.2 := by
  have wl := w.len
  obtain ⟨l, hlib, hb⟩ := hb
  refine wp_fnV [some v0, some v1, none, none, none] rfl rfl ?_
  unfold vdU_looked
  refine wp_vseq ((par70 pu h0 h1 hW).mono fun y hy => ?_)
  obtain ⟨fl, r, s2⟩ := y
  obtain ⟨e1, e2, x2⟩ := hy
  simp only at e1 e2 x2
  subst e1 e2
  refine ⟨rfl, wp_vfor (wp_S' ?_)⟩
  simp only [wp_ob, wp_om, wp_some, wp_mvar, sset, sexp, sret, sif, spar, spar3, snx, mtB, mtst, mop1, mop2, mcall, mcons, mnil, mcon, mif, mtup, mlst, mand, mor, mnot, mandV, morV, mnotV, lset_eq, List.getElem?_cons_zero, List.getElem?_cons_succ, List.set_cons_zero, List.set_cons_succ, cond_true, cond_false]
  refine ⟨allW3 C x i a rest, rfl, fun it git => ?_⟩
  refine wp_loopV (allW3 C x i a rest) C.length (fun k r s' => (∃ o2 o3 o4, r = [some P.mv, some (.tup (allW3 C x i a rest)), o2, o3, o4]) ∧ Ex0 s2 s') all_lt (fun k r s' _ _ => git s' rfl) (fun k w' r s' hk hw hr => good70 w hC hk hw hr) ?_ 1000000000 0 _ _ (by omega) (by omega) ⟨⟨_, _, _, rfl⟩, Ex0.refl⟩
  rintro w' r s' hw ⟨⟨o2, o3, o4, rfl⟩, xx⟩
  have := all_at hw
  subst this
  refine ⟨[some P.mv, some (.tup (allW3 C x i a rest)), some (.str x), some (.int i), some a], rfl, ?_, ?_⟩
  · refine sexp_none ?_
    exact use_noU (by omega) hlib hb
  · simp only [wp_ob, wp_om, wp_some, wp_mvar, sset, sexp, sret, sif, spar, spar3, snx, mtB, mtst, mop1, mop2, mcall, mcons, mnil, mcon, mif, mtup, mlst, mand, mor, mnot, mandV, morV, mnotV, lset_eq, List.getElem?_cons_zero, List.getElem?_cons_succ, List.set_cons_zero, List.set_cons_succ, cond_true, cond_false]
    refine (useU_sp (by omega) hlib hb).mono fun z hz => ?_
    exact ⟨hz.1, (x2.trans xx).trans hz.2⟩
theorem lookedU_no (w : PlotW P) (pu : Pu 7 P.mv) (h0 : Rd s P.mv v0) (h1 : Rd s (.tup (allW3 C x i a rest)) v1) (hW : Pu 7 (.tup (allW3 C x i a rest))) (hC : ∀ c ∈ C, WantOk P c) (hl : C.length ≤ 1000) (hb : UseNo P x i) : vL_looked [v0, v1] s = none := by
  have wl := w.len
  obtain ⟨l, hlib, hb⟩ := hb
  refine fnV_none [some v0, some v1, none, none, none] rfl rfl ?_
  unfold vdL_looked
  refine vseq_none ((par70 pu h0 h1 hW).mono fun y hy => ?_)
  obtain ⟨fl, r, s2⟩ := y
  obtain ⟨e1, e2, x2⟩ := hy
  simp only at e1 e2 x2
  subst e1 e2
  refine ⟨rfl, vfor_none (wp_S' ?_)⟩
  simp only [wp_ob, wp_om, wp_some, wp_mvar, sset, sexp, sret, sif, spar, spar3, snx, mtB, mtst, mop1, mop2, mcall, mcons, mnil, mcon, mif, mtup, mlst, mand, mor, mnot, mandV, morV, mnotV, lset_eq, List.getElem?_cons_zero, List.getElem?_cons_succ, List.set_cons_zero, List.set_cons_succ, cond_true, cond_false]
  refine ⟨allW3 C x i a rest, rfl, fun it git => ?_⟩
  refine loopV_none (allW3 C x i a rest) C.length (fun k r s' => (∃ o2 o3 o4, r = [some P.mv, some (.tup (allW3 C x i a rest)), o2, o3, o4]) ∧ Ex0 s2 s') all_lt (fun k r s' _ _ => git s' rfl) (fun k w' r s' hk hw hr => good70 w hC hk hw hr) ?_ 1000000000 0 _ _ (by omega) (by omega) ⟨⟨_, _, _, rfl⟩, Ex0.refl⟩
  rintro w' r s' hw ⟨⟨o2, o3, o4, rfl⟩, xx⟩
  have := all_at hw
  subst this
  refine ⟨[some P.mv, some (.tup (allW3 C x i a rest)), some (.str x), some (.int i), some a], rfl, sexp_none (use_noU (by omega) hlib hb), ?_⟩
  exact useU_noL (i := i) (by omega) hlib
/-! ### each of the seven -/
theorem refL_eq : ∀ k : Nat, k < 7 → vdL__law_refused [some (.int (k : Int)), some v0, some v1, some .non, none] s = vL_looked [v0, v1] s
  | 0, _ => rfl
  | 1, _ => rfl
  | 2, _ => rfl
  | 3, _ => rfl
  | 4, _ => rfl
  | 5, _ => rfl
  | 6, _ => rfl
  | k + 7, h => absurd h (by omega)
theorem refU_eq : ∀ k : Nat, k < 7 → vdU__law_refused [some (.int (k : Int)), some v0, some v1, some .non, none] s = vU_looked [v0, v1] s
  | 0, _ => rfl
  | 1, _ => rfl
  | 2, _ => rfl
  | 3, _ => rfl
  | 4, _ => rfl
  | 5, _ => rfl
  | 6, _ => rfl
  | k + 7, h => absurd h (by omega)
theorem mrL_eq {k : Nat} (h : k < 7) : mL__law_refused [.int (k : Int), v0, v1] s = (vL_looked [v0, v1] s).om fun y => (.tup [.str x_lib, y.1], y.2) := by
  have e : mL__law_refused [.int (k : Int), v0, v1] s = ((vdL__law_refused [some (.int (k : Int)), some v0, some v1, some .non, none] s).om fun y => (Fl.rt (.tup [.str x_lib, y.1]), ([] : Me), y.2)).ob fun x => match x.1 with
    | .rt w => some (w, x.2.2)
    | .nx => some (.non, x.2.2)
    | _ => none := rfl
  rw [e, refL_eq k h]
  cases vL_looked [v0, v1] s <;> rfl
theorem mrU_eq {k : Nat} (h : k < 7) : mU__law_refused [.int (k : Int), v0, v1] s = (vU_looked [v0, v1] s).om fun y => (.tup [.str x_use, y.1], y.2) := by
  have e : mU__law_refused [.int (k : Int), v0, v1] s = ((vdU__law_refused [some (.int (k : Int)), some v0, some v1, some .non, none] s).om fun y => (Fl.rt (.tup [.str x_use, y.1]), ([] : Me), y.2)).ob fun x => match x.1 with
    | .rt w => some (w, x.2.2)
    | .nx => some (.non, x.2.2)
    | _ => none := rfl
  rw [e, refU_eq k h]
  cases vU_looked [v0, v1] s <;> rfl
theorem refusedL_sp (w : PlotW P) (pu : Pu 7 P.mv) (h0 : Rd s P.mv v0) (h1 : Rd s (.tup (allW3 C x i a rest)) v1) (hW : Pu 7 (.tup (allW3 C x i a rest))) (hC : ∀ c ∈ C, WantOk P c) (hl : C.length ≤ 1000) (hb : LibNo P x) {k : Nat} (hk : k < 7) : Wp (m__law_refused [.int (k : Int), v0, v1] s) fun y => y.1 = .tup [.str x_lib, .str x] ∧ Ex0 s y.2 := by
  obtain ⟨⟨u, s1⟩, e, e1, x1⟩ := lookedL_sp w pu h0 h1 hW hC hl hb
  simp only at e1 x1
  subst e1
  have em : mL__law_refused [.int (k : Int), v0, v1] s = some (.tup [.str x_lib, .str x], s1) := by rw [mrL_eq hk, e]; rfl
  refine ⟨(.tup [.str x_lib, .str x], s1), ?_, rfl, x1⟩
  show orM _ _ _ _ = _
  unfold orM
  rw [em]
theorem refusedU_sp (w : PlotW P) (pu : Pu 7 P.mv) (h0 : Rd s P.mv v0) (h1 : Rd s (.tup (allW3 C x i a rest)) v1) (hW : Pu 7 (.tup (allW3 C x i a rest))) (hC : ∀ c ∈ C, WantOk P c) (hl : C.length ≤ 1000) (hb : UseNo P x i) {k : Nat} (hk : k < 7) : Wp (m__law_refused [.int (k : Int), v0, v1] s) fun y => y.1 = .tup [.str x_use, .int i] ∧ Ex0 s y.2 := by
  obtain ⟨⟨u, s1⟩, e, e1, x1⟩ := lookedU_sp w pu h0 h1 hW hC hl hb
  simp only at e1 x1
  subst e1
  have em : mL__law_refused [.int (k : Int), v0, v1] s = none := by rw [mrL_eq hk, lookedU_no w pu h0 h1 hW hC hl hb]; rfl
  have eu : mU__law_refused [.int (k : Int), v0, v1] s = some (.tup [.str x_use, .int i], s1) := by rw [mrU_eq hk, e]; rfl
  refine ⟨(.tup [.str x_use, .int i], s1), ?_, rfl, x1⟩
  show orM _ _ _ _ = _
  unfold orM
  rw [em]
  exact eu
end

end
section
/-! ### k70: values that are no preloads -/
section
variable {s : Ms} {b m : Nat}
theorem progO_sp {t : Me} (h : Bx' s b m) (hm : m + 700 < 1000000) : Wp ((mcall m__law_program (mcons (mvar 0) (mcons (mop2 addW (mcon (.int 1)) (mcall m__law_take (mcons (mvar 0) (mcons (mcon (.int 4)) (mnil))))) (mcons (mcon (.int 2)) (mnil))))) (some (.ref b) :: t) s) fun y => ∃ (P : Plot) (most : Nat), y.1 = P.mv ∧ Plot2 most 2 P ∧ 1 ≤ most ∧ most ≤ 5 ∧ Ext b s y.2 ∧ Bx' y.2 b (m + 601) := by
  simp only [wp_ob, wp_om, wp_some, wp_mvar, sset, sexp, sret, sif, spar, spar3, snx, mtB, mtst, mop1, mop2, mcall, mcons, mnil, mcon, mif, mtup, mlst, mand, mor, mnot, mandV, morV, mnotV, lset_eq, List.getElem?_cons_zero, List.getElem?_cons_succ, List.set_cons_zero, List.set_cons_succ, cond_true, cond_false]
  refine (take_sp h (by omega) (k := 4) (by omega) (by omega)).mono fun x hx => ?_
  obtain ⟨w, s1⟩ := x
  obtain ⟨j, e, j0, j1, _, x1, B1⟩ := hx
  simp only at e x1 B1
  subst e
  obtain ⟨most, em, hm1, hmost⟩ : ∃ most : Nat, Int.add 1 j = (most : Int) ∧ 1 ≤ most ∧ most ≤ 5 := ⟨(1 + j).toNat, by show 1 + j = _; omega, by omega, by omega⟩
  simp only [wp_ob, wp_om, wp_some, wp_mvar, sset, sexp, sret, sif, spar, spar3, snx, mtB, mtst, mop1, mop2, mcall, mcons, mnil, mcon, mif, mtup, mlst, mand, mor, mnot, mandV, morV, mnotV, lset_eq, List.getElem?_cons_zero, List.getElem?_cons_succ, List.set_cons_zero, List.set_cons_succ, cond_true, cond_false, addW, em]
  refine (program2_sp (most := most) (gates := 2) B1 (by omega) (by omega) (by omega)).mono fun x hx => ?_
  obtain ⟨w, s2⟩ := x
  obtain ⟨P, e, h2, x2, B2⟩ := hx
  exact ⟨P, most, e, h2, hm1, hmost, x1.trans x2, B2.mono (by omega)⟩
def axsS : Str := ⟨#[97, 120, 120, 120, 120, 120, 120, 120, 120]⟩
def tenV : List Mv := [.non, .bl true, .int 0, .str x_, .str x_a, .tup [.str x_main], .tup [.str x_a, .str x_main], .tup [.str x_a, .str x_a], .tup [.str x_nowhere], .tup [.int 1]]
def sevV (m1 m2 : Nat) : List Mv := [.ref m1, .ref m2, .tup [.tup [.str x_a]], .tup [.non], .tup [.str x_], .tup [.str x_A], .tup [.str x_a, .bl true]]
def oddT (P : Plot) (m3 : Nat) : List Mv := [.tup (strV P.folk), .tup [.str axsS], .tup [.ref m3]]
theorem tmul_a {s : Ms} : tmulW (.tup [.str x_a]) (.int 2) s = some (.tup [.str x_a, .str x_a], s) := rfl
theorem axs_eq {s : Ms} : smulW (.str x_x) (.int 8) s = some (.str ⟨#[120, 120, 120, 120, 120, 120, 120, 120]⟩, s) := rfl
theorem axs_eq2 {s : Ms} : addW (.str x_a) (.str ⟨#[120, 120, 120, 120, 120, 120, 120, 120]⟩) s = some (.str axsS, s) := rfl
theorem odd_sp {P : Plot} (w : PlotW P) (hf : ∃ r, P.folk = x_main :: x_a :: r) : Wp (m__law_odd [P.mv] s) fun z => ∃ n m1 m2 m3, z.1 = .ref n ∧ s.sz ≤ n ∧ n < z.2.sz ∧ z.2.get n = some (.lst ((tenV ++ sevV m1 m2) ++ oddT P m3)) ∧ (s.sz ≤ m1 ∧ m1 < z.2.sz ∧ z.2.get m1 = some (.lst [])) ∧ (s.sz ≤ m2 ∧ m2 < z.2.sz ∧ z.2.get m2 = some (.lst [.str x_a])) ∧ (s.sz ≤ m3 ∧ m3 < z.2.sz ∧ z.2.get m3 = some (.lst [.str x_a])) ∧ Ex0 s z.2 := by
  have wl := w.len
  obtain ⟨fr, hf⟩ := hf
  refine wp_fn [some P.mv, none, none, none] rfl rfl ?_
  unfold bd__law_odd
  refine wp_seq ?_
  simp only [sset, wp_om]
  refine (wp_lcf (L := []) (J := fun _ => True) P.libs PLib.mv (fun l => [some P.mv, none, none, some l.mv]) (fun _ => true) (fun l => .str l.own) (by omega) (gives_at (L := []) (J := fun _ => True) (v := .tup (P.libs.map PLib.mv)) (s1 := s) (by
    simp only [mop2, mvar, mcon, lget_eq, List.getElem?_cons_zero]
    rfl) trivial ExtL.refl fun s' _ _ => rfl) (fun k _ => rfl) (fun k hk s' j x' => ⟨_, rfl, rfl, j, ExtL.refl⟩) (fun k hk _ s' _ x' => ?_)).mono ?_
  · simp only [wp_ob, wp_om, wp_some, wp_mvar, sset, sexp, sret, sif, spar, spar3, snx, mtB, mtst, mop1, mop2, mcall, mcons, mnil, mcon, mif, mtup, mlst, mand, mor, mnot, mandV, morV, mnotV, lset_eq, List.getElem?_cons_zero, List.getElem?_cons_succ, List.set_cons_zero, List.set_cons_succ, cond_true, cond_false, lib0]
    exact ⟨trivial, trivial, ExtL.refl⟩
  rintro ⟨v, t1⟩ ⟨s1', e, _, x1'⟩
  cases e
  rw [List.filter_eq_self.mpr fun _ _ => rfl]
  have el : (P.libs.map fun l => Mv.str l.own) = strV P.folk := by unfold strV Plot.folk; rw [List.map_map]; rfl
  rw [el]
  have X1 : Ex0 s (push s1' (.lst (strV P.folk))) := (ex_of x1').trans Ex0.push
  have g1 : (push s1' (.lst (strV P.folk))).get s1'.sz = some (.lst (strV P.folk)) := Ms.get_push
  have l1 : s1'.sz < (push s1' (.lst (strV P.folk))).sz := by simp only [push_sz]; omega
  generalize s1'.sz = n0 at g1 l1 ⊢
  generalize push s1' (.lst (strV P.folk)) = s1 at X1 g1 l1 ⊢
  refine ⟨trivial, wp_seq ?_⟩
  have hix : ∀ s', Ex0 s1 s' → ixA (.ref n0) (.int 1) s' = some (.str x_a, s') := fun s' xx => ixA_of (items_ref (xx.at l1 g1)) (atF_of (i := 1) (by rw [hf]; rfl))
  simp only [wp_ob, wp_om, wp_some, wp_mvar, sset, sexp, sret, sif, spar, spar3, snx, mtB, mtst, mop1, mop2, mcall, mcons, mnil, mcon, mif, mtup, mlst, mand, mor, mnot, mandV, morV, mnotV, lset_eq, List.getElem?_cons_zero, List.getElem?_cons_succ, List.set_cons_zero, List.set_cons_succ, cond_true, cond_false, hix s1 Ex0.refl, nT (show [Mv.str x_main].length ≤ 4 by simp), nT (show [Mv.str x_a, .str x_main].length ≤ 4 by simp), nT (show [Mv.str x_a].length ≤ 4 by simp), nT (show [Mv.str x_nowhere].length ≤ 4 by simp), nT (show [Mv.int 1].length ≤ 4 by simp), tmul_a]
  rw [newL_of (by simp), wp_some]
  have X2 : Ex0 s1 (push s1 (.lst tenV)) := Ex0.push
  have g2 : (push s1 (.lst tenV)).get s1.sz = some (.lst tenV) := Ms.get_push
  have l2 : s1.sz < (push s1 (.lst tenV)).sz := by simp only [push_sz]; omega
  refine ⟨trivial, ?_⟩
  show Wp ((sseq _ _) [some P.mv, some (.ref n0), some (.ref s1.sz), none] (push s1 (.lst tenV))) _
  generalize s1.sz = n2 at g2 l2 ⊢
  generalize push s1 (.lst tenV) = s2 at X2 g2 l2 ⊢
  refine wp_seq ?_
  simp only [wp_ob, wp_om, wp_some, wp_mvar, sset, sexp, sret, sif, spar, spar3, snx, mtB, mtst, mop1, mop2, mcall, mcons, mnil, mcon, mif, mtup, mlst, mand, mor, mnot, mandV, morV, mnotV, lset_eq, List.getElem?_cons_zero, List.getElem?_cons_succ, List.set_cons_zero, List.set_cons_succ, cond_true, cond_false, newL_of (show ([] : List Mv).length ≤ 16777216 by simp)]
  have X3 : Ex0 s2 (push s2 (.lst [])) := Ex0.push
  have g3 : (push s2 (.lst [])).get s2.sz = some (.lst []) := Ms.get_push
  have l3 : s2.sz < (push s2 (.lst [])).sz := by simp only [push_sz]; omega
  have n3 : s1.sz ≤ s2.sz := X2.sz
  generalize s2.sz = m1 at g3 l3 n3 ⊢
  generalize push s2 (.lst []) = s3 at X3 g3 l3 ⊢
  simp only [wp_ob, wp_om, wp_some, wp_mvar, sset, sexp, sret, sif, spar, spar3, snx, mtB, mtst, mop1, mop2, mcall, mcons, mnil, mcon, mif, mtup, mlst, mand, mor, mnot, mandV, morV, mnotV, lset_eq, List.getElem?_cons_zero, List.getElem?_cons_succ, List.set_cons_zero, List.set_cons_succ, cond_true, cond_false, hix s3 (X2.trans X3), newL_of (show [Mv.str x_a].length ≤ 16777216 by simp)]
  have X4 : Ex0 s3 (push s3 (.lst [.str x_a])) := Ex0.push
  have g4 : (push s3 (.lst [.str x_a])).get s3.sz = some (.lst [.str x_a]) := Ms.get_push
  have l4 : s3.sz < (push s3 (.lst [.str x_a])).sz := by simp only [push_sz]; omega
  have n4 : s1.sz ≤ s3.sz := (X2.trans X3).sz
  generalize s3.sz = m2 at g4 l4 n4 ⊢
  generalize push s3 (.lst [.str x_a]) = s4 at X4 g4 l4 ⊢
  simp only [wp_ob, wp_om, wp_some, wp_mvar, sset, sexp, sret, sif, spar, spar3, snx, mtB, mtst, mop1, mop2, mcall, mcons, mnil, mcon, mif, mtup, mlst, mand, mor, mnot, mandV, morV, mnotV, lset_eq, List.getElem?_cons_zero, List.getElem?_cons_succ, List.set_cons_zero, List.set_cons_succ, cond_true, cond_false, hix s4 ((X2.trans X3).trans X4), nT (show [Mv.str x_a].length ≤ 4 by simp), nT (show [Mv.tup [.str x_a]].length ≤ 4 by simp), nT (show [Mv.non].length ≤ 4 by simp), nT (show [Mv.str x_].length ≤ 4 by simp), nT (show [Mv.str x_A].length ≤ 4 by simp), nT (show [Mv.str x_a, .bl true].length ≤ 4 by simp)]
  rw [newL_of (by simp), wp_some]
  have X5 : Ex0 s4 (push s4 (.lst (sevV m1 m2))) := Ex0.push
  have g5 : (push s4 (.lst (sevV m1 m2))).get s4.sz = some (.lst (sevV m1 m2)) := Ms.get_push
  have l5 : s4.sz < (push s4 (.lst (sevV m1 m2))).sz := by simp only [push_sz]; omega
  show Wp (addW (.ref n2) (.ref s4.sz) (push s4 (.lst (sevV m1 m2)))) _
  generalize s4.sz = n5 at g5 l5 ⊢
  generalize push s4 (.lst (sevV m1 m2)) = s5 at X5 g5 l5 ⊢
  rw [cat_l ((((X3.trans X4).trans X5)).at l2 g2) g5 (by simp [tenV, sevV]), wp_some]
  refine ⟨trivial, ?_⟩
  have X6 : Ex0 s5 (push s5 (.lst (tenV ++ sevV m1 m2))) := Ex0.push
  have g6 : (push s5 (.lst (tenV ++ sevV m1 m2))).get s5.sz = some (.lst (tenV ++ sevV m1 m2)) := Ms.get_push
  have l6 : s5.sz < (push s5 (.lst (tenV ++ sevV m1 m2))).sz := by simp only [push_sz]; omega
  generalize s5.sz = n6 at g6 l6 ⊢
  generalize push s5 (.lst (tenV ++ sevV m1 m2)) = s6 at X6 g6 l6 ⊢
  have X26 : Ex0 s1 s6 := ((((X2.trans X3).trans X4).trans X5).trans X6)
  simp only [wp_ob, wp_om, wp_some, wp_mvar, sset, sexp, sret, sif, spar, spar3, snx, mtB, mtst, mop1, mop2, mcall, mcons, mnil, mcon, mif, mtup, mlst, mand, mor, mnot, mandV, morV, mnotV, lset_eq, List.getElem?_cons_zero, List.getElem?_cons_succ, List.set_cons_zero, List.set_cons_succ, cond_true, cond_false, tup_of (items_ref (X26.at l1 g1)) (show (strV P.folk).length ≤ 16777216 by rw [strV_len]; unfold Plot.folk; rw [List.length_map]; omega), hix s6 X26, axs_eq, axs_eq2, nT (show [Mv.str axsS].length ≤ 4 by simp), newL_of (show [Mv.str x_a].length ≤ 16777216 by simp)]
  have X7 : Ex0 s6 (push s6 (.lst [.str x_a])) := Ex0.push
  have g7 : (push s6 (.lst [.str x_a])).get s6.sz = some (.lst [.str x_a]) := Ms.get_push
  have l7 : s6.sz < (push s6 (.lst [.str x_a])).sz := by simp only [push_sz]; omega
  have n7 : s1.sz ≤ s6.sz := X26.sz
  generalize s6.sz = m3 at g7 l7 n7 ⊢
  generalize push s6 (.lst [.str x_a]) = s7 at X7 g7 l7 ⊢
  simp only [wp_ob, wp_om, wp_some, wp_mvar, sset, sexp, sret, sif, spar, spar3, snx, mtB, mtst, mop1, mop2, mcall, mcons, mnil, mcon, mif, mtup, mlst, mand, mor, mnot, mandV, morV, mnotV, lset_eq, List.getElem?_cons_zero, List.getElem?_cons_succ, List.set_cons_zero, List.set_cons_succ, cond_true, cond_false, nT (show [Mv.ref m3].length ≤ 4 by simp)]
  rw [newL_of (by simp), wp_some]
  have X8 : Ex0 s7 (push s7 (.lst (oddT P m3))) := Ex0.push
  have g8 : (push s7 (.lst (oddT P m3))).get s7.sz = some (.lst (oddT P m3)) := Ms.get_push
  have l8 : s7.sz < (push s7 (.lst (oddT P m3))).sz := by simp only [push_sz]; omega
  show Wp (addW (.ref n6) (.ref s7.sz) (push s7 (.lst (oddT P m3)))) _
  generalize s7.sz = n8 at g8 l8 ⊢
  generalize push s7 (.lst (oddT P m3)) = s8 at X8 g8 l8 ⊢
  rw [cat_l ((X7.trans X8).at l6 g6) g8 (by simp [tenV, sevV, oddT]), wp_some]
  have X9 : Ex0 s8 (push s8 (.lst ((tenV ++ sevV m1 m2) ++ oddT P m3))) := Ex0.push
  have X19 := X1.sz
  have X38 : Ex0 s3 (push s8 (.lst ((tenV ++ sevV m1 m2) ++ oddT P m3))) := (((((X4.trans X5).trans X6).trans X7).trans X8).trans X9)
  have X48 : Ex0 s4 (push s8 (.lst ((tenV ++ sevV m1 m2) ++ oddT P m3))) := ((((X5.trans X6).trans X7).trans X8).trans X9)
  have X78 : Ex0 s7 (push s8 (.lst ((tenV ++ sevV m1 m2) ++ oddT P m3))) := X8.trans X9
  have z18 : s1.sz ≤ s8.sz := (((X26.trans X7)).trans X8).sz
  have z3 := X38.sz
  have z4 := X48.sz
  have z7 := X78.sz
  refine ⟨_, rfl, s8.sz, m1, m2, m3, rfl, by omega, by simp only [push_sz]; omega, Ms.get_push, ⟨by omega, Nat.lt_of_lt_of_le l3 z3, X38.at l3 g3⟩, ⟨by omega, Nat.lt_of_lt_of_le l4 z4, X48.at l4 g4⟩, ⟨by omega, Nat.lt_of_lt_of_le l7 z7, X78.at l7 g7⟩, (((X1.trans X26).trans X7).trans X8).trans X9⟩
end

end
section
/-! ### k70: each of these values is refused -/
section
variable {s : Ms} {P : Plot} {n m1 m2 m3 : Nat}
def NoPre (P : Plot) (s : Ms) (v : Mv) : Prop := ∀ s', Ex0 s s' → Wp (m_is_preload [P.mv, v] s') fun z => z.1 = .bl false ∧ Ex0 s' z.2
theorem nm_facts : nmOk x_main ∧ nmOk x_a ∧ nmOk x_nowhere ∧ nameB x_ = false ∧ nameB x_A = false ∧ nameB axsS = false ∧ axsS.length ≤ 1000 ∧ x_.length ≤ 1000 ∧ x_A.length ≤ 1000 ∧ x_a.length ≤ 1000 := by
  unfold nmOk
  decide +kernel
theorem nopre_ty {v : Mv} {t : Mty} (h : ∀ s', Ex0 s s' → tyOf v s' = some t) (ht : isaT t .tuple = false) : NoPre P s v := fun s' x => is_preload_no (are_names_ty (h s' x) ht)
theorem nopre_D (w : PlotW P) {E : List Str} (hn : ∀ x ∈ E, nmOk x) (hl : E.length ≤ 1000) (hb : (decide ((ddF E).length = E.length) && E.all fun x => decide (x ∈ othersF P)) = false) : NoPre P s (.tup (strV E)) := fun s' _ => is_preload_D w hn hl hb
theorem nopre_B {ws : List Mv} (hw : ∀ w ∈ ws, ∀ s', Ex0 s s' → Wp (m_is_name [w] s') fun z => z.1 = .bl (nbV w) ∧ Ex0 s' z.2) (hl : ws.length ≤ 1000) (hb : ws.all nbV = false) : NoPre P s (.tup ws) := fun s' x => is_preload_no (are_names_no (fun w h s2 y => hw w h s2 (x.trans y)) hl hb)
theorem all_not {E : List Str} {y : Str} (hy : y ∈ E) (h : y ∉ othersF P) (b : Bool) : (b && E.all fun x => decide (x ∈ othersF P)) = false := by
  have : (E.all fun x => decide (x ∈ othersF P)) = false := by
    cases e : (E.all fun x => decide (x ∈ othersF P)) with
    | false => rfl
    | true => exact absurd (of_decide_eq_true (List.all_eq_true.mp e y hy)) h
  rw [this, Bool.and_false]
theorem odd_no (w : PlotW P) (hf : ∃ r, P.folk = x_main :: x_a :: r) (hfn : ∀ y ∈ P.folk, nmOk y) (hnw : x_nowhere ∉ P.folk) (g1 : m1 < s.sz ∧ s.get m1 = some (.lst [])) (g2 : m2 < s.sz ∧ s.get m2 = some (.lst [.str x_a])) (g3 : m3 < s.sz ∧ s.get m3 = some (.lst [.str x_a])) : ∀ v ∈ (tenV ++ sevV m1 m2) ++ oddT P m3, NoPre P s v := by
  obtain ⟨f1, f2, f3, f4, f5, f6, f7, f8, f9, f10⟩ := nm_facts
  have wl := w.len
  obtain ⟨fr, hf⟩ := hf
  have mainE : mainF P = x_main := by unfold mainF; rw [show P.libs.map (·.own) = P.folk from rfl, hf]; rfl
  have nm : x_main ∉ othersF P := fun h => ((others_mem w).mp h).2 mainE.symm
  have nn : x_nowhere ∉ othersF P := fun h => hnw ((others_mem w).mp h).1
  have tr : ∀ {m : Nat} {ws : List Mv}, m < s.sz → s.get m = some (.lst ws) → ∀ s', Ex0 s s' → tyOf (.ref m) s' = some .list := fun h1 h2 s' x => by
    unfold tyOf
    simp only [x.at h1 h2]
  have st : ∀ {x : Str} (s' : Ms), x.length ≤ 1000 → Wp (m_is_name [.str x] s') fun z => z.1 = .bl (nbV (.str x)) ∧ Ex0 s' z.2 := fun s' h => is_name_str h
  intro v hv
  simp only [tenV, sevV, oddT, List.cons_append, List.nil_append, List.mem_cons, List.not_mem_nil, or_false] at hv
  rcases hv with rfl | rfl | rfl | rfl | rfl | rfl | rfl | rfl | rfl | rfl | rfl | rfl | rfl | rfl | rfl | rfl | rfl | rfl | rfl | rfl
  · exact nopre_ty (t := .none) (fun _ _ => rfl) (by decide)
  · exact nopre_ty (t := .bool) (fun _ _ => rfl) (by decide)
  · exact nopre_ty (t := .int) (fun _ _ => rfl) (by decide)
  · exact nopre_ty (t := .str) (fun _ _ => rfl) (by decide)
  · exact nopre_ty (t := .str) (fun _ _ => rfl) (by decide)
  · exact nopre_D (E := [x_main]) w (fun y hy => by rw [List.mem_singleton] at hy; subst hy; exact f1) (by simp) (all_not (List.mem_cons_self ..) nm _)
  · exact nopre_D (E := [x_a, x_main]) w (fun y hy => by
      simp only [List.mem_cons, List.not_mem_nil, or_false] at hy
      rcases hy with rfl | rfl
      · exact f2
      · exact f1) (by simp) (all_not (y := x_main) (by simp) nm _)
  · exact nopre_D (E := [x_a, x_a]) w (fun y hy => by
      simp only [List.mem_cons, List.not_mem_nil, or_false] at hy
      rcases hy with rfl | rfl <;> exact f2) (by simp) (by
        have : decide ((ddF [x_a, x_a]).length = [x_a, x_a].length) = false := by decide +kernel
        rw [this, Bool.false_and])
  · exact nopre_D (E := [x_nowhere]) w (fun y hy => by rw [List.mem_singleton] at hy; subst hy; exact f3) (by simp) (all_not (List.mem_cons_self ..) nn _)
  · exact nopre_B (fun v hv s' _ => by rw [List.mem_singleton] at hv; subst hv; exact is_name_no (t := .int) rfl (by decide)) (by simp) rfl
  · exact nopre_ty (t := .list) (tr g1.1 g1.2) (by decide)
  · exact nopre_ty (t := .list) (tr g2.1 g2.2) (by decide)
  · exact nopre_B (fun v hv s' _ => by rw [List.mem_singleton] at hv; subst hv; exact is_name_no (t := .tuple) rfl (by decide)) (by simp) rfl
  · exact nopre_B (fun v hv s' _ => by rw [List.mem_singleton] at hv; subst hv; exact is_name_no (t := .none) rfl (by decide)) (by simp) rfl
  · exact nopre_B (fun v hv s' _ => by rw [List.mem_singleton] at hv; subst hv; exact st s' f8) (by simp) (by
      show ((nameB x_) && true) = false
      rw [f4]; rfl)
  · exact nopre_B (fun v hv s' _ => by rw [List.mem_singleton] at hv; subst hv; exact st s' f9) (by simp) (by
      show ((nameB x_A) && true) = false
      rw [f5]; rfl)
  · exact nopre_B (fun v hv s' _ => by
      simp only [List.mem_cons, List.not_mem_nil, or_false] at hv
      rcases hv with rfl | rfl
      · exact st s' f10
      · exact is_name_no (t := .bool) rfl (by decide)) (by simp) (by
      show ((nameB x_a) && (false && true)) = false
      rw [Bool.false_and, Bool.and_false])
  · exact nopre_D (E := P.folk) w hfn (by unfold Plot.folk; rw [List.length_map]; omega) (all_not (y := x_main) (by rw [hf]; simp) nm _)
  · exact nopre_B (fun v hv s' _ => by rw [List.mem_singleton] at hv; subst hv; exact st s' f7) (by simp) (by
      show ((nameB axsS) && true) = false
      rw [f6]; rfl)
  · exact nopre_B (fun v hv s' x => by rw [List.mem_singleton] at hv; subst hv; exact is_name_no (t := .list) (tr g3.1 g3.2 s' x) (by decide)) (by simp) rfl
/-- lists of two answers -/
theorem two_same {p q : Mv} {s : Ms} {a b : Nat} (ga : s.get a = some (.lst [p, q])) (gb : s.get b = some (.lst [p, q])) (la : a < s.sz) (lb : b < s.sz) (hp : Pn 1 p) (hq : Pn 1 q) : Wp (m__law_same 12 [.ref a, .ref b] s) fun y => y.1 = .bl true ∧ Ex0 s y.2 := by
  refine same_lst (d := 11) ga gb la lb (by simp) rfl fun i w' u h1 h2 s' xx => ?_
  rw [h1] at h2
  cases h2
  have hm' := List.mem_of_getElem? h1
  simp only [List.mem_cons, List.not_mem_nil, or_false] at hm'
  rcases hm' with rfl | rfl
  · exact same_pn hp (by omega)
  · exact same_pn hq (by omega)
/-- shows_preload told twice -/
theorem shown_sp (w : PlotW P) (pu : Pu 7 P.mv) {v : Mv} {s : Ms} (hno : NoPre P s v) {o0 : Option Mv} {t : Me} : Wp ((mlst (mcons (mcall m_shows_preload (mcons (mvar 1) (mcons (mtup (mnil)) (mcons (mvar 2) (mnil))))) (mcons (mcall m_shows_preload (mkw [2, 1, 0] (mcons (mvar 2) (mcons (mlst (mnil)) (mcons (mcall (m__law_lists 8) (mcons (mvar 1) (mnil))) (mnil)))))) (mnil)))) (o0 :: some P.mv :: some v :: t) s) fun z => ∃ a, z.1 = .ref a ∧ s.sz ≤ a ∧ a < z.2.sz ∧ z.2.get a = some (.lst [.bl false, .bl false]) ∧ Ex0 s z.2 := by
  simp only [wp_ob, wp_om, wp_some, wp_mvar, sset, sexp, sret, sif, spar, spar3, snx, mtB, mtst, mop1, mop2, mcall, mcons, mnil, mcon, mif, mtup, mlst, mand, mor, mnot, mandV, morV, mnotV, lset_eq, List.getElem?_cons_zero, List.getElem?_cons_succ, List.set_cons_zero, List.set_cons_succ, cond_true, cond_false, nT (show ([] : List Mv).length ≤ 4 by simp)]
  refine (shows_no w pu (rd_plot P) (.tup .nil) hno).mono fun z hz => ?_
  obtain ⟨u, s1⟩ := z
  obtain ⟨e, x1⟩ := hz
  simp only at e x1
  subst e
  have hk : Wp (mkw [2, 1, 0] (mcons (mvar 2) (mcons (mlst (mnil)) (mcons (mcall (m__law_lists 8) (mcons (mvar 1) (mnil))) (mnil)))) (o0 :: some P.mv :: some v :: t) s1) fun y => ∃ v0 q, y.1 = [v0, .ref q, v] ∧ Rd y.2 P.mv v0 ∧ y.2.get q = some (.lst []) ∧ q < y.2.sz ∧ Ex0 s1 y.2 := by
    unfold mkw
    simp only [wp_ob, wp_om, wp_some, wp_mvar, sset, sexp, sret, sif, spar, spar3, snx, mtB, mtst, mop1, mop2, mcall, mcons, mnil, mcon, mif, mtup, mlst, mand, mor, mnot, mandV, morV, mnotV, lset_eq, List.getElem?_cons_zero, List.getElem?_cons_succ, List.set_cons_zero, List.set_cons_succ, cond_true, cond_false, newL_of (show ([] : List Mv).length ≤ 16777216 by simp)]
    refine (lists_sp 7 P.mv (push s1 (.lst [])) pu).mono fun z hz => ?_
    obtain ⟨v0, s2⟩ := z
    obtain ⟨r, x2⟩ := hz
    simp only at r x2
    exact ⟨v0, s1.sz, rfl, r, x2.at (by simp only [push_sz]; omega) Ms.get_push, Nat.lt_of_lt_of_le (by simp only [push_sz]; omega) x2.sz, Ex0.push.trans x2⟩
  simp only [wp_ob, wp_om, wp_some, wp_mvar, sset, sexp, sret, sif, spar, spar3, snx, mtB, mtst, mop1, mop2, mcall, mcons, mnil, mcon, mif, mtup, mlst, mand, mor, mnot, mandV, morV, mnotV, lset_eq, List.getElem?_cons_zero, List.getElem?_cons_succ, List.set_cons_zero, List.set_cons_succ, cond_true, cond_false]
  refine hk.mono ?_
  rintro ⟨u, s2⟩ ⟨v0, q, e, r, gq, lq, x2⟩
  simp only at e r gq lq x2
  subst e
  refine (shows_no w pu r (.lst lq gq .nil) (fun s' x => hno s' ((x1.trans x2).trans x))).mono fun z hz => ?_
  obtain ⟨u, s3⟩ := z
  obtain ⟨e, x3⟩ := hz
  simp only at e x3
  subst e
  simp only [wp_ob, wp_om, wp_some, wp_mvar, sset, sexp, sret, sif, spar, spar3, snx, mtB, mtst, mop1, mop2, mcall, mcons, mnil, mcon, mif, mtup, mlst, mand, mor, mnot, mandV, morV, mnotV, lset_eq, List.getElem?_cons_zero, List.getElem?_cons_succ, List.set_cons_zero, List.set_cons_succ, cond_true, cond_false]
  rw [newL_of (by simp), wp_some]
  have z : s.sz ≤ s3.sz := ((x1.trans x2).trans x3).sz
  exact ⟨s3.sz, rfl, z, by simp only [push_sz]; omega, Ms.get_push, ((x1.trans x2).trans x3).trans Ex0.push⟩
end

end
section
/-! ### k70: right -/
def wrQ (n : Nat) : Nat → Str × Int × Mv
  | 0 => (x_nowhere, 0, .tup [.str x_lost])
  | 1 => (x_main, (n : Int), .tup [.str x_lost])
  | 2 => (x_nowhere, 9, .tup [.str x_nobody])
  | _ => (x_main, -1, .tup [.str x_lost])
def wrV (n k : Nat) : Mv := wishV (wrQ n k).1 (wrQ n k).2.1 (wrQ n k).2.2
def dueQ (n : Nat) : Nat → Mv
  | 0 => .tup [.str x_lib, .str x_nowhere]
  | 1 => .tup [.str x_use, .int (n : Int)]
  | 2 => .tup [.str x_lib, .str x_nowhere]
  | _ => .tup [.str x_use, .int (-1)]
section
variable {s : Ms} {P : Plot} {n k b m : Nat} {C : List Want} {rest : List Mv}
theorem rdL_self {s : Ms} : ∀ {ws : List Mv}, (∀ w ∈ ws, Rd s w w) → RdL s ws ws
  | [], _ => .nil
  | _ :: _, h => .cons (h _ (by simp)) (rdL_self fun z hz => h z (by simp [hz]))
theorem rd_self {s : Ms} {d : Nat} {w : Mv} (h : Pu d w) : Rd s w w := by
  induction h with
  | non => exact .non
  | bl b => exact .bl b
  | int i => exact .int i
  | str x => exact .str x
  | tup _ _ ih => exact .tup (rdL_self ih)
theorem pu_wr : Pu 2 (wrV n k) := by
  unfold wrV wishV
  refine .tup (by simp) fun v hv => ?_
  simp only [List.mem_cons, List.not_mem_nil, or_false] at hv
  rcases hv with rfl | rfl | rfl
  · exact .str _
  · exact .int _
  · match k with
    | 0 => exact .tup (by simp) fun v hv => by rw [List.mem_singleton] at hv; subst hv; exact .str _
    | 1 => exact .tup (by simp) fun v hv => by rw [List.mem_singleton] at hv; subst hv; exact .str _
    | 2 => exact .tup (by simp) fun v hv => by rw [List.mem_singleton] at hv; subst hv; exact .str _
    | k + 3 => exact .tup (by simp) fun v hv => by rw [List.mem_singleton] at hv; subst hv; exact .str _
theorem pn_two {p q : Mv} (hp : Pn 0 p) (hq : Pn 0 q) : Pn 1 (.tup [p, q]) := .tup (by simp) fun v hv => by
  simp only [List.mem_cons, List.not_mem_nil, or_false] at hv
  rcases hv with rfl | rfl
  · exact hp
  · exact hq
theorem pn_due : Pn 1 (dueQ n k) := by
  match k with
  | 0 => exact pn_two (.str _) (.str _)
  | 1 => exact pn_two (.str _) (.int _)
  | 2 => exact pn_two (.str _) (.str _)
  | k + 3 => exact pn_two (.str _) (.int _)
theorem pu_all (hl : C.length ≤ 500) (hr : rest.length ≤ 400) (h : ∀ w ∈ rest, Pu 2 w) : Pu 7 (.tup (allW3 C (wrQ n k).1 (wrQ n k).2.1 (wrQ n k).2.2 rest)) := by
  refine (Pu.tup (n := 2) (by unfold allW3; simp; omega) fun v hv => ?_).up (by omega)
  unfold allW3 at hv
  rw [List.mem_append, List.mem_cons] at hv
  rcases hv with hv | rfl | hv
  · obtain ⟨c, _, rfl⟩ := List.mem_map.mp hv
    exact pu_want
  · exact pu_wr
  · exact h v hv
theorem refK_sp (w : PlotW P) (pu : Pu 7 P.mv) {l : PLib} (hm : P.lib? x_main = some l) (hn : n = l.uses.length) (hw : P.lib? x_nowhere = none) {v1 : Mv} (hC : ∀ c ∈ C, WantOk P c) (hl : C.length ≤ 500) (hr : rest.length ≤ 400) (hp : ∀ w ∈ rest, Pu 2 w) (h1 : Rd s (.tup (allW3 C (wrQ n k).1 (wrQ n k).2.1 (wrQ n k).2.2 rest)) v1) {j : Nat} (hj : j < 7) : Wp (m__law_refused [.int (j : Int), P.mv, v1] s) fun y => y.1 = dueQ n k ∧ Ex0 s y.2 := by
  have hW := pu_all (n := n) (k := k) hl hr hp
  match k, h1, hW with
  | 0, h1, hW => exact refusedL_sp w pu (rd_plot P) h1 hW hC (by omega) hw hj
  | 1, h1, hW => exact refusedU_sp w pu (rd_plot P) h1 hW hC (by omega) ⟨l, hm, fun z => by have z2 := z.2; rw [hn] at z2; exact absurd z2 (by show ¬ ((l.uses.length : Int) < (l.uses.length : Int)); omega)⟩ hj
  | 2, h1, hW => exact refusedL_sp w pu (rd_plot P) h1 hW hC (by omega) hw hj
  | k + 3, h1, hW => exact refusedU_sp w pu (rd_plot P) h1 hW hC (by omega) ⟨l, hm, fun z => absurd z.1 (by show ¬ ((0 : Int) ≤ -1); omega)⟩ hj
theorem nowhere_no {most : Nat} (h : P.folk = x_main :: POOL2.take most) : x_nowhere ∉ P.folk := by
  have hn : x_nowhere ∉ x_main :: POOL2 := by decide +kernel
  rw [h]
  intro z
  refine hn ?_
  rcases List.mem_cons.mp z with z | z
  · exact z ▸ List.mem_cons_self ..
  · exact List.mem_cons_of_mem _ (List.mem_of_mem_take z)
theorem lib_none70 {x : Str} (h : x ∉ P.folk) : P.lib? x = none := by
  cases e : P.lib? x with
  | none => rfl
  | some l => exact absurd (List.mem_map.mpr ⟨l, (lib_mem e).1, (lib_mem e).2⟩) h
theorem list_T70 {ws : List Mv} (hl : ws.length ≤ 1000) : listW [.tup ws] s = some (.ref s.sz, push s (.lst ws)) := by
  show (some ws).ob (fun xs => newL xs s) = _
  rw [ob_of, newL_of (by omega)]
theorem wr_ix {q k : Nat} (g : s.get q = some (.lst [wrV n 0, wrV n 1, wrV n 2, wrV n 3])) (hk : k < 4) : ixA (.ref q) (.int (k : Int)) s = some (wrV n k, s) := by
  refine ixA_of (items_ref g) (atF_of ?_)
  match k, hk with
  | 0, _ => rfl
  | 1, _ => rfl
  | 2, _ => rfl
  | 3, _ => rfl
theorem due_ix {q k : Nat} (g : s.get q = some (.lst [dueQ n 0, dueQ n 1, dueQ n 2, dueQ n 3])) (hk : k < 4) : ixA (.ref q) (.int (k : Int)) s = some (dueQ n k, s) := by
  refine ixA_of (items_ref g) (atF_of ?_)
  match k, hk with
  | 0, _ => rfl
  | 1, _ => rfl
  | 2, _ => rfl
  | 3, _ => rfl
theorem right_sp (h : Bx' s b m) (hm : m + 900 < 1000000) : Wp (m__law_right [.ref b] s) fun x => x.1 = .bl true ∧ Bx' x.2 b (m + 900) := by
  refine wp_fn [some (.ref b), none, none, none, none, none, none, none, none, none, none, none] rfl rfl ?_
  unfold bd__law_right
  refine wp_seq ?_
  simp only [sset, wp_om]
  refine (progO_sp h (by omega)).mono fun y hy => ?_
  obtain ⟨u, s1⟩ := y
  obtain ⟨P, most, eu, h2, most1, hmost, x1, B1⟩ := hy
  simp only at eu x1 B1
  subst eu
  have o := own2_of h2 hmost (by omega)
  have w := o.w
  have wl := w.len
  have pu := o.pu
  have hf : ∃ r, P.folk = x_main :: x_a :: r := by
    rw [h2.fk]
    obtain ⟨q, rfl⟩ : ∃ q, most = q + 1 := ⟨most - 1, by omega⟩
    exact ⟨_, rfl⟩
  have hfn : ∀ y ∈ P.folk, nmOk y := fun y hy => pool2_nm y (by
    rw [h2.fk] at hy
    rcases List.mem_cons.mp hy with z | z
    · exact z ▸ List.mem_cons_self ..
    · exact List.mem_cons_of_mem _ (List.mem_of_mem_take z))
  have hnw := nowhere_no h2.fk
  refine ⟨trivial, wp_seq (wp_for (wp_S' ?_))⟩
  simp only [mcall, mcons, mnil, wp_ob, wp_mvar, wp_om, lset_eq, List.set_cons_zero, List.set_cons_succ, List.getElem?_cons_zero, List.getElem?_cons_succ, wp_some]
  refine (odd_sp w hf).mono fun y hy => ?_
  obtain ⟨u, s2⟩ := y
  obtain ⟨n0, m1, m2, m3, eu, n1, n2, gn, ⟨a1, a2, a3⟩, ⟨b1, b2, b3⟩, ⟨c1, c2, c3⟩, x2⟩ := hy
  simp only at eu n2 gn a2 a3 b2 b3 c2 c3 x2
  subst eu
  have hno := odd_no (s := s2) w hf hfn hnw ⟨a2, a3⟩ ⟨b2, b3⟩ ⟨c2, c3⟩
  refine ⟨_, items_ref gn, fun it git => ?_⟩
  refine (wp_loop ((tenV ++ sevV m1 m2) ++ oddT P m3) (fun i r s' => (∃ o2 o3, r = [some (.ref b), some P.mv, o2, o3, none, none, none, none, none, none, none, none]) ∧ Ex0 s2 s') (fun i r s' _ a => git s' (items_ref (a.2.at n2 gn))) ?_ 1000000000 0 _ s2 (by simp [tenV, sevV, oddT]) (by omega) ⟨⟨_, _, rfl⟩, Ex0.refl⟩).mono ?_
  · rintro i v r s' hv ⟨⟨o2, o3, rfl⟩, xx⟩
    have hv' := hno v (List.mem_of_getElem? hv)
    refine ⟨[some (.ref b), some P.mv, some v, o3, none, none, none, none, none, none, none, none], rfl, wp_seq ?_⟩
    simp only [sset, wp_om]
    refine (shown_sp w pu (s := s') (fun s3 x3 => hv' s3 (xx.trans x3))).mono fun z hz => ?_
    obtain ⟨u, s3⟩ := z
    obtain ⟨a, e, a1, a2, ga, x3⟩ := hz
    simp only at e a2 ga x3
    subst e
    refine ⟨trivial, wp_siff (wp_nott ?_)⟩
    simp only [wp_ob, wp_om, wp_some, wp_mvar, sset, sexp, sret, sif, spar, spar3, snx, mtB, mtst, mop1, mop2, mcall, mcons, mnil, mcon, mif, mtup, mlst, mand, mor, mnot, mandV, morV, mnotV, lset_eq, List.getElem?_cons_zero, List.getElem?_cons_succ, List.set_cons_zero, List.set_cons_succ, cond_true, cond_false]
    rw [newL_of (by simp), wp_some]
    refine (two_same (Ex0.push.at a2 ga) Ms.get_push (Nat.lt_of_lt_of_le a2 Ex0.push.sz) (by simp only [push_sz]; omega) (.bl _) (.bl _)).mono fun z hz => ?_
    exact ⟨hz.1, by trivial, by trivial, ⟨_, _, rfl⟩, ((xx.trans x3).trans Ex0.push).trans hz.2⟩
  rintro ⟨fl, r, s3⟩ ⟨ef, ⟨o2, o3, er⟩, x3⟩
  simp only at ef er x3
  subst ef er
  have B3 := (B1.ex0 x2).ex0 x3
  refine ⟨rfl, wp_seq (wp_siff (wp_nott ?_))⟩
  -- the preload of nobody, of one
  obtain ⟨fr, hf⟩ := hf
  obtain ⟨l0, l1, ls, hls, e0, e1⟩ : ∃ l0 l1 ls, P.libs = l0 :: l1 :: ls ∧ l0.own = x_main ∧ l1.own = x_a := by
    unfold Plot.folk at hf
    cases hp : P.libs with
    | nil => rw [hp] at hf; cases hf
    | cons l0 r =>
      cases r with
      | nil => rw [hp] at hf; simp at hf
      | cons l1 ls =>
        rw [hp] at hf
        simp only [List.map_cons, List.cons.injEq] at hf
        exact ⟨l0, l1, ls, rfl, hf.1, hf.2.1⟩
  have mainE : mainF P = x_main := by unfold mainF; rw [show P.libs.map (·.own) = P.folk from rfl, hf]; rfl
  have aO : x_a ∈ othersF P := (others_mem w).mpr ⟨by rw [hf]; simp, by rw [mainE]; decide +kernel⟩
  have hi1 : ∀ s', ixA (.tup (P.libs.map PLib.mv)) (.int 1) s' = some (l1.mv, s') := fun s' => ixA_of rfl (atF_of (i := 1) (by rw [hls]; rfl))
  have hi0 : ∀ s', ixA (.tup (P.libs.map PLib.mv)) (.int 0) s' = some (l0.mv, s') := fun s' => ixA_of rfl (atF_of (i := 0) (by rw [hls]; rfl))
  simp only [wp_ob, wp_om, wp_some, wp_mvar, sset, sexp, sret, sif, spar, spar3, snx, mtB, mtst, mop1, mop2, mcall, mcons, mnil, mcon, mif, mtup, mlst, mand, mor, mnot, mandV, morV, mnotV, lset_eq, List.getElem?_cons_zero, List.getElem?_cons_succ, List.set_cons_zero, List.set_cons_succ, cond_true, cond_false, nT (show ([] : List Mv).length ≤ 4 by simp)]
  refine (shows_yes w pu (rd_plot P) (.tup .nil) (E := []) (fun x hx => by cases hx) (fun x hx => by cases hx) .nil (by simp)).mono fun z hz => ?_
  obtain ⟨u, s4⟩ := z
  obtain ⟨e, x4⟩ := hz
  simp only at e x4
  subst e
  simp only [wp_ob, wp_om, wp_some, wp_mvar, sset, sexp, sret, sif, spar, spar3, snx, mtB, mtst, mop1, mop2, mcall, mcons, mnil, mcon, mif, mtup, mlst, mand, mor, mnot, mandV, morV, mnotV, lset_eq, List.getElem?_cons_zero, List.getElem?_cons_succ, List.set_cons_zero, List.set_cons_succ, cond_true, cond_false, newL_of (show ([] : List Mv).length ≤ 16777216 by simp), plot0, hi1, lib0, e1, nT (show [Mv.str x_a].length ≤ 4 by simp)]
  refine (shows_yes w pu (rd_plot P) (.lst (show s4.sz < (push s4 (.lst [])).sz by simp only [push_sz]; omega) Ms.get_push .nil) (E := [x_a]) (fun x hx => by rw [List.mem_singleton] at hx; subst hx; exact aO) (fun x hx => by rw [List.mem_singleton] at hx; subst hx; exact nm_facts.2.1) (by simp) (by simp)).mono fun z hz => ?_
  obtain ⟨u, s5⟩ := z
  obtain ⟨e, x5⟩ := hz
  simp only at e x5
  subst e
  simp only [wp_ob, wp_om, wp_some, wp_mvar, sset, sexp, sret, sif, spar, spar3, snx, mtB, mtst, mop1, mop2, mcall, mcons, mnil, mcon, mif, mtup, mlst, mand, mor, mnot, mandV, morV, mnotV, lset_eq, List.getElem?_cons_zero, List.getElem?_cons_succ, List.set_cons_zero, List.set_cons_succ, cond_true, cond_false]
  rw [newL_of (by simp), wp_some]
  simp only [wp_ob, wp_om, wp_some, wp_mvar, sset, sexp, sret, sif, spar, spar3, snx, mtB, mtst, mop1, mop2, mcall, mcons, mnil, mcon, mif, mtup, mlst, mand, mor, mnot, mandV, morV, mnotV, lset_eq, List.getElem?_cons_zero, List.getElem?_cons_succ, List.set_cons_zero, List.set_cons_succ, cond_true, cond_false]
  rw [newL_of (by simp), wp_some]
  refine (two_same (Ex0.push.at (by simp only [push_sz]; omega) Ms.get_push) Ms.get_push (by simp only [push_sz]; omega) (by simp only [push_sz]; omega) (.bl _) (.bl _)).mono fun z hz => ?_
  obtain ⟨u, s6⟩ := z
  obtain ⟨e, x6⟩ := hz
  simp only at e x6
  subst e
  have X36 : Ex0 s3 s6 := ((((x4.trans Ex0.push).trans x5).trans Ex0.push).trans Ex0.push).trans x6
  have B6 := B3.ex0 X36
  refine ⟨rfl, by trivial, by trivial, wp_seq ?_⟩
  -- wishes
  unfold spar
  simp only [wp_ob, wp_om, wp_some, wp_mvar, sset, sexp, sret, sif, spar, spar3, snx, mtB, mtst, mop1, mop2, mcall, mcons, mnil, mcon, mif, mtup, mlst, mand, mor, mnot, mandV, morV, mnotV, lset_eq, List.getElem?_cons_zero, List.getElem?_cons_succ, List.set_cons_zero, List.set_cons_succ, cond_true, cond_false]
  refine (wishes_sp o (calls_ne h2) (most := 2) (by omega) (by omega) B6 (by omega)).mono fun y hy => ?_
  obtain ⟨u, s7⟩ := y
  obtain ⟨C, eu, hC, Cne, Cl, Cnd, x7, B7⟩ := hy
  simp only at eu x7 B7
  subst eu
  have Cl : C.length ≤ 2 := by omega
  have hlen : lenW [.tup (useV l0.uses)] s7 = some (.int (l0.uses.length : Int), s7) := by
    rw [lenW_of (ws := useV l0.uses) rfl, useV_len]
  simp only [wp_ob, wp_om, wp_some, wp_mvar, sset, sexp, sret, sif, spar, spar3, snx, mtB, mtst, mop1, mop2, mcall, mcons, mnil, mcon, mif, mtup, mlst, mand, mor, mnot, mandV, morV, mnotV, lset_eq, List.getElem?_cons_zero, List.getElem?_cons_succ, List.set_cons_zero, List.set_cons_succ, cond_true, cond_false, plot0, hi0, lib3, hlen]
  refine ⟨trivial, wp_seq ?_⟩
  generalize hn : l0.uses.length = n
  have hneg : negW (.int 1) s7 = some (.int (-1), s7) := rfl
  simp only [wp_ob, wp_om, wp_some, wp_mvar, sset, sexp, sret, sif, spar, spar3, snx, mtB, mtst, mop1, mop2, mcall, mcons, mnil, mcon, mif, mtup, mlst, mand, mor, mnot, mandV, morV, mnotV, lset_eq, List.getElem?_cons_zero, List.getElem?_cons_succ, List.set_cons_zero, List.set_cons_succ, cond_true, cond_false, hneg, nT (show [Mv.str x_lost].length ≤ 4 by simp), nT (show [Mv.str x_nobody].length ≤ 4 by simp), nT (show [Mv.str x_nowhere, .int 0, .tup [.str x_lost]].length ≤ 4 by simp), nT (show [Mv.str x_main, .int (n : Int), .tup [.str x_lost]].length ≤ 4 by simp), nT (show [Mv.str x_nowhere, .int 9, .tup [.str x_nobody]].length ≤ 4 by simp), nT (show [Mv.str x_main, .int (-1), .tup [.str x_lost]].length ≤ 4 by simp)]
  rw [newL_of (by simp), wp_some]
  have X8 : Ex0 s7 (push s7 (.lst [wrV n 0, wrV n 1, wrV n 2, wrV n 3])) := Ex0.push
  have g8 : (push s7 (.lst [wrV n 0, wrV n 1, wrV n 2, wrV n 3])).get s7.sz = some (.lst [wrV n 0, wrV n 1, wrV n 2, wrV n 3]) := Ms.get_push
  have l8 : s7.sz < (push s7 (.lst [wrV n 0, wrV n 1, wrV n 2, wrV n 3])).sz := by simp only [push_sz]; omega
  refine ⟨trivial, ?_⟩
  show Wp ((sseq _ _) [some (.ref b), some P.mv, o2, o3, some (.tup (C.map wantV)), some (.int (n : Int)), some (.ref s7.sz), none, none, none, none, none] (push s7 (.lst [wrV n 0, wrV n 1, wrV n 2, wrV n 3]))) _
  have nb8 : s7.sz ≠ b := by have := B7.lt; omega
  generalize s7.sz = q8 at g8 l8 nb8 ⊢
  generalize push s7 (.lst [wrV n 0, wrV n 1, wrV n 2, wrV n 3]) = s8 at X8 g8 l8 ⊢
  have B8 := B7.ex0 X8
  refine wp_seq ?_
  have hneg : negW (.int 1) s8 = some (.int (-1), s8) := rfl
  simp only [wp_ob, wp_om, wp_some, wp_mvar, sset, sexp, sret, sif, spar, spar3, snx, mtB, mtst, mop1, mop2, mcall, mcons, mnil, mcon, mif, mtup, mlst, mand, mor, mnot, mandV, morV, mnotV, lset_eq, List.getElem?_cons_zero, List.getElem?_cons_succ, List.set_cons_zero, List.set_cons_succ, cond_true, cond_false, hneg, nT (show [Mv.str x_lib, .str x_nowhere].length ≤ 4 by simp), nT (show [Mv.str x_use, .int (n : Int)].length ≤ 4 by simp), nT (show [Mv.str x_use, .int (-1)].length ≤ 4 by simp)]
  rw [newL_of (by simp), wp_some]
  have X9 : Ex0 s8 (push s8 (.lst [dueQ n 0, dueQ n 1, dueQ n 2, dueQ n 3])) := Ex0.push
  have g9 : (push s8 (.lst [dueQ n 0, dueQ n 1, dueQ n 2, dueQ n 3])).get s8.sz = some (.lst [dueQ n 0, dueQ n 1, dueQ n 2, dueQ n 3]) := Ms.get_push
  have l9 : s8.sz < (push s8 (.lst [dueQ n 0, dueQ n 1, dueQ n 2, dueQ n 3])).sz := by simp only [push_sz]; omega
  refine ⟨trivial, ?_⟩
  show Wp ((sseq _ _) [some (.ref b), some P.mv, o2, o3, some (.tup (C.map wantV)), some (.int (n : Int)), some (.ref q8), some (.ref s8.sz), none, none, none, none] (push s8 (.lst [dueQ n 0, dueQ n 1, dueQ n 2, dueQ n 3]))) _
  have nb9 : s8.sz ≠ b := by have := B8.lt; omega
  generalize s8.sz = q9 at g9 l9 nb9 ⊢
  generalize push s8 (.lst [dueQ n 0, dueQ n 1, dueQ n 2, dueQ n 3]) = s9 at X9 g9 l9 ⊢
  have B9 := B8.ex0 X9
  refine wp_seq ?_
  simp only [wp_ob, wp_om, wp_some, wp_mvar, sset, sexp, sret, sif, spar, spar3, snx, mtB, mtst, mop1, mop2, mcall, mcons, mnil, mcon, mif, mtup, mlst, mand, mor, mnot, mandV, morV, mnotV, lset_eq, List.getElem?_cons_zero, List.getElem?_cons_succ, List.set_cons_zero, List.set_cons_succ, cond_true, cond_false]
  refine (take_sp B9 (by omega) (k := 4) (by omega) (by omega)).mono fun z hz => ?_
  obtain ⟨v, s10⟩ := z
  obtain ⟨i, e, i0, i4, _, x10, B10⟩ := hz
  simp only at e x10 B10
  subst e
  obtain ⟨k, rfl⟩ := Int.eq_ofNat_of_zero_le i0
  have hk : k < 4 := by omega
  have g8' : s10.get q8 = some (.lst [wrV n 0, wrV n 1, wrV n 2, wrV n 3]) := x10.at (Nat.lt_of_lt_of_le l8 X9.sz) nb8 (X9.at l8 g8)
  have l8' : q8 < s10.sz := Nat.lt_of_lt_of_le (Nat.lt_of_lt_of_le l8 X9.sz) x10.sz
  have g9' : s10.get q9 = some (.lst [dueQ n 0, dueQ n 1, dueQ n 2, dueQ n 3]) := x10.at l9 nb9 g9
  have l9' : q9 < s10.sz := Nat.lt_of_lt_of_le l9 x10.sz
  refine ⟨trivial, wp_seq (wp_for (wp_R1 ?_))⟩
  simp only [wp_ob, wp_om, wp_some, wp_mvar, sset, sexp, sret, sif, spar, spar3, snx, mtB, mtst, mop1, mop2, mcall, mcons, mnil, mcon, mif, mtup, mlst, mand, mor, mnot, mandV, morV, mnotV, lset_eq, List.getElem?_cons_zero, List.getElem?_cons_succ, List.set_cons_zero, List.set_cons_succ, cond_true, cond_false]
  refine ⟨7, rfl, okI_of (by omega) (by omega), ?_⟩
  have hmain : P.lib? x_main = some l0 := e0 ▸ lib_at w (by rw [hls]; simp)
  have hno := lib_none70 hnw
  have hwix : ∀ s', Ex0 s10 s' → ixA (.ref q8) (.int (k : Int)) s' = some (wrV n k, s') := fun s' x => wr_ix (x.at l8' g8') hk
  have hwix2 : ∀ s', Ex0 s10 s' → ixA (.ref q8) (.int (Int.sub 3 (k : Int))) s' = some (wrV n (3 - k), s') := fun s' x => by
    have : Int.sub 3 (k : Int) = ((3 - k : Nat) : Int) := by show (3 : Int) - k = _; omega
    rw [this]
    exact wr_ix (x.at l8' g8') (by omega)
  have hdix : ∀ s', Ex0 s10 s' → ixA (.ref q9) (.int (k : Int)) s' = some (dueQ n k, s') := fun s' x => due_ix (x.at l9' g9') hk
  have hsub : ∀ s' : Ms, subW (.int 3) (.int (k : Int)) s' = some (.int (Int.sub 3 (k : Int)), s') := fun _ => rfl
  have B0 : ∀ {s'}, Ex0 s10 s' → Bx' s' b (m + 900) := fun x => (B10.ex0 x).mono (by omega)
  refine (wp_loop (rngL 0 (7 : Int).toNat) (fun j r s' => (∃ o9 o10, r = [some (.ref b), some P.mv, o2, o3, some (.tup (C.map wantV)), some (.int (n : Int)), some (.ref q8), some (.ref q9), some (.int (k : Int)), o9, o10, none]) ∧ Ex0 s10 s') (fun j r s' _ _ => gives_rng) ?_ 1000000000 0 _ _ (by rw [rngL_len]; decide) (by omega) ⟨⟨_, _, rfl⟩, Ex0.refl⟩).mono ?_
  · rintro j u r s' hu ⟨⟨o9, o10, rfl⟩, xx⟩
    obtain ⟨hj, rfl⟩ := rngL_get hu
    have hj : j < 7 := hj
    refine ⟨[some (.ref b), some P.mv, o2, o3, some (.tup (C.map wantV)), some (.int (n : Int)), some (.ref q8), some (.ref q9), some (.int (k : Int)), some (.int (0 + (j : Int))), o10, none], rfl, wp_seq ?_⟩
    rw [Int.zero_add]
    have hc1 : addW (.tup (C.map wantV)) (.tup [wrV n k]) s' = some (.tup (C.map wantV ++ [wrV n k]), s') := newT_of (by simp; omega)
    have hc2 : addW (.tup [wrV n k]) (.tup (C.map wantV)) s' = some (.tup ([wrV n k] ++ C.map wantV), s') := newT_of (by simp; omega)
    have hls2 : listW [wrV n k] s' = some (.ref s'.sz, push s' (.lst [.str (wrQ n k).1, .int (wrQ n k).2.1, (wrQ n k).2.2])) := list_T70 (by simp)
    simp only [sset, wp_om]
    refine Wp.mono (Q := fun y => ∃ t0 t1 t2, y.1 = .ref t2 ∧ (t0 < y.2.sz ∧ y.2.get t0 = some (.lst [.str (wrQ n k).1, .int (wrQ n k).2.1, (wrQ n k).2.2])) ∧ (t1 < y.2.sz ∧ y.2.get t1 = some (.lst [.ref t0, wrV n (3 - k)])) ∧ (t2 < y.2.sz ∧ y.2.get t2 = some (.lst [.tup (C.map wantV ++ [wrV n k]), .tup ([wrV n k] ++ C.map wantV), .ref t1])) ∧ Ex0 s' y.2) ?_ ?_
    · simp only [wp_ob, wp_om, wp_some, wp_mvar, sset, sexp, sret, sif, spar, spar3, snx, mtB, mtst, mop1, mop2, mcall, mcons, mnil, mcon, mif, mtup, mlst, mand, mor, mnot, mandV, morV, mnotV, lset_eq, List.getElem?_cons_zero, List.getElem?_cons_succ, List.set_cons_zero, List.set_cons_succ, cond_true, cond_false, hwix s' xx, nT (show [wrV n k].length ≤ 4 by simp), hc1, hc2, hls2]
      have X1 : Ex0 s' (push s' (.lst [.str (wrQ n k).1, .int (wrQ n k).2.1, (wrQ n k).2.2])) := Ex0.push
      have p1 : (push s' (.lst [.str (wrQ n k).1, .int (wrQ n k).2.1, (wrQ n k).2.2])).get s'.sz = some (.lst [.str (wrQ n k).1, .int (wrQ n k).2.1, (wrQ n k).2.2]) := Ms.get_push
      have q1 : s'.sz < (push s' (.lst [.str (wrQ n k).1, .int (wrQ n k).2.1, (wrQ n k).2.2])).sz := by simp only [push_sz]; omega
      generalize s'.sz = t0 at p1 q1 ⊢
      generalize push s' (.lst [.str (wrQ n k).1, .int (wrQ n k).2.1, (wrQ n k).2.2]) = u1 at X1 p1 q1 ⊢
      simp only [wp_ob, wp_om, wp_some, wp_mvar, sset, sexp, sret, sif, spar, spar3, snx, mtB, mtst, mop1, mop2, mcall, mcons, mnil, mcon, mif, mtup, mlst, mand, mor, mnot, mandV, morV, mnotV, lset_eq, List.getElem?_cons_zero, List.getElem?_cons_succ, List.set_cons_zero, List.set_cons_succ, cond_true, cond_false, hsub u1, hwix2 u1 (xx.trans X1)]
      rw [newL_of (by simp), wp_some]
      have X2 : Ex0 u1 (push u1 (.lst [.ref t0, wrV n (3 - k)])) := Ex0.push
      have p2 : (push u1 (.lst [.ref t0, wrV n (3 - k)])).get u1.sz = some (.lst [.ref t0, wrV n (3 - k)]) := Ms.get_push
      have q2 : u1.sz < (push u1 (.lst [.ref t0, wrV n (3 - k)])).sz := by simp only [push_sz]; omega
      generalize u1.sz = t1 at p2 q2 ⊢
      generalize push u1 (.lst [.ref t0, wrV n (3 - k)]) = u2 at X2 p2 q2 ⊢
      simp only [wp_ob, wp_om, wp_some, wp_mvar, sset, sexp, sret, sif, spar, spar3, snx, mtB, mtst, mop1, mop2, mcall, mcons, mnil, mcon, mif, mtup, mlst, mand, mor, mnot, mandV, morV, mnotV, lset_eq, List.getElem?_cons_zero, List.getElem?_cons_succ, List.set_cons_zero, List.set_cons_succ, cond_true, cond_false]
      rw [newL_of (by simp), wp_some]
      have X3 : Ex0 u2 (push u2 (.lst [.tup (C.map wantV ++ [wrV n k]), .tup ([wrV n k] ++ C.map wantV), .ref t1])) := Ex0.push
      refine ⟨t0, t1, u2.sz, rfl, ⟨Nat.lt_of_lt_of_le (Nat.lt_of_lt_of_le q1 X2.sz) X3.sz, X3.at (Nat.lt_of_lt_of_le q1 X2.sz) (X2.at q1 p1)⟩, ⟨Nat.lt_of_lt_of_le q2 X3.sz, X3.at q2 p2⟩, ⟨by simp only [push_sz]; omega, Ms.get_push⟩, (X1.trans X2).trans X3⟩
    rintro ⟨v, u3⟩ ⟨t0, t1, t2, e, ⟨z0, e0'⟩, ⟨z1, e1'⟩, ⟨q3, p3⟩, X3⟩
    simp only at e z0 e0' z1 e1' q3 p3 X3
    subst e
    refine ⟨trivial, ?_⟩
    show Wp ((sif _ _ _) [some (.ref b), some P.mv, o2, o3, some (.tup (C.map wantV)), some (.int (n : Int)), some (.ref q8), some (.ref q9), some (.int (k : Int)), some (.int (j : Int)), some (.ref t2), none] u3) _
    have Xu : Ex0 s10 u3 := xx.trans X3
    refine wp_siff (wp_nott ?_)
    simp only [mcall, mcons, mnil, wp_ob, wp_om, wp_some]
    refine (wp_lcf (L := []) (J := fun _ => True) [Mv.tup (C.map wantV ++ [wrV n k]), .tup ([wrV n k] ++ C.map wantV), .ref t1] id (fun x => [some (.ref b), some P.mv, o2, o3, some (.tup (C.map wantV)), some (.int (n : Int)), some (.ref q8), some (.ref q9), some (.int (k : Int)), some (.int (j : Int)), some (.ref t2), some x]) (fun _ => true) (fun _ => dueQ n k) (by simp) (gives_at (L := []) (J := fun _ => True) (v := .ref t2) (s1 := u3) rfl trivial ExtL.refl fun s2 _ x2 => (by rw [List.map_id]; exact items_ref ((ex_of x2).at q3 p3))) (fun z _ => rfl) (fun z hz s2 _ x2 => ⟨_, rfl, rfl, trivial, ExtL.refl⟩) (fun z hz _ s2 _ x2 => ?_)).mono ?_
    · have y2 := ex_of x2
      simp only [wp_ob, wp_om, wp_some, wp_mvar, sset, sexp, sret, sif, spar, spar3, snx, mtB, mtst, mop1, mop2, mcall, mcons, mnil, mcon, mif, mtup, mlst, mand, mor, mnot, mandV, morV, mnotV, lset_eq, List.getElem?_cons_zero, List.getElem?_cons_succ, List.set_cons_zero, List.set_cons_succ, cond_true, cond_false]
      have hR : ∃ (C' : List Want) (rest : List Mv), (∀ c ∈ C', WantOk P c) ∧ C'.length ≤ 500 ∧ rest.length ≤ 400 ∧ (∀ w ∈ rest, Pu 2 w) ∧ Rd s2 (.tup (allW3 C' (wrQ n k).1 (wrQ n k).2.1 (wrQ n k).2.2 rest)) z := by
        simp only [List.mem_cons, List.not_mem_nil, or_false] at hz
        rcases hz with rfl | rfl | rfl
        · exact ⟨C, [], hC, by omega, by simp, (fun w hw => by cases hw), rd_self (pu_all (by omega) (by simp) fun w hw => by cases hw)⟩
        · refine ⟨[], C.map wantV, (fun c hc => by cases hc), by simp, by simp; omega, fun w hw => ?_, rd_self (pu_all (by simp) (by simp; omega) fun w hw => ?_)⟩
          · obtain ⟨c, _, rfl⟩ := List.mem_map.mp hw
            exact pu_want
          · obtain ⟨c, _, rfl⟩ := List.mem_map.mp hw
            exact pu_want
        · refine ⟨[], [wrV n (3 - k)], (fun c hc => by cases hc), by simp, by simp, fun w hw => by rw [List.mem_singleton] at hw; subst hw; exact pu_wr, ?_⟩
          have ha : Pu 2 (wrV n k) := pu_wr
          have hin : RdL s2 [Mv.str (wrQ n k).1, .int (wrQ n k).2.1, (wrQ n k).2.2] [.str (wrQ n k).1, .int (wrQ n k).2.1, (wrQ n k).2.2] := .cons (.str _) (.cons (.int _) (.cons (rd_self (d := 1) (by
            cases ha with
            | tup _ h => exact h _ (by simp))) .nil))
          exact .lst (Nat.lt_of_lt_of_le z1 y2.sz) (y2.at z1 e1') (.cons (.lst (Nat.lt_of_lt_of_le z0 y2.sz) (y2.at z0 e0') hin) (.cons (rd_self pu_wr) .nil))
      obtain ⟨C', rest, r1, r2, r3, r4, r5⟩ := hR
      refine (refK_sp (C := C') (rest := rest) w pu hmain hn.symm hno r1 r2 r3 r4 r5 hj).mono fun y hy => ?_
      exact ⟨hy.1, trivial, hy.2.extL⟩
    rintro ⟨v, t5⟩ ⟨u4, e, _, x4'⟩
    cases e
    rw [List.filter_eq_self.mpr fun _ _ => rfl]
    have y4 := ex_of x4'
    have X5 : Ex0 s10 (push u4 (.lst [dueQ n k, dueQ n k, dueQ n k])) := (Xu.trans y4).trans Ex0.push
    show Wp ((mop2 lmulW (mlst (mcons (mop2 ixA (mvar 7) (mvar 8)) (mnil))) (mcon (.int 3))) [some (.ref b), some P.mv, o2, o3, some (.tup (C.map wantV)), some (.int (n : Int)), some (.ref q8), some (.ref q9), some (.int (k : Int)), some (.int (j : Int)), some (.ref t2), none] (push u4 (.lst [dueQ n k, dueQ n k, dueQ n k]))) _
    have p5 : (push u4 (.lst [dueQ n k, dueQ n k, dueQ n k])).get u4.sz = some (.lst [dueQ n k, dueQ n k, dueQ n k]) := Ms.get_push
    have q5 : u4.sz < (push u4 (.lst [dueQ n k, dueQ n k, dueQ n k])).sz := by simp only [push_sz]; omega
    generalize u4.sz = t4 at p5 q5 ⊢
    generalize push u4 (.lst [dueQ n k, dueQ n k, dueQ n k]) = u5 at X5 p5 q5 ⊢
    simp only [wp_ob, wp_om, wp_some, wp_mvar, sset, sexp, sret, sif, spar, spar3, snx, mtB, mtst, mop1, mop2, mcall, mcons, mnil, mcon, mif, mtup, mlst, mand, mor, mnot, mandV, morV, mnotV, lset_eq, List.getElem?_cons_zero, List.getElem?_cons_succ, List.set_cons_zero, List.set_cons_succ, cond_true, cond_false, hdix u5 X5, newL_of (show [dueQ n k].length ≤ 16777216 by simp)]
    have hlm : lmulW (.ref u5.sz) (.int 3) (push u5 (.lst [dueQ n k])) = some (.ref (push u5 (.lst [dueQ n k])).sz, push (push u5 (.lst [dueQ n k])) (.lst [dueQ n k, dueQ n k, dueQ n k])) := by
      unfold lmulW
      simp only [Ms.get_push]
      rfl
    rw [hlm, wp_some]
    refine (same_lst (d := 11) (ws := [dueQ n k, dueQ n k, dueQ n k]) (us := [dueQ n k, dueQ n k, dueQ n k]) (Ex0.push.at (by simp only [push_sz]; omega) (Ex0.push.at q5 p5)) Ms.get_push (by simp only [push_sz]; omega) (by simp only [push_sz]; omega) (by simp) rfl fun i w' u h1 h2 s2 x2 => ?_).mono fun z hz => ?_
    · rw [h1] at h2
      cases h2
      have hm' := List.mem_of_getElem? h1
      simp only [List.mem_cons, List.not_mem_nil, or_false] at hm'
      rcases hm' with rfl | rfl | rfl <;> exact same_pn pn_due (by omega)
    · exact ⟨hz.1, by trivial, by trivial, ⟨_, _, rfl⟩, ((X5.trans Ex0.push).trans Ex0.push).trans hz.2⟩
  rintro ⟨fl, r, s11⟩ ⟨ef, ⟨o9, o10, er⟩, x11⟩
  simp only at ef er x11
  subst ef er
  refine ⟨rfl, ?_⟩
  simp only [wp_ob, wp_om, wp_some, wp_mvar, sset, sexp, sret, sif, spar, spar3, snx, mtB, mtst, mop1, mop2, mcall, mcons, mnil, mcon, mif, mtup, mlst, mand, mor, mnot, mandV, morV, mnotV, lset_eq, List.getElem?_cons_zero, List.getElem?_cons_succ, List.set_cons_zero, List.set_cons_succ, cond_true, cond_false]
  exact ⟨_, rfl, rfl, B0 x11⟩
end

end
section
/-! ### the law -/
theorem cell2_ok (ns : List Int) (k : Int) (s : Ms) (h0 : 0 ≤ k) : ∃ x : Int, (mif (mtB (mop2 ltW (mvar 1) (mcall lenW (mcons (mvar 0) (mnil))))) (mop2 ixA (mvar 0) (mvar 1)) (mcon (.int 0))) [some (.fl (ns.map .int)), some (.int k), none, none] s = some (.int x, s) := by
  by_cases h : k < (ns.length : Int)
  · have hx : ∃ x, atF (ns.map Mv.int) k = some (.int x) := by
      have hl : k.toNat < ns.length := by omega
      refine ⟨ns[k.toNat], ?_⟩
      rw [atF_eq]
      unfold L2.atI L2.ixN
      rw [if_pos h0, if_pos (by rw [List.length_map]; exact h)]
      simp [hl]
    obtain ⟨x, hx⟩ := hx
    have hI : ixA (.fl (ns.map Mv.int)) (.int k) s = some (.int x, s) := by
      have e : ixW (.fl (ns.map Mv.int)) (.int k) s = some (.int x, s) := by
        show (some (ns.map Mv.int)).ob (fun ws => (atF ws k).om fun w => (w, s)) = _
        rw [ob_of, hx]
        rfl
      unfold ixA
      rw [e]
    exact ⟨x, by simp [iLt_eq, iEq_eq, lget_eq, lset_eq, lsome_eq, llen_eq, mif, mtB, mop2, ltW, cmpI, mvar, mcall, mcons, mnil, lenW, lenB, hI, h]⟩
  · exact ⟨0, by simp [iLt_eq, iEq_eq, lget_eq, lset_eq, lsome_eq, llen_eq, mif, mtB, mop2, ltW, cmpI, mvar, mcall, mcons, mnil, lenW, lenB, mcon, h]⟩
theorem box2_ok (ns : List Int) (k : Int) (s : Ms) (h0 : 0 ≤ k) : ∃ A C : Int, 0 ≤ A ∧ 0 ≤ C ∧ C < 2 ^ 62 ∧ m__law_box [.fl (ns.map .int), .int k] s = newL [.int A, .int C, .int 0] s := by
  obtain ⟨x, hx⟩ := cell2_ok ns k s h0
  have sm0 : smI 41177 = true := by decide
  have sm1 : smI 38923 = true := by decide
  have sm2 : ∀ y : Int, smI (if 1000000000000000000 ≤ y then 1 else 0) = true := fun y => by split <;> decide
  have ge : ∀ b : Bool, (0 : Int) ≤ if b = true then 1 else 0 := fun b => by cases b <;> decide
  have sm3 : smI 10 = true := by decide
  refine ⟨(if x < 0 then -x else x) * (if (decide ((10 : Int) ^ 18 ≤ if x < 0 then -x else x)) = true then 1 else 0), ((x % 2305843009213693921 + 41177 * k + 53) * 38923) % 2147483563, ?_, ?_, ?_, ?_⟩
  · refine Int.mul_nonneg ?_ ?_
    · split <;> omega
    · exact ge _
  · exact Int.emod_nonneg _ (by decide)
  · have := Int.emod_lt_of_pos ((x % 2305843009213693921 + 41177 * k + 53) * 38923) (b := 2147483563) (by decide)
    omega
  · have l4 : lsome 2 [Mv.fl (ns.map Mv.int), .int k] = [some (.fl (ns.map Mv.int)), some (.int k), none, none] := rfl
    unfold m__law_box fnM bd__law_box
    simp [iLt_eq, iEq_eq, lget_eq, lset_eq, lsome_eq, llen_eq, sseq, sset, mcall, mcons, mvar, mnil, hx]
    simp [iLt_eq, iEq_eq, lget_eq, lset_eq, lsome_eq, llen_eq, mop2, modW, mcall, intW, mcons, mulW, addW, mvar, mcon, mnil, sm0, sm1, sm2, sm3, sret, mlst, absW, geW, cmpI, powW]
    generalize newL _ s = o
    cases o <;> rfl
theorem box_okB : BoxFn m__law_box := fun ns k s h0 _ => box2_ok ns k s h0
theorem law_true (ns : List Int) : ∃ s', m_law [.fl (ns.map .int)] ⟨0, .nil⟩ = some (.bl true, s') := law_genW (bx := m__law_box) (rt := m__law_right) (R := 1) (L := 3) (D := 900) box_okB (by decide) (by decide) (fun s b m h hm => right_sp h (by omega)) ns

end
theorem facts {w : World} {K : PySem.W.Frag} {h : Heap} {mg : Str → Option Value} {f : Addr} (X : K.In h) (G : h.Ns mainGlobals mg) (hfa : mg ("law" : Str) = some (.ref f)) (c : SaysY faAll fn [] tf exB xds fileX w h K) :
    ∃ fd : FuncData, (∀ (s : Shared) (v : Value), BindsTo s fd ⟨[v], []⟩ [("_law_script", v)]) ∧ ∀ base : Heap, K.In base → base.Ns mainGlobals mg → (∀ p ∈ tf.map (He.cT K), LamX.TabB base mg p.1 p.2) → FnG (PySem.Challenge.rw_latebound_k70_what_is_no_preload).prog w K mg base 15 f fd ["_law_script"] (spM (GG (PySem.Challenge.rw_latebound_k70_what_is_no_preload).prog w K) m_law) := by
  have ex : ∀ i : Nat, ∃ fd : FuncData, ∀ d : He.DefD, fn[i]? = some d → FunD K d.name d.qual d.params d.body d.scope (d.dvs K) (d.kws K) (He.fAd K d.at_) fd := by
    intro i
    cases e : fn[i]? with
    | none =>
      obtain ⟨fd, _⟩ := c.c.t.d.def_ 0 (d := dd_law) rfl
      exact ⟨fd, fun d hd => by cases hd⟩
    | some d =>
      obtain ⟨fd, F⟩ := c.c.t.d.def_ i (d := d) e
      exact ⟨fd, fun d' hd => by cases hd; exact F⟩
  have fc : ∀ g, g ∈ faAll → g.ok K = true := fun g hg => He.SaysD.facts c.c.t.d hg
  let T : ∀ base : Heap, (∀ p ∈ tf.map (He.cT K), LamX.TabB base mg p.1 p.2) → Tx (PySem.Challenge.rw_latebound_k70_what_is_no_preload).prog K mg base := fun base tb =>
    { fd := fun i => Classical.choose (ex i)
      df := fun i d hd => Classical.choose_spec (ex i) d hd
      gl := fun x hx => He.glo_ok X G (fc (.glo x) (List.mem_append_right _ (List.mem_append_left _ (List.mem_map_of_mem hx))))
      fr := fun x hx => He.free_ok X G (fc (.free x) (List.mem_append_right _ (List.mem_append_right _ (List.mem_map_of_mem hx))))
      fc := fun g hg => fc g (List.mem_append_left _ hg)
      gi := fun x i hx => He.int_ok X G (fc (.int x i) (List.mem_append_left _ hx))
      gs := fun x z hx => He.str_ok X G (fc (.str x z) (List.mem_append_left _ hx))
      ex := c.c.more
      tb := tb
      xn_NoLib := xvt_NoLib c (He.free_ok X G (fc (.free "super") (List.mem_append_right _ (List.mem_append_right _ (List.mem_map_of_mem (by simp [frees])))))) (He.glo_ok X G (fc (.glo "NoLib") (List.mem_append_right _ (List.mem_append_left _ (List.mem_map_of_mem (by simp [glos]))))))
      xn_NoUse := xvt_NoUse c (He.free_ok X G (fc (.free "super") (List.mem_append_right _ (List.mem_append_right _ (List.mem_map_of_mem (by simp [frees])))))) (He.glo_ok X G (fc (.glo "NoUse") (List.mem_append_right _ (List.mem_append_left _ (List.mem_map_of_mem (by simp [glos])))))) }
  have e := hfa.symm.trans (He.glo_ok X G (fc (.glo "law") (List.mem_append_right _ (List.mem_append_left _ (List.mem_map_of_mem (by simp [glos]))))))
  cases e
  have b := FunD.bindsA (ps := ["_law_script"]) (Classical.choose_spec (ex 0) dd_law rfl) fun _ _ _ _ _ _ us hl => match us, hl with | [_], _ => rfl
  exact ⟨Classical.choose (ex 0), fun s v => b s [v] rfl, fun base _ _ tb => ok_law (T base tb)⟩
theorem denInts {G : Mg} {p : List Addr} {H : Hp} : ∀ ns : List Int, DenL G p H (ns.map Mv.int) (ns.map V.int)
  | [] => .nil
  | n :: ns => .cons (.int n) (denInts ns)
theorem flOf {K : PySem.W.Frag} {H : Hp} {a : Addr} {vs : List V} (on : Only H) (h : SqL K H a vs) : FlAt K [] H a vs := by
  rcases h with h | h
  · rcases h with h | h
    · rcases on a with e | ⟨o, xs, e⟩
      · rw [e] at h; cases h
      · rw [e] at h; cases h
    · exact .inl h
  · exact .inr (.inr h)
theorem lawSp {P : Program} {w : World} {K : PySem.W.Frag} {H : Hp} {a : Addr} {ns : List Int} {E : XK} (hl : ns.length ≤ 63) (on : Only H) (hS : SqL K H a (ns.map V.int)) : spM (GG P w K) m_law [.ref a] H (fun v _ => v = .bl true) E := by
  obtain ⟨s', hs⟩ := law_true ns
  exact ⟨[], _, [.fl (ns.map Mv.int)], .bl true, s', Sim.nil, .cons (.fl (flOf on hS) (denInts ns)) .nil, hs, fun p v H' _ _ d => by cases d; rfl⟩
end Mi
open PySem PySem.W PySem.Calls PyProof.Rows
theorem PySem.Challenge.cw_latebound_k70_what_is_no_preload_holds : PySem.Challenge.rw_latebound_k70_what_is_no_preload.Holds := by
  w_on; o_law
  refine HandSHeadRun.head_any (r := OpenLaw.row PySem.Challenge.rw_latebound_k70_what_is_no_preload) (q := view (OpenLaw.row PySem.Challenge.rw_latebound_k70_what_is_no_preload).prog [80]) (H := Mi.hk) (ob := Mi.ob) (M := 12000) (loose := Mi.loose) (d := HandSHeadRun.topDef (OpenLaw.row PySem.Challenge.rw_latebound_k70_what_is_no_preload).prog 80) (kwd := []) Mi.obL_eq
    (by kernel_rfl) (fun s => by kernel_rfl) Mi.run (by kernel_rfl) (by kernel_rfl) (by kernel_rfl) (by rfl) (by first | assumption | decide +kernel) (by decide +kernel) ⟨rfl, rfl, rfl, rfl, rfl, by decide +kernel⟩ ?hw ?hc
  case hw => w_witness2
  case hc =>
    refine Mi.walk_ofG (l := PySem.Challenge.rw_latebound_k70_what_is_no_preload) (n := 63) (k := 15) (x := "_law_script") rfl (by decide) (by kernel_rfl) ⟨rfl, by decide, by decide⟩ ?F
    intro w mg fa h Y G hmg0
    obtain ⟨K, KX, c⟩ := Y
    have hmg : mg ("law" : PySem.Str) = some (.ref fa) := by
      have e : (HandSHeadRun.topDef (OpenLaw.row PySem.Challenge.rw_latebound_k70_what_is_no_preload).prog 80).name = ("law" : PySem.Str) := by kernel_rfl
      rw [← e]
      exact hmg0
    obtain ⟨fd, hb, hF⟩ := Mi.facts (w := w) KX G hmg c
    exact ⟨K, fd, Mi.spM (Mi.GG (PySem.Challenge.rw_latebound_k70_what_is_no_preload).prog w K) Mi.m_law, KX, hb, fun H a ns hl on hS => Mi.lawSp hl on hS, fun base h1 h2 => hF base h1 h2 (fun p hp => by simp [Mi.tf] at hp)⟩
