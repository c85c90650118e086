import PyProof.Rows.All
import Wide.All
import OpenK.AllK
import Wide.FinOn
import HandS.ForMost
import HandS.IsInst
import HandS.TupAny
import HandS.Deep
import HandS.Style
import HandS.Defaults
import HandS.Lambda
import KE.KeyNested
import KE.KDictKeyed
import KE.DataMinMax
import HandS.Star
import HandS.Zip
import KE.DataCmp
import KE.GoesEnum
import HandS.Head0
import HandS.Head1
import HandS.Head2
import HandS.HeadEnd
import HandS.HeadHook1
import HandS.HeadHook2
import HandS.HeadHook3
import HandS.HeadHook4
import HandS.DictComp
import HandS.Small
import KE.KDictWalk
import HandS.SetFor
import KE.KDictDisplayH
import HandS.Conv
import KE.SortData
import PyProof.Claim2Refuses
import HandS.DictTup
import KE.LtSeq
import PyProof.P3Eq
import KE.DataMinKey
import KE.KLam
import HandS.Strs
import HandS.HeadWalk
import PyProof.ReprRoads
import HandS.More
import HandS.TupSets
import HandS.New
import KE.KExcSuper
import KE.KDictPairs
import KE.KDictItemsList
import HandS.MakeKwOnly
import HandS.OwnEq
import KE.KOwnIter
import HandS.ExcValue
import KE.KTryMore
import HandS.ExcIs
import HandS.ExcField
import KE.KRevSl
import HandS.RevTup
import HandS.TupLen
import HandS.TupMul
import KE.KDictCopyH
import HandS.SetKeys
import KE.DataFind
import HandS.Flow
import HandS.NoneIn
import KE.SortKeyHeap
import PySem.Challenge.RW_latebound_k01_programs_or_none
set_option Elab.async false
set_option linter.all false
set_option maxRecDepth 100000
set_option maxHeartbeats 4000000
noncomputable section
namespace Mi
open PySem PySem.Spec PyProof.Rows L2
inductive Mty where
  | int | bool | str | list | tuple | dict | none
  deriving DecidableEq
inductive Mv where
  | non | bl (b : Bool) | int (i : Int) | str (x : Str) | tup (ws : List Mv) | ref (n : Nat) | ty (t : Mty) | fl (ws : List Mv) | cls (c : Nat)
inductive Mo where
  | lst (ws : List Mv)
  | ins (c : Nat) (fs : List (Nat × Mv))
  | dk (kvs : List (Key × Mv))
  /-- a dict whose keys are tuples, each with its key, the tuple itself, its value -/
  | dn (kvs : List (NestedKey × Mv × Mv))
  /-- the same two, locked while they are walked -/
  | lk (kvs : List (Key × Mv))
  | ln (kvs : List (NestedKey × Mv × Mv))
  /-- a source of draws: the next ones, bound and draw -/
  | box (m : Nat) (ds : List (Int × Int))
  /-- a def's table of code objects: none yet, or one (its place in the text; where its code object stands) -/
  | tab (t : Nat) (o : Option (Nat × Nat × Nat))
  | cod (q : Str)
noncomputable def _root_.Option.ob {α β : Type} (o : Option α) (f : α → Option β) : Option β := Option.rec (motive := fun _ => Option β) Option.none (fun a => f a) o
inductive Mt where
  | nil | nod (l : Mt) (o : Option Mo) (r : Mt)
def Mt.fresh : Nat → Nat → Mo → Mt
  | 0, _, _ => .nil
  | f + 1, n, o => cond (Nat.beq n 0) (.nod .nil (some o) .nil) (cond (Nat.beq (n % 2) 1) (.nod (Mt.fresh f (n / 2) o) Option.none .nil) (.nod .nil Option.none (Mt.fresh f (n / 2 - 1) o)))
noncomputable def Mt.set (t : Mt) : Nat → Mo → Mt := Mt.rec (motive := fun _ => Nat → Mo → Mt) (fun n o => Mt.fresh (n + 1) n o)
  (fun l v r il ir n o => Bool.rec (motive := fun _ => Mt) (Bool.rec (motive := fun _ => Mt) (.nod l v (ir (Nat.sub (Nat.div n 2) 1) o)) (.nod (il (Nat.div n 2) o) v r) (Nat.beq (Nat.mod n 2) 1)) (.nod l (some o) r) (Nat.beq n 0)) t
structure Ms where
  sz : Nat
  t : Mt
abbrev Me := List (Option Mv)
abbrev Fa := Me → Ms → Option (List Mv × Ms)
def top (i : Nat) : Stmt := PySem.Challenge.pw_latebound_k01_programs_or_none.main.body.getD i (.Pass ⟨0, 0, 0, 0⟩)
abbrev s_law : Stmt := top 36
abbrev s__law_box : Stmt := top 17
abbrev s__law_cell_at : Stmt := top 16
abbrev s__law_right : Stmt := top 35
abbrev s_is_program : Stmt := top 14
abbrev s_is_lib : Stmt := top 12
abbrev s_is_name : Stmt := top 7
abbrev s_are_names : Stmt := top 9
abbrev s_are_definitions : Stmt := top 10
abbrev s_is_version : Stmt := top 8
abbrev s_are_uses : Stmt := top 11
abbrev s_is_door : Stmt := top 13
abbrev s__law_program : Stmt := top 26
abbrev s__law_names : Stmt := top 22
abbrev s__law_take : Stmt := top 18
abbrev s__law_lib : Stmt := top 25
abbrev s__law_some : Stmt := top 23
abbrev s__law_pairs : Stmt := top 24
abbrev s__law_pick : Stmt := top 19
abbrev s__law_same : Stmt := top 20
abbrev s__law_is_due : Stmt := top 33
abbrev s__law_is_lib : Stmt := top 30
abbrev s__law_is_word : Stmt := top 27
abbrev s__law_is_pair : Stmt := top 28
abbrev s__law_rises : Stmt := top 29
abbrev s__law_lists : Stmt := top 21
abbrev s__law_turned : Stmt := top 34
abbrev s__law_bent : Stmt := top 32
abbrev s__law_odd : Stmt := top 31
def dd_law : He.DefD := ⟨("law", none), "law", "law", defArgs s_law, defBody s_law, defScope s_law, [], []⟩
def dd__law_box : He.DefD := ⟨("_law_box", none), "_law_box", "_law_box", defArgs s__law_box, defBody s__law_box, defScope s__law_box, [], []⟩
def dd__law_cell_at : He.DefD := ⟨("_law_cell_at", none), "_law_cell_at", "_law_cell_at", defArgs s__law_cell_at, defBody s__law_cell_at, defScope s__law_cell_at, [], []⟩
def dd__law_right : He.DefD := ⟨("_law_right", none), "_law_right", "_law_right", defArgs s__law_right, defBody s__law_right, defScope s__law_right, [], []⟩
def dd_is_program : He.DefD := ⟨("is_program", none), "is_program", "is_program", defArgs s_is_program, defBody s_is_program, defScope s_is_program, [], []⟩
def dd_is_lib : He.DefD := ⟨("is_lib", none), "is_lib", "is_lib", defArgs s_is_lib, defBody s_is_lib, defScope s_is_lib, [], []⟩
def dd_is_name : He.DefD := ⟨("is_name", none), "is_name", "is_name", defArgs s_is_name, defBody s_is_name, defScope s_is_name, [], []⟩
def dd_are_names : He.DefD := ⟨("are_names", none), "are_names", "are_names", defArgs s_are_names, defBody s_are_names, defScope s_are_names, [], []⟩
def dd_are_definitions : He.DefD := ⟨("are_definitions", none), "are_definitions", "are_definitions", defArgs s_are_definitions, defBody s_are_definitions, defScope s_are_definitions, [], []⟩
def dd_is_version : He.DefD := ⟨("is_version", none), "is_version", "is_version", defArgs s_is_version, defBody s_is_version, defScope s_is_version, [], []⟩
def dd_are_uses : He.DefD := ⟨("are_uses", none), "are_uses", "are_uses", defArgs s_are_uses, defBody s_are_uses, defScope s_are_uses, [], []⟩
def dd_is_door : He.DefD := ⟨("is_door", none), "is_door", "is_door", defArgs s_is_door, defBody s_is_door, defScope s_is_door, [], []⟩
def dd__law_program : He.DefD := ⟨("_law_program", none), "_law_program", "_law_program", defArgs s__law_program, defBody s__law_program, defScope s__law_program, [], []⟩
def dd__law_names : He.DefD := ⟨("_law_names", none), "_law_names", "_law_names", defArgs s__law_names, defBody s__law_names, defScope s__law_names, [], []⟩
def dd__law_take : He.DefD := ⟨("_law_take", none), "_law_take", "_law_take", defArgs s__law_take, defBody s__law_take, defScope s__law_take, [], []⟩
def dd__law_lib : He.DefD := ⟨("_law_lib", none), "_law_lib", "_law_lib", defArgs s__law_lib, defBody s__law_lib, defScope s__law_lib, [], []⟩
def dd__law_some : He.DefD := ⟨("_law_some", none), "_law_some", "_law_some", defArgs s__law_some, defBody s__law_some, defScope s__law_some, [], []⟩
def dd__law_pairs : He.DefD := ⟨("_law_pairs", none), "_law_pairs", "_law_pairs", defArgs s__law_pairs, defBody s__law_pairs, defScope s__law_pairs, [], []⟩
def dd__law_pick : He.DefD := ⟨("_law_pick", none), "_law_pick", "_law_pick", defArgs s__law_pick, defBody s__law_pick, defScope s__law_pick, [], []⟩
def dd__law_same : He.DefD := ⟨("_law_same", none), "_law_same", "_law_same", defArgs s__law_same, defBody s__law_same, defScope s__law_same, [], []⟩
def dd__law_is_due : He.DefD := ⟨("_law_is_due", none), "_law_is_due", "_law_is_due", defArgs s__law_is_due, defBody s__law_is_due, defScope s__law_is_due, [], []⟩
def dd__law_is_lib : He.DefD := ⟨("_law_is_lib", none), "_law_is_lib", "_law_is_lib", defArgs s__law_is_lib, defBody s__law_is_lib, defScope s__law_is_lib, [], []⟩
def dd__law_is_word : He.DefD := ⟨("_law_is_word", none), "_law_is_word", "_law_is_word", defArgs s__law_is_word, defBody s__law_is_word, defScope s__law_is_word, [], []⟩
def dd__law_is_pair : He.DefD := ⟨("_law_is_pair", none), "_law_is_pair", "_law_is_pair", defArgs s__law_is_pair, defBody s__law_is_pair, defScope s__law_is_pair, [], []⟩
def dd__law_rises : He.DefD := ⟨("_law_rises", none), "_law_rises", "_law_rises", defArgs s__law_rises, defBody s__law_rises, defScope s__law_rises, [], []⟩
def dd__law_lists : He.DefD := ⟨("_law_lists", none), "_law_lists", "_law_lists", defArgs s__law_lists, defBody s__law_lists, defScope s__law_lists, [], []⟩
def dd__law_turned : He.DefD := ⟨("_law_turned", none), "_law_turned", "_law_turned", defArgs s__law_turned, defBody s__law_turned, defScope s__law_turned, [], []⟩
def dd__law_bent : He.DefD := ⟨("_law_bent", none), "_law_bent", "_law_bent", defArgs s__law_bent, defBody s__law_bent, defScope s__law_bent, [], []⟩
def dd__law_odd : He.DefD := ⟨("_law_odd", none), "_law_odd", "_law_odd", defArgs s__law_odd, defBody s__law_odd, defScope s__law_odd, [], []⟩
def fn : List He.DefD := ([dd_law, dd__law_box, dd__law_cell_at, dd__law_right, dd_is_program, dd_is_lib, dd_is_name, dd_are_names, dd_are_definitions, dd_is_version, dd_are_uses, dd_is_door, dd__law_program, dd__law_names, dd__law_take, dd__law_lib, dd__law_some, dd__law_pairs, dd__law_pick, dd__law_same, dd__law_is_due, dd__law_is_lib, dd__law_is_word, dd__law_is_pair, dd__law_rises, dd__law_lists, dd__law_turned, dd__law_bent, dd__law_odd] : List He.DefD)
def glos : List Str := (["_law_cell_at", "_law_box", "is_name", "are_names", "is_version", "are_definitions", "are_uses", "is_lib", "is_door", "is_program", "_law_take", "_law_names", "_law_some", "_law_pick", "_law_pairs", "_law_lib", "_law_program", "_law_same", "_law_is_word", "_law_is_pair", "_law_rises", "_law_is_lib", "_law_is_due", "_law_lists", "_law_turned", "_law_odd", "_law_bent", "_law_right", "law", "MODES"] : List Str)
def frees : List Str := ["range", "min", "len", "int", "abs", "all", "tuple", "isinstance", "str", "set", "zip", "bool", "list", "sorted", "repr"]
def fa : List He.Fa := ([.int "MOST_LETTERS" 8, .str "LETTERS" "abcdefghijklmnopqrstuvwxyz"] : List He.Fa)
def faAll : List He.Fa := fa ++ (glos.map He.Fa.glo ++ frees.map He.Fa.free)
def tf : List He.Defn := []
def exB (K : PySem.W.Frag) : Bool := (He.tupB K "MODES" [.str "global", .str "local", .str "deep"]) && (true)
def loose0 : List Str := ["__name__", "LETTERS", "MOST_LETTERS", "GLOBAL", "LOCAL", "DEEP", "MODES", "is_name", "is_version", "are_names", "are_definitions", "are_uses", "is_lib", "is_door", "is_program", "_law_cell_at", "_law_box", "_law_take", "_law_pick", "_law_same", "_law_lists", "_law_names", "_law_some", "_law_pairs", "_law_lib", "_law_program", "_law_is_word", "_law_is_pair", "_law_rises", "_law_is_lib"]
def loose1 : List Str := ["_law_odd", "_law_bent", "_law_is_due", "_law_turned", "_law_right"]
def loose : List Str := loose0 ++ loose1
abbrev R : PySem.W.OpenRow := PySem.W.OpenLaw.row PySem.Challenge.rw_latebound_k01_programs_or_none
abbrev hk : PySem.W.Hook := He.hookX 4 faAll fn [] tf exB
def ob (s : PySem.W.SharedT) : He.AlX := He.obsX 4 faAll fn [] tf exB (HandSHeadRun.getT s)
theorem run (w : World) : HandSHeadRun.RunEq R (PySem.W.view R.prog [36]) hk ob 12000 loose w := by
  intro os
  kernel_rfl

section
/-! ### values, objects, the store of the mirror -/
def Mty.name : Mty → String
  | .int => "int" | .bool => "bool" | .str => "str" | .list => "list" | .tuple => "tuple" | .dict => "dict" | .none => "NoneType"
/-! ### fast words (by recursors), and what they are -/
noncomputable def _root_.Option.om {α β : Type} (o : Option α) (f : α → β) : Option β := Option.rec (motive := fun _ => Option β) Option.none (fun a => some (f a)) o
theorem ob_eq {α β : Type} (o : Option α) (f : α → Option β) : o.ob f = o.bind f := by cases o <;> rfl
theorem om_eq' {α β : Type} (o : Option α) (f : α → β) : o.om f = o.map f := by cases o <;> rfl
theorem ob_some {α β : Type} {o : Option α} {f : α → Option β} {b : β} : o.ob f = some b ↔ ∃ a, o = some a ∧ f a = some b := by rw [ob_eq]; exact Option.bind_eq_some_iff
theorem omap_some {α β : Type} {o : Option α} {f : α → β} {b : β} : o.om f = some b ↔ ∃ a, o = some a ∧ f a = b := by rw [om_eq']; exact Option.map_eq_some_iff
@[simp] theorem ob_of {α β : Type} (a : α) (f : α → Option β) : (some a).ob f = f a := rfl
@[simp] theorem om_of {α β : Type} (a : α) (f : α → β) : (some a).om f = some (f a) := rfl
@[simp] theorem ob_no {α β : Type} (f : α → Option β) : (Option.none : Option α).ob f = Option.none := rfl
@[simp] theorem om_no {α β : Type} (f : α → β) : (Option.none : Option α).om f = Option.none := rfl
noncomputable def lget {α : Type} (r : List α) : Nat → Option α := List.rec (motive := fun _ => Nat → Option α) (fun _ => Option.none) (fun a _ ih n => Nat.rec (motive := fun _ => Option α) (some a) (fun m _ => ih m) n) r
theorem lget_eq {α : Type} : ∀ (r : List α) (i : Nat), lget r i = r[i]?
  | [], _ => rfl
  | _ :: _, 0 => rfl
  | _ :: as, i + 1 => lget_eq as i
noncomputable def lset {α : Type} (r : List α) (i : Nat) (v : α) : List α := List.rec (motive := fun _ => Nat → List α) (fun _ => []) (fun a as ih n => Nat.rec (motive := fun _ => List α) (v :: as) (fun m _ => a :: ih m) n) r i
theorem lset_eq {α : Type} (v : α) : ∀ (r : List α) (i : Nat), lset r i v = r.set i v
  | [], _ => rfl
  | _ :: _, 0 => rfl
  | a :: as, i + 1 => congrArg (a :: ·) (lset_eq v as i)
noncomputable def lapp {α : Type} (a b : List α) : List α := List.rec (motive := fun _ => List α) b (fun x _ ih => x :: ih) a
theorem lapp_eq {α : Type} : ∀ a b : List α, lapp a b = a ++ b
  | [], _ => rfl
  | x :: a, b => congrArg (x :: ·) (lapp_eq a b)
noncomputable def lsome {α : Type} (n : Nat) (a : List α) : List (Option α) := List.rec (motive := fun _ => List (Option α)) (Nat.rec (motive := fun _ => List (Option α)) [] (fun _ ih => Option.none :: ih) n) (fun x _ ih => some x :: ih) a
theorem lrep_eq {α : Type} : ∀ n : Nat, (Nat.rec (motive := fun _ => List (Option α)) [] (fun _ ih => Option.none :: ih) n : List (Option α)) = List.replicate n Option.none
  | 0 => rfl
  | n + 1 => by rw [List.replicate_succ, ← lrep_eq n]
theorem lsome_eq {α : Type} (n : Nat) : ∀ a : List α, lsome n a = a.map some ++ List.replicate n Option.none
  | [] => lrep_eq n
  | x :: a => congrArg (some x :: ·) (lsome_eq n a)
noncomputable def Mt.get (t : Mt) : Nat → Option Mo := Mt.rec (motive := fun _ => Nat → Option Mo) (fun _ => Option.none)
  (fun _ o _ il ir n => Bool.rec (motive := fun _ => Option Mo) (Bool.rec (motive := fun _ => Option Mo) (ir (Nat.sub (Nat.div n 2) 1)) (il (Nat.div n 2)) (Nat.beq (Nat.mod n 2) 1)) o (Nat.beq n 0)) t
theorem cond_t {α : Type} {b : Bool} {x y : α} (h : b = true) : cond b x y = x := by subst h; rfl
theorem cond_f {α : Type} {b : Bool} {x y : α} (h : b = false) : cond b x y = y := by subst h; rfl
theorem beq_f {a b : Nat} (h : a ≠ b) : Nat.beq a b = false := by
  cases e : Nat.beq a b with
  | false => rfl
  | true => exact absurd (Nat.eq_of_beq_eq_true e) h
theorem beq_t {a : Nat} : Nat.beq a a = true := Nat.beq_refl a
theorem Mt.get_nod (l : Mt) (o : Option Mo) (r : Mt) (n : Nat) : (Mt.nod l o r).get n = if n = 0 then o else if n % 2 = 1 then l.get (n / 2) else r.get (n / 2 - 1) := by
  show Bool.rec (motive := fun _ => Option Mo) (Bool.rec (motive := fun _ => Option Mo) (r.get (n / 2 - 1)) (l.get (n / 2)) (Nat.beq (n % 2) 1)) o (Nat.beq n 0) = _
  by_cases h : n = 0
  · subst h; rfl
  · rw [beq_f h, if_neg h]
    by_cases h1 : n % 2 = 1
    · rw [h1, if_pos rfl]; rfl
    · rw [beq_f h1, if_neg h1]
theorem Mt.set_nod (l : Mt) (v : Option Mo) (r : Mt) (n : Nat) (o : Mo) : (Mt.nod l v r).set n o = if n = 0 then .nod l (some o) r else if n % 2 = 1 then .nod (l.set (n / 2) o) v r else .nod l v (r.set (n / 2 - 1) o) := by
  show Bool.rec (motive := fun _ => Mt) (Bool.rec (motive := fun _ => Mt) (.nod l v (r.set (n / 2 - 1) o)) (.nod (l.set (n / 2) o) v r) (Nat.beq (n % 2) 1)) (.nod l (some o) r) (Nat.beq n 0) = _
  by_cases h : n = 0
  · subst h; rfl
  · rw [beq_f h, if_neg h]
    by_cases h1 : n % 2 = 1
    · rw [h1, if_pos rfl]; rfl
    · rw [beq_f h1, if_neg h1]
theorem Mt.get_nil (n : Nat) : Mt.get .nil n = Option.none := rfl
theorem Mt.get_fresh : ∀ (f n : Nat) (o : Mo), n < f → ∀ m, (Mt.fresh f n o).get m = if m = n then some o else Option.none
  | 0, _, _, h, _ => absurd h (by omega)
  | f + 1, n, o, h, m => by
    unfold Mt.fresh
    by_cases h0 : n = 0
    · subst h0
      rw [cond_t beq_t, Mt.get_nod, Mt.get_nil, Mt.get_nil]
      by_cases hm : m = 0
      · rw [if_pos hm, if_pos hm]
      · rw [if_neg hm, if_neg hm]; split <;> rfl
    · rw [cond_f (beq_f h0)]
      by_cases h1 : n % 2 = 1
      · rw [h1, cond_t beq_t, Mt.get_nod, Mt.get_nil]
        by_cases hm : m = 0
        · rw [if_pos hm, if_neg (by omega)]
        · rw [if_neg hm]
          by_cases hm1 : m % 2 = 1
          · rw [if_pos hm1, Mt.get_fresh f (n / 2) o (by omega)]
            by_cases e : m = n
            · rw [if_pos e, if_pos (by rw [e])]
            · rw [if_neg e, if_neg (by omega)]
          · rw [if_neg hm1, if_neg (by intro e; rw [e] at hm1; exact hm1 h1)]
      · rw [cond_f (beq_f h1), Mt.get_nod, Mt.get_nil]
        by_cases hm : m = 0
        · rw [if_pos hm, if_neg (by omega)]
        · rw [if_neg hm]
          by_cases hm1 : m % 2 = 1
          · rw [if_pos hm1, if_neg (by intro e; rw [e] at hm1; exact h1 hm1)]
          · rw [if_neg hm1, Mt.get_fresh f (n / 2 - 1) o (by omega)]
            by_cases e : m = n
            · rw [if_pos e, if_pos (by rw [e])]
            · rw [if_neg e, if_neg (by omega)]
theorem Mt.get_set : ∀ (t : Mt) (n : Nat) (o : Mo) (m : Nat), (t.set n o).get m = if m = n then some o else t.get m
  | .nil, n, o, m => Mt.get_fresh (n + 1) n o (Nat.lt_succ_self n) m
  | .nod l v r, n, o, m => by
    rw [Mt.set_nod]
    by_cases h0 : n = 0
    · subst h0
      rw [if_pos rfl, Mt.get_nod, Mt.get_nod]
      by_cases hm : m = 0
      · rw [if_pos hm, if_pos hm]
      · rw [if_neg hm, if_neg hm, if_neg hm]
    · rw [if_neg h0]
      by_cases h1 : n % 2 = 1
      · rw [if_pos h1, Mt.get_nod, Mt.get_nod]
        by_cases hm : m = 0
        · rw [if_pos hm, if_pos hm, if_neg (by omega)]
        · rw [if_neg hm, if_neg hm]
          by_cases hm1 : m % 2 = 1
          · rw [if_pos hm1, if_pos hm1, Mt.get_set l (n / 2) o]
            by_cases e : m = n
            · rw [if_pos e, if_pos (by rw [e])]
            · rw [if_neg e, if_neg (by omega)]
          · rw [if_neg hm1, if_neg hm1, if_neg (by intro e; rw [e] at hm1; exact hm1 h1)]
      · rw [if_neg h1, Mt.get_nod, Mt.get_nod]
        by_cases hm : m = 0
        · rw [if_pos hm, if_pos hm, if_neg (by omega)]
        · rw [if_neg hm, if_neg hm]
          by_cases hm1 : m % 2 = 1
          · rw [if_pos hm1, if_pos hm1, if_neg (by intro e; rw [e] at hm1; exact h1 hm1)]
          · rw [if_neg hm1, if_neg hm1, Mt.get_set r (n / 2 - 1) o]
            by_cases e : m = n
            · rw [if_pos e, if_pos (by rw [e])]
            · rw [if_neg e, if_neg (by omega)]
noncomputable def Ms.get (s : Ms) (n : Nat) : Option Mo := s.t.get n
noncomputable def Ms.alloc (s : Ms) (o : Mo) : Option (Nat × Ms) := some (s.sz, ⟨Nat.succ s.sz, s.t.set s.sz o⟩)
noncomputable def Ms.put (s : Ms) (n : Nat) (o : Mo) : Ms := ⟨s.sz, s.t.set n o⟩
abbrev Fe := Me → Ms → Option (Mv × Ms)
abbrev Ft := Me → Ms → Option (Bool × Ms)
abbrev Fn := List Mv → Ms → Option (Mv × Ms)

/-! ### what a value of the mirror stands for -/
structure Mg where
  P : Program
  w : World
  K : PySem.W.Frag
  cad : Nat → Addr
  nf : Nat
  nm : Nat → Str
  inj : ∀ i j, i < nf → j < nf → nm i = nm j → i = j
  /-- the next draw below k of a source that holds a, c, n: the draw, and what a and n become -/
  dr : Int → Int → Int → Int → Int × Int × Int
  /-- where a def's table of code objects stands -/
  tad : Nat → Addr
/-- the draws of a source -/
def Dr (dr : Int → Int → Int → Int → Int × Int × Int) : List (Int × Int) → Int → Int → Int → Prop
  | [], _, _, _ => True
  | (k, x) :: ds, a, c, n => (dr k a c n).1 = x ∧ Dr dr ds (dr k a c n).2.1 c (dr k a c n).2.2
/-- what a source holds -/
structure BoxOk (a c n : Int) : Prop where
  a0 : 0 ≤ a
  c0 : 0 ≤ c
  c1 : c < 2 ^ 62
  n0 : 0 ≤ n
/-- a list that nobody changes: known to the object or written -/
def FlAt (K : PySem.W.Frag) (p : List Addr) (H : Hp) (a : Addr) (vs : List V) : Prop := (∃ o, H a = some (.frz o (.lst vs))) ∨ SqL K (fun _ => Option.none) a vs
mutual
inductive Den (G : Mg) (p : List Addr) (H : Hp) : Mv → V → Prop
  | non : Den G p H .non .non
  | bl (b : Bool) : Den G p H (.bl b) (.bl b)
  | int (i : Int) : Den G p H (.int i) (.int i)
  | str (x : Str) : Den G p H (.str x) (.str x)
  | ty (t : Mty) : Den G p H (.ty t) (.ty t.name)
  | cls (c : Nat) : Den G p H (.cls c) (.ref (G.cad c))
  | ref {n : Nat} {a : Addr} : p[n]? = some a → Den G p H (.ref n) (.ref a)
  | tup {a : Addr} {ws : List Mv} {vs : List V} : SqT G.K H a vs → DenL G p H ws vs → Den G p H (.tup ws) (.ref a)
  | fl {a : Addr} {ws : List Mv} {vs : List V} : FlAt G.K p H a vs → DenL G p H ws vs → Den G p H (.fl ws) (.ref a)
inductive DenL (G : Mg) (p : List Addr) (H : Hp) : List Mv → List V → Prop
  | nil : DenL G p H [] []
  | cons {w : Mv} {v : V} {ws : List Mv} {vs : List V} : Den G p H w v → DenL G p H ws vs → DenL G p H (w :: ws) (v :: vs)
end
/-- a dict with tuples as keys, by its object -/
def NDo (P : Program) (w : World) (a : Addr) (xs : List (NestedKey × Addr × V)) : HO := .ext fun h => xs.length ≤ sizeLine ∧ (a == sysModules) = false ∧ ∃ ys : List (NestedKey × Addr × Value),
  Paired (fun (x : NestedKey × Addr × V) (y : NestedKey × Addr × Value) => x.1 = y.1 ∧ x.2.1 = y.2.1 ∧ RelV x.2.2 y.2.2) xs ys ∧
  ∃ o es ep, h.get? a = some o ∧ o.ExactDict ∧ o.data = .dict es ep ∧ es.toList = ys.map (entryOfKey (nestedKind P w)) ∧ (ys.map (·.1)).Nodup
mutual
/-- the key that a value is -/
inductive KeyM : NestedKey → Mv → Prop
  | non : KeyM .none .non
  | bl (b : Bool) : KeyM (.num (if b = true then 1 else 0)) (.bl b)
  | int (i : Int) : KeyM (.num i) (.int i)
  | str (x : Str) : KeyM (.text x) (.str x)
  | tup {ks : List NestedKey} {ws : List Mv} : KeyMs ks ws → KeyM (.tup ks) (.tup ws)
inductive KeyMs : List NestedKey → List Mv → Prop
  | nil : KeyMs [] []
  | cons {k : NestedKey} {w : Mv} {ks : List NestedKey} {ws : List Mv} : KeyM k w → KeyMs ks ws → KeyMs (k :: ks) (w :: ws)
end
/-- entries, one by one -/
inductive DenN (G : Mg) (p : List Addr) (H : Hp) : List (NestedKey × Mv × Mv) → List (NestedKey × Addr × V) → Prop
  | nil : DenN G p H [] []
  | cons {k : NestedKey} {kw w : Mv} {b : Addr} {v : V} {ks : List (NestedKey × Mv × Mv)} {xs : List (NestedKey × Addr × V)} : KeyM k kw → k.depth ≤ 8 → Den G p H kw (.ref b) → Den G p H w v → DenN G p H ks xs → DenN G p H ((k, kw, w) :: ks) ((k, b, v) :: xs)
def DenO (G : Mg) (p : List Addr) (H : Hp) (a : Addr) : Mo → HO → Prop
  | .lst ws, ho => ∃ vs, ho = .lst vs ∧ DenL G p H ws vs ∧ vs.length ≤ sizeLine
  | .ins c fs, ho => ∃ dx fs', ho = .ins (G.cad c) dx fs' ∧ fs'.map (·.1) = fs.map (fun q => G.nm q.1) ∧ DenL G p H (fs.map (·.2)) (fs'.map (·.2)) ∧ ∀ q ∈ fs, q.1 < G.nf
  | .dk kvs, ho => ∃ kvs', ho = .dK kvs' ∧ kvs'.map (·.1) = kvs.map (·.1) ∧ DenL G p H (kvs.map (·.2)) (kvs'.map (·.2))
  | .dn kvs, ho => ∃ xs, ho = NDo G.P G.w a xs ∧ DenN G p H kvs xs
  | .lk kvs, ho => ∃ od kvs', ho = .frz od (.dK kvs') ∧ kvs'.map (·.1) = kvs.map (·.1) ∧ DenL G p H (kvs.map (·.2)) (kvs'.map (·.2))
  | .ln kvs, ho => ∃ od xs, ho = .frz od (NDo G.P G.w a xs) ∧ DenN G p H kvs xs
  | .box m ds, ho => ∃ a c n, ho = .lst [.int a, .int c, .int n] ∧ BoxOk a c n ∧ n ≤ m ∧ m + ds.length ≤ 1000000 ∧ Dr G.dr ds a c n
  | .tab t Option.none, ho => a = G.tad t ∧ ho = .tbl #[]
  | .tab t (some (l, c, n)), ho => a = G.tad t ∧ ∃ b, p[n]? = some b ∧ ho = .tbl #[rawInt l, rawInt c, .ref b]
  | .cod q, ho => ho = LamX.CodeO a q
structure Sim (G : Mg) (p : List Addr) (s : Ms) (H : Hp) : Prop where
  len : p.length = s.sz
  nd : p.Nodup
  ob : ∀ n a, p[n]? = some a → ∃ o ho, s.get n = some o ∧ H a = some ho ∧ DenO G p H a o ho
  out : ∀ n, s.sz ≤ n → s.get n = Option.none
structure Fra (p : List Addr) (H : Hp) (p' : List Addr) (H' : Hp) : Prop where
  pre : ∃ q, p' = p ++ q ∧ ∀ a ∈ q, a ∉ p → H a = Option.none
  kee : ∀ a o, H a = some o → a ∉ p → H' a = some o
  frz : ∀ a o u, H a = some (.frz o u) → H' a = some (.frz o u)
theorem Fra.refl {p : List Addr} {H : Hp} : Fra p H p H := ⟨⟨[], by simp, fun a h => by simp at h⟩, fun _ _ e _ => e, fun _ _ _ e => e⟩
theorem Fra.notin {p p' : List Addr} {H H' : Hp} (f : Fra p H p' H') {a : Addr} {o : HO} (e : H a = some o) (n : a ∉ p) : a ∉ p' := by
  obtain ⟨q, rfl, hq⟩ := f.pre
  intro h
  rcases List.mem_append.mp h with h | h
  · exact n h
  · rw [hq a h n] at e; cases e
theorem Fra.trans {p p1 p2 : List Addr} {H H1 H2 : Hp} (f : Fra p H p1 H1) (g : Fra p1 H1 p2 H2) : Fra p H p2 H2 := by
  obtain ⟨q, e, hq⟩ := f.pre
  obtain ⟨q', e', hq'⟩ := g.pre
  refine ⟨⟨q ++ q', by rw [e', e, List.append_assoc], fun a ha np => ?_⟩, fun a o h n => g.kee a o (f.kee a o h n) (f.notin h n), fun a o u e => g.frz a o u (f.frz a o u e)⟩
  rcases List.mem_append.mp ha with h | h
  · exact hq a h np
  · cases h1 : H a with
    | none => rfl
    | some o =>
      have z := f.kee a o h1 np
      rw [hq' a h (f.notin h1 np)] at z
      cases z
theorem Fra.at {p p' : List Addr} {H H' : Hp} (f : Fra p H p' H') {n : Nat} {a : Addr} (h : p[n]? = some a) : p'[n]? = some a := by
  obtain ⟨q, rfl, _⟩ := f.pre
  rw [List.getElem?_append_left (List.getElem?_eq_some_iff.mp h).1]
  exact h
/-- a list or a tuple -/
def SqU : HO → Prop
  | .lst _ => True
  | .tup _ => True
  | _ => False
/-- no tuple, no locked list or tuple is among the changeable ones -/
theorem Sim.kind {G : Mg} {p : List Addr} {s : Ms} {H : Hp} (S : Sim G p s H) {a : Addr} (h : a ∈ p) : (∀ vs, H a ≠ some (.tup vs)) ∧ ∀ o u, SqU u → H a ≠ some (.frz o u) := by
  obtain ⟨n, hn⟩ := List.mem_iff_getElem?.mp h
  obtain ⟨o, ho, _, h2, d⟩ := S.ob n a hn
  constructor
  · intro vs e
    rw [e] at h2; cases h2
    cases o with
    | lst ws => obtain ⟨_, z, _⟩ := d; cases z
    | ins c fs => obtain ⟨_, _, z, _⟩ := d; cases z
    | dk kvs => obtain ⟨_, z, _⟩ := d; cases z
    | dn kvs => obtain ⟨_, z, _⟩ := d; cases z
    | lk kvs => obtain ⟨_, _, z, _⟩ := d; cases z
    | ln kvs => obtain ⟨_, _, z, _⟩ := d; cases z
    | box m ds => obtain ⟨_, _, _, z, _⟩ := d; cases z
    | tab t o =>
      rcases o with _ | ⟨l, c, n⟩
      · obtain ⟨_, z⟩ := d; cases z
      · obtain ⟨_, _, _, z⟩ := d; cases z
    | cod q => exact nomatch (show _ = LamX.CodeO a q from d)
  · intro ob u hu e
    rw [e] at h2; cases h2
    cases o with
    | lst ws => obtain ⟨_, z, _⟩ := d; cases z
    | ins c fs => obtain ⟨_, _, z, _⟩ := d; cases z
    | dk kvs => obtain ⟨_, z, _⟩ := d; cases z
    | dn kvs => obtain ⟨_, z, _⟩ := d; cases z
    | lk kvs => obtain ⟨_, _, z, _⟩ := d; cases z; exact hu
    | ln kvs => obtain ⟨_, _, z, _⟩ := d; cases z; exact hu
    | box m ds => obtain ⟨_, _, _, z, _⟩ := d; cases z
    | tab t o =>
      rcases o with _ | ⟨l, c, n⟩
      · obtain ⟨_, z⟩ := d; cases z
      · obtain ⟨_, _, _, z⟩ := d; cases z
    | cod q => exact nomatch (show _ = LamX.CodeO a q from d)
/-- what stays: tuples and locked things -/
structure Stays (p : List Addr) (H : Hp) (p' : List Addr) (H' : Hp) : Prop where
  ix : ∀ (n : Nat) (a : Addr), p[n]? = some a → p'[n]? = some a
  tp : ∀ a vs, H a = some (.tup vs) → H' a = some (.tup vs)
  fz : ∀ a o u, SqU u → H a = some (.frz o u) → H' a = some (.frz o u)
theorem Stays.refl {p : List Addr} {H : Hp} : Stays p H p H := ⟨fun _ _ e => e, fun _ _ e => e, fun _ _ _ _ e => e⟩
theorem Stays.trans {p p1 p2 : List Addr} {H H1 H2 : Hp} (a : Stays p H p1 H1) (b : Stays p1 H1 p2 H2) : Stays p H p2 H2 :=
  ⟨fun n x e => b.ix n x (a.ix n x e), fun x vs e => b.tp x vs (a.tp x vs e), fun x o u hu e => b.fz x o u hu (a.fz x o u hu e)⟩
theorem Fra.stays {G : Mg} {p p' : List Addr} {s : Ms} {H H' : Hp} (S : Sim G p s H) (f : Fra p H p' H') : Stays p H p' H' :=
  ⟨fun n a h => f.at h, fun a vs e => f.kee a _ e fun h => (S.kind h).1 vs e, fun a o u hu e => f.kee a _ e fun h => (S.kind h).2 o u hu e⟩
theorem Stays.tup {G : Mg} {p p' : List Addr} {H H' : Hp} {a : Addr} {vs : List V} (z : Stays p H p' H') (h : SqT G.K H a vs) : SqT G.K H' a vs := by
  rcases h with h | h
  · rcases h with h | ⟨o, h⟩
    · exact .inl (.inl (z.tp a vs h))
    · exact .inl (.inr ⟨o, z.fz a o _ trivial h⟩)
  · exact .inr h
theorem Stays.fl {K : PySem.W.Frag} {p p' : List Addr} {H H' : Hp} {a : Addr} {vs : List V} (z : Stays p H p' H') (h : FlAt K p H a vs) : FlAt K p' H' a vs := by
  rcases h with ⟨o, h⟩ | h
  · exact .inl ⟨o, z.fz a o _ trivial h⟩
  · exact .inr h
mutual
theorem Den.stay {G : Mg} {p p' : List Addr} {H H' : Hp} (z : Stays p H p' H') : ∀ {w : Mv} {v : V}, Den G p H w v → Den G p' H' w v
  | _, _, .non => .non
  | _, _, .bl b => .bl b
  | _, _, .int i => .int i
  | _, _, .str x => .str x
  | _, _, .ty t => .ty t
  | _, _, .cls c => .cls c
  | _, _, .ref h => .ref (z.ix _ _ h)
  | _, _, .tup h l => .tup (Stays.tup (G := G) z h) (DenL.stay z l)
  | _, _, .fl h l => .fl (Stays.fl z h) (DenL.stay z l)
theorem DenL.stay {G : Mg} {p p' : List Addr} {H H' : Hp} (z : Stays p H p' H') : ∀ {ws : List Mv} {vs : List V}, DenL G p H ws vs → DenL G p' H' ws vs
  | _, _, .nil => .nil
  | _, _, .cons h l => .cons (Den.stay z h) (DenL.stay z l)
end
theorem DenN.stay {G : Mg} {p p' : List Addr} {H H' : Hp} (z : Stays p H p' H') : ∀ {ks : List (NestedKey × Mv × Mv)} {xs : List (NestedKey × Addr × V)}, DenN G p H ks xs → DenN G p' H' ks xs
  | _, _, .nil => .nil
  | _, _, .cons a b c d l => .cons a b (c.stay z) (d.stay z) (l.stay z)
theorem DenO.stay {G : Mg} {p p' : List Addr} {H H' : Hp} (z : Stays p H p' H') {a : Addr} {o : Mo} {ho : HO} (h : DenO G p H a o ho) : DenO G p' H' a o ho := by
  cases o with
  | lst ws => obtain ⟨vs, e, l, n⟩ := h; exact ⟨vs, e, l.stay z, n⟩
  | ins c fs => obtain ⟨dx, fs', e, n, l, b⟩ := h; exact ⟨dx, fs', e, n, l.stay z, b⟩
  | dk kvs => obtain ⟨kvs', e, n, l⟩ := h; exact ⟨kvs', e, n, l.stay z⟩
  | dn kvs => obtain ⟨xs, e, l⟩ := h; exact ⟨xs, e, l.stay z⟩
  | lk kvs => obtain ⟨od, kvs', e, n, l⟩ := h; exact ⟨od, kvs', e, n, l.stay z⟩
  | ln kvs => obtain ⟨od, xs, e, l⟩ := h; exact ⟨od, xs, e, l.stay z⟩
  | box m ds => exact h
  | tab t o =>
    rcases o with _ | ⟨l, c, n⟩
    · exact h
    · obtain ⟨h0, b, h1, h2⟩ := h; exact ⟨h0, b, z.ix _ _ h1, h2⟩
  | cod q => exact h
theorem Den.fra {G : Mg} {p p' : List Addr} {s : Ms} {H H' : Hp} {w : Mv} {v : V} (h : Den G p H w v) (S : Sim G p s H) (f : Fra p H p' H') : Den G p' H' w v := h.stay (f.stays S)
theorem DenL.fra {G : Mg} {p p' : List Addr} {s : Ms} {H H' : Hp} {w : List Mv} {v : List V} (h : DenL G p H w v) (S : Sim G p s H) (f : Fra p H p' H') : DenL G p' H' w v := h.stay (f.stays S)
theorem DenL.length {G : Mg} {p : List Addr} {H : Hp} : ∀ {ws : List Mv} {vs : List V}, DenL G p H ws vs → ws.length = vs.length
  | _, _, .nil => rfl
  | _, _, .cons _ l => by rw [List.length_cons, List.length_cons, l.length]
theorem DenL.get {G : Mg} {p : List Addr} {H : Hp} : ∀ {ws : List Mv} {vs : List V}, DenL G p H ws vs → ∀ {i : Nat} {w : Mv}, ws[i]? = some w → ∃ v, vs[i]? = some v ∧ Den G p H w v
  | _, _, .nil, i, w, e => by simp at e
  | _, _, .cons h l, 0, w, e => by simp at e; subst e; exact ⟨_, rfl, h⟩
  | _, _, .cons h l, i + 1, w, e => by simpa using l.get (i := i) (by simpa using e)
theorem DenL.append {G : Mg} {p : List Addr} {H : Hp} : ∀ {ws ws' : List Mv} {vs vs' : List V}, DenL G p H ws vs → DenL G p H ws' vs' → DenL G p H (ws ++ ws') (vs ++ vs')
  | _, _, _, _, .nil, h => h
  | _, _, _, _, .cons a l, h => .cons a (l.append h)
theorem DenL.drop {G : Mg} {p : List Addr} {H : Hp} : ∀ (n : Nat) {ws : List Mv} {vs : List V}, DenL G p H ws vs → DenL G p H (ws.drop n) (vs.drop n)
  | 0, _, _, h => h
  | _ + 1, _, _, .nil => .nil
  | n + 1, _, _, .cons _ l => l.drop n
theorem DenL.take {G : Mg} {p : List Addr} {H : Hp} : ∀ (n : Nat) {ws : List Mv} {vs : List V}, DenL G p H ws vs → DenL G p H (ws.take n) (vs.take n)
  | 0, _, _, _ => .nil
  | _ + 1, _, _, .nil => .nil
  | n + 1, _, _, .cons h l => .cons h (l.take n)
theorem DenL.set {G : Mg} {p : List Addr} {H : Hp} {w : Mv} {v : V} (h : Den G p H w v) : ∀ {ws : List Mv} {vs : List V} (i : Nat), DenL G p H ws vs → DenL G p H (ws.set i w) (vs.set i v)
  | _, _, _, .nil => .nil
  | _, _, 0, .cons _ l => .cons h l
  | _, _, i + 1, .cons a l => .cons a (DenL.set h i l)
theorem DenL.erase {G : Mg} {p : List Addr} {H : Hp} : ∀ {ws : List Mv} {vs : List V} (i : Nat), DenL G p H ws vs → DenL G p H (ws.eraseIdx i) (vs.eraseIdx i)
  | _, _, _, .nil => .nil
  | _, _, 0, .cons _ l => l
  | _, _, i + 1, .cons a l => .cons a (l.erase i)
theorem nodup_at {α : Type} {l : List α} (hl : l.Nodup) {i j : Nat} {x : α} (a : l[i]? = some x) (b : l[j]? = some x) : i = j := by
  obtain ⟨h1, e1⟩ := List.getElem?_eq_some_iff.mp a
  obtain ⟨h2, e2⟩ := List.getElem?_eq_some_iff.mp b
  exact (List.getElem_inj hl).mp (e1.trans e2.symm)
/-! ### the store: new objects, changed ones -/
theorem Ms.alloc_eq {s s' : Ms} {o : Mo} {n : Nat} (h : s.alloc o = some (n, s')) : n = s.sz ∧ s'.sz = s.sz + 1 ∧ ∀ m, s'.get m = if m = s.sz then some o else s.get m := by
  cases h
  exact ⟨rfl, rfl, fun m => Mt.get_set s.t s.sz o m⟩
theorem Sim.new {G : Mg} {p : List Addr} {s s' : Ms} {H : Hp} {o : Mo} {ho : HO} {n : Nat} {a : Addr} {H' : Hp} (S : Sim G p s H) (e : s.alloc o = some (n, s')) (ha : H a = Option.none) (d : DenO G p H a o ho) (ha' : H' a = some ho) (hk : ∀ b u, H b = some u → H' b = some u) :
    Sim G (p ++ [a]) s' H' ∧ Fra p H (p ++ [a]) H' ∧ Den G (p ++ [a]) H' (.ref n) (.ref a) := by
  obtain ⟨rfl, h2, h4⟩ := Ms.alloc_eq e
  have nin : a ∉ p := fun h => by
    obtain ⟨k, hk'⟩ := List.mem_iff_getElem?.mp h
    obtain ⟨_, _, _, z, _⟩ := S.ob k a hk'
    rw [ha] at z; cases z
  have f : Fra p H (p ++ [a]) H' := ⟨⟨[a], rfl, fun b hb _ => by rw [List.mem_singleton.mp hb]; exact ha⟩, fun b u e _ => hk b u e, fun b o u e => hk b _ e⟩
  have st := f.stays S
  have hlen : (p ++ [a])[s.sz]? = some a := by rw [← S.len]; simp
  refine ⟨⟨by rw [List.length_append, S.len, h2]; rfl, ?_, fun m b hb => ?_, fun m hm => ?_⟩, f, .ref hlen⟩
  · rw [List.nodup_append]
    exact ⟨S.nd, by simp, fun x hx y hy => by rw [List.mem_singleton.mp hy]; rintro rfl; exact nin hx⟩
  · by_cases hmn : m = s.sz
    · subst hmn
      rw [hlen] at hb; cases hb
      exact ⟨o, ho, by rw [h4, if_pos rfl], ha', d.stay st⟩
    · have hlt : m < p.length := by
        have := (List.getElem?_eq_some_iff.mp hb).1
        rw [List.length_append] at this
        have := S.len
        simp at *
        omega
      rw [List.getElem?_append_left hlt] at hb
      obtain ⟨o1, ho1, q1, q2, q3⟩ := S.ob m b hb
      exact ⟨o1, ho1, by rw [h4, if_neg hmn]; exact q1, hk _ _ q2, q3.stay st⟩
  · rw [h4, if_neg (by omega)]
    exact S.out m (by omega)
theorem Sim.get {G : Mg} {p : List Addr} {s : Ms} {H : Hp} (S : Sim G p s H) {n : Nat} {a : Addr} {o : Mo} (h : p[n]? = some a) (e : s.get n = some o) : ∃ ho, H a = some ho ∧ DenO G p H a o ho := by
  obtain ⟨o', ho, q1, q2, q3⟩ := S.ob n a h
  rw [e] at q1; cases q1
  exact ⟨ho, q2, q3⟩
def unl : Mo → Bool
  | .lk _ => false
  | .ln _ => false
  | _ => true
theorem DenO.unl {G : Mg} {p : List Addr} {H : Hp} {a : Addr} {o : Mo} {ho : HO} (d : DenO G p H a o ho) (hu : unl o = true) : ∀ ob u, ho ≠ .frz ob u := by
  intro ob u e
  subst e
  cases o with
  | lst ws => obtain ⟨_, z, _⟩ := d; cases z
  | ins c fs => obtain ⟨_, _, z, _⟩ := d; cases z
  | dk kvs => obtain ⟨_, z, _⟩ := d; cases z
  | dn kvs => obtain ⟨_, z, _⟩ := d; cases z
  | lk kvs => cases hu
  | ln kvs => cases hu
  | box m ds => obtain ⟨_, _, _, z, _⟩ := d; cases z
  | tab t o =>
    rcases o with _ | ⟨l, c, n⟩
    · obtain ⟨_, z⟩ := d; cases z
    · obtain ⟨_, _, _, z⟩ := d; cases z
  | cod q => exact nomatch (show _ = LamX.CodeO a q from d)
theorem Sim.put {G : Mg} {p : List Addr} {s : Ms} {H : Hp} {o o0 : Mo} {ho : HO} {n : Nat} {a : Addr} (S : Sim G p s H) (h : p[n]? = some a) (e0 : s.get n = some o0) (hu : unl o0 = true) (nt : ∀ vs, ho ≠ .tup vs) (d : DenO G p H a o ho) : Sim G p (s.put n o) (upd H a ho) ∧ Fra p H p (upd H a ho) := by
  have hn : n < s.sz := by rw [← S.len]; exact (List.getElem?_eq_some_iff.mp h).1
  have ham : a ∈ p := List.mem_of_getElem? h
  have f : Fra p H p (upd H a ho) := ⟨⟨[], by simp, fun b hb => by simp at hb⟩, fun b u e nb => by
    have hne : b ≠ a := fun z => nb (by rw [z]; exact ham)
    rw [upd_ne hne]; exact e, fun b ob u e => by
    obtain ⟨ho0, q1, q2⟩ := S.get h e0
    have hne : b ≠ a := fun z => by
      subst z
      rw [q1] at e
      exact q2.unl hu ob u (Option.some.inj e)
    rw [upd_ne hne]; exact e⟩
  have st := f.stays S
  have g : ∀ m, (s.put n o).get m = if m = n then some o else s.get m := fun m => Mt.get_set s.t n o m
  refine ⟨⟨S.len, S.nd, fun m b hb => ?_, fun m hm => ?_⟩, f⟩
  · by_cases hmn : m = n
    · subst hmn
      rw [h] at hb; cases hb
      exact ⟨o, ho, by rw [g, if_pos rfl], upd_same, d.stay st⟩
    · obtain ⟨o1, ho1, q1, q2, q3⟩ := S.ob m b hb
      have hne : b ≠ a := fun z => hmn (nodup_at S.nd (z ▸ hb) h)
      exact ⟨o1, ho1, by rw [g, if_neg hmn]; exact q1, by rw [upd_ne hne]; exact q2, q3.stay st⟩
  · rw [g, if_neg (by have : s.sz ≤ m := hm; omega)]
    exact S.out m hm

end
section
/-! ### readings of mirrored functions -/
structure EnvR (G : Mg) (p : List Addr) (H : Hp) (r : Me) (σ : L2.St) : Prop where
  len : r.length = σ.length
  get : ∀ (i : Nat) (w : Mv), r[i]? = some (some w) → ∃ v, σ[i]? = some (some v) ∧ Den G p H w v
theorem EnvR.fra {G : Mg} {p p' : List Addr} {s : Ms} {H H' : Hp} {r : Me} {σ : L2.St} (e : EnvR G p H r σ) (S : Sim G p s H) (f : Fra p H p' H') : EnvR G p' H' r σ :=
  ⟨e.len, fun i w h => let ⟨v, q, d⟩ := e.get i w h; ⟨v, q, d.fra S f⟩⟩
theorem EnvR.set {G : Mg} {p : List Addr} {H : Hp} {r : Me} {σ : L2.St} {i : Nat} {w : Mv} {v : V} (e : EnvR G p H r σ) (d : Den G p H w v) : EnvR G p H (lset r i (some w)) (σ.set i (some v)) := by
  rw [lset_eq]
  refine ⟨by rw [List.length_set, List.length_set, e.len], fun j x h => ?_⟩
  by_cases hj : i = j
  · subst hj
    have hl : i < r.length := by
      have := (List.getElem?_eq_some_iff.mp h).1
      rwa [List.length_set] at this
    rw [List.getElem?_set_self hl] at h
    cases h
    exact ⟨v, List.getElem?_set_self (by rw [← e.len]; exact hl), d⟩
  · rw [List.getElem?_set_ne hj] at h
    rw [List.getElem?_set_ne hj]
    exact e.get j x h
noncomputable def After (G : Mg) (p : List Addr) (H : Hp) (w : Mv) (s' : Ms) (Q : VK) : Prop := ∀ p' v H', Sim G p' s' H' → Fra p H p' H' → Den G p' H' w v → Q v H'
noncomputable def tI (G : Mg) (F : Fe) : TE := fun σ H Q => ∃ p s r w s', Sim G p s H ∧ EnvR G p H r σ ∧ F r s = some (w, s') ∧ After G p H w s' Q
noncomputable def tT (G : Mg) (F : Ft) : TT := fun σ H Q => ∃ p s r b s', Sim G p s H ∧ EnvR G p H r σ ∧ F r s = some (b, s') ∧ ∀ p' H', Sim G p' s' H' → Fra p H p' H' → Q b H'
noncomputable def tA (G : Mg) (F : Fa) : TA := fun σ H Q => ∃ p s r ws s', Sim G p s H ∧ EnvR G p H r σ ∧ F r s = some (ws, s') ∧ ∀ p' vs H', Sim G p' s' H' → Fra p H p' H' → DenL G p' H' ws vs → Q vs H'
noncomputable def rF (G : Mg) (f : Fn) : List V → Hp → VK → Prop := fun vs H Q => ∃ p s ws w s', Sim G p s H ∧ DenL G p H ws vs ∧ f ws s = some (w, s') ∧ After G p H w s' Q
noncomputable def q1R (G : Mg) (f : Mv → Ms → Option (Mv × Ms)) : V → Hp → VK → Prop := fun x H Q => ∃ p s a w s', Sim G p s H ∧ Den G p H a x ∧ f a s = some (w, s') ∧ After G p H w s' Q
noncomputable def q2R (G : Mg) (f : Mv → Mv → Ms → Option (Mv × Ms)) : R2 := fun x y H Q => ∃ p s a b w s', Sim G p s H ∧ Den G p H a x ∧ Den G p H b y ∧ f a b s = some (w, s') ∧ After G p H w s' Q
noncomputable def spM (G : Mg) (f : Fn) : Sp := fun vs H Q _ => rF G f vs H Q
theorem After.of {G : Mg} {p p1 : List Addr} {H H1 : Hp} {w : Mv} {s' : Ms} {Q : VK} (f : Fra p H p1 H1) (a : After G p H w s' Q) : After G p1 H1 w s' Q := fun p' v H' S' f' d => a p' v H' S' (f.trans f') d

/-! ### the mirror's words -/
noncomputable def mvar (i : Nat) : Fe := fun r s => Option.rec (motive := fun _ => Option (Mv × Ms)) none (fun o => Option.rec (motive := fun _ => Option (Mv × Ms)) none (fun w => some (w, s)) o) (lget r i)
noncomputable def mcon (w : Mv) : Fe := fun _ s => some (w, s)
noncomputable def mop1 (f : Mv → Ms → Option (Mv × Ms)) (A : Fe) : Fe := fun r s => (A r s).ob fun x => f x.1 x.2
noncomputable def mop2 (f : Mv → Mv → Ms → Option (Mv × Ms)) (A B : Fe) : Fe := fun r s => (A r s).ob fun x => (B r x.2).ob fun y => f x.1 y.1 y.2
noncomputable def mnil : Fa := fun _ s => some ([], s)
noncomputable def mcons (A : Fe) (B : Fa) : Fa := fun r s => (A r s).ob fun x => (B r x.2).ob fun y => some (x.1 :: y.1, y.2)
noncomputable def mcall (f : Fn) (A : Fa) : Fe := fun r s => (A r s).ob fun x => f x.1 x.2
noncomputable def mchain (f g : Mv → Mv → Ms → Option (Mv × Ms)) (A B C : Fe) : Fe := fun r s => (A r s).ob fun x => (B r x.2).ob fun y => (f x.1 y.1 y.2).ob fun z => match z.1 with
  | .bl true => (C r z.2).ob fun u => g y.1 u.1 u.2
  | .bl false => some (.bl false, z.2)
  | _ => none
noncomputable def tru : Mv → Ms → Option Bool
  | .non, _ => some false
  | .bl b, _ => some b
  | .int i, _ => some (i != 0)
  | .str x, _ => cond (Nat.ble x.length 16777216) (some (x.length != 0)) none
  | .tup ws, _ => some (!ws.isEmpty)
  | .ref n, s => match s.get n with
    | some (.lst ws) => some (!ws.isEmpty)
    | _ => none
  | _, _ => none
noncomputable def mtst (A : Fe) : Ft := fun r s => (A r s).ob fun x => (tru x.1 x.2).om fun b => (b, x.2)
noncomputable def mtB (A : Fe) : Ft := fun r s => (A r s).ob fun x => match x.1 with
  | .bl b => some (b, x.2)
  | _ => none
noncomputable def mand (A B : Ft) : Ft := fun r s => (A r s).ob fun x => cond x.1 (B r x.2) (some (false, x.2))
noncomputable def mor (A B : Ft) : Ft := fun r s => (A r s).ob fun x => cond x.1 (some (true, x.2)) (B r x.2)
noncomputable def mnot (A : Ft) : Ft := fun r s => (A r s).om fun x => (!x.1, x.2)
noncomputable def mandV (A B : Fe) : Fe := fun r s => (A r s).ob fun x => match x.1 with
  | .bl true => B r x.2
  | .bl false => some (.bl false, x.2)
  | _ => none
noncomputable def morV (A B : Fe) : Fe := fun r s => (A r s).ob fun x => match x.1 with
  | .bl false => B r x.2
  | .bl true => some (.bl true, x.2)
  | _ => none
noncomputable def mnotV (A : Fe) : Fe := fun r s => (A r s).ob fun x => match x.1 with
  | .bl b => some (.bl (!b), x.2)
  | _ => none
noncomputable def mif (T : Ft) (A B : Fe) : Fe := fun r s => (T r s).ob fun x => cond x.1 (A r x.2) (B r x.2)

/-! ### one lemma a construct -/
section
variable {X : Cx} {G : Mg} {e a b c : Expr} {pos : Pos}
theorem pe_imp {t t' : TE} (h : PE X e t) (i : ∀ σ H Q, t' σ H Q → t σ H Q) : PE X e t' := ⟨fun pins s σ H Q I q => h.run pins s σ H Q I (i σ H Q q)⟩
theorem pt_imp {t t' : TT} (h : PT X e t) (i : ∀ σ H Q, t' σ H Q → t σ H Q) : PT X e t' := ⟨fun pins s σ H Q I q => h.run pins s σ H Q I (i σ H Q q)⟩
theorem pw_imp {t t' : TT} (h : PW X e t) (i : ∀ σ H Q, t' σ H Q → t σ H Q) : PW X e t' := ⟨fun wh pins s σ H Q I q => h.run wh pins s σ H Q I (i σ H Q q)⟩
theorem pa_imp {es : List Expr} {t t' : TA} (h : PA X es t) (i : ∀ σ H Q, t' σ H Q → t σ H Q) : PA X es t' := ⟨fun ps pins s σ H Q I q => h.run ps pins s σ H Q I (i σ H Q q)⟩
theorem mvar_eq {i : Nat} {r : Me} {s s' : Ms} {w : Mv} (h : mvar i r s = some (w, s')) : r[i]? = some (some w) ∧ s' = s := by
  unfold mvar at h
  rw [lget_eq] at h
  cases e : r[i]? with
  | none => rw [e] at h; cases h
  | some o =>
    rw [e] at h
    cases o with
    | none => cases h
    | some w' =>
      have h' : some (w', s) = some (w, s') := h
      cases h'
      exact ⟨rfl, rfl⟩
theorem pm_var {i : Nat} (h : PE X e (tVar i)) : PE X e (tI G (mvar i)) := pe_imp h fun σ H Q ⟨p, s, r, w, s', S, E, q, k⟩ => by
  obtain ⟨h1, rfl⟩ := mvar_eq q
  obtain ⟨v, h2, d⟩ := E.get i w h1
  exact ⟨v, h2, k p v H S Fra.refl d⟩
theorem pm_con {v : V} {w : Mv} (h : PE X e (tC v)) (d : ∀ p s H, Sim G p s H → Den G p H w v) : PE X e (tI G (mcon w)) := pe_imp h fun σ H Q ⟨p, s, r, w', s', S, E, q, k⟩ => by
  cases q
  exact k p v H S Fra.refl (d p s H S)
theorem t_op1 {f : Mv → Ms → Option (Mv × Ms)} {A : Fe} {σ : L2.St} {H : Hp} {Q : VK} (h : tI G (mop1 f A) σ H Q) : tUn (q1R G f) (tI G A) σ H Q := by
  obtain ⟨p, s, r, w, s', S, E, q, k⟩ := h
  obtain ⟨⟨x, s1⟩, q1, q2⟩ := ob_some.mp q
  exact ⟨p, s, r, x, s1, S, E, q1, fun p1 v1 H1 S1 f1 d1 => ⟨p1, s1, x, w, s', S1, d1, q2, k.of f1⟩⟩
theorem t_op2 {f : Mv → Mv → Ms → Option (Mv × Ms)} {A B : Fe} {σ : L2.St} {H : Hp} {Q : VK} (h : tI G (mop2 f A B) σ H Q) : tOp (q2R G f) (tI G A) (tI G B) σ H Q := by
  obtain ⟨p, s, r, w, s', S, E, q, k⟩ := h
  obtain ⟨⟨x, s1⟩, q1, q2⟩ := ob_some.mp q
  obtain ⟨⟨y, s2⟩, q3, q4⟩ := ob_some.mp q2
  exact ⟨p, s, r, x, s1, S, E, q1, fun p1 v1 H1 S1 f1 d1 => ⟨p1, s1, r, y, s2, S1, E.fra S f1, q3, fun p2 v2 H2 S2 f2 d2 => ⟨p2, s2, x, y, w, s', S2, d1.fra S1 f2, d2, q4, k.of (f1.trans f2)⟩⟩⟩
theorem pm_un {op : UnaryOp} {f : Mv → Ms → Option (Mv × Ms)} {A : Fe} (ho : UnR X (unaryOp op) (q1R G f)) (ha : PE X a (tI G A)) : PE X (.UnaryOp op a pos) (tI G (mop1 f A)) := pe_imp (pe_un ho ha) fun _ _ _ h => t_op1 h
theorem pm_bin {op : Operator} {f : Mv → Mv → Ms → Option (Mv × Ms)} {A B : Fe} (ho : OpR X (binaryOp op) (q2R G f)) (ha : PE X a (tI G A)) (hb : PE X b (tI G B)) : PE X (.BinOp a op b pos) (tI G (mop2 f A B)) := pe_imp (pe_op ho ha hb) fun _ _ _ h => t_op2 h
theorem pm_cmp {op : CmpOp} {f : Mv → Mv → Ms → Option (Mv × Ms)} {A B : Fe} (ho : OpR X (compareOp op) (q2R G f)) (ha : PE X a (tI G A)) (hb : PE X b (tI G B)) (hm : behindInMarks op b = false) : PE X (.Compare a [op] [b] pos) (tI G (mop2 f A B)) := pe_imp (pe_cmpR ho ha hb hm) fun _ _ _ h => t_op2 h
theorem mtB_eq {A : Fe} {r : Me} {s s' : Ms} {b : Bool} (h : mtB A r s = some (b, s')) : A r s = some (.bl b, s') := by
  obtain ⟨⟨x, s1⟩, q1, q2⟩ := ob_some.mp h
  cases x with
  | bl c => cases q2; exact q1
  | _ => cases q2
theorem Den.bl_eq {p : List Addr} {H : Hp} {v : V} {b : Bool} (d : Den G p H (.bl b) v) : v = .bl b := by cases d; rfl
theorem t_B {A : Fe} {σ : L2.St} {H : Hp} {Q : Bool → Hp → Prop} (h : tT G (mtB A) σ H Q) : tTest (tI G A) σ H Q := by
  obtain ⟨p, s, r, b, s', S, E, q, k⟩ := h
  exact ⟨p, s, r, .bl b, s', S, E, mtB_eq q, fun p1 v1 H1 S1 f1 d1 => ⟨b, d1.bl_eq, k p1 H1 S1 f1⟩⟩
theorem pm_tcmp {op : CmpOp} {f : Mv → Mv → Ms → Option (Mv × Ms)} {A B : Fe} (ho : OpR X (compareOp op) (q2R G f)) (ha : PE X a (tI G A)) (hb : PE X b (tI G B)) (hm : behindInMarks op b = false) : PT X (.Compare a [op] [b] pos) (tT G (mtB (mop2 f A B))) :=
  pt_imp (pt_cmpR ho ha hb hm) fun σ H Q h => by
    obtain ⟨p, s, r, c, s', S, E, q, k⟩ := t_B h
    exact t_op2 ⟨p, s, r, c, s', S, E, q, k⟩
theorem t_chain {f g : Mv → Mv → Ms → Option (Mv × Ms)} {A B C : Fe} {σ : L2.St} {H : Hp} {Q : VK} (h : tI G (mchain f g A B C) σ H Q) : tChain (q2R G f) (q2R G g) (tI G A) (tI G B) (tI G C) σ H Q := by
  obtain ⟨p, s, r, w, s', S, E, q, k⟩ := h
  obtain ⟨⟨x, s1⟩, q1, q2⟩ := ob_some.mp q
  obtain ⟨⟨y, s2⟩, q3, q4⟩ := ob_some.mp q2
  obtain ⟨⟨z, s3⟩, q5, q6⟩ := ob_some.mp q4
  refine ⟨p, s, r, x, s1, S, E, q1, fun p1 v1 H1 S1 f1 d1 => ⟨p1, s1, r, y, s2, S1, E.fra S f1, q3, fun p2 v2 H2 S2 f2 d2 => ⟨p2, s2, x, y, z, s3, S2, d1.fra S1 f2, d2, q5, fun p3 v3 H3 S3 f3 d3 => ?_⟩⟩⟩
  cases z with
  | bl c =>
    cases d3
    refine ⟨c, rfl, ?_⟩
    cases c with
    | false => rw [if_neg Bool.false_ne_true]; cases q6; exact k p3 _ H3 S3 ((f1.trans f2).trans f3) (.bl false)
    | true =>
      rw [if_pos rfl]
      obtain ⟨⟨u, s4⟩, q7, q8⟩ := ob_some.mp q6
      exact ⟨p3, s3, r, u, s4, S3, ((E.fra S f1).fra S1 f2).fra S2 f3, q7, fun p4 v4 H4 S4 f4 d4 => ⟨p4, s4, y, u, w, s', S4, (d2.fra S2 f3).fra S3 f4, d4, q8, k.of (((f1.trans f2).trans f3).trans f4)⟩⟩
  | _ => cases q6
theorem pm_tchain {op op' : CmpOp} {f g : Mv → Mv → Ms → Option (Mv × Ms)} {A B C : Fe} (ho : OpR X (compareOp op) (q2R G f)) (ho' : OpR X (compareOp op') (q2R G g)) (ha : PE X a (tI G A)) (hb : PE X b (tI G B)) (hc : PE X c (tI G C)) (hm : lastMarks [op, op'] [b, c] = false := by with_unfolding_all rfl) :
    PT X (.Compare a [op, op'] [b, c] pos) (tT G (mtB (mchain f g A B C))) :=
  pt_imp (pt_chain ho ho' ha hb hc hm) fun σ H Q h => by
    obtain ⟨p, s, r, c, s', S, E, q, k⟩ := t_B h
    exact t_chain ⟨p, s, r, c, s', S, E, q, k⟩
/-! truth of any value -/
theorem tru_den {p : List Addr} {s : Ms} {H : Hp} {w : Mv} {v : V} {k : Bool} (S : Sim G p s H) (d : Den G p H w v) (h : tru w s = some k) (hK : X.K = G.K) : TruV X.K v H k := by
  cases d with
  | non => cases h; rfl
  | bl b => cases h; rfl
  | int i => cases h; rfl
  | str x =>
    simp only [tru] at h
    cases q : Nat.ble x.length 16777216 with
    | false => rw [q] at h; cases h
    | true =>
      rw [q] at h; cases h
      refine ⟨Nat.le_of_ble_eq_true q, ?_⟩
      cases x.length with
      | zero => rfl
      | succ n =>
        have h1 : (n + 1 != 0) = true := by simp
        have h2 : (((n + 1 : Nat) : Int) != 0) = true := by simp; omega
        rw [h1, h2]
  | tup h1 l =>
    cases h
    refine .inr (.inl ⟨_, by rw [hK]; exact h1, ?_⟩)
    cases l with
    | nil => rfl
    | cons _ _ => rfl
  | ref hn =>
    simp only [tru] at h
    split at h
    · rename_i ws e
      cases h
      obtain ⟨ho, h1, vs, rfl, l, _⟩ := S.get hn e
      refine .inl ⟨vs, SqL.of h1, ?_⟩
      cases l with
      | nil => rfl
      | cons _ _ => rfl
    · cases h
  | ty t => cases h
  | cls c => cases h
  | fl _ _ => cases h
theorem pm_tst {A : Fe} (h : PE X e (tI G A)) (hK : X.K = G.K := by rfl) (he : ∀ whole, isTrue e X.env whole = (do let v ← whole; standAt e.pos; holding [v] (truthy v)) := by intro _; rfl) : PT X e (tT G (mtst A)) :=
  pt_imp (pt_truth h he) fun σ H Q ⟨p, s, r, b, s', S, E, q, k⟩ => by
    obtain ⟨⟨x, s1⟩, q1, q2⟩ := ob_some.mp q
    obtain ⟨b', q3, q4⟩ := omap_some.mp q2
    cases q4
    exact ⟨p, s, r, x, s1, S, E, q1, fun p1 v1 H1 S1 f1 d1 => ⟨b, tru_den S1 d1 q3 hK, k p1 H1 S1 f1⟩⟩
/-! and, or, not, if -/
variable {rest : List Expr}
theorem t_or {A B : Ft} {σ : L2.St} {H : Hp} {Q : Bool → Hp → Prop} (h : tT G (mor A B) σ H Q) : tOr (tT G A) (tT G B) σ H Q := by
  obtain ⟨p, s, r, c, s', S, E, q, k⟩ := h
  obtain ⟨⟨x, s1⟩, q1, q2⟩ := ob_some.mp q
  refine ⟨p, s, r, x, s1, S, E, q1, fun p1 H1 S1 f1 => ?_⟩
  cases x with
  | true => rw [if_pos rfl]; cases q2; exact k p1 H1 S1 f1
  | false => rw [if_neg Bool.false_ne_true]; exact ⟨p1, s1, r, c, s', S1, E.fra S f1, q2, fun p2 H2 S2 f2 => k p2 H2 S2 (f1.trans f2)⟩
theorem pm_wor1 {A : Ft} (ha : PT X a (tT G A)) : PW X (.BoolOp .Or [a] pos) (tT G A) := pw_or1 ha
theorem pm_wor {A B : Ft} (ha : PT X a (tT G A)) (hb : PW X (.BoolOp .Or (b :: rest) pos) (tT G B)) : PW X (.BoolOp .Or (a :: b :: rest) pos) (tT G (mor A B)) := pw_imp (pw_or ha hb) fun _ _ _ h => t_or h
theorem pm_tnot {A : Ft} (ha : PT X a (tT G A)) : PT X (.UnaryOp .Not a pos) (tT G (mnot A)) := pt_imp (pt_not ha) fun σ H Q ⟨p, s, r, c, s', S, E, q, k⟩ => by
  obtain ⟨⟨x, s1⟩, q1, q2⟩ := omap_some.mp q
  cases q2
  exact ⟨p, s, r, x, s1, S, E, q1, k⟩
theorem pm_and {A B : Fe} (ha : PE X a (tI G A)) (hb : PE X (.BoolOp .And (b :: rest) pos) (tI G B)) : PE X (.BoolOp .And (a :: b :: rest) pos) (tI G (mandV A B)) := pe_imp (pe_and ha hb) fun σ H Q ⟨p, s, r, w, s', S, E, q, k⟩ => by
  obtain ⟨⟨x, s1⟩, q1, q2⟩ := ob_some.mp q
  refine ⟨p, s, r, x, s1, S, E, q1, fun p1 v1 H1 S1 f1 d1 => ?_⟩
  cases x with
  | bl c =>
    cases d1
    refine ⟨c, rfl, ?_⟩
    cases c with
    | false => rw [if_neg Bool.false_ne_true]; cases q2; exact k p1 _ H1 S1 f1 (.bl false)
    | true => rw [if_pos rfl]; exact ⟨p1, s1, r, w, s', S1, E.fra S f1, q2, k.of f1⟩
  | _ => cases q2
theorem pm_or {A B : Fe} (ha : PE X a (tI G A)) (hb : PE X (.BoolOp .Or (b :: rest) pos) (tI G B)) : PE X (.BoolOp .Or (a :: b :: rest) pos) (tI G (morV A B)) := pe_imp (pe_or ha hb) fun σ H Q ⟨p, s, r, w, s', S, E, q, k⟩ => by
  obtain ⟨⟨x, s1⟩, q1, q2⟩ := ob_some.mp q
  refine ⟨p, s, r, x, s1, S, E, q1, fun p1 v1 H1 S1 f1 d1 => ?_⟩
  cases x with
  | bl c =>
    cases d1
    refine ⟨c, rfl, ?_⟩
    cases c with
    | true => rw [if_pos rfl]; cases q2; exact k p1 _ H1 S1 f1 (.bl true)
    | false => rw [if_neg Bool.false_ne_true]; exact ⟨p1, s1, r, w, s', S1, E.fra S f1, q2, k.of f1⟩
  | _ => cases q2
theorem pm_one {op} {A : Fe} (h : PE X a (tI G A)) : PE X (.BoolOp op [a] pos) (tI G A) := pe_one h
theorem pm_if {T : Ft} {A B : Fe} (hc : PT X c (tT G T)) (ha : PE X a (tI G A)) (hb : PE X b (tI G B)) : PE X (.IfExp c a b pos) (tI G (mif T A B)) := pe_imp (pe_ifExp hc ha hb) fun σ H Q ⟨p, s, r, w, s', S, E, q, k⟩ => by
  obtain ⟨⟨x, s1⟩, q1, q2⟩ := ob_some.mp q
  refine ⟨p, s, r, x, s1, S, E, q1, fun p1 H1 S1 f1 => ?_⟩
  cases x with
  | true => rw [if_pos rfl]; exact ⟨p1, s1, r, w, s', S1, E.fra S f1, q2, k.of f1⟩
  | false => rw [if_neg Bool.false_ne_true]; exact ⟨p1, s1, r, w, s', S1, E.fra S f1, q2, k.of f1⟩
/-! arguments, calls -/
theorem pm_nil : PA X [] (tA G mnil) := pa_imp pa_nil fun σ H Q ⟨p, s, r, ws, s', S, E, q, k⟩ => by cases q; exact k p [] H S Fra.refl .nil
theorem pm_cons {es : List Expr} {A : Fe} {B : Fa} (ha : PE X e (tI G A)) (hr : PA X es (tA G B)) (hs : starEach (e :: es) X.env = (false, eval e X.env) :: starEach es X.env := by rfl) : PA X (e :: es) (tA G (mcons A B)) :=
  pa_imp (pa_cons ha hr hs) fun σ H Q ⟨p, s, r, ws, s', S, E, q, k⟩ => by
    obtain ⟨⟨x, s1⟩, q1, q2⟩ := ob_some.mp q
    obtain ⟨⟨y, s2⟩, q3, q4⟩ := ob_some.mp q2
    cases q4
    exact ⟨p, s, r, x, s1, S, E, q1, fun p1 v1 H1 S1 f1 d1 => ⟨p1, s1, r, y, s2, S1, E.fra S f1, q3, fun p2 vs H2 S2 f2 d2 => k p2 _ H2 S2 (f1.trans f2) (.cons (d1.fra S1 f2) d2)⟩⟩
theorem t_call {f : Fn} {A : Fa} {σ : L2.St} {H : Hp} {Q : VK} (h : tI G (mcall f A) σ H Q) : tA G A σ H fun vs H1 => rF G f vs H1 Q := by
  obtain ⟨p, s, r, w, s', S, E, q, k⟩ := h
  obtain ⟨⟨x, s1⟩, q1, q2⟩ := ob_some.mp q
  exact ⟨p, s, r, x, s1, S, E, q1, fun p1 vs H1 S1 f1 d1 => ⟨p1, s1, x, w, s', S1, d1, q2, k.of f1⟩⟩
variable {x : Str} {p0 : Pos} {es : List Expr} {id T : String} {f : Fn} {A : Fa}
theorem pm_cB (hc : CallR X (.builtin id) (rF G f)) (hg : Gl X x) (hm : X.mg x = none) (hv : bootBuiltins x = some (.builtin id)) (ha : PA X (e :: es) (tA G A)) (hn : x ≠ "__name__" := by decide) (hdb : (x == ("__debug__" : Str)) = false := by decide)
    (he : starEach (e :: es) X.env = (false, eval e X.env) :: starEach es X.env := by rfl) (hpl : (backTo pos (starEach es X.env)).any (·.1) = false := by rfl) : PE X (.Call (.Name x p0) (e :: es) [] pos) (tI G (mcall f A)) := pe_imp (pe_callB hc hg hm hv ha hn hdb he hpl) fun _ _ _ h => t_call h
theorem pm_cT (hc : CallR X (.type T) (rF G f)) (hg : Gl X x) (hm : X.mg x = none) (hv : bootBuiltins x = some (.type T)) (ha : PA X (e :: es) (tA G A)) (hn : x ≠ "__name__" := by decide) (hdb : (x == ("__debug__" : Str)) = false := by decide)
    (he : starEach (e :: es) X.env = (false, eval e X.env) :: starEach es X.env := by rfl) (hpl : (backTo pos (starEach es X.env)).any (·.1) = false := by rfl) : PE X (.Call (.Name x p0) (e :: es) [] pos) (tI G (mcall f A)) := pe_imp (pe_callTy hc hg hm hv ha hn hdb he hpl) fun _ _ _ h => t_call h
theorem pm_call {CX : CXT} {k : Nat} {fa : Addr} {fd : FuncData} {ps : List Str} {E : XK} (F : FnOk X.prog X.w X.K X.mg X.base CX k fa fd ps (spM G f)) (hr : Room k X.A) (hg : Gl X x) (hm : X.mg x = some (.ref fa)) (hk : PySem.W.keepIn X.K (.ref fa) = true) (hb : Binds X.K fd ps []) (hx : Passes CX X E) (ha : PA X (e :: es) (tA G A))
    (hdb : (x == ("__debug__" : Str)) = false := by decide) (he : starEach (e :: es) X.env = (false, eval e X.env) :: starEach es X.env := by rfl) (hpl : (backTo pos (starEach es X.env)).any (·.1) = false := by rfl) :
    PE X (.Call (.Name x p0) (e :: es) [] pos) (tI G (mcall f A)) := pe_imp (pe_call F hr hg hm hk hb .nil hx ha hdb he hpl) fun σ H Q h => by
  obtain ⟨p, s, r, w, s', S, E, q, k⟩ := t_call h
  exact ⟨p, s, r, w, s', S, E, q, fun p1 vs H1 S1 f1 d1 => by
    show rF G f (vs ++ []) H1 Q
    rw [List.append_nil]
    exact k p1 vs H1 S1 f1 d1⟩
end

end
section
/-! ### statements -/
inductive Fl where
  | nx | bk | ct | rt (w : Mv)
abbrev Fs := Me → Ms → Option (Fl × Me × Ms)
/-- what is wanted behind a statement that ends so -/
noncomputable def Ended (G : Mg) (D : Ends) (p : List Addr) (H : Hp) (r : Me) : Fl → Prop
  | .nx => ∀ σ, EnvR G p H r σ → D.nx σ H
  | .bk => ∀ σ, EnvR G p H r σ → D.bk σ H
  | .ct => ∀ σ, EnvR G p H r σ → D.ct σ H
  | .rt w => ∀ v, Den G p H w v → D.rt v H
noncomputable def tS (G : Mg) (F : Fs) : TS := fun D σ H => ∃ p s r f r' s', Sim G p s H ∧ EnvR G p H r σ ∧ F r s = some (f, r', s') ∧ ∀ p' H', Sim G p' s' H' → Fra p H p' H' → Ended G D p' H' r' f
noncomputable def snx : Fs := fun r s => some (.nx, r, s)
noncomputable def sseq (A B : Fs) : Fs := fun r s => (A r s).ob fun x => match x.1 with
  | .nx => B x.2.1 x.2.2
  | .bk => some (.bk, x.2)
  | .ct => some (.ct, x.2)
  | .rt w => some (.rt w, x.2)
noncomputable def sret (A : Fe) : Fs := fun r s => (A r s).om fun x => (.rt x.1, r, x.2)
noncomputable def sexp (A : Fe) : Fs := fun r s => (A r s).om fun x => (.nx, r, x.2)
noncomputable def sif (T : Ft) (A B : Fs) : Fs := fun r s => (T r s).ob fun x => cond x.1 (A r x.2) (B r x.2)
section
variable {X : Cx} {G : Mg} {e : Expr} {pos : Pos} {st : Stmt} {rest : List Stmt}
theorem ps_imp {t t' : TS} (h : PS X st t) (i : ∀ D σ H, t' D σ H → t D σ H) : PS X st t' := ⟨fun pins s σ H D I q => h.run pins s σ H D I (i D σ H q)⟩
theorem pss_imp {st : List Stmt} {t t' : TS} (h : PSs X st t) (i : ∀ D σ H, t' D σ H → t D σ H) : PSs X st t' := ⟨fun pins s σ H D I q => h.run pins s σ H D I (i D σ H q)⟩
theorem sm_nil : PSs X [] (tS G snx) := pss_imp pss_nil fun D σ H ⟨p, s, r, f, r', s', S, E, q, k⟩ => by
  cases q
  exact k p H S Fra.refl σ E
theorem t_seq {A B : Fs} {D : Ends} {σ : L2.St} {H : Hp} (h : tS G (sseq A B) D σ H) : tSeq (tS G A) (tS G B) D σ H := by
  obtain ⟨p, s, r, f, r', s', S, E, q, k⟩ := h
  obtain ⟨⟨fl, r1, s1⟩, q1, q2⟩ := ob_some.mp q
  refine ⟨p, s, r, fl, r1, s1, S, E, q1, fun p1 H1 S1 f1 => ?_⟩
  cases fl with
  | nx => exact fun σ1 E1 => ⟨p1, s1, r1, f, r', s', S1, E1, q2, fun p2 H2 S2 f2 => k p2 H2 S2 (f1.trans f2)⟩
  | bk => cases q2; exact k p1 H1 S1 f1
  | ct => cases q2; exact k p1 H1 S1 f1
  | rt w => cases q2; exact k p1 H1 S1 f1
theorem sm_cons {A B : Fs} (h1 : PS X st (tS G A)) (h2 : PSs X rest (tS G B)) : PSs X (st :: rest) (tS G (sseq A B)) := pss_imp (pss_cons h1 h2) fun _ _ _ h => t_seq h
theorem sm_one {A : Fs} (h1 : PS X st (tS G A)) : PSs X [st] (tS G A) := pss_one h1
theorem sm_ret {A : Fe} (h : PE X e (tI G A)) : PS X (.Return (some e) pos) (tS G (sret A)) := ps_imp (ps_ret h) fun D σ H ⟨p, s, r, f, r', s', S, E, q, k⟩ => by
  obtain ⟨⟨x, s1⟩, q1, q2⟩ := omap_some.mp q
  cases q2
  exact ⟨p, s, r, x, s1, S, E, q1, fun p1 v1 H1 S1 f1 d1 => k p1 H1 S1 f1 v1 d1⟩
theorem sm_exp {A : Fe} (h : PE X e (tI G A)) (hs : swapsWith e none pos.line X.env = pure false := by rfl) : PS X (.Expr e pos) (tS G (sexp A)) := ps_imp (ps_expr h hs) fun D σ H ⟨p, s, r, f, r', s', S, E, q, k⟩ => by
  obtain ⟨⟨x, s1⟩, q1, q2⟩ := omap_some.mp q
  cases q2
  exact ⟨p, s, r, x, s1, S, E, q1, fun p1 v1 H1 S1 f1 d1 => k p1 H1 S1 f1 σ (E.fra S f1)⟩
theorem sm_if {c : Expr} {a b : List Stmt} {T : Ft} {A B : Fs} (hc : PT X c (tT G T)) (ha : PSs X a (tS G A)) (hb : PSs X b (tS G B)) : PS X (.If c a b pos) (tS G (sif T A B)) := ps_imp (ps_if hc ha hb) fun D σ H ⟨p, s, r, f, r', s', S, E, q, k⟩ => by
  obtain ⟨⟨x, s1⟩, q1, q2⟩ := ob_some.mp q
  refine ⟨p, s, r, x, s1, S, E, q1, fun p1 H1 S1 f1 => ?_⟩
  cases x with
  | true => rw [if_pos rfl]; exact ⟨p1, s1, r, f, r', s', S1, E.fra S f1, q2, fun p2 H2 S2 f2 => k p2 H2 S2 (f1.trans f2)⟩
  | false => rw [if_neg Bool.false_ne_true]; exact ⟨p1, s1, r, f, r', s', S1, E.fra S f1, q2, fun p2 H2 S2 f2 => k p2 H2 S2 (f1.trans f2)⟩
end
/-! ### targets -/
inductive Tg where
  | nm (i : Nat) | tp (is : List Nat) | pr (a b : Tg)
noncomputable def asgs : List Nat → List Mv → Me → Option Me
  | [], [], r => some r
  | i :: is, w :: ws, r => asgs is ws (lset r i (some w))
  | _, _, _ => none
noncomputable def Tg.asg : Tg → Mv → Me → Option Me
  | .nm i, w, r => some (lset r i (some w))
  | .tp is, .tup ws, r => asgs is ws r
  | .pr a b, .tup [x, y], r => (a.asg x r).ob fun r' => b.asg y r'
  | _, _, _ => none
noncomputable def Tg.slots : Tg → List Nat
  | .nm i => [i]
  | .tp is => is
  | .pr a b => a.slots ++ b.slots
noncomputable def tG (G : Mg) (T : Tg) : TG := fun v σ H Q => ∃ p s r w r', Sim G p s H ∧ EnvR G p H r σ ∧ Den G p H w v ∧ T.asg w r = some r' ∧ ∀ σ', EnvR G p H r' σ' → (∀ i, i ∉ T.slots → σ'[i]? = σ[i]?) → Q σ' H
noncomputable def tGs (G : Mg) (is : List Nat) : TGs := fun vs σ H Q => ∃ p s r ws r', Sim G p s H ∧ EnvR G p H r σ ∧ DenL G p H ws vs ∧ asgs is ws r = some r' ∧ ∀ σ', EnvR G p H r' σ' → (∀ i, i ∉ is → σ'[i]? = σ[i]?) → Q σ' H
noncomputable def sasg (A : Fe) (T : Tg) : Fs := fun r s => (A r s).ob fun x => (T.asg x.1 r).om fun r' => (.nx, r', x.2)
noncomputable def sset (i : Nat) (A : Fe) : Fs := fun r s => (A r s).om fun x => (.nx, lset r i (some x.1), x.2)
noncomputable def spar (i j : Nat) (A : Fa) : Fs := fun r s => (A r s).ob fun x => match x.1 with
  | [a, b] => some (.nx, lset (lset r i (some a)) j (some b), x.2)
  | _ => none
noncomputable def spar3 (i j l : Nat) (A : Fa) : Fs := fun r s => (A r s).ob fun x => match x.1 with
  | [a, b, c] => some (.nx, lset (lset (lset r i (some a)) j (some b)) l (some c), x.2)
  | _ => none
section
variable {X : Cx} {G : Mg} {e : Expr} {pos : Pos}
theorem pg_imp {tg : Expr} {t t' : TG} (h : PG X tg t) (i : ∀ v σ H Q, t' v σ H Q → t v σ H Q) : PG X tg t' := ⟨fun pins s σ H v u Q I r q => h.run pins s σ H v u Q I r (i v σ H Q q)⟩
theorem pgs_imp {tg : List Expr} {t t' : TGs} (h : PGs X tg t) (i : ∀ v σ H Q, t' v σ H Q → t v σ H Q) : PGs X tg t' := ⟨fun pins s σ H v u Q I r q => h.run pins s σ H v u Q I r (i v σ H Q q)⟩
theorem gm_name {i : Nat} {tg : Expr} (h : PG X tg (gName i)) : PG X tg (tG G (.nm i)) := pg_imp h fun v σ H Q ⟨p, s, r, w, r', S, E, d, q, k⟩ => by
  cases q
  exact k _ (E.set d) fun j hj => by
    have hij : i ≠ j := fun z => hj (by simp [Tg.slots, z])
    rw [List.getElem?_set_ne hij]
theorem gm_nil : PGs X [] (tGs G []) := pgs_imp pgs_nil fun vs σ H Q ⟨p, s, r, ws, r', S, E, d, q, k⟩ => by
  cases d with
  | nil => cases q; exact ⟨rfl, k σ E fun _ _ => rfl⟩
  | cons a l => cases q
theorem gm_cons {es : List Expr} {i : Nat} {is : List Nat} (h1 : PG X e (gName i)) (h2 : PGs X es (tGs G is)) (hs : (assignEach (e :: es) X.env).map (·.2) = assign e X.env :: (assignEach es X.env).map (·.2) := by rfl) : PGs X (e :: es) (tGs G (i :: is)) :=
  pgs_imp (pgs_cons h1 h2 hs) fun vs σ H Q ⟨p, s, r, ws, r', S, E, d, q, k⟩ => by
    cases d with
    | nil => cases q
    | cons a l =>
      refine ⟨_, _, rfl, p, s, _, _, r', S, E.set (i := i) a, l, q, fun σ2 E2 h2 => k σ2 E2 fun j hj => ?_⟩
      have hj' : j ≠ i ∧ j ∉ is := by simpa using hj
      rw [h2 j hj'.2, List.getElem?_set_ne (Ne.symm hj'.1)]
theorem Den.tup_inv {p : List Addr} {H : Hp} {ws : List Mv} {v : V} (d : Den G p H (.tup ws) v) : ∃ a vs, v = .ref a ∧ SqT G.K H a vs ∧ DenL G p H ws vs := by
  cases d with
  | tup h l => exact ⟨_, _, rfl, h, l⟩
theorem asgs_len : ∀ {is : List Nat} {ws : List Mv} {r r' : Me}, asgs is ws r = some r' → ws.length = is.length
  | [], [], _, _, _ => rfl
  | [], _ :: _, _, _, h => by cases h
  | _ :: _, [], _, _, h => by cases h
  | i :: is, w :: ws, r, r', h => by rw [List.length_cons, List.length_cons, asgs_len (is := is) (ws := ws) h]
theorem gm_tup {es : List Expr} {k : Nat} {is : List Nat} (hc : X.calm = true) (h : PGs X es (tGs G is)) (hn : (assignEach es X.env).length = is.length := by rfl) (hst : (assignEach es X.env).findIdx? (·.1) = none := by rfl) (hK : X.K = G.K := by rfl) : PG X (.Tuple es k pos) (tG G (.tp is)) :=
  pg_imp (pg_tup hc h hn hst) fun v σ H Q ⟨p, s, r, w, r', S, E, d, q, kk⟩ => by
    cases w with
    | tup ws =>
      obtain ⟨a, vs, rfl, h1, l⟩ := d.tup_inv
      refine ⟨a, vs, rfl, by rw [hK]; exact h1, ?_, p, s, r, ws, r', S, E, l, q, fun σ' E' hh => kk σ' E' fun i hi => hh i hi⟩
      rw [← l.length]
      exact asgs_len q
    | _ => cases q
theorem asg_pr {a b : Tg} {w : Mv} {r r' : Me} (h : (Tg.pr a b).asg w r = some r') : ∃ x y r1, w = .tup [x, y] ∧ a.asg x r = some r1 ∧ b.asg y r1 = some r' := by
  cases w with
  | tup ws =>
    match ws, h with
    | [], h => cases h
    | [x], h => cases h
    | [x, y], h =>
      obtain ⟨r1, h1, h2⟩ := ob_some.mp (show (a.asg x r).ob (fun r' => b.asg y r') = some r' from h)
      exact ⟨x, y, r1, rfl, h1, h2⟩
    | _ :: _ :: _ :: _, h => cases h
  | _ => cases h
theorem sm_set {i : Nat} {tg : Expr} {A : Fe} (h : PS X (.Assign [tg] e pos) (tAsg (tI G A) (gName i))) : PS X (.Assign [tg] e pos) (tS G (sset i A)) := ps_imp h fun D σ H ⟨p, s, r, f, r', s', S, E, q, k⟩ => by
  obtain ⟨⟨x, s1⟩, q1, q2⟩ := omap_some.mp q
  cases q2
  exact ⟨p, s, r, x, s1, S, E, q1, fun p1 v1 H1 S1 f1 d1 => k p1 H1 S1 f1 _ ((E.fra S f1).set d1)⟩
theorem sm_asg {tg : Expr} {A : Fe} {T : Tg} (he : PE X e (tI G A)) (hg : PG X tg (tG G T)) (hs : swapsWithSole [tg] e pos.line X.env = pure false := by rfl) (hw : swappedStores [tg] e X.env = pure none := by rfl)
    (h1 : (assignEach [tg] X.env).map (·.2) = [assign tg X.env] := by rfl) : PS X (.Assign [tg] e pos) (tS G (sasg A T)) := ps_imp (ps_asg he hg hs hw h1) fun D σ H ⟨p, s, r, f, r', s', S, E, q, k⟩ => by
  obtain ⟨⟨x, s1⟩, q1, q2⟩ := ob_some.mp q
  obtain ⟨r1, q3, q4⟩ := omap_some.mp q2
  cases q4
  exact ⟨p, s, r, x, s1, S, E, q1, fun p1 v1 H1 S1 f1 d1 => ⟨p1, s1, r, x, _, S1, E.fra S f1, d1, q3, fun σ' E' _ => k p1 H1 S1 f1 σ' E'⟩⟩
theorem sm_par {i j : Nat} {st : Stmt} {A : Fa} (h : PS X st (tPar i j (tA G A))) : PS X st (tS G (spar i j A)) := ps_imp h fun D σ H ⟨p, s, r, f, r', s', S, E, q, k⟩ => by
  obtain ⟨⟨x, s1⟩, q1, q2⟩ := ob_some.mp q
  refine ⟨p, s, r, x, s1, S, E, q1, fun p1 vs H1 S1 f1 d1 => ?_⟩
  match x, q2, d1 with
  | [a, b], q2, .cons da (.cons db .nil) =>
    cases q2
    exact ⟨_, _, rfl, k p1 H1 S1 f1 _ (((E.fra S f1).set da).set db)⟩
/-! ### for, while -/
inductive It0 where
  | lst (n : Nat) | seq (ws : List Mv) | rng (lo : Int) (n : Nat) | zl (n m : Nat) | el (n : Nat) | zm (xs : List Mv) (m : Nat)
noncomputable def It0.at : It0 → Nat → Ms → Option (Option Mv)
  | .lst n, i, s => match s.get n with
    | some (.lst ws) => some (lget ws i)
    | _ => none
  | .seq ws, i, _ => some (lget ws i)
  | .rng lo n, i, _ => some (cond (Nat.blt i n) (some (.int (lo + i))) none)
  | .zl n m, i, s => match s.get n, s.get m with
    | some (.lst xs), some (.lst ys) => some (match lget xs i, lget ys i with
      | some x, some y => some (.tup [x, y])
      | _, _ => none)
    | _, _ => none
  | .el n, i, s => match s.get n with
    | some (.lst ws) => some ((lget ws i).map fun w => .tup [.int ((i : Nat) : Int), w])
    | _ => none
  | .zm xs m, i, s => match s.get m with
    | some (.lst ys) => some (match lget xs i, lget ys i with
      | some x, some y => some (.tup [x, y])
      | _, _ => none)
    | _ => none
abbrev Fi := Me → Ms → Option (It0 × Ms)
/-- the walker J does what the mirror's iterator says, as long as what may not change stays -/
noncomputable def ItR (G : Mg) (J : It) (it : It0) (p0 : List Addr) (H0 : Hp) : Prop := ∀ p s H i, Sim G p s H → Stays p0 H0 p H → (∀ a o u, H0 a = some (.frz o u) → H a = some (.frz o u)) → (it.at i s = some none → J.stop i H) ∧ ∀ w, it.at i s = some (some w) → J.go i H ∧ ∀ v H', J.yld i H v H' → Sim G p s H' ∧ Fra p H p H' ∧ Den G p H' w v
noncomputable def tIt (G : Mg) (F : Fi) : TI := fun σ H R => ∃ p s r it s', Sim G p s H ∧ EnvR G p H r σ ∧ F r s = some (it, s') ∧ ∀ p' H' J, Sim G p' s' H' → Fra p H p' H' → ItR G J it p' H' → R J H'

/-! iterators -/
theorem pi_imp {tg it : Expr} {t t' : TI} (h : PI X tg it t) (i : ∀ σ H R, t' σ H R → t σ H R) : PI X tg it t' := ⟨fun pins s σ H R I q => h.run pins s σ H R I (i σ H R q)⟩
theorem itr_list {p0 : List Addr} {H0 : Hp} {n : Nat} {a : Addr} (h : p0[n]? = some a) (hK : X.K = G.K) : ItR G (Itl X.K a) (.lst n) p0 H0 := by
  intro p s H i S st fz
  have ha := st.ix n a h
  constructor
  · intro q
    simp only [It0.at] at q
    split at q
    · rename_i ws e
      obtain ⟨ho, h1, vs, rfl, l, _⟩ := S.get ha e
      have q' : ws[i]? = none := by simpa [lget_eq] using q
      refine ⟨vs, SqL.of h1, ?_⟩
      rw [← l.length]
      exact List.getElem?_eq_none_iff.mp q'
    · cases q
  · intro w q
    simp only [It0.at] at q
    split at q
    · rename_i ws e
      obtain ⟨ho, h1, vs, rfl, l, _⟩ := S.get ha e
      have q' : ws[i]? = some w := by simpa [lget_eq] using q
      obtain ⟨v, hv, d⟩ := l.get q'
      refine ⟨⟨vs, v, SqL.of h1, hv⟩, fun v' H' y => ?_⟩
      obtain ⟨rfl, y2⟩ := y
      have := y2 vs (SqL.of h1)
      rw [hv] at this; cases this
      exact ⟨S, Fra.refl, d⟩
    · cases q
theorem itr_tup {p0 : List Addr} {H0 : Hp} {a : Addr} {ws : List Mv} {vs : List V} (h : SqT G.K H0 a vs) (l0 : DenL G p0 H0 ws vs) (hK : X.K = G.K) : ItR G (Itt X.K a) (.seq ws) p0 H0 := by
  intro p s H i S st fz
  have h1 : SqT X.K H a vs := by rw [hK]; exact Stays.tup (G := G) st h
  have l := l0.stay st
  constructor
  · intro q
    have q' : ws[i]? = none := by simpa [It0.at, lget_eq] using q
    refine ⟨vs, h1, ?_⟩
    rw [← l.length]
    exact List.getElem?_eq_none_iff.mp q'
  · intro w q
    have q' : ws[i]? = some w := by simpa [It0.at, lget_eq] using q
    obtain ⟨v, hv, d⟩ := l.get q'
    refine ⟨⟨vs, v, h1, hv⟩, fun v' H' y => ?_⟩
    obtain ⟨rfl, y2⟩ := y
    have := y2 vs h1
    rw [hv] at this; cases this
    exact ⟨S, Fra.refl, d⟩
theorem FlAt.sq {K : PySem.W.Frag} {p : List Addr} {H : Hp} {a : Addr} {vs : List V} (h : FlAt K p H a vs) : SqL K H a vs := by
  rcases h with ⟨o, h⟩ | h
  · exact .inl (.inr ⟨o, h⟩)
  · rcases h with h | h
    · rcases h with h | ⟨o, h⟩ <;> cases h
    · exact .inr h
theorem itr_fl {p0 : List Addr} {H0 : Hp} {a : Addr} {ws : List Mv} {vs : List V} (h : FlAt G.K p0 H0 a vs) (l0 : DenL G p0 H0 ws vs) (hK : X.K = G.K) : ItR G (Itl X.K a) (.seq ws) p0 H0 := by
  intro p s H i S st fz
  have h1 : SqL X.K H a vs := by rw [hK]; exact (Stays.fl st h).sq
  have l := l0.stay st
  constructor
  · intro q
    have q' : ws[i]? = none := by simpa [It0.at, lget_eq] using q
    refine ⟨vs, h1, ?_⟩
    rw [← l.length]
    exact List.getElem?_eq_none_iff.mp q'
  · intro w q
    have q' : ws[i]? = some w := by simpa [It0.at, lget_eq] using q
    obtain ⟨v, hv, d⟩ := l.get q'
    refine ⟨⟨vs, v, h1, hv⟩, fun v' H' y => ?_⟩
    obtain ⟨rfl, y2⟩ := y
    have := y2 vs h1
    rw [hv] at this; cases this
    exact ⟨S, Fra.refl, d⟩
theorem itr_rng {p0 : List Addr} {H0 : Hp} {lo : Int} {n : Nat} : ItR G (Itr lo n) (.rng lo n) p0 H0 := by
  intro p s H i S st fz
  constructor
  · intro q
    show n ≤ i
    cases e : Nat.blt i n with
    | false =>
      have : ¬ i < n := fun h => by rw [Nat.blt_eq.mpr h] at e; cases e
      omega
    | true => simp [It0.at, e] at q
  · intro w q
    cases e : Nat.blt i n with
    | false => simp [It0.at, e] at q
    | true =>
      refine ⟨Nat.blt_eq.mp e, fun v' H' y => ?_⟩
      obtain ⟨rfl, rfl⟩ := y
      have : w = .int (lo + i) := by simpa [It0.at, e] using q.symm
      subst this
      exact ⟨S, Fra.refl, .int _⟩
/-- a list or a tuple: known only when it is met -/
noncomputable def iSeq (K : PySem.W.Frag) (tl : TE) : TI := fun σ H R => tl σ H fun x H1 => ∃ a, x = .ref a ∧ (((∃ xs, SqL K H1 a xs) ∧ R (Itl K a) H1) ∨ ((∃ xs, SqT K H1 a xs) ∧ R (Itt K a) H1))
theorem pi_seq {tg l : Expr} {tl : TE} (hl : PE X l tl) : PI X tg l (iSeq X.K tl) := by
  refine ⟨fun pins s σ H R I h => ?_⟩
  refine thn (hl.run pins s σ H _ I h) fun v s1 ⟨x, H1, I1, r1, q1⟩ => ?_
  obtain ⟨a, e, q⟩ := q1
  subst e
  cases r1
  have fresh := I1.fpOk (Nat.le_refl _) (I1.hok.fresh (Nat.le_refl s1.heap.objs.size))
  rcases q with ⟨⟨xs, hq⟩, q⟩ | ⟨⟨xs, hq⟩, q⟩
  · obtain ⟨its, rv, p, hz⟩ := I1.list hq
    refine wpAny_pyIter_list p.isList ?_
    refine ⟨s1.heap.objs.size, [s1.heap.objs.size], _, _, H1, rfl, I1.kept (t' := s1.toks) fun b o e => Heap.get?_push_of_some _ e, turn_list a _, ⟨_, Heap.get?_push_size _ rfl, rfl, rfl⟩, fun b hb => ?_, q⟩
    rw [List.mem_singleton.mp hb]
    exact fresh
  · obtain ⟨its, rv, p, hz⟩ := I1.tuple hq
    refine wpAny_pyIter_tuple (show s1.heap.IsTuple a its.toArray from p) ?_
    refine ⟨s1.heap.objs.size, [s1.heap.objs.size], _, _, H1, rfl, I1.kept (t' := s1.toks) fun b o e => Heap.get?_push_of_some _ e, turn_tuple a _, ⟨_, Heap.get?_push_size _ rfl, rfl, rfl⟩, fun b hb => ?_, q⟩
    rw [List.mem_singleton.mp hb]
    exact fresh
noncomputable def miS (A : Fe) : Fi := fun r s => (A r s).ob fun x => match x.1 with
  | .ref n => (match x.2.get n with
    | some (.lst _) => some (.lst n, x.2)
    | _ => none)
  | .fl ws => some (.seq ws, x.2)
  | .tup ws => some (.seq ws, x.2)
  | _ => none
theorem im_seq {tg : Expr} {A : Fe} (h : PE X e (tI G A)) (hK : X.K = G.K := by rfl) : PI X tg e (tIt G (miS A)) := pi_imp (pi_seq h) fun σ H R ⟨p, s, r, it, s', S, E, q, k⟩ => by
  obtain ⟨⟨x, s1⟩, q1, q2⟩ := ob_some.mp q
  refine ⟨p, s, r, x, s1, S, E, q1, fun p1 v1 H1 S1 f1 d1 => ?_⟩
  cases d1 with
  | ref hn =>
    simp only at q2
    split at q2
    · rename_i ws e
      cases q2
      obtain ⟨ho, h1, vs, rfl, l, _⟩ := S1.get hn e
      exact ⟨_, rfl, .inl ⟨⟨vs, SqL.of h1⟩, k p1 H1 _ S1 f1 (itr_list hn hK)⟩⟩
    · cases q2
  | fl h1 l =>
    cases q2
    exact ⟨_, rfl, .inl ⟨⟨_, by rw [hK]; exact h1.sq⟩, k p1 H1 _ S1 f1 (itr_fl h1 l hK)⟩⟩
  | tup h1 l =>
    cases q2
    exact ⟨_, rfl, .inr ⟨⟨_, by rw [hK]; exact h1⟩, k p1 H1 _ S1 f1 (itr_tup h1 l hK)⟩⟩
  | _ => cases q2
noncomputable def okI (i : Int) : Bool := decide (-(2 ^ 62) ≤ i) && decide (i < 2 ^ 62)
theorem okI_iff {i : Int} (h : okI i = true) : -(2 ^ 62) ≤ i ∧ i < 2 ^ 62 := by
  have := Bool.and_eq_true_iff.mp h
  exact ⟨of_decide_eq_true this.1, of_decide_eq_true this.2⟩
noncomputable def miR1 (A : Fa) : Fi := fun r s => (A r s).ob fun x => match x.1 with
  | [.int j] => cond (okI j) (some (.rng 0 j.toNat, x.2)) none
  | _ => none
theorem im_range1 {tg a : Expr} {A : Fa} {p pos : Pos} (hg : Gl X "range") (hm : X.mg "range" = none) (ha : PA X [a] (tA G A)) (hs : starEach [a] X.env = [(false, eval a X.env)] := by rfl) : PI X tg (.Call (.Name "range" p) [a] [] pos) (tIt G (miR1 A)) :=
  pi_imp (pi_range1 hg hm ha hs) fun σ H R ⟨p, s, r, it, s', S, E, q, k⟩ => by
    obtain ⟨⟨x, s1⟩, q1, q2⟩ := ob_some.mp q
    refine ⟨p, s, r, x, s1, S, E, q1, fun p1 v1 H1 S1 f1 d1 => ?_⟩
    match x, q2, d1 with
    | [.int j], q2, .cons (.int _) .nil =>
      cases e : okI j with
      | false => simp only [e] at q2; cases q2
      | true =>
        simp only [e] at q2; cases q2
        exact ⟨j, rfl, (okI_iff e).1, (okI_iff e).2, k p1 H1 _ S1 f1 itr_rng⟩
noncomputable def mloop (it : It0) (T : Tg) (B : Fs) (m : Nat) : Nat → Me → Ms → Option (Fl × Me × Ms) := Nat.rec (motive := fun _ => Nat → Me → Ms → Option (Fl × Me × Ms)) (fun _ _ _ => none)
  (fun _ ih i r s => match it.at i s with
    | none => none
    | some none => some (.nx, r, s)
    | some (some w) => (T.asg w r).ob fun r1 => (B r1 s).ob fun x => match x.1 with
      | .nx => ih (Nat.succ i) x.2.1 x.2.2
      | .ct => ih (Nat.succ i) x.2.1 x.2.2
      | .bk => some (.nx, x.2)
      | .rt w => some (.rt w, x.2)) m
theorem mloop_succ {it : It0} {T : Tg} {B : Fs} {m i : Nat} {r : Me} {s : Ms} : mloop it T B (m + 1) i r s = match it.at i s with
    | none => none
    | some none => some (.nx, r, s)
    | some (some w) => (T.asg w r).ob fun r1 => (B r1 s).ob fun x => match x.1 with
      | .nx => mloop it T B m (i + 1) x.2.1 x.2.2
      | .ct => mloop it T B m (i + 1) x.2.1 x.2.2
      | .bk => some (.nx, x.2)
      | .rt w => some (.rt w, x.2) := rfl
noncomputable def sfor (I : Fi) (T : Tg) (B : Fs) : Fs := fun r s => (I r s).ob fun x => mloop x.1 T B 1000000000 0 r x.2
theorem sm_for {tg iter : Expr} {body : List Stmt} {I : Fi} {T : Tg} {B : Fs} (hp : PassesOwn (model X.prog X.w) X.A X.env X.xe) (hc : X.calm = true) (hi : PI X tg iter (tIt G I)) (hg : PG X tg (tG G T)) (hb : PSs X body (tS G B)) (h : PS X (.For tg iter body [] pos) (tFor (tIt G I) (tG G T) (tS G B))) :
    PS X (.For tg iter body [] pos) (tS G (sfor I T B)) := ps_imp h fun D σ H ⟨p, s, r, f, r', s', S, E, q, k⟩ => by
  obtain ⟨⟨it, s1⟩, q1, q2⟩ := ob_some.mp q
  refine ⟨p, s, r, it, s1, S, E, q1, fun p1 H1 J S1 f1 R => ?_⟩
  refine ⟨fun i m σ2 H2 => ∃ p2 s2 r2, Sim G p2 s2 H2 ∧ EnvR G p2 H2 r2 σ2 ∧ Fra p1 H1 p2 H2 ∧ mloop it T B m i r2 s2 = some (f, r', s'), ⟨1000000000, p1, s1, r, S1, E.fra S f1, Fra.refl, q2⟩, ?_⟩
  rintro i m σ2 H2 ⟨p2, s2, r2, S2, E2, f2, q3⟩
  cases m with
  | zero => cases q3
  | succ m =>
    have R2 := R p2 s2 H2 i S2 (f2.stays S1) f2.frz
    rw [mloop_succ] at q3
    cases e : it.at i s2 with
    | none => rw [e] at q3; cases q3
    | some o =>
      cases o with
      | none =>
        rw [e] at q3
        have q3' : some (Fl.nx, r2, s2) = some (f, r', s') := q3
        cases q3'
        exact .inl ⟨R2.1 e, k p2 H2 S2 (f1.trans f2) σ2 E2⟩
      | some w =>
        rw [e] at q3
        obtain ⟨g, y⟩ := R2.2 w e
        obtain ⟨r3, q4, q5⟩ := ob_some.mp q3
        obtain ⟨⟨fl, r4, s4⟩, q6, q7⟩ := ob_some.mp q5
        refine .inr ⟨g, fun σ3 H3 => ∃ p3 s3 r5, Sim G p3 s3 H3 ∧ EnvR G p3 H3 r5 σ3 ∧ Fra p1 H1 p3 H3 ∧ mloop it T B m (i + 1) r5 s3 = some (f, r', s'), fun σ3 H3 h3 => ⟨m, Nat.lt_succ_self m, h3⟩, fun v H' hy => ?_⟩
        obtain ⟨S2', f2', d⟩ := y v H' hy
        refine ⟨p2, s2, r2, w, r3, S2', E2.fra S2 f2', d, q4, fun σ' E' _ => ⟨p2, s2, r3, fl, r4, s4, S2', E', q6, fun p4 H4 S4 f4 => ?_⟩⟩
        have ff := (f2.trans f2').trans f4
        cases fl with
        | nx => exact fun σ4 E4 => ⟨p4, s4, r4, S4, E4, ff, q7⟩
        | ct => exact fun σ4 E4 => ⟨p4, s4, r4, S4, E4, ff, q7⟩
        | bk =>
          have q7' : some (Fl.nx, r4, s4) = some (f, r', s') := q7
          cases q7'
          exact fun σ4 E4 => k p4 H4 S4 (f1.trans ff) σ4 E4
        | rt w' =>
          have q7' : some (Fl.rt w', r4, s4) = some (f, r', s') := q7
          cases q7'
          exact fun v' d' => k p4 H4 S4 (f1.trans ff) v' d'
end
/-! ### defs -/
noncomputable def fnM (np nl : Nat) (B : Fs) : Fn := fun ws s => cond (Nat.beq ws.length np) ((B (lsome (nl - np) ws) s).ob fun x => match x.1 with
  | .rt w => some (w, x.2.2)
  | .nx => some (.non, x.2.2)
  | _ => none) none
theorem envR_start {G : Mg} {p : List Addr} {H : Hp} (n : Nat) : ∀ {ws : List Mv} {vs : List V}, DenL G p H ws vs → EnvR G p H (ws.map some ++ List.replicate n none) (vs.map some ++ List.replicate n none) := by
  intro ws vs l
  refine ⟨by simp [l.length], fun i w h => ?_⟩
  by_cases hi : i < ws.length
  · rw [List.getElem?_append_left (by simpa using hi)] at h
    rw [List.getElem?_append_left (by simpa [← l.length] using hi)]
    rw [List.getElem?_map] at h ⊢
    cases e : ws[i]? with
    | none => rw [e] at h; cases h
    | some w' =>
      rw [e] at h
      cases h
      obtain ⟨v, hv, d⟩ := l.get e
      exact ⟨v, by rw [hv]; rfl, d⟩
  · rw [List.getElem?_append_right (by simpa using hi)] at h
    have := List.mem_of_getElem? h
    have := List.eq_of_mem_replicate this
    cases this
section
variable {P : Program} {w : World} {K : PySem.W.Frag} {mg : Str → Option Value} {base : Heap} {G : Mg}
end

end
section
/-! ### data -/
noncomputable def toDL (f : Mv → Option PyData) : List Mv → Option (List PyData)
  | [] => some []
  | w :: ws => (f w).ob fun d => (toDL f ws).om fun ds => d :: ds
noncomputable def toD : Nat → Ms → Mv → Option PyData
  | 0, _, _ => none
  | n + 1, s, w => match w with
    | .non => some .none
    | .bl b => some (.bool b)
    | .int i => some (.int i)
    | .str x => cond (PyData.strOk x) (some (.str x)) none
    | .tup ws => (toDL (toD n s) ws).om .tuple
    | .fl ws => (toDL (toD n s) ws).om .list
    | .ref k => match s.get k with
      | some (.lst ws) => (toDL (toD n s) ws).om .list
      | _ => none
    | _ => none
section
variable {G : Mg} {p : List Addr} {s : Ms} {H : Hp}
structure DOk (G : Mg) (H : Hp) (n : Nat) (v : V) (d : PyData) : Prop where
  dp : Dp G.K H v d
  lay : d.canLay0 = true
  dep : d.depth ≤ n
theorem toDL_ok {n : Nat} {f : Mv → Option PyData} (hf : ∀ w v d, Den G p H w v → f w = some d → DOk G H n v d) : ∀ {ws : List Mv} {vs : List V} {ds : List PyData}, DenL G p H ws vs → toDL f ws = some ds →
    DpAll G.K H vs ds ∧ PyData.canLayAll0 ds = true ∧ PyData.depthAll ds ≤ n
  | _, _, _, .nil, h => by
    cases h
    exact ⟨.nil, by simp [PyData.canLayAll0], by simp [PyData.depthAll]⟩
  | _, _, _, .cons (w := w) (ws := ws) d l, h => by
    obtain ⟨x, h1, h2⟩ := ob_some.mp (show (f w).ob (fun d => (toDL f ws).om fun ds => d :: ds) = _ from h)
    obtain ⟨xs, h3, h4⟩ := omap_some.mp h2
    cases h4
    have a := hf _ _ _ d h1
    obtain ⟨b1, b2, b3⟩ := toDL_ok hf l h3
    refine ⟨.cons a.dp b1, by simp [PyData.canLayAll0, a.lay, b2], ?_⟩
    have := a.dep
    simp only [PyData.depthAll]
    omega
theorem toD_ok (S : Sim G p s H) : ∀ (n : Nat) (w : Mv) (v : V) (d : PyData), Den G p H w v → toD n s w = some d → DOk G H n v d
  | 0, _, _, _, _, h => by cases h
  | n + 1, w, v, d, de, h => by
    have ih := toD_ok S n
    cases de with
    | non => cases h; exact ⟨.non, rfl, by simp [PyData.depth]⟩
    | bl b => cases h; exact ⟨.bl b, rfl, by simp [PyData.depth]⟩
    | int i => cases h; exact ⟨.int i, rfl, by simp [PyData.depth]⟩
    | str x =>
      have h' : cond (PyData.strOk x) (some (PyData.str x)) none = some d := h
      cases e : PyData.strOk x with
      | false => rw [e] at h'; cases h'
      | true =>
        rw [e] at h'; cases h'
        exact ⟨.str x, by simp [PyData.canLay0, e], by simp [PyData.depth]⟩
    | ty t => cases h
    | cls c => cases h
    | ref hn =>
      rename_i k a
      have h' : (match s.get k with
        | some (.lst ws) => (toDL (toD n s) ws).om PyData.list
        | _ => none) = some d := h
      split at h'
      · rename_i ws e
        obtain ⟨ho, h1, vs, rfl, l, _⟩ := S.get hn e
        obtain ⟨ds, h3, h4⟩ := omap_some.mp h'
        cases h4
        obtain ⟨b1, b2, b3⟩ := toDL_ok ih l h3
        exact ⟨.lst (SqL.of h1) b1, by simp [PyData.canLay0, b2], by simp only [PyData.depth]; omega⟩
      · cases h'
    | tup h1 l =>
      obtain ⟨ds, h3, h4⟩ := omap_some.mp (show (toDL (toD n s) _).om PyData.tuple = some d from h)
      cases h4
      obtain ⟨b1, b2, b3⟩ := toDL_ok ih l h3
      exact ⟨.tup h1 b1, by simp [PyData.canLay0, b2], by simp only [PyData.depth]; omega⟩
    | fl h1 l =>
      obtain ⟨ds, h3, h4⟩ := omap_some.mp (show (toDL (toD n s) _).om PyData.list = some d from h)
      cases h4
      obtain ⟨b1, b2, b3⟩ := toDL_ok ih l h3
      exact ⟨.lst h1.sq b1, by simp [PyData.canLay0, b2], by simp only [PyData.depth]; omega⟩
theorem DOk.shaped {n : Nat} {v : V} {d : PyData} (h : DOk G H n v d) (hn : n ≤ 64) : SeqAt.shaped d = true := by
  unfold SeqAt.shaped
  rw [h.lay, Bool.true_and]
  exact decide_eq_true (Nat.le_trans h.dep hn)
end
/-! ### operations -/
noncomputable def llen {α : Type} (r : List α) : Nat := List.rec (motive := fun _ => Nat) 0 (fun _ _ ih => Nat.succ ih) r
theorem llen_eq {α : Type} : ∀ r : List α, llen r = r.length
  | [] => rfl
  | _ :: r => congrArg Nat.succ (llen_eq r)
noncomputable def newL (ws : List Mv) (s : Ms) : Option (Mv × Ms) := cond (Nat.ble (llen ws) 16777216) ((s.alloc (.lst ws)).om fun q => (.ref q.1, q.2)) none
noncomputable def newT (ws : List Mv) (s : Ms) : Option (Mv × Ms) := cond (Nat.ble (llen ws) 16777216) (some (.tup ws, s)) none
/-- the items of a list, a tuple -/
noncomputable def items (w : Mv) (s : Ms) : Option (List Mv) := match w with
  | .tup ws => some ws
  | .fl ws => some ws
  | .ref n => match s.get n with
    | some (.lst ws) => some ws
    | _ => none
  | _ => none
noncomputable def iEq (i j : Int) : Bool := Int.rec (motive := fun _ => Bool) (fun n => Int.rec (motive := fun _ => Bool) (fun m => Nat.beq n m) (fun _ => false) j) (fun n => Int.rec (motive := fun _ => Bool) (fun _ => false) (fun m => Nat.beq n m) j) i
theorem nbeq (n m : Nat) : Nat.beq n m = decide (n = m) := by
  cases e : Nat.beq n m with
  | true => rw [decide_eq_true (Nat.eq_of_beq_eq_true e)]
  | false => rw [decide_eq_false (fun h => by subst h; rw [Nat.beq_refl] at e; cases e)]
theorem nblt (n m : Nat) : Nat.blt n m = decide (n < m) := by
  cases e : Nat.blt n m with
  | true => rw [decide_eq_true (Nat.blt_eq.mp e)]
  | false => rw [decide_eq_false (fun h => by rw [Nat.blt_eq.mpr h] at e; cases e)]
theorem iEq_eq (i j : Int) : iEq i j = decide (i = j) := by
  cases i with
  | ofNat n => cases j with
    | ofNat m => show Nat.beq n m = _; rw [nbeq]; exact decide_eq_decide.mpr ⟨fun h => by rw [h], fun h => Int.ofNat.inj h⟩
    | negSucc m => exact (decide_eq_false (fun h => by cases h)).symm
  | negSucc n => cases j with
    | ofNat m => exact (decide_eq_false (fun h => by cases h)).symm
    | negSucc m => show Nat.beq n m = _; rw [nbeq]; exact decide_eq_decide.mpr ⟨fun h => by rw [h], fun h => Int.negSucc.inj h⟩
noncomputable def iLt (i j : Int) : Bool := Int.rec (motive := fun _ => Bool) (fun n => Int.rec (motive := fun _ => Bool) (fun m => Nat.blt n m) (fun _ => false) j) (fun n => Int.rec (motive := fun _ => Bool) (fun _ => true) (fun m => Nat.blt m n) j) i
theorem iLt_eq (i j : Int) : iLt i j = decide (i < j) := by
  cases i with
  | ofNat n => cases j with
    | ofNat m => show Nat.blt n m = _; rw [nblt]; exact decide_eq_decide.mpr ⟨fun h => Int.ofNat_lt.mpr h, fun h => Int.ofNat_lt.mp h⟩
    | negSucc m => exact (decide_eq_false (fun h => by have : (0 : Int) ≤ Int.ofNat n := Int.natCast_nonneg n; have : Int.negSucc m < 0 := Int.negSucc_lt_zero m; omega)).symm
  | negSucc n => cases j with
    | ofNat m => exact (decide_eq_true (by have : (0 : Int) ≤ Int.ofNat m := Int.natCast_nonneg m; have : Int.negSucc n < 0 := Int.negSucc_lt_zero n; omega)).symm
    | negSucc m => show Nat.blt m n = _; rw [nblt]; exact decide_eq_decide.mpr ⟨fun h => by omega, fun h => by omega⟩
noncomputable def natsEq : List Nat → List Nat → Bool
  | [], [] => true
  | a :: as, b :: bs => cond (Nat.beq a b) (natsEq as bs) false
  | _, _ => false
theorem natsEq_eq : ∀ a b : List Nat, natsEq a b = decide (a = b)
  | [], [] => rfl
  | [], _ :: _ => by simp [natsEq]
  | _ :: _, [] => by simp [natsEq]
  | a :: as, b :: bs => by
    unfold natsEq
    by_cases h : a = b
    · subst h
      rw [Nat.beq_refl, cond_true, natsEq_eq as bs]
      simp
    · have : Nat.beq a b = false := by
        cases e : Nat.beq a b with
        | false => rfl
        | true => exact absurd (Nat.eq_of_beq_eq_true e) h
      rw [this, cond_false]
      simp [h]
noncomputable def strEq (x y : Str) : Bool := natsEq x.cps.toList y.cps.toList
theorem strEq_eq (x y : Str) : strEq x y = decide (x = y) := by
  unfold strEq
  rw [natsEq_eq]
  obtain ⟨a⟩ := x
  obtain ⟨b⟩ := y
  simp [Array.toList_inj]
noncomputable def sqEq (a b : Mv) : Option Bool := match a, b with
  | .int i, .int j => some (iEq i j)
  | .str x, .str y => some (strEq x y)
  | .bl x, .bl y => some (decide (x = y))
  | .non, .non => some true
  | .non, .int _ | .int _, .non | .non, .bl _ | .bl _, .non | .non, .str _ | .str _, .non => some false
  | .int _, .str _ | .str _, .int _ | .bl _, .str _ | .str _, .bl _ => some false
  | _, _ => none
noncomputable def eqBo (a b : Mv) (s : Ms) : Option Bool := match sqEq a b with
  | some k => some k
  | none => (toD 24 s a).ob fun d => (toD 24 s b).om fun e => PyData.eqv d e
noncomputable def eqW (a b : Mv) (s : Ms) : Option (Mv × Ms) := (eqBo a b s).om fun k => (.bl k, s)
noncomputable def neW (a b : Mv) (s : Ms) : Option (Mv × Ms) := (eqBo a b s).om fun k => (.bl (!k), s)
noncomputable def addW (a b : Mv) (s : Ms) : Option (Mv × Ms) := match a, b with
  | .int i, .int j => some (.int (Int.add i j), s)
  | .str x, .str y => cond (Nat.ble (x.length + y.length) 16777216) (some (.str (x ++ y), s)) none
  | .tup x, .tup y => newT (x ++ y) s
  | .ref n, .ref m => match s.get n, s.get m with
    | some (.lst x), some (.lst y) => newL (x ++ y) s
    | _, _ => none
  | _, _ => none
noncomputable def subW (a b : Mv) (s : Ms) : Option (Mv × Ms) := match a, b with
  | .int i, .int j => some (.int (Int.sub i j), s)
  | _, _ => none
noncomputable def smI (i : Int) : Bool := decide (-(2 ^ 64) < i) && decide (i < 2 ^ 64)
noncomputable def mulW (a b : Mv) (s : Ms) : Option (Mv × Ms) := match a, b with
  | .int i, .int j => cond (smI i || smI j) (some (.int (i * j), s)) none
  | _, _ => none
noncomputable def modW (a b : Mv) (s : Ms) : Option (Mv × Ms) := match a, b with
  | .int i, .int j => cond (decide (0 < j)) (some (.int (i % j), s)) none
  | _, _ => none
noncomputable def divW (a b : Mv) (s : Ms) : Option (Mv × Ms) := match a, b with
  | .int i, .int j => cond (decide (0 < j) && decide (j < 1073741824)) (some (.int (i / j), s)) none
  | _, _ => none
noncomputable def powW (a b : Mv) (s : Ms) : Option (Mv × Ms) := match a, b with
  | .int i, .int j => cond (decide (0 ≤ j) && decide (j ≤ 1000000) && smI i) (some (.int (i ^ j.toNat), s)) none
  | _, _ => none
noncomputable def cmpI (f : Int → Int → Bool) (g : List Nat → List Nat → Bool) (a b : Mv) (s : Ms) : Option (Mv × Ms) := match a, b with
  | .int i, .int j => some (.bl (f i j), s)
  | .str x, .str y => some (.bl (g x.cps.toList y.cps.toList), s)
  | _, _ => none
noncomputable def ltW := cmpI (fun i j => iLt i j) fun x y => decide (x < y)
noncomputable def leW := cmpI (fun i j => !iLt j i) fun x y => !decide (y < x)
noncomputable def gtW := cmpI (fun i j => iLt j i) fun x y => decide (y < x)
noncomputable def geW := cmpI (fun i j => !iLt i j) fun x y => !decide (x < y)
theorem sz_eq : sizeLine = 16777216 := sizeLine_eq
theorem ble_sz {n : Nat} (h : Nat.ble n 16777216 = true) : n ≤ sizeLine := by rw [sz_eq]; exact Nat.le_of_ble_eq_true h
section
variable {X : Cx} {G : Mg}
theorem newL_ok {p : List Addr} {s s' : Ms} {H : Hp} {ws : List Mv} {vs : List V} {w : Mv} {Q : VK} (S : Sim G p s H) (l : DenL G p H ws vs) (h : newL ws s = some (w, s')) (k : After G p H w s' Q) : vs.length ≤ sizeLine ∧ ∀ a, H a = none → Q (.ref a) (upd H a (.lst vs)) := by
  unfold newL at h
  rw [llen_eq] at h
  cases e : Nat.ble ws.length 16777216 with
  | false => rw [e] at h; cases h
  | true =>
    rw [e, cond_true] at h
    obtain ⟨⟨n, s1⟩, h1, h2⟩ := omap_some.mp h
    cases h2
    have hl : vs.length ≤ sizeLine := by rw [← l.length]; exact ble_sz e
    refine ⟨hl, fun a ha => ?_⟩
    obtain ⟨S', f', d'⟩ := S.new h1 ha (ho := .lst vs) ⟨vs, rfl, l, hl⟩ (H' := upd H a (.lst vs)) upd_same fun b u eb => by rw [upd_ne (ne_of_none eb ha)]; exact eb
    exact k _ _ _ S' f' d'
theorem fra_new {p : List Addr} {H : Hp} {a : Addr} {o : HO} (ha : H a = none) : Fra p H p (upd H a o) := ⟨⟨[], by simp, fun b hb => by simp at hb⟩, fun b u eb _ => by rw [upd_ne (ne_of_none eb ha)]; exact eb, fun b ob u eb => by rw [upd_ne (ne_of_none eb ha)]; exact eb⟩
theorem Sim.fra_new {p : List Addr} {s : Ms} {H : Hp} {a : Addr} {o : HO} (S : Sim G p s H) (ha : H a = none) : Sim G p s (upd H a o) := by
  have st := (Mi.fra_new (p := p) (o := o) ha).stays S
  refine ⟨S.len, S.nd, fun n b hb => ?_, S.out⟩
  obtain ⟨o1, ho, q1, q2, q3⟩ := S.ob n b hb
  exact ⟨o1, ho, q1, by rw [upd_ne (ne_of_none q2 ha)]; exact q2, q3.stay st⟩
theorem newT_ok {p : List Addr} {s s' : Ms} {H : Hp} {ws : List Mv} {vs : List V} {w : Mv} {Q : VK} (S : Sim G p s H) (l : DenL G p H ws vs) (h : newT ws s = some (w, s')) (k : After G p H w s' Q) : vs.length ≤ sizeLine ∧ (∀ a, H a = none → Q (.ref a) (upd H a (.tup vs))) ∧ ∀ a, SqT G.K H a vs → Q (.ref a) H := by
  unfold newT at h
  rw [llen_eq] at h
  cases e : Nat.ble ws.length 16777216 with
  | false => rw [e] at h; cases h
  | true =>
    rw [e] at h
    have h' : some (Mv.tup ws, s) = some (w, s') := h
    cases h'
    refine ⟨by rw [← l.length]; exact ble_sz e, fun a ha => ?_, fun a ha => k _ _ _ S Fra.refl (.tup ha l)⟩
    have f := Mi.fra_new (p := p) (o := HO.tup vs) ha
    exact k _ _ _ (S.fra_new ha) f (.tup (SqT.of upd_same) (l.fra S f))
noncomputable def mtup (A : Fa) : Fe := fun r s => (A r s).ob fun x => newT x.1 x.2
noncomputable def mlst (A : Fa) : Fe := fun r s => (A r s).ob fun x => newL x.1 x.2
theorem pm_tup {es : List Expr} {k : Nat} {pos : Pos} {A : Fa} (h : PA X es (tA G A)) : PE X (.Tuple es k pos) (tI G (mtup A)) := pe_imp (pe_tup h) fun σ H Q ⟨p, s, r, w, s', S, E, q, k⟩ => by
  obtain ⟨⟨x, s1⟩, q1, q2⟩ := ob_some.mp q
  exact ⟨p, s, r, x, s1, S, E, q1, fun p1 vs H1 S1 f1 l => let ⟨a, b, _⟩ := newT_ok S1 l q2 (k.of f1); ⟨a, b⟩⟩
theorem pm_lst {es : List Expr} {pos : Pos} {A : Fa} (h : PA X es (tA G A)) : PE X (.List es pos) (tI G (mlst A)) := pe_imp (pe_lst h) fun σ H Q ⟨p, s, r, w, s', S, E, q, k⟩ => by
  obtain ⟨⟨x, s1⟩, q1, q2⟩ := ob_some.mp q
  exact ⟨p, s, r, x, s1, S, E, q1, fun p1 vs H1 S1 f1 l => newL_ok S1 l q2 (k.of f1)⟩
theorem items_ok {p : List Addr} {s : Ms} {H : Hp} {w : Mv} {v : V} {ws : List Mv} (S : Sim G p s H) (d : Den G p H w v) (h : items w s = some ws) : ∃ a vs, v = .ref a ∧ (SqL G.K H a vs ∨ SqT G.K H a vs) ∧ DenL G p H ws vs := by
  cases d with
  | tup h1 l => cases h; exact ⟨_, _, rfl, .inr h1, l⟩
  | fl h1 l => cases h; exact ⟨_, _, rfl, .inl h1.sq, l⟩
  | ref hn =>
    simp only [items] at h
    split at h
    · rename_i ws' e
      cases h
      obtain ⟨ho, h1, vs, rfl, l, _⟩ := S.get hn e
      exact ⟨_, _, rfl, .inl (SqL.of h1), l⟩
    · cases h
  | _ => cases h
theorem opr_imp {f : Value → Value → Sem Value} {r r' : R2} (h : OpR X f r) (i : ∀ x y H Q, r' x y H Q → r x y H Q) : OpR X f r' := fun pins s σ H x y v u Q I rx ry q => h pins s σ H x y v u Q I rx ry (i x y H Q q)
theorem cal_imp {f : Value} {r r' : List V → Hp → VK → Prop} (h : CallR X f r) (i : ∀ x H Q, r' x H Q → r x H Q) : CallR X f r' := fun pins s σ H xs us Q I rv q => h pins s σ H xs us Q I rv (i xs H Q q)
theorem sqEq_ok {a b : Mv} {k : Bool} (h : sqEq a b = some k) {p : List Addr} {H : Hp} {x y : V} (da : Den G p H a x) (db : Den G p H b y) : scal x y = true ∧ decide (x = y) = k := by
  cases da <;> cases db <;> first
    | (cases h; done)
    | (cases h; exact ⟨rfl, by simp [strEq_eq, iEq_eq]⟩)
    | (cases h; exact ⟨rfl, by simp⟩)
    | (cases h; exact ⟨rfl, rfl⟩)
theorem om_eq (hu : X.A.units + 64 < cLine) (hK : X.K = G.K := by rfl) : OpR X (compareOp .Eq) (q2R G eqW) := opr_imp (OpR.or op_eq (op_eqD hu)) fun x y H Q ⟨p, s, a, b, w, s', S, da, db, q, k⟩ => by
  obtain ⟨c, q1, q2⟩ := omap_some.mp q
  cases q2
  unfold eqBo at q1
  split at q1
  · rename_i c' e
    cases q1
    obtain ⟨h1, h2⟩ := sqEq_ok e da db
    exact .inl ⟨h1, by rw [h2]; exact k p _ H S Fra.refl (.bl _)⟩
  · obtain ⟨d, h1, h2⟩ := ob_some.mp q1
    obtain ⟨e, h3, h4⟩ := omap_some.mp h2
    subst h4
    have o1 := toD_ok S 24 _ _ _ da h1
    have o2 := toD_ok S 24 _ _ _ db h3
    exact .inr ⟨d, e, by rw [hK]; exact o1.dp, by rw [hK]; exact o2.dp, o1.shaped (by decide), o2.shaped (by decide), k p _ H S Fra.refl (.bl _)⟩
theorem om_ne (hu : X.A.units + 64 < cLine) (hK : X.K = G.K := by rfl) : OpR X (compareOp .NotEq) (q2R G neW) := opr_imp (OpR.or op_ne (op_neD hu)) fun x y H Q ⟨p, s, a, b, w, s', S, da, db, q, k⟩ => by
  obtain ⟨c, q1, q2⟩ := omap_some.mp q
  cases q2
  unfold eqBo at q1
  split at q1
  · rename_i c' e
    cases q1
    obtain ⟨h1, h2⟩ := sqEq_ok e da db
    exact .inl ⟨h1, by rw [h2]; exact k p _ H S Fra.refl (.bl _)⟩
  · obtain ⟨d, h1, h2⟩ := ob_some.mp q1
    obtain ⟨e, h3, h4⟩ := omap_some.mp h2
    subst h4
    have o1 := toD_ok S 24 _ _ _ da h1
    have o2 := toD_ok S 24 _ _ _ db h3
    exact .inr ⟨d, e, by rw [hK]; exact o1.dp, by rw [hK]; exact o2.dp, o1.shaped (by decide), o2.shaped (by decide), k p _ H S Fra.refl (.bl _)⟩
theorem om_add (hK : X.K = G.K := by rfl) : OpR X (binaryOp .Add) (q2R G addW) := opr_imp (OpR.or (OpR.or op_add op_add_str) (OpR.or op_cat op_catA)) fun x y H Q ⟨p, s, a, b, w, s', S, da, db, q, k⟩ => by
  cases da <;> cases db <;> try (cases q; done)
  · cases q
    exact .inl (.inl ⟨_, _, rfl, rfl, k p _ H S Fra.refl (.int _)⟩)
  · rename_i x y _
    have q' : cond (Nat.ble (x.length + y.length) 16777216) (some (Mv.str (x ++ y), s)) none = some (w, s') := q
    cases e : Nat.ble (x.length + y.length) 16777216 with
    | false => rw [e] at q'; cases q'
    | true =>
      rw [e] at q'; cases q'
      exact .inl (.inr ⟨_, _, rfl, rfl, ble_sz e, k p _ H S Fra.refl (.str _)⟩)
  · rename_i n a h1 m b h2 _
    simp only [addW] at q
    split at q
    · rename_i u v e1 e2
      obtain ⟨ho, g1, vs, rfl, l1, _⟩ := S.get h1 e1
      obtain ⟨ho, g2, us, rfl, l2, _⟩ := S.get h2 e2
      obtain ⟨z1, z2⟩ := newL_ok S (l1.append l2) q k
      exact .inr (.inl ⟨_, _, _, _, rfl, rfl, g1, g2, by rw [← List.length_append]; exact z1, z2⟩)
    · cases q
  · rename_i a u vs h1 l1 b v us h2 l2 _
    obtain ⟨z1, z2, z3⟩ := newT_ok S (l1.append l2) q k
    refine .inr (.inr ⟨_, _, _, _, rfl, rfl, by rw [hK]; exact h1, by rw [hK]; exact h2, by rw [← List.length_append]; exact z1, fun e => ?_, fun _ e => ?_, fun _ _ => z2⟩)
    · subst e; exact z3 _ h2
    · subst e; exact z3 _ (by rw [List.append_nil]; exact h1)
theorem om_sub : OpR X (binaryOp .Sub) (q2R G subW) := opr_imp op_sub fun x y H Q ⟨p, s, a, b, w, s', S, da, db, q, k⟩ => by
  cases da <;> cases db <;> try (cases q; done)
  cases q
  exact ⟨_, _, rfl, rfl, k p _ H S Fra.refl (.int _)⟩
theorem smI_iff {i : Int} (h : smI i = true) : -(2 ^ 64) < i ∧ i < 2 ^ 64 := by
  have := Bool.and_eq_true_iff.mp h
  exact ⟨of_decide_eq_true this.1, of_decide_eq_true this.2⟩
theorem om_mul : OpR X (binaryOp .Mult) (q2R G mulW) := opr_imp op_mul fun x y H Q ⟨p, s, a, b, w, s', S, da, db, q, k⟩ => by
  cases da <;> cases db <;> try (cases q; done)
  rename_i i j _
  have q' : cond (smI i || smI j) (some (Mv.int (i * j), s)) none = some (w, s') := q
  cases e : (smI i || smI j) with
  | false => rw [e] at q'; cases q'
  | true =>
    rw [e] at q'; cases q'
    refine ⟨_, _, rfl, rfl, ?_, k p _ H S Fra.refl (.int _)⟩
    rcases Bool.or_eq_true_iff.mp e with e | e
    · exact .inl (smI_iff e)
    · exact .inr (smI_iff e)
theorem om_mod : OpR X (binaryOp .Mod) (q2R G modW) := opr_imp op_mod fun x y H Q ⟨p, s, a, b, w, s', S, da, db, q, k⟩ => by
  cases da <;> cases db <;> try (cases q; done)
  rename_i i j _
  have q' : cond (decide (0 < j)) (some (Mv.int (i % j), s)) none = some (w, s') := q
  cases e : decide (0 < j) with
  | false => rw [e] at q'; cases q'
  | true =>
    rw [e] at q'; cases q'
    exact ⟨_, _, rfl, rfl, of_decide_eq_true e, k p _ H S Fra.refl (.int _)⟩
theorem om_div : OpR X (binaryOp .FloorDiv) (q2R G divW) := opr_imp op_fdiv fun x y H Q ⟨p, s, a, b, w, s', S, da, db, q, k⟩ => by
  cases da <;> cases db <;> try (cases q; done)
  rename_i i j _
  have q' : cond (decide (0 < j) && decide (j < 1073741824)) (some (Mv.int (i / j), s)) none = some (w, s') := q
  cases e : (decide (0 < j) && decide (j < 1073741824)) with
  | false => rw [e] at q'; cases q'
  | true =>
    rw [e] at q'; cases q'
    have e' := Bool.and_eq_true_iff.mp e
    exact ⟨_, _, rfl, rfl, ⟨of_decide_eq_true e'.1, of_decide_eq_true e'.2⟩, k p _ H S Fra.refl (.int _)⟩
theorem om_pow : OpR X (binaryOp .Pow) (q2R G powW) := opr_imp op_pow fun x y H Q ⟨p, s, a, b, w, s', S, da, db, q, k⟩ => by
  cases da <;> cases db <;> try (cases q; done)
  rename_i i j _
  have q' : cond (decide (0 ≤ j) && decide (j ≤ 1000000) && smI i) (some (Mv.int (i ^ j.toNat), s)) none = some (w, s') := q
  cases e : (decide (0 ≤ j) && decide (j ≤ 1000000) && smI i) with
  | false => rw [e] at q'; cases q'
  | true =>
    rw [e] at q'; cases q'
    have e' := Bool.and_eq_true_iff.mp e
    have e2 := Bool.and_eq_true_iff.mp e'.1
    have h3 := smI_iff e'.2
    exact ⟨_, _, rfl, rfl, ⟨of_decide_eq_true e2.1, of_decide_eq_true e2.2, by omega⟩, k p _ H S Fra.refl (.int _)⟩
theorem den_bl {p : List Addr} {H : Hp} {a b : Bool} (e : a = b) : Den G p H (.bl a) (.bl b) := e ▸ .bl a
theorem om_lt : OpR X (compareOp .Lt) (q2R G ltW) := opr_imp (OpR.or op_lt op_lt_str) fun x y H Q ⟨p, s, a, b, w, s', S, da, db, q, k⟩ => by
  cases da <;> cases db <;> try (cases q; done)
  · cases q; exact .inl ⟨_, _, rfl, rfl, k p _ H S Fra.refl (den_bl (by simp [iLt_eq, ← decide_not, Int.not_lt]))⟩
  · cases q; exact .inr ⟨_, _, rfl, rfl, k p _ H S Fra.refl (.bl _)⟩
theorem om_le : OpR X (compareOp .LtE) (q2R G leW) := opr_imp (OpR.or op_le op_le_str) fun x y H Q ⟨p, s, a, b, w, s', S, da, db, q, k⟩ => by
  cases da <;> cases db <;> try (cases q; done)
  · cases q; exact .inl ⟨_, _, rfl, rfl, k p _ H S Fra.refl (den_bl (by simp [iLt_eq, ← decide_not, Int.not_lt]))⟩
  · cases q; exact .inr ⟨_, _, rfl, rfl, k p _ H S Fra.refl (.bl _)⟩
theorem om_gt : OpR X (compareOp .Gt) (q2R G gtW) := opr_imp (OpR.or op_gt op_gt_str) fun x y H Q ⟨p, s, a, b, w, s', S, da, db, q, k⟩ => by
  cases da <;> cases db <;> try (cases q; done)
  · cases q; exact .inl ⟨_, _, rfl, rfl, k p _ H S Fra.refl (den_bl (by simp [iLt_eq, ← decide_not, Int.not_lt]))⟩
  · cases q; exact .inr ⟨_, _, rfl, rfl, k p _ H S Fra.refl (.bl _)⟩
theorem om_ge : OpR X (compareOp .GtE) (q2R G geW) := opr_imp (OpR.or op_ge op_ge_str) fun x y H Q ⟨p, s, a, b, w, s', S, da, db, q, k⟩ => by
  cases da <;> cases db <;> try (cases q; done)
  · cases q; exact .inl ⟨_, _, rfl, rfl, k p _ H S Fra.refl (den_bl (by simp [iLt_eq, ← decide_not, Int.not_lt]))⟩
  · cases q; exact .inr ⟨_, _, rfl, rfl, k p _ H S Fra.refl (.bl _)⟩
end

end
section
/-! ### comprehensions -/
theorem itF {P Q : Prop} (h : Q) : if false = true then P else Q := by rw [if_neg Bool.false_ne_true]; exact h
theorem itT {P Q : Prop} (h : P) : if true = true then P else Q := by rw [if_pos rfl]; exact h
noncomputable def mwipe (r : Me) : List Nat → Me
  | [] => r
  | v :: vs => lset (mwipe r vs) v none
theorem EnvR.unset {G : Mg} {p : List Addr} {H : Hp} {r : Me} {σ : L2.St} {i : Nat} (e : EnvR G p H r σ) : EnvR G p H (lset r i none) (σ.set i none) := by
  rw [lset_eq]
  refine ⟨by rw [List.length_set, List.length_set, e.len], fun j x h => ?_⟩
  by_cases hj : i = j
  · subst hj
    have hl : i < r.length := by
      have := (List.getElem?_eq_some_iff.mp h).1
      rwa [List.length_set] at this
    rw [List.getElem?_set_self hl] at h
    cases h
  · rw [List.getElem?_set_ne hj] at h
    rw [List.getElem?_set_ne hj]
    exact e.get j x h
theorem EnvR.wipe {G : Mg} {p : List Addr} {H : Hp} {r : Me} {σ : L2.St} (e : EnvR G p H r σ) : ∀ vs : List Nat, EnvR G p H (mwipe r vs) (L2.wipe σ vs)
  | [] => e
  | v :: vs => (e.wipe vs).unset
/-- the items of all turns, one turn giving some -/
noncomputable def mflat (it : It0) (st : Mv → Ms → Option (List Mv × Ms)) (m : Nat) : Nat → Ms → Option (List Mv × Ms) := Nat.rec (motive := fun _ => Nat → Ms → Option (List Mv × Ms)) (fun _ _ => none)
  (fun _ ih i s => match it.at i s with
    | none => none
    | some none => some ([], s)
    | some (some w) => (st w s).ob fun x => (ih (Nat.succ i) x.2).om fun y => (lapp x.1 y.1, y.2)) m
theorem mflat_succ {it : It0} {st : Mv → Ms → Option (List Mv × Ms)} {m i : Nat} {s : Ms} : mflat it st (m + 1) i s = match it.at i s with
    | none => none
    | some none => some ([], s)
    | some (some w) => (st w s).ob fun x => (mflat it st m (i + 1) x.2).om fun y => (x.1 ++ y.1, y.2) := by
  show (match it.at i s with
    | none => none
    | some none => some ([], s)
    | some (some w) => (st w s).ob fun x => (mflat it st m (i + 1) x.2).om fun y => (lapp x.1 y.1, y.2)) = _
  cases it.at i s with
  | none => rfl
  | some o => cases o with
    | none => rfl
    | some w => simp only [lapp_eq]
noncomputable def mstep (T : Tg) (C : Ft) (E : Fe) (r : Me) (w : Mv) (s : Ms) : Option (List Mv × Ms) := (T.asg w r).ob fun r1 => (C r1 s).ob fun c => cond c.1 ((E r1 c.2).om fun x => ([x.1], x.2)) (some ([], c.2))
noncomputable def mlc (I : Fi) (T : Tg) (C : Ft) (E : Fe) (vs : List Nat) : Fe := fun r s => (I r s).ob fun x => (mflat x.1 (mstep T C E (mwipe r vs)) 1000000000 0 x.2).ob fun y => newL y.1 y.2
noncomputable def myes : Ft := fun _ s => some (true, s)
section
variable {X : Cx} {G : Mg}
theorem t_yes {σ : L2.St} {H : Hp} {Q : Bool → Hp → Prop} (h : tT G myes σ H Q) : tYes σ H Q := by
  obtain ⟨p, s, r, b, s', S, E, q, k⟩ := h
  cases q
  exact k p H S Fra.refl
theorem pts_imp {ifs : List Expr} {t t' : TT} (h : PTs X ifs t) (i : ∀ σ H Q, t' σ H Q → t σ H Q) : PTs X ifs t' := ⟨fun pins s σ H Q I q => h.run pins s σ H Q I (i σ H Q q)⟩
theorem tm_nil : PTs X [] (tT G myes) := pts_imp pts_nil fun _ _ _ h => t_yes h
theorem tm_one {c : Expr} {C : Ft} (h : PT X c (tT G C)) : PTs X [c] (tT G C) := pts_one h
theorem getElem?_wipe {σ : L2.St} {i : Nat} : ∀ {vs : List Nat}, i ∉ vs → (L2.wipe σ vs)[i]? = σ[i]?
  | [], _ => rfl
  | v :: vs, h => by
    have h' : i ≠ v ∧ i ∉ vs := by simpa using h
    show ((L2.wipe σ vs).set v none)[i]? = _
    rw [List.getElem?_set_ne (Ne.symm h'.1), getElem?_wipe h'.2]
theorem getElem?_wipe_in {σ : L2.St} {i : Nat} (hi : i < σ.length) : ∀ {vs : List Nat}, i ∈ vs → (L2.wipe σ vs)[i]? = some none
  | [], h => by cases h
  | v :: vs, h => by
    show ((L2.wipe σ vs).set v none)[i]? = _
    by_cases e : v = i
    · subst e
      rw [List.getElem?_set_self (by rw [wipe_length]; exact hi)]
    · rw [List.getElem?_set_ne e]
      exact getElem?_wipe_in hi (by simpa [Ne.symm e] using h)
theorem wipe_same {σ σ2 : L2.St} {vs : List Nat} (hl : σ2.length = σ.length) (h : ∀ i, i ∉ vs → σ2[i]? = (L2.wipe σ vs)[i]?) : L2.wipe σ2 vs = L2.wipe σ vs := by
  apply List.ext_getElem?
  intro i
  by_cases hi : i ∈ vs
  · by_cases hl2 : i < σ.length
    · rw [getElem?_wipe_in hl2 hi, getElem?_wipe_in (by omega) hi]
    · rw [List.getElem?_eq_none (by rw [wipe_length]; omega), List.getElem?_eq_none (by rw [wipe_length]; omega)]
  · rw [getElem?_wipe hi, h i hi]
theorem Sim.upd_out {p : List Addr} {s : Ms} {H : Hp} {D : Addr} {xs ys : List V} (S : Sim G p s H) (hD : H D = some (.lst xs)) (n : D ∉ p) : Sim G p s (upd H D (.lst ys)) ∧ Stays p H p (upd H D (.lst ys)) := by
  have st : Stays p H p (upd H D (.lst ys)) := by
    refine ⟨fun _ _ e => e, fun a vs e => ?_, fun a o u _ e => ?_⟩
    · rw [upd_ne (by rintro rfl; rw [hD] at e; cases e)]; exact e
    · rw [upd_ne (by rintro rfl; rw [hD] at e; cases e)]; exact e
  refine ⟨⟨S.len, S.nd, fun m b hb => ?_, S.out⟩, st⟩
  obtain ⟨o1, ho, q1, q2, q3⟩ := S.ob m b hb
  have hne : b ≠ D := by rintro rfl; exact n (List.mem_of_getElem? hb)
  exact ⟨o1, ho, q1, by rw [upd_ne hne]; exact q2, q3.stay st⟩
theorem Sim.adopt {p : List Addr} {s s' : Ms} {H : Hp} {D : Addr} {ws : List Mv} {vs : List V} {n : Nat} (S : Sim G p s H) (hD : H D = some (.lst vs)) (nin : D ∉ p) (l : DenL G p H ws vs) (hz : vs.length ≤ sizeLine) (e : s.alloc (.lst ws) = some (n, s')) : Sim G (p ++ [D]) s' H ∧ Den G (p ++ [D]) H (.ref n) (.ref D) := by
  obtain ⟨rfl, h2, h4⟩ := Ms.alloc_eq e
  have st : Stays p H (p ++ [D]) H := ⟨fun n a h => by rw [List.getElem?_append_left (List.getElem?_eq_some_iff.mp h).1]; exact h, fun _ _ e => e, fun _ _ _ _ e => e⟩
  have hlen : (p ++ [D])[s.sz]? = some D := by rw [← S.len]; simp
  refine ⟨⟨by rw [List.length_append, S.len, h2]; rfl, ?_, fun m b hb => ?_, fun m hm => ?_⟩, .ref hlen⟩
  · rw [List.nodup_append]
    exact ⟨S.nd, by simp, fun x hx y hy => by rw [List.mem_singleton.mp hy]; rintro rfl; exact nin hx⟩
  · by_cases hmn : m = s.sz
    · subst hmn
      rw [hlen] at hb; cases hb
      exact ⟨.lst ws, .lst vs, by rw [h4, if_pos rfl], hD, vs, rfl, l.stay st, hz⟩
    · have hlt : m < p.length := by
        have := (List.getElem?_eq_some_iff.mp hb).1
        rw [List.length_append] at this
        have := S.len
        simp at *
        omega
      rw [List.getElem?_append_left hlt] at hb
      obtain ⟨o1, ho1, q1, q2, q3⟩ := S.ob m b hb
      exact ⟨o1, ho1, by rw [h4, if_neg hmn]; exact q1, q2, q3.stay st⟩
  · rw [h4, if_neg (by omega)]
    exact S.out m (by omega)
theorem asgs_rlen : ∀ {is : List Nat} {ws : List Mv} {r r' : Me}, asgs is ws r = some r' → r'.length = r.length
  | [], [], _, _, h => by cases h; rfl
  | [], _ :: _, _, _, h => by cases h
  | _ :: _, [], _, _, h => by cases h
  | i :: is, w :: ws, r, r', h => by rw [asgs_rlen (is := is) (ws := ws) h, lset_eq, List.length_set]
theorem asg_len {T : Tg} {w : Mv} {r r' : Me} (h : T.asg w r = some r') : r'.length = r.length := by
  induction T generalizing w r r' with
  | nm i => cases h; rw [lset_eq, List.length_set]
  | tp is =>
    cases w with
    | tup ws => exact asgs_rlen h
    | _ => cases h
  | pr a b iha ihb =>
    obtain ⟨x, y, r1, rfl, h1, h2⟩ := asg_pr h
    exact (ihb h2).trans (iha h1)
/-- while a comprehension runs: its list at D stands outside -/
structure Mid (G : Mg) (D : Addr) (p1 : List Addr) (H1 : Hp) (acc : List Mv) (p : List Addr) (s : Ms) (H : Hp) : Prop where
  S : Sim G p s H
  f : Fra p1 H1 p H
  n : D ∉ p
  a : ∃ vs, H D = some (.lst vs) ∧ DenL G p H acc vs
theorem Mid.fra {D : Addr} {p1 p p' : List Addr} {H1 H H' : Hp} {acc : List Mv} {s s' : Ms} (M : Mid G D p1 H1 acc p s H) (S' : Sim G p' s' H') (f : Fra p H p' H') : Mid G D p1 H1 acc p' s' H' := by
  obtain ⟨vs, h1, h2⟩ := M.a
  exact ⟨S', M.f.trans f, f.notin h1 M.n, vs, f.kee D _ h1 M.n, h2.fra M.S f⟩
theorem Mid.app {D : Addr} {p1 p : List Addr} {H1 H : Hp} {acc : List Mv} {s : Ms} {w : Mv} {v : V} (M : Mid G D p1 H1 acc p s H) (hD : H1 D = none) (d : Den G p H w v) : ∃ vs, H D = some (.lst vs) ∧ vs.length = acc.length ∧ Mid G D p1 H1 (acc ++ [w]) p s (upd H D (.lst (vs ++ [v]))) := by
  obtain ⟨vs, h1, h2⟩ := M.a
  obtain ⟨S', st⟩ := M.S.upd_out (ys := vs ++ [v]) h1 M.n
  refine ⟨vs, h1, h2.length.symm, S', ⟨M.f.pre, fun a o e n => ?_, fun a o u e => ?_⟩, M.n, _, upd_same, (h2.stay st).append (.cons (d.stay st) .nil)⟩
  · rw [upd_ne (by rintro rfl; rw [hD] at e; cases e)]
    exact M.f.kee a o e n
  · rw [upd_ne (by rintro rfl; rw [hD] at e; cases e)]
    exact M.f.frz a o u e
theorem newL_end {D : Addr} {p1 p : List Addr} {H1 H : Hp} {acc : List Mv} {s s' : Ms} {w : Mv} {Q : VK} (M : Mid G D p1 H1 acc p s H) (hD : H1 D = none) (h : newL acc s = some (w, s')) (k : After G p1 H1 w s' Q) : Q (.ref D) H := by
  obtain ⟨vs, h1, h2⟩ := M.a
  unfold newL at h
  rw [llen_eq] at h
  cases e : Nat.ble acc.length 16777216 with
  | false => rw [e] at h; cases h
  | true =>
    rw [e, cond_true] at h
    obtain ⟨⟨n, s1⟩, g1, g2⟩ := omap_some.mp h
    cases g2
    obtain ⟨S', d'⟩ := M.S.adopt h1 M.n h2 (by rw [← h2.length]; exact ble_sz e) g1
    obtain ⟨q, eq, hq⟩ := M.f.pre
    refine k _ _ _ S' ⟨⟨q ++ [D], by rw [eq, List.append_assoc], fun a ha np => ?_⟩, M.f.kee, M.f.frz⟩ d'
    rcases List.mem_append.mp ha with z | z
    · exact hq a z np
    · rw [List.mem_singleton.mp z]; exact hD
theorem newL_len {acc : List Mv} {s s' : Ms} {w : Mv} (h : newL acc s = some (w, s')) : acc.length ≤ sizeLine := by
  unfold newL at h
  rw [llen_eq] at h
  cases e : Nat.ble acc.length 16777216 with
  | false => rw [e] at h; cases h
  | true => exact ble_sz e
theorem Sim.free {p : List Addr} {s : Ms} {H : Hp} {D : Addr} (S : Sim G p s H) (hD : H D = none) : D ∉ p := fun h => by
  obtain ⟨k, hk⟩ := List.mem_iff_getElem?.mp h
  obtain ⟨_, _, _, z, _⟩ := S.ob k D hk
  rw [hD] at z; cases z
theorem Mid.start {D : Addr} {p1 : List Addr} {H1 : Hp} {s1 : Ms} (S : Sim G p1 s1 H1) (hD : H1 D = none) : Mid G D p1 H1 [] p1 s1 (upd H1 D (.lst [])) :=
  ⟨S.fra_new hD, fra_new hD, S.free hD, ⟨[], upd_same, .nil⟩⟩
theorem t_lc {I : Fi} {T : Tg} {C : Ft} {E : Fe} {vs : List Nat} (hT : ∀ i ∈ T.slots, i ∈ vs) {σ : L2.St} {H : Hp} {Q : VK} (h : tI G (mlc I T C E vs) σ H Q) : tLc (tIt G I) (tG G T) (tT G C) (tI G E) vs σ H Q := by
  obtain ⟨p, s, r, w, s', S, Er, q, k⟩ := h
  obtain ⟨⟨it, s1⟩, q1, q2⟩ := ob_some.mp q
  obtain ⟨⟨tot, s9⟩, q3, q4⟩ := ob_some.mp q2
  have hlen : tot.length ≤ sizeLine := newL_len q4
  refine ⟨p, s, r, it, s1, S, Er, q1, fun p1 H1 J S1 f1 R D hD => ?_⟩
  have k1 := k.of f1
  have E1 := Er.fra S f1
  refine ⟨fun i m H2 => ∃ p2 s2 acc rest, Mid G D p1 H1 acc p2 s2 H2 ∧ mflat it (mstep T C E (mwipe r vs)) m i s2 = some (rest, s9) ∧ acc ++ rest = tot, ⟨1000000000, p1, s1, [], tot, Mid.start S1 hD, q3, rfl⟩, ?_⟩
  rintro i m H2 ⟨p2, s2, acc, rest, M, q5, e5⟩
  cases m with
  | zero => cases q5
  | succ m =>
    have st2 := M.f.stays S1
    have R2 := R p2 s2 H2 i M.S st2 M.f.frz
    rw [mflat_succ] at q5
    cases e : it.at i s2 with
    | none => rw [e] at q5; cases q5
    | some o =>
      cases o with
      | none =>
        rw [e] at q5
        have q5' : some (([] : List Mv), s2) = some (rest, s9) := q5
        cases q5'
        rw [List.append_nil] at e5
        subst e5
        exact .inl ⟨R2.1 e, newL_end M hD q4 k1⟩
      | some x =>
        rw [e] at q5
        obtain ⟨⟨xs, s3⟩, q6, q7⟩ := ob_some.mp q5
        obtain ⟨⟨ys, s4⟩, q8, q9⟩ := omap_some.mp q7
        cases q9
        obtain ⟨g, y⟩ := R2.2 x e
        refine .inr ⟨g, fun H3 => ∃ p3 s3', Mid G D p1 H1 (acc ++ xs) p3 s3' H3 ∧ s3' = s3, fun H3 ⟨p3, s3', M3, e3⟩ => ⟨m, Nat.lt_succ_self m, p3, s3', acc ++ xs, ys, M3, by rw [e3]; exact q8, by rw [List.append_assoc]; exact e5⟩, fun v H' hy => ?_⟩
        obtain ⟨S2', f2', d⟩ := y v H' hy
        have M2 := M.fra S2' f2'
        unfold mstep at q6
        obtain ⟨r1, a1, a2⟩ := ob_some.mp q6
        obtain ⟨⟨c, s5⟩, a3, a4⟩ := ob_some.mp a2
        have E2 : EnvR G p2 H' (mwipe r vs) (L2.wipe σ vs) := (((E1.fra S1 M.f).fra M.S f2').wipe vs)
        refine ⟨p2, s2, _, x, r1, S2', E2, d, a1, fun σ2 E3 hs => ⟨?_, p2, s2, r1, c, s5, S2', E3, a3, fun p5 H5 S5 f5 => ?_⟩⟩
        · refine wipe_same ?_ fun i hi => hs i fun z => hi (hT i z)
          rw [← E3.len, asg_len a1]
          have := E2.len
          rw [wipe_length] at this
          exact this
        · have M5 := M2.fra S5 f5
          cases c with
          | false =>
            refine itF ?_
            have a4' : some (([] : List Mv), s5) = some (xs, s3) := a4
            cases a4'
            exact ⟨p5, _, by rw [List.append_nil]; exact M5, rfl⟩
          | true =>
            refine itT ?_
            obtain ⟨⟨z, s6⟩, a5, a6⟩ := omap_some.mp (show (E r1 s5).om _ = some (xs, s3) from a4)
            cases a6
            refine ⟨p5, s5, r1, z, s6, S5, E3.fra S2' f5, a5, fun p6 v6 H6 S6 f6 d6 => ?_⟩
            obtain ⟨vs', b1, b2, b3⟩ := (M5.fra S6 f6).app hD d6
            refine ⟨vs', b1, ?_, p6, _, b3, rfl⟩
            rw [b2]
            have : (acc ++ ([z] ++ ys)).length = tot.length := by rw [e5]
            simp at this
            omega
theorem pm_lc {elt tg iter : Expr} {ifs : List Expr} {scope : Scope} {own : List (Str × Nat)} {pos : Pos} {I : Fi} {T : Tg} {C : Ft} {E : Fe} (hc : X.calm = true) (hN : X.N.Nodup) (hi : PI X tg iter (tIt G I)) (ok : BlkOk X.N X.env.scope scope own)
    (hg : ∀ (s : Shared) (H : Hp) (C : Addr) (cl : List (Str × Addr)) (fp : List Addr), PG (X.blk s H scope (compEnvC scope cl C X.env) fp) tg (tG G T)) (ht : ∀ (s : Shared) (H : Hp) (C0 : Addr) (cl : List (Str × Addr)) (fp : List Addr), PTs (X.blk s H scope (compEnvC scope cl C0 X.env) fp) ifs (tT G C))
    (he : ∀ (s : Shared) (H : Hp) (C : Addr) (cl : List (Str × Addr)) (fp : List Addr), PE (X.blk s H scope (compEnvC scope cl C X.env) fp) elt (tI G E)) (hT : ∀ i ∈ T.slots, i ∈ own.map (·.2) := by decide) (hs : ∀ x, foldedSetIterable iter X.env x = pure x := by intro _; rfl) :
    PE X (.ListComp elt [⟨tg, iter, ifs, 0⟩] scope pos) (tI G (mlc I T C E (own.map (·.2)))) := pe_imp (pe_lc hc hN hi ok hg ht he hs) fun _ _ _ h => t_lc hT h
theorem sm_setLc {i : Nat} {y : Str} {py : Pos} {elt tg iter : Expr} {ifs : List Expr} {scope : Scope} {own : List (Str × Nat)} {pos spos : Pos} {I : Fi} {T : Tg} {C : Ft} {E : Fe} (hc : X.calm = true) (hN : X.N.Nodup) (hy : X.N[i]? = some y) (hyl : X.env.scope.names.lookup y = some .local)
    (hsw : swapsWith (.ListComp elt [⟨tg, iter, ifs, 0⟩] scope pos) (some (.Name y py)) spos.line X.env = pure true) (hi : PI X tg iter (tIt G I)) (ok : BlkOk X.N X.env.scope scope own)
    (hg : ∀ (s : Shared) (H : Hp) (C : Addr) (cl : List (Str × Addr)) (fp : List Addr), PG (X.blk s H scope (compEnvC scope cl C X.env) fp) tg (tG G T)) (ht : ∀ (s : Shared) (H : Hp) (C0 : Addr) (cl : List (Str × Addr)) (fp : List Addr), PTs (X.blk s H scope (compEnvC scope cl C0 X.env) fp) ifs (tT G C))
    (he : ∀ (s : Shared) (H : Hp) (C : Addr) (cl : List (Str × Addr)) (fp : List Addr), PE (X.blk s H scope (compEnvC scope cl C X.env) fp) elt (tI G E)) (hT : ∀ i ∈ T.slots, i ∈ own.map (·.2) := by decide) (hs : ∀ x, foldedSetIterable iter X.env x = pure x := by intro _; rfl) :
    PS X (.Assign [.Name y py] (.ListComp elt [⟨tg, iter, ifs, 0⟩] scope pos) spos) (tS G (sset i (mlc I T C E (own.map (·.2))))) :=
  ps_imp (ps_setLc hc hN hy hyl hsw hi ok hg ht he hs) fun D σ H ⟨p, s, r, f, r', s', S, E, q, k⟩ => by
    obtain ⟨⟨x, s1⟩, q1, q2⟩ := omap_some.mp q
    cases q2
    exact t_lc hT ⟨p, s, r, x, s1, S, E, q1, fun p1 v1 H1 S1 f1 d1 => k p1 H1 S1 f1 _ ((E.fra S f1).set d1)⟩
/-! two fors -/
noncomputable def mlc2 (I : Fi) (T : Tg) (C : Ft) (I1 : Fi) (T1 : Tg) (C1 : Ft) (E : Fe) (vs vs1 : List Nat) : Fe := fun r s => (I r s).ob fun x => (mflat x.1 (fun w s => (T.asg w (mwipe r vs)).ob fun r1 => (C r1 s).ob fun c => cond c.1 ((I1 r1 c.2).ob fun z => mflat z.1 (mstep T1 C1 E (mwipe r1 vs1)) 1000000000 0 z.2) (some ([], c.2))) 1000000000 0 x.2).ob fun y => newL y.1 y.2
theorem Mid.eqv {D : Addr} {p1 p : List Addr} {H1 H : Hp} {acc acc' : List Mv} {s : Ms} (M : Mid G D p1 H1 acc p s H) (e : acc = acc') : Mid G D p1 H1 acc' p s H := e ▸ M
/-- what stays, with all that is locked -/
abbrev StF (p0 : List Addr) (H0 : Hp) (p : List Addr) (H : Hp) : Prop := Stays p0 H0 p H ∧ ∀ a o u, H0 a = some (.frz o u) → H a = some (.frz o u)
theorem t_lc2 {I : Fi} {T : Tg} {C : Ft} {I1 : Fi} {T1 : Tg} {C1 : Ft} {E : Fe} {vs vs1 : List Nat} (hT : ∀ i ∈ T.slots, i ∈ vs) (hT1 : ∀ i ∈ T1.slots, i ∈ vs1) {σ : L2.St} {H : Hp} {Q : VK} (h : tI G (mlc2 I T C I1 T1 C1 E vs vs1) σ H Q) :
    tLc2 (tIt G I) (tG G T) (tT G C) (tIt G I1) (tG G T1) (tT G C1) (tI G E) vs vs1 σ H Q := by
  obtain ⟨p, s, r, w, s', S, Er, q, k⟩ := h
  obtain ⟨⟨it, s1⟩, q1, q2⟩ := ob_some.mp q
  obtain ⟨⟨tot, s9⟩, q3, q4⟩ := ob_some.mp q2
  have hlen : tot.length ≤ sizeLine := newL_len q4
  refine ⟨p, s, r, it, s1, S, Er, q1, fun p1 H1 J S1 f1 R D hD => ?_⟩
  have k1 := k.of f1
  have E1 := Er.fra S f1
  refine ⟨fun i m H2 => ∃ p2 s2 acc rest, Mid G D p1 H1 acc p2 s2 H2 ∧ mflat it _ m i s2 = some (rest, s9) ∧ acc ++ rest = tot, ⟨1000000000, p1, s1, [], tot, Mid.start S1 hD, q3, rfl⟩, ?_⟩
  rintro i m H2 ⟨p2, s2, acc, rest, M, q5, e5⟩
  cases m with
  | zero => cases q5
  | succ m =>
    have st2 := M.f.stays S1
    have R2 := R p2 s2 H2 i M.S st2 M.f.frz
    rw [mflat_succ] at q5
    cases e : it.at i s2 with
    | none => rw [e] at q5; cases q5
    | some o =>
      cases o with
      | none =>
        rw [e] at q5
        have q5' : some (([] : List Mv), s2) = some (rest, s9) := q5
        cases q5'
        rw [List.append_nil] at e5
        subst e5
        exact .inl ⟨R2.1 e, newL_end M hD q4 k1⟩
      | some x =>
        rw [e] at q5
        obtain ⟨⟨xs, s3⟩, q6, q7⟩ := ob_some.mp q5
        obtain ⟨⟨ys, s4⟩, q8, q9⟩ := omap_some.mp q7
        cases q9
        obtain ⟨g, y⟩ := R2.2 x e
        have htot : acc.length + (xs.length + ys.length) = tot.length := by rw [← e5]; simp
        refine .inr ⟨g, fun H3 => ∃ p3 s3', Mid G D p1 H1 (acc ++ xs) p3 s3' H3 ∧ s3' = s3, fun H3 ⟨p3, s3', M3, e3⟩ => ⟨m, Nat.lt_succ_self m, p3, s3', acc ++ xs, ys, M3, by rw [e3]; exact q8, by rw [List.append_assoc]; exact e5⟩, fun v H' hy => ?_⟩
        obtain ⟨S2', f2', d⟩ := y v H' hy
        have M2 := M.fra S2' f2'
        obtain ⟨r1, a1, a2⟩ := ob_some.mp q6
        obtain ⟨⟨c, s5⟩, a3, a4⟩ := ob_some.mp a2
        have E2 : EnvR G p2 H' (mwipe r vs) (L2.wipe σ vs) := (((E1.fra S1 M.f).fra M.S f2').wipe vs)
        refine ⟨p2, s2, _, x, r1, S2', E2, d, a1, fun σ2 E3 hs => ⟨?_, p2, s2, r1, c, s5, S2', E3, a3, fun p5 H5 S5 f5 => ?_⟩⟩
        · refine wipe_same ?_ fun i hi => hs i fun z => hi (hT i z)
          rw [← E3.len, asg_len a1]
          have := E2.len
          rw [wipe_length] at this
          exact this
        · have M5 := M2.fra S5 f5
          have E5 := E3.fra S2' f5
          cases c with
          | false =>
            refine itF ?_
            have a4' : some (([] : List Mv), s5) = some (xs, s3) := a4
            cases a4'
            exact ⟨p5, _, M5.eqv (by rw [List.append_nil]), rfl⟩
          | true =>
            refine itT ?_
            obtain ⟨⟨it1, s6⟩, a5, a6⟩ := ob_some.mp (show (I1 r1 s5).ob _ = some (xs, s3) from a4)
            refine ⟨p5, s5, r1, it1, s6, S5, E5, a5, fun p6 H6 J1 S6 f6 R6 => ?_⟩
            have M6 := M5.fra S6 f6
            have E6 := E5.fra S5 f6
            refine ⟨fun j n H7 => ∃ p7 s7 acc7 rest7, Mid G D p1 H1 acc7 p7 s7 H7 ∧ StF p6 H6 p7 H7 ∧ mflat it1 (mstep T1 C1 E (mwipe r1 vs1)) n j s7 = some (rest7, s3) ∧ acc7 ++ rest7 = acc ++ xs, ⟨1000000000, p6, s6, acc, xs, M6, ⟨Stays.refl, fun _ _ _ e => e⟩, a6, rfl⟩, ?_⟩
            rintro j n H7 ⟨p7, s7, acc7, rest7, M7, st7, b5, be⟩
            cases n with
            | zero => cases b5
            | succ n =>
              have R7 := R6 p7 s7 H7 j M7.S st7.1 st7.2
              rw [mflat_succ] at b5
              cases e7 : it1.at j s7 with
              | none => rw [e7] at b5; cases b5
              | some o7 =>
                cases o7 with
                | none =>
                  rw [e7] at b5
                  have b5' : some (([] : List Mv), s7) = some (rest7, s3) := b5
                  cases b5'
                  rw [List.append_nil] at be
                  exact .inl ⟨R7.1 e7, p7, _, M7.eqv be, rfl⟩
                | some x7 =>
                  rw [e7] at b5
                  obtain ⟨⟨xs8, s8⟩, b6, b7⟩ := ob_some.mp b5
                  obtain ⟨⟨ys8, s10⟩, b8, b9⟩ := omap_some.mp b7
                  cases b9
                  obtain ⟨g7, y7⟩ := R7.2 x7 e7
                  refine .inr ⟨g7, fun H3 => ∃ p3 s3', Mid G D p1 H1 (acc7 ++ xs8) p3 s3' H3 ∧ StF p6 H6 p3 H3 ∧ s3' = s8, fun H3 ⟨p3, s3', M3, st3, e3⟩ => ⟨n, Nat.lt_succ_self n, p3, s3', acc7 ++ xs8, ys8, M3, st3, by rw [e3]; exact b8, by rw [List.append_assoc]; exact be⟩, fun v7 H' hy7 => ?_⟩
                  obtain ⟨S7', f7', d7⟩ := y7 v7 H' hy7
                  have M8 := M7.fra S7' f7'
                  have st8 : StF p6 H6 p7 H' := ⟨st7.1.trans (f7'.stays M7.S), fun a o u e => f7'.frz a o u (st7.2 a o u e)⟩
                  obtain ⟨r9, c1, c2⟩ := ob_some.mp b6
                  obtain ⟨⟨cc, s11⟩, c3, c4⟩ := ob_some.mp c2
                  have E8 : EnvR G p7 H' (mwipe r1 vs1) (L2.wipe σ2 vs1) := EnvR.wipe ⟨E6.len, fun i w h => let ⟨v, q, d⟩ := E6.get i w h; ⟨v, q, d.stay st8.1⟩⟩ vs1
                  refine ⟨p7, s7, _, x7, r9, S7', E8, d7, c1, fun σ3 E9 hs9 => ⟨?_, p7, s7, r9, cc, s11, S7', E9, c3, fun p10 H10 S10 f10 => ?_⟩⟩
                  · refine wipe_same ?_ fun i hi => hs9 i fun z => hi (hT1 i z)
                    rw [← E9.len, asg_len c1]
                    have := E8.len
                    rw [wipe_length] at this
                    exact this
                  · have M10 := M8.fra S10 f10
                    have st10 : StF p6 H6 p10 H10 := ⟨st8.1.trans (f10.stays S7'), fun a o u e => f10.frz a o u (st8.2 a o u e)⟩
                    cases cc with
                    | false =>
                      refine itF ?_
                      have c4' : some (([] : List Mv), s11) = some (xs8, s8) := c4
                      cases c4'
                      exact ⟨p10, _, M10.eqv (by rw [List.append_nil]), st10, rfl⟩
                    | true =>
                      refine itT ?_
                      obtain ⟨⟨z, s12⟩, c5, c6⟩ := omap_some.mp (show (E r9 s11).om _ = some (xs8, s8) from c4)
                      cases c6
                      refine ⟨p10, s11, r9, z, s12, S10, E9.fra S7' f10, c5, fun p12 v12 H12 S12 f12 d12 => ?_⟩
                      obtain ⟨vs', g1, g2, g3⟩ := (M10.fra S12 f12).app hD d12
                      refine ⟨vs', g1, ?_, p12, _, g3, ?_, rfl⟩
                      · rw [g2]
                        have : (acc7 ++ ([z] ++ ys8)).length = (acc ++ xs).length := by rw [be]
                        simp at this
                        omega
                      · refine ⟨(st10.1.trans (f12.stays S10)).trans (S12.upd_out g1 (M10.fra S12 f12).n).2, fun a o u e => ?_⟩
                        have q := f12.frz a o u (st10.2 a o u e)
                        rw [upd_ne (by rintro rfl; rw [g1] at q; cases q)]
                        exact q
theorem pm_lc2 {elt tg iter tg1 iter1 : Expr} {ifs ifs1 : List Expr} {scope : Scope} {own : List (Str × Nat)} {vs1 : List Nat} {pos : Pos} {I I1 : Fi} {T T1 : Tg} {C C1 : Ft} {E : Fe} (hc : X.calm = true) (hN : X.N.Nodup) (hi : PI X tg iter (tIt G I)) (ok : BlkOk X.N X.env.scope scope own)
    (hg : ∀ (s : Shared) (H : Hp) (C : Addr) (cl : List (Str × Addr)) (fp : List Addr), PG (X.blk s H scope (compEnvC scope cl C X.env) fp) tg (tG G T)) (ht : ∀ (s : Shared) (H : Hp) (C0 : Addr) (cl : List (Str × Addr)) (fp : List Addr), PTs (X.blk s H scope (compEnvC scope cl C0 X.env) fp) ifs (tT G C))
    (hi1 : ∀ (s : Shared) (H : Hp) (C : Addr) (cl : List (Str × Addr)) (fp : List Addr), PI (X.blk s H scope (compEnvC scope cl C X.env) fp) tg1 iter1 (tIt G I1))
    (hg1 : ∀ (s : Shared) (H : Hp) (C : Addr) (cl : List (Str × Addr)) (fp : List Addr), PG (X.blk s H scope (compEnvC scope cl C X.env) fp) tg1 (tG G T1)) (ht1 : ∀ (s : Shared) (H : Hp) (C0 : Addr) (cl : List (Str × Addr)) (fp : List Addr), PTs (X.blk s H scope (compEnvC scope cl C0 X.env) fp) ifs1 (tT G C1))
    (he : ∀ (s : Shared) (H : Hp) (C : Addr) (cl : List (Str × Addr)) (fp : List Addr), PE (X.blk s H scope (compEnvC scope cl C X.env) fp) elt (tI G E)) (hv : ∀ i ∈ vs1, i ∈ own.map (·.2) := by decide) (hT : ∀ i ∈ T.slots, i ∈ own.map (·.2) := by decide) (hT1 : ∀ i ∈ T1.slots, i ∈ vs1 := by decide)
    (hs : ∀ x, foldedSetIterable iter X.env x = pure x := by intro _; rfl) (hs1 : ∀ env x, foldedSetIterable iter1 env x = pure x := by intro _ _; rfl) :
    PE X (.ListComp elt [⟨tg, iter, ifs, 0⟩, ⟨tg1, iter1, ifs1, 0⟩] scope pos) (tI G (mlc2 I T C I1 T1 C1 E (own.map (·.2)) vs1)) := pe_imp (pe_lc2 hc hN hi ok hv hg ht hi1 hg1 ht1 he hs hs1) fun _ _ _ h => t_lc2 hT hT1 h
end

end
section
/-! ### subscripts, slices, membership -/
noncomputable def atF {α : Type} (ws : List α) (i : Int) : Option α := Int.rec (motive := fun _ => Option α) (fun n => lget ws n) (fun n => cond (Nat.blt n (llen ws)) (lget ws (Nat.sub (llen ws) (Nat.succ n))) none) i
theorem atF_eq {α : Type} (ws : List α) (i : Int) : atF ws i = L2.atI ws i := by
  unfold L2.atI L2.ixN
  cases i with
  | ofNat n =>
    show lget ws n = _
    rw [lget_eq, if_pos (show (0 : Int) ≤ Int.ofNat n from Int.natCast_nonneg n)]
    by_cases h : n < ws.length
    · rw [if_pos (show (Int.ofNat n : Int) < (ws.length : Int) from Int.ofNat_lt.mpr h)]; rfl
    · rw [if_neg (show ¬ (Int.ofNat n : Int) < (ws.length : Int) from fun z => h (Int.ofNat_lt.mp z))]
      exact List.getElem?_eq_none_iff.mpr (by omega)
  | negSucc n =>
    show cond (Nat.blt n (llen ws)) (lget ws (llen ws - (n + 1))) none = _
    rw [llen_eq, if_neg (by simp)]
    cases e : Nat.blt n ws.length with
    | false =>
      have h : ¬ n < ws.length := fun z => by rw [Nat.blt_eq.mpr z] at e; cases e
      rw [cond_false]
      split
      · omega
      · rfl
    | true =>
      have h : n < ws.length := Nat.blt_eq.mp e
      rw [cond_true, lget_eq]
      split
      · rename_i z
        have : (ws.length : Int) + Int.negSucc n = ((ws.length - (n + 1) : Nat) : Int) := by omega
        show _ = ws[(((ws.length : Int) + Int.negSucc n).toNat)]?
        rw [this]; rfl
      · rename_i z
        exfalso; apply z; omega
theorem DenL.atI {G : Mg} {p : List Addr} {H : Hp} {ws : List Mv} {vs : List V} (l : DenL G p H ws vs) {i : Int} {w : Mv} (h : L2.atI ws i = some w) : ∃ v, L2.atI vs i = some v ∧ Den G p H w v := by
  unfold L2.atI at h ⊢
  rw [← l.length]
  obtain ⟨j, h1, h2⟩ := Option.bind_eq_some_iff.mp h
  obtain ⟨v, h3, d⟩ := l.get h2
  exact ⟨v, by rw [h1]; exact h3, d⟩
noncomputable def ixW (a b : Mv) (s : Ms) : Option (Mv × Ms) := match b with
  | .int i => (items a s).ob fun ws => (atF ws i).om fun w => (w, s)
  | _ => none
noncomputable def cutM (ws : List Mv) (lo hi : Option Int) : List Mv := (ws.drop (HT.sIx ws.length 0 lo)).take (HT.sIx ws.length ws.length hi - HT.sIx ws.length 0 lo)
noncomputable def slW (w : Mv) (lo hi : Option Int) (s : Ms) : Option (Mv × Ms) := match w with
  | .tup ws => newT (cutM ws lo hi) s
  | .fl ws => newL (cutM ws lo hi) s
  | .ref n => match s.get n with
    | some (.lst ws) => newL (cutM ws lo hi) s
    | _ => none
  | _ => none
abbrev Fo := Me → Ms → Option (Option Int × Ms)
noncomputable def onone : Fo := fun _ s => some (none, s)
noncomputable def osome (A : Fe) : Fo := fun r s => (A r s).ob fun x => match x.1 with
  | .int i => some (some i, x.2)
  | _ => none
noncomputable def mslice (A : Fe) (L U : Fo) : Fe := fun r s => (A r s).ob fun x => (L r x.2).ob fun l => (U r l.2).ob fun u => slW x.1 l.1 u.1 u.2
noncomputable def tO (G : Mg) (F : Fo) : TO := fun σ H Q => ∃ p s r o s', Sim G p s H ∧ EnvR G p H r σ ∧ F r s = some (o, s') ∧ ∀ p' H', Sim G p' s' H' → Fra p H p' H' → Q o H'
/-- a text in a list of texts -/
noncomputable def strsOf : List Mv → Option (List Str)
  | [] => some []
  | .str x :: ws => (strsOf ws).om fun r => x :: r
  | _ => none
noncomputable def inBo (x : Mv) (y : Mv) (s : Ms) : Option Bool := (items y s).ob fun ws => match x, strsOf ws with
  | .str z, some ys => some (ys.any fun y => strEq y z)
  | _, _ => (toD 24 s x).ob fun d => (toDL (toD 23 s) ws).om fun ds => ds.any fun z => PyData.eqv z d
noncomputable def inW (x y : Mv) (s : Ms) : Option (Mv × Ms) := (inBo x y s).om fun k => (.bl k, s)
noncomputable def ninW (x y : Mv) (s : Ms) : Option (Mv × Ms) := (inBo x y s).om fun k => (.bl (!k), s)
section
variable {X : Cx} {G : Mg} {e a b : Expr} {pos : Pos}
theorem ixr_imp {r r' : R2} (h : IxR X r) (i : ∀ x y H Q, r' x y H Q → r x y H Q) : IxR X r' := fun v sl pins s σ H x y u w Q I rx ry q => h v sl pins s σ H x y u w Q I rx ry (i x y H Q q)
theorem ixm (hK : X.K = G.K := by rfl) : IxR X (q2R G ixW) := ixr_imp ix_seq fun x y H Q ⟨p, s, a, b, w, s', S, da, db, q, k⟩ => by
  cases db <;> try (cases q; done)
  rename_i i _
  obtain ⟨ws, q1, q2⟩ := ob_some.mp (show (items a s).ob _ = some (w, s') from q)
  obtain ⟨w', q3, q4⟩ := omap_some.mp q2
  cases q4
  obtain ⟨ad, vs, rfl, h1, l⟩ := items_ok S da q1
  obtain ⟨v, h2, d⟩ := l.atI (atF_eq ws _ ▸ q3)
  rcases h1 with h1 | h1
  · exact .inl ⟨ad, vs, i, v, rfl, rfl, by rw [hK]; exact h1, h2, k p v H S Fra.refl d⟩
  · exact .inr (.inl ⟨ad, vs, i, v, rfl, rfl, by rw [hK]; exact h1, h2, k p v H S Fra.refl d⟩)
theorem po_imp {e : Option Expr} {t t' : TO} (h : PO X e t) (i : ∀ σ H Q, t' σ H Q → t σ H Q) : PO X e t' := ⟨fun pins s σ H Q I q => h.run pins s σ H Q I (i σ H Q q)⟩
theorem om_none : PO X none (tO G onone) := po_imp po_none fun σ H Q ⟨p, s, r, o, s', S, E, q, k⟩ => by cases q; exact k p H S Fra.refl
theorem om_some {A : Fe} (h : PE X e (tI G A)) : PO X (some e) (tO G (osome A)) := po_imp (po_some h) fun σ H Q ⟨p, s, r, o, s', S, E, q, k⟩ => by
  obtain ⟨⟨x, s1⟩, q1, q2⟩ := ob_some.mp q
  refine ⟨p, s, r, x, s1, S, E, q1, fun p1 v1 H1 S1 f1 d1 => ?_⟩
  cases d1 <;> try (cases q2; done)
  cases q2
  exact ⟨_, rfl, k p1 H1 S1 f1⟩
theorem cut_den {p : List Addr} {H : Hp} {ws : List Mv} {vs : List V} (l : DenL G p H ws vs) (lo hi : Option Int) : DenL G p H (cutM ws lo hi) (cutV vs lo hi) := by
  unfold cutM cutV
  rw [← l.length]
  exact (l.drop _).take _
theorem cut_whole {vs : List V} {lo hi : Option Int} (h : HT.sIx vs.length 0 lo = 0 ∧ HT.sIx vs.length vs.length hi = vs.length) : cutV vs lo hi = vs := by
  unfold cutV
  rw [h.1, h.2]
  simp
theorem pm_slice {A : Fe} {L U : Fo} {lo hi : Option Expr} {p2 : Pos} (he : PE X e (tI G A)) (hl : PO X lo (tO G L)) (hu : PO X hi (tO G U)) (hK : X.K = G.K := by rfl) : PE X (.Subscript e (.Slice lo hi none p2) pos) (tI G (mslice A L U)) :=
  pe_imp (pe_slice (SlR.or sl_list sl_tupA) he hl hu) fun σ H Q ⟨p, s, r, w, s', S, E, q, k⟩ => by
    obtain ⟨⟨x, s1⟩, q1, q2⟩ := ob_some.mp q
    obtain ⟨⟨l, s2⟩, q3, q4⟩ := ob_some.mp q2
    obtain ⟨⟨u, s3⟩, q5, q6⟩ := ob_some.mp q4
    refine ⟨p, s, r, x, s1, S, E, q1, fun p1 v1 H1 S1 f1 d1 => ⟨p1, s1, r, l, s2, S1, E.fra S f1, q3, fun p2 H2 S2 f2 => ⟨p2, s2, r, u, s3, S2, (E.fra S f1).fra S1 f2, q5, fun p3 H3 S3 f3 => ?_⟩⟩⟩
    have d3 := (d1.fra S1 f2).fra S2 f3
    have k3 := k.of ((f1.trans f2).trans f3)
    cases d3 with
    | tup h1 ll =>
      obtain ⟨z1, z2, z3⟩ := newT_ok S3 (cut_den ll l u) q6 k3
      refine .inr ⟨_, _, rfl, by rw [hK]; exact h1, fun e => ?_, fun _ => z2⟩
      rw [cut_whole e] at z3
      exact z3 _ h1
    | fl h1 ll =>
      obtain ⟨z1, z2⟩ := newL_ok S3 (cut_den ll l u) q6 k3
      exact .inl ⟨_, _, rfl, by rw [hK]; exact h1.sq, z2⟩
    | ref hn =>
      simp only [slW] at q6
      split at q6
      · rename_i ws e
        obtain ⟨ho, h1, vs, rfl, ll, _⟩ := S3.get hn e
        obtain ⟨z1, z2⟩ := newL_ok S3 (cut_den ll l u) q6 k3
        exact .inl ⟨_, _, rfl, SqL.of h1, z2⟩
      · cases q6
    | _ => cases q6
theorem strsOf_ok {p : List Addr} {H : Hp} : ∀ {ws : List Mv} {vs : List V} {ys : List Str}, DenL G p H ws vs → strsOf ws = some ys → vs = ys.map V.str ∧ ws = ys.map Mv.str
  | _, _, _, .nil, h => by cases h; exact ⟨rfl, rfl⟩
  | _, _, _, .cons (w := w) (ws := ws) d l, h => by
    cases d <;> try (cases h; done)
    rename_i x
    obtain ⟨r, h1, h2⟩ := omap_some.mp (show (strsOf ws).om _ = _ from h)
    cases h2
    obtain ⟨e1, e2⟩ := strsOf_ok l h1
    exact ⟨by rw [e1]; rfl, by rw [e2]; rfl⟩
/-- x in a tuple of data -/
noncomputable def rInDT (K : PySem.W.Frag) (neg : Bool) : R2 := fun x y H Q => ∃ d ds, Dp K H x d ∧ Dp K H y (.tuple ds) ∧ SeqAt.shaped d = true ∧ SeqAt.shaped (.tuple ds) = true ∧ Q (.bl (neg != ds.any fun z => PyData.eqv z d)) H
theorem op_inDT (hu : X.A.units + 65 < cLine) : OpR X (compareOp .In) (rInDT X.K false) := by
  intro pins s σ H x y v u Q I rx ry h
  obtain ⟨d, ds, hd, he, sd, se, q⟩ := h
  obtain ⟨as, r1⟩ := Dp.reads I d x v hd rx
  obtain ⟨bs, r2⟩ := Dp.reads I (.tuple ds) y u he ry
  exact SeqAt.in_tuple_reads r2 r1 (SeqAt.canLay_of_shaped se) (SeqAt.canLay_of_shaped sd) (room_in_shaped sd hu) ⟨.bl _, H, I, rfl, by simpa using q⟩
theorem op_ninDT (hu : X.A.units + 65 < cLine) : OpR X (compareOp .NotIn) (rInDT X.K true) := by
  intro pins s σ H x y v u Q I rx ry h
  obtain ⟨d, ds, hd, he, sd, se, q⟩ := h
  obtain ⟨as, r1⟩ := Dp.reads I d x v hd rx
  obtain ⟨bs, r2⟩ := Dp.reads I (.tuple ds) y u he ry
  exact SeqAt.notIn_tuple_reads r2 r1 (SeqAt.canLay_of_shaped se) (SeqAt.canLay_of_shaped sd) (room_in_shaped sd hu) ⟨.bl _, H, I, rfl, by simpa using q⟩
theorem in_core (hK : X.K = G.K) {p : List Addr} {s : Ms} {H : Hp} {x y : Mv} {vx vy : V} {c : Bool} {neg : Bool} {Q : VK} (S : Sim G p s H) (dx : Den G p H x vx) (dy : Den G p H y vy) (h : inBo x y s = some c) (q : Q (.bl (neg != c)) H) :
    rIn X.K neg vx vy H Q ∨ (∃ d ds, Dp X.K H vx d ∧ Dp X.K H vy (.list ds) ∧ SeqAt.shaped d = true ∧ SeqAt.shaped (.list ds) = true ∧ Q (.bl (neg != ds.any fun z => PyData.eqv z d)) H) ∨ rInDT X.K neg vx vy H Q := by
  obtain ⟨ws, h1, h2⟩ := ob_some.mp h
  obtain ⟨ad, vs, rfl, hs, l⟩ := items_ok S dy h1
  split at h2
  · rename_i z ys e
    cases h2
    obtain ⟨e1, e2⟩ := strsOf_ok l e
    cases dx
    refine .inl ⟨ad, vs, rfl, by rw [hK]; exact hs, rfl, by rw [e1]; simp [flatV], ?_⟩
    have e3 : inV (V.str z) vs = ys.any fun y => decide (y = z) := by
      rw [e1]
      unfold inV
      rw [List.any_map]
      have e4 : ((fun y => eqV y (V.str z)) ∘ V.str) = fun y => decide (y = z) := by
        funext y
        exact Bool.beq_eq_decide_eq y z
      rw [e4]
    rw [e3]
    simp only [strEq_eq] at q
    cases neg
    · simpa using q
    · simpa using q
  · obtain ⟨d, g1, g2⟩ := ob_some.mp h2
    obtain ⟨ds, g3, g4⟩ := omap_some.mp g2
    subst g4
    have o1 := toD_ok S 24 _ _ _ dx g1
    obtain ⟨b1, b2, b3⟩ := toDL_ok (toD_ok S 23) l g3
    have sh : ∀ c : List PyData → PyData, (c = PyData.list ∨ c = PyData.tuple) → SeqAt.shaped (c ds) = true := fun c hc => by
      unfold SeqAt.shaped
      rcases hc with rfl | rfl
      · simp only [PyData.canLay0, b2, PyData.depth, Bool.true_and]; exact decide_eq_true (by omega)
      · simp only [PyData.canLay0, b2, PyData.depth, Bool.true_and]; exact decide_eq_true (by omega)
    rcases hs with hs | hs
    · exact .inr (.inl ⟨d, ds, by rw [hK]; exact o1.dp, by rw [hK]; exact .lst hs b1, o1.shaped (by decide), sh _ (.inl rfl), q⟩)
    · exact .inr (.inr ⟨d, ds, by rw [hK]; exact o1.dp, by rw [hK]; exact .tup hs b1, o1.shaped (by decide), sh _ (.inr rfl), q⟩)
theorem om_in (hu : X.A.units + 65 < cLine) (hK : X.K = G.K := by rfl) : OpR X (compareOp .In) (q2R G inW) := opr_imp (OpR.or op_in_seq (OpR.or (op_inD hu) (op_inDT hu))) fun x y H Q ⟨p, s, a, b, w, s', S, da, db, q, k⟩ => by
  obtain ⟨c, q1, q2⟩ := omap_some.mp q
  cases q2
  rcases in_core hK (neg := false) S da db q1 (Q := Q) (by simpa using k p _ H S Fra.refl (.bl _)) with h | ⟨d, ds, h1, h2, h3, h4, h5⟩ | h
  · exact .inl h
  · exact .inr (.inl ⟨d, ds, h1, h2, h3, h4, by simpa using h5⟩)
  · exact .inr (.inr h)
theorem om_nin (hu : X.A.units + 65 < cLine) (hK : X.K = G.K := by rfl) : OpR X (compareOp .NotIn) (q2R G ninW) := opr_imp (OpR.or op_notIn_seq (OpR.or (op_notInD hu) (op_ninDT hu))) fun x y H Q ⟨p, s, a, b, w, s', S, da, db, q, k⟩ => by
  obtain ⟨c, q1, q2⟩ := omap_some.mp q
  cases q2
  rcases in_core hK (neg := true) S da db q1 (Q := Q) (by simpa using k p _ H S Fra.refl (.bl _)) with h | ⟨d, ds, h1, h2, h3, h4, h5⟩ | h
  · exact .inl h
  · exact .inr (.inl ⟨d, ds, h1, h2, h3, h4, by simpa using h5⟩)
  · exact .inr (.inr h)
/-! ### stars -/
end
/-! ### built-ins -/
noncomputable def lenB (w : Mv) (s : Ms) : Option Nat := match w with
  | .str x => cond (Nat.ble x.length 16777216) (some x.length) none
  | .tup ws => some ws.length
  | .fl ws => some ws.length
  | .ref n => match s.get n with
    | some (.lst ws) => some ws.length
    | _ => none
  | _ => none
noncomputable def lenW : Fn := fun ws s => match ws with
  | [w] => (lenB w s).om fun (n : Nat) => (Mv.int (n : Int), s)
  | _ => none
noncomputable def listW : Fn := fun ws s => match ws with
  | [w] => (items w s).ob fun xs => newL xs s
  | _ => none
noncomputable def tupleW : Fn := fun ws s => match ws with
  | [w] => (items w s).ob fun xs => newT xs s
  | _ => none
noncomputable def boolsOf : List Mv → Option (List Bool)
  | [] => some []
  | .bl x :: ws => (boolsOf ws).om fun r => x :: r
  | _ => none
noncomputable def lstOf (w : Mv) (s : Ms) : Option (List Mv) := match w with
  | .tup _ => none
  | _ => items w s
noncomputable def allW : Fn := fun ws s => match ws with
  | [w] => (lstOf w s).ob fun xs => (boolsOf xs).om fun bs => (.bl (bs.all id), s)
  | _ => none
noncomputable def anyW : Fn := fun ws s => match ws with
  | [w] => (lstOf w s).ob fun xs => (boolsOf xs).om fun bs => (.bl (bs.any id), s)
  | _ => none
noncomputable def absW : Fn := fun ws s => match ws with
  | [.int i] => some (.int (if i < 0 then -i else i), s)
  | _ => none
noncomputable def min2W : Fn := fun ws s => match ws with
  | [.int i, .int j] => some (.int (if j < i then j else i), s)
  | _ => none
noncomputable def intW : Fn := fun ws s => match ws with
  | [.int i] => some (.int i, s)
  | [.bl k] => some (.int (if k then 1 else 0), s)
  | _ => none
noncomputable def tyOf : Mv → Ms → Option Mty
  | .non, _ => some .none
  | .bl _, _ => some .bool
  | .int _, _ => some .int
  | .str _, _ => some .str
  | .tup _, _ => some .tuple
  | .fl _, _ => some .list
  | .ref n, s => match s.get n with
    | some (.lst _) => some .list
    | some (.dk _) => some .dict
    | _ => none
  | _, _ => none
noncomputable def isaT (t c : Mty) : Bool := decide (t = c) || (decide (t = .bool) && decide (c = .int))
noncomputable def isiW : Fn := fun ws s => match ws with
  | [w, .ty c] => (tyOf w s).om fun t => (.bl (isaT t c), s)
  | _ => none
section
variable {X : Cx} {G : Mg} {e a b : Expr} {pos : Pos}
theorem lstOf_ok {p : List Addr} {s : Ms} {H : Hp} {w : Mv} {v : V} {ws : List Mv} (S : Sim G p s H) (d : Den G p H w v) (h : lstOf w s = some ws) : ∃ a vs, v = .ref a ∧ SqL G.K H a vs ∧ DenL G p H ws vs := by
  cases d with
  | tup h1 l => cases h
  | fl h1 l => cases h; exact ⟨_, _, rfl, h1.sq, l⟩
  | ref hn =>
    simp only [lstOf, items] at h
    split at h
    · rename_i ws' e
      cases h
      obtain ⟨ho, h1, vs, rfl, l, _⟩ := S.get hn e
      exact ⟨_, _, rfl, SqL.of h1, l⟩
    · cases h
  | _ => cases h
theorem lenB_ok {p : List Addr} {s : Ms} {H : Hp} {w : Mv} {v : V} {n : Nat} (S : Sim G p s H) (d : Den G p H w v) (h : lenB w s = some n) : LenV G.K v H n := by
  cases d with
  | str x =>
    have q' : cond (Nat.ble x.length 16777216) (some x.length) none = some n := h
    cases e : Nat.ble x.length 16777216 with
    | false => rw [e] at q'; cases q'
    | true => rw [e] at q'; cases q'; exact ⟨ble_sz e, rfl⟩
  | tup h1 l => cases h; exact .inr ⟨_, h1, l.length⟩
  | fl h1 l => cases h; exact .inl ⟨_, h1.sq, l.length⟩
  | ref hn =>
    simp only [lenB] at h
    split at h
    · rename_i ws e
      cases h
      obtain ⟨ho, h1, vs, rfl, l, _⟩ := S.get hn e
      exact .inl ⟨_, SqL.of h1, l.length⟩
    · cases h
  | _ => cases h
theorem cm_len (hK : X.K = G.K := by rfl) : CallR X (.builtin "len") (rF G lenW) := cal_imp call_len fun xs H Q ⟨p, s, ws, w, s', S, l, q, k⟩ => by
  match ws, l, q with
  | [w0], .cons d .nil, q =>
    obtain ⟨n, g1, g2⟩ := omap_some.mp (show (lenB w0 s).om (fun (n : Nat) => (Mv.int (n : Int), s)) = some (w, s') from q)
    cases g2
    exact ⟨_, n, rfl, by rw [hK]; exact lenB_ok S d g1, k p _ H S Fra.refl (.int _)⟩
theorem cm_list (hK : X.K = G.K := by rfl) : CallR X (.type "list") (rF G listW) := cal_imp call_list_of fun xs H Q ⟨p, s, ws, w, s', S, l, q, k⟩ => by
  match ws, l, q with
  | [w0], .cons d .nil, q =>
    obtain ⟨ys, g1, g2⟩ := ob_some.mp (show (items w0 s).ob _ = some (w, s') from q)
    obtain ⟨ad, vs, rfl, hs, ll⟩ := items_ok S d g1
    exact ⟨ad, vs, rfl, by rw [hK]; exact hs, (newL_ok S ll g2 k).2⟩
theorem cm_tuple (hK : X.K = G.K := by rfl) : CallR X (.type "tuple") (rF G tupleW) := cal_imp call_tuple_of fun xs H Q ⟨p, s, ws, w, s', S, l, q, k⟩ => by
  match ws, l, q with
  | [w0], .cons d .nil, q =>
    obtain ⟨ys, g1, g2⟩ := ob_some.mp (show (items w0 s).ob _ = some (w, s') from q)
    obtain ⟨ad, vs, rfl, hs, ll⟩ := items_ok S d g1
    obtain ⟨z1, z2, z3⟩ := newT_ok S ll g2 k
    refine ⟨ad, vs, rfl, ?_⟩
    rcases hs with hs | hs
    · exact .inl ⟨by rw [hK]; exact hs, z2⟩
    · exact .inr ⟨by rw [hK]; exact hs, z3 _ hs⟩
theorem boolsOf_ok {p : List Addr} {H : Hp} : ∀ {ws : List Mv} {vs : List V} {ys : List Bool}, DenL G p H ws vs → boolsOf ws = some ys → vs = ys.map V.bl
  | _, _, _, .nil, h => by cases h; rfl
  | _, _, _, .cons (w := w) (ws := ws) d l, h => by
    cases d <;> try (cases h; done)
    obtain ⟨r, h1, h2⟩ := omap_some.mp (show (boolsOf ws).om _ = _ from h)
    cases h2
    rw [boolsOf_ok l h1]
    rfl
theorem cm_all (hc : X.calm = true := by rfl) (hK : X.K = G.K := by rfl) : CallR X (.builtin "all") (rF G allW) := cal_imp (cr_all hc) fun xs H Q ⟨p, s, ws, w, s', S, l, q, k⟩ => by
  match ws, l, q with
  | [w0], .cons d .nil, q =>
    obtain ⟨ys, g1, g2⟩ := ob_some.mp (show (lstOf w0 s).ob _ = some (w, s') from q)
    obtain ⟨bs, g3, g4⟩ := omap_some.mp g2
    cases g4
    obtain ⟨ad, vs, rfl, hs, ll⟩ := lstOf_ok S d g1
    refine ⟨ad, bs, rfl, ?_, k p _ H S Fra.refl (.bl _)⟩
    rw [hK, ← boolsOf_ok ll g3]
    exact hs
theorem cm_abs : CallR X (.builtin "abs") (rF G absW) := cal_imp call_abs fun xs H Q ⟨p, s, ws, w, s', S, l, q, k⟩ => by
  match ws, l, q with
  | [.int i], .cons (.int _) .nil, q => cases q; exact ⟨i, rfl, k p _ H S Fra.refl (.int _)⟩
theorem cm_min2 (hc : X.calm = true := by rfl) : CallR X (.builtin "min") (rF G min2W) := cal_imp (call_min2 hc) fun xs H Q ⟨p, s, ws, w, s', S, l, q, k⟩ => by
  match ws, l, q with
  | [.int i, .int j], .cons (.int _) (.cons (.int _) .nil), q => cases q; exact ⟨i, j, rfl, k p _ H S Fra.refl (.int _)⟩
theorem cm_int : CallR X (.type "int") (rF G intW) := cal_imp call_int1 fun xs H Q ⟨p, s, ws, w, s', S, l, q, k⟩ => by
  match ws, l, q with
  | [.int i], .cons (.int _) .nil, q => cases q; exact .inl ⟨i, rfl, k p _ H S Fra.refl (.int _)⟩
  | [.bl b], .cons (.bl _) .nil, q => cases q; exact .inr ⟨b, rfl, k p _ H S Fra.refl (.int _)⟩
/-! isinstance -/
theorem tyOf_ok {p : List Addr} {s : Ms} {H : Hp} {w : Mv} {v : V} {t : Mty} (S : Sim G p s H) (d : Den G p H w v) (h : tyOf w s = some t) : TyX G.K H v (.type t.name) := by
  cases d with
  | non => cases h; exact .base .non
  | bl b => cases h; exact .base (.bl b)
  | int i => cases h; exact .base (.int i)
  | str x => cases h; exact .base (.str x)
  | tup h1 l =>
    cases h
    rcases h1 with h1 | ⟨o, its, n, h1, h2, _⟩
    · rcases h1 with h1 | ⟨o, h1⟩
      · exact .base (.tup h1)
      · exact .fTuple h1
    · exact .kTuple h1 h2
  | fl h1 l =>
    cases h
    rcases h1.sq with h1 | ⟨o, its, n, h1, h2, _⟩
    · rcases h1 with h1 | ⟨o, h1⟩
      · exact .base (.lst h1)
      · exact .base (.frz h1)
    · exact .kList h1 h2
  | ref hn =>
    simp only [tyOf] at h
    split at h
    · rename_i ws e
      cases h
      obtain ⟨ho, h1, vs, rfl, _⟩ := S.get hn e
      exact .base (.lst h1)
    · rename_i ws e
      cases h
      obtain ⟨ho, h1, vs, rfl, _⟩ := S.get hn e
      exact .base (.dK h1)
    · cases h
  | ty t => cases h
  | cls c => cases h
theorem isaT_ok (t c : Mty) : kitB t.name c.name = some (isaT t c) := by cases t <;> cases c <;> decide +kernel
theorem kitAny_ok {K : PySem.W.Frag} (t : Mty) : ∀ ts : List Mty, PySem.W.kitAny K (.type t.name) (ts.map fun t => Value.type t.name) = some (ts.any fun c => isaT t c)
  | [] => kitAny_nil
  | c :: ts => by
    refine kitAny_cons (b := isaT t c) (kit_ty (isaT_ok t c)) (fun h => ?_) (fun h => ?_)
    · rw [kitAny_ok t ts]; simp [h]
    · simp [h]
theorem cm_isi (hK : X.K = G.K := by rfl) : CallR X (.builtin "isinstance") (rF G isiW) := cal_imp call_isi fun xs H Q ⟨p, s, ws, w, s', S, l, q, k⟩ => by
  match ws, l, q with
  | [w0, .ty c], .cons d (.cons (.ty _) .nil), q =>
    obtain ⟨t, g1, g2⟩ := omap_some.mp (show (tyOf w0 s).om _ = some (w, s') from q)
    cases g2
    exact ⟨_, _, _, _, _, rfl, .ty _, by rw [hK]; exact tyOf_ok S d g1, kit_ty (isaT_ok t c), k p _ H S Fra.refl (.bl _)⟩
noncomputable def tTys (ts : List Mty) : TA := fun _ H Q => Q (ts.map fun t => V.ty t.name) H
theorem py_nil : PA X [] (tTys []) := pa_nil
theorem py_cons {es : List Expr} {t : Mty} {ts : List Mty} (h : PE X e (tC (.ty t.name))) (hr : PA X es (tTys ts)) (hs : starEach (e :: es) X.env = (false, eval e X.env) :: starEach es X.env := by rfl) : PA X (e :: es) (tTys (t :: ts)) := pa_imp (pa_cons h hr hs) fun σ H Q q => q
noncomputable def misiT (A : Fe) (ts : List Mty) : Fe := fun r s => (A r s).ob fun x => (tyOf x.1 x.2).om fun t => (.bl (ts.any fun c => isaT t c), x.2)
theorem paired_ty : ∀ ts : List Mty, Paired ClsV (ts.map fun t => V.ty t.name) (ts.map fun t => Value.type t.name)
  | [] => .nil
  | t :: ts => .cons (.ty _) (paired_ty ts)
theorem pm_isiT {A : Fe} {ts : List Mty} {es : List Expr} {k0 : Nat} {p1 p2 : Pos} (ha : PE X a (tI G A)) (hes : PA X es (tTys ts)) (hg : Gl X "isinstance") (hm : X.mg "isinstance" = none) (hl : ts.length ≤ 1000 := by decide) (hs : starEach [a, .Tuple es k0 p2] X.env = (false, eval a X.env) :: starEach [.Tuple es k0 p2] X.env := by rfl) (hK : X.K = G.K := by rfl) (hpl : (backTo pos (starEach [.Tuple es k0 p2] X.env)).any (·.1) = false := by rfl) :
    PE X (.Call (.Name "isinstance" p1) [a, .Tuple es k0 p2] [] pos) (tI G (misiT A ts)) :=
  pe_imp (pe_callB call_isiT hg hm (by decide +kernel) (pa_cons ha (pa_cons (pe_tup hes) pa_nil) hs) (he := hs) (hpl := hpl)) fun σ H Q ⟨p, s, r, w, s', S, E, q, k⟩ => by
    obtain ⟨⟨x, s1⟩, q1, q2⟩ := ob_some.mp q
    obtain ⟨t, q3, q4⟩ := omap_some.mp q2
    cases q4
    refine ⟨p, s, r, x, s1, S, E, q1, fun p1 v1 H1 S1 f1 d1 => ⟨by rw [List.length_map]; exact Nat.le_trans hl (by rw [sz_eq]; decide), fun T hT => ?_⟩⟩
    have f2 := Mi.fra_new (p := p1) (o := HO.tup (ts.map fun t => V.ty t.name)) hT
    have S2 := S1.fra_new (o := HO.tup (ts.map fun t => V.ty t.name)) hT
    exact ⟨_, T, _, _, _, _, rfl, upd_same, paired_ty ts, by rw [hK]; exact tyOf_ok S2 (d1.fra S1 f2) q3, kitAny_ok t ts, k _ _ _ S2 (f1.trans f2) (.bl _)⟩
/-! sorted texts, the least text -/
theorem ltCps_eq : ∀ x y : List Nat, ltCps x y = decide (x < y)
  | [], [] => by simp [ltCps]
  | [], _ :: _ => by simp [ltCps]
  | _ :: _, [] => by simp [ltCps]
  | a :: x, b :: y => by
    have ih := ltCps_eq x y
    unfold ltCps
    rw [ih]
    by_cases h1 : a < b
    · simp [h1, List.cons_lt_cons_iff]
    · by_cases h2 : a = b
      · simp [h2, List.cons_lt_cons_iff]
      · simp [h1, h2, List.cons_lt_cons_iff]
end

end
section
/-! ### instances: fields by number -/
noncomputable def getM (k : Nat) : List (Nat × Mv) → Option Mv
  | [] => none
  | (j, w) :: r => cond (Nat.beq j k) (some w) (getM k r)
noncomputable def putM (k : Nat) (w : Mv) : List (Nat × Mv) → List (Nat × Mv)
  | [] => [(k, w)]
  | (j, x) :: r => cond (Nat.beq j k) ((j, w) :: r) ((j, x) :: putM k w r)
section
variable {X : Cx} {G : Mg} {e o : Expr} {pos : Pos}
/-- the fields of the mirror and of the object -/
noncomputable def FsR (G : Mg) (p : List Addr) (H : Hp) (fs : List (Nat × Mv)) (fs' : List (Str × V)) : Prop := fs'.map (·.1) = fs.map (fun q => G.nm q.1) ∧ DenL G p H (fs.map (·.2)) (fs'.map (·.2)) ∧ ∀ q ∈ fs, q.1 < G.nf
theorem FsR.cons {p : List Addr} {H : Hp} {q : Nat × Mv} {q' : Str × V} {fs : List (Nat × Mv)} {fs' : List (Str × V)} (h : FsR G p H (q :: fs) (q' :: fs')) : q'.1 = G.nm q.1 ∧ Den G p H q.2 q'.2 ∧ q.1 < G.nf ∧ FsR G p H fs fs' := by
  obtain ⟨h1, h2, h3⟩ := h
  simp only [List.map_cons, List.cons.injEq] at h1
  cases h2 with
  | cons d l => exact ⟨h1.1, d, h3 q (by simp), h1.2, l, fun z hz => h3 z (by simp [hz])⟩
theorem FsR.mk {p : List Addr} {H : Hp} {q : Nat × Mv} {q' : Str × V} {fs : List (Nat × Mv)} {fs' : List (Str × V)} (h1 : q'.1 = G.nm q.1) (d : Den G p H q.2 q'.2) (hb : q.1 < G.nf) (h : FsR G p H fs fs') : FsR G p H (q :: fs) (q' :: fs') := by
  obtain ⟨g1, g2, g3⟩ := h
  refine ⟨by simp [h1, g1], .cons d g2, fun z hz => ?_⟩
  rcases List.mem_cons.mp hz with rfl | hz
  · exact hb
  · exact g3 z hz
theorem FsR.get {p : List Addr} {H : Hp} {k : Nat} (hk : k < G.nf) : ∀ {fs : List (Nat × Mv)} {fs' : List (Str × V)} {w : Mv}, FsR G p H fs fs' → getM k fs = some w → ∃ v, fs'.lookup (G.nm k) = some v ∧ Den G p H w v
  | [], fs', w, h, e => by cases e
  | (j, x) :: fs, [], w, h, e => by simp [FsR] at h
  | (j, x) :: fs, (n, v) :: fs', w, h, e => by
    obtain ⟨h1, d, hb, h2⟩ := h.cons
    have h1' : n = G.nm j := h1
    unfold getM at e
    by_cases hjk : j = k
    · subst hjk
      rw [cond_t beq_t] at e
      cases e
      exact ⟨v, by rw [h1']; simp [List.lookup], d⟩
    · rw [cond_f (beq_f hjk)] at e
      obtain ⟨v', g1, g2⟩ := FsR.get hk h2 e
      refine ⟨v', ?_, g2⟩
      have hne : (G.nm k == n) = false := by
        rw [h1']
        exact beq_eq_false_iff_ne.mpr fun z => hjk (G.inj j k hb hk z.symm)
      simp only [List.lookup, hne]
      exact g1
theorem FsR.put {p : List Addr} {H : Hp} {k : Nat} {w : Mv} {v : V} (hk : k < G.nf) (d : Den G p H w v) : ∀ {fs : List (Nat × Mv)} {fs' : List (Str × V)}, FsR G p H fs fs' → FsR G p H (putM k w fs) (putF (G.nm k) v fs')
  | [], [], h => .mk rfl d hk ⟨rfl, .nil, fun z hz => by cases hz⟩
  | [], _ :: _, h => by simp [FsR] at h
  | _ :: _, [], h => by simp [FsR] at h
  | (j, x) :: fs, (n, u) :: fs', h => by
    obtain ⟨h1, d1, hb, h2⟩ := h.cons
    have h1' : n = G.nm j := h1
    unfold putM putF
    by_cases hjk : j = k
    · subst hjk
      rw [cond_t beq_t, if_pos h1']
      exact .mk h1 d hb h2
    · have hne : ¬ n = G.nm k := fun z => hjk (G.inj j k hb hk (h1'.symm.trans z))
      rw [cond_f (beq_f hjk), if_neg hne]
      exact .mk h1 d1 hb (FsR.put hk d h2)
theorem FsR.len {p : List Addr} {H : Hp} {fs : List (Nat × Mv)} {fs' : List (Str × V)} (h : FsR G p H fs fs') : fs'.length = fs.length := by
  have := congrArg List.length h.1
  simpa using this
theorem FsR.no {p : List Addr} {H : Hp} {m : Str} (hm : ∀ k, k < G.nf → G.nm k ≠ m) : ∀ {fs : List (Nat × Mv)} {fs' : List (Str × V)}, FsR G p H fs fs' → fs'.lookup m = none
  | _, [], _ => rfl
  | [], _ :: _, h => by simp [FsR] at h
  | (j, x) :: fs, (n, u) :: fs', h => by
    obtain ⟨h1, d1, hb, h2⟩ := h.cons
    have h1' : n = G.nm j := h1
    have hne : (m == n) = false := beq_eq_false_iff_ne.mpr fun z => hm j hb (h1'.symm.trans z.symm)
    simp only [List.lookup, hne]
    exact FsR.no hm h2
variable {CX : CXT} {k : Nat} {fa : Addr} {fd : FuncData} {ps : List Str} {E : XK} {f : Fn} {A : Fa} {c : Nat}
end

end
section
/-! ### methods of lists, stores by place -/
noncomputable def mbmL (f : Nat → List Mv → List Mv → Ms → Option (Mv × Ms)) (O : Fe) (A : Fa) : Fe := fun r s => (O r s).ob fun x => match x.1 with
  | .ref n => match x.2.get n with
    | some (.lst _) => (A r x.2).ob fun y => match y.2.get n with
      | some (.lst xs) => f n xs y.1 y.2
      | _ => none
    | _ => none
  | _ => none
noncomputable def appW (n : Nat) (xs ws : List Mv) (s : Ms) : Option (Mv × Ms) := match ws with
  | [w] => cond (Nat.blt xs.length 16777216) (some (.non, s.put n (.lst (xs ++ [w])))) none
  | _ => none
noncomputable def popW (n : Nat) (xs ws : List Mv) (s : Ms) : Option (Mv × Ms) := match ws with
  | [.int i] => (ixN xs.length i).ob fun j => (xs[j]?).om fun w => (w, s.put n (.lst (xs.eraseIdx j)))
  | _ => none
section
variable {X : Cx} {G : Mg} {e o : Expr} {pos : Pos}
/-- what the mirror's list method must be, over the abstract heap -/
noncomputable def LmR (G : Mg) (f : Nat → List Mv → List Mv → Ms → Option (Mv × Ms)) (r : V → List V → Hp → VK → Prop) : Prop := ∀ p s H n a xs vs ws us w s' Q, Sim G p s H → p[n]? = some a → s.get n = some (.lst xs) → H a = some (.lst vs) → DenL G p H xs vs → vs.length ≤ sizeLine → DenL G p H ws us → f n xs ws s = some (w, s') → After G p H w s' Q → r (.ref a) us H Q
theorem pm_bmL {f : Nat → List Mv → List Mv → Ms → Option (Mv × Ms)} {r : V → List V → Hp → VK → Prop} {O : Fe} {A : Fa} {name : Str} {es : List Expr} {apos : Pos} (hf : LmR G f r)
    (h : PE X (.Call (.Attribute o name apos) (e :: es) [] pos) (tBM X.K "list" r (tI G O) (tA G A))) : PE X (.Call (.Attribute o name apos) (e :: es) [] pos) (tI G (mbmL f O A)) := pe_imp h fun σ H Q ⟨p, s, rr, w, s', S, E, q, k⟩ => by
  obtain ⟨⟨x, s1⟩, q1, q2⟩ := ob_some.mp q
  refine ⟨p, s, rr, x, s1, S, E, q1, fun p1 v1 H1 S1 f1 d1 => ?_⟩
  cases d1 <;> try (cases q2; done)
  rename_i n a hn
  simp only at q2
  split at q2
  · rename_i zs e
    obtain ⟨ho, h1, vs, rfl, _, _⟩ := S1.get hn e
    obtain ⟨⟨ys, s2⟩, q3, q4⟩ := ob_some.mp q2
    refine ⟨.inl ⟨rfl, vs, SqL.of h1⟩, p1, s1, rr, ys, s2, S1, E.fra S f1, q3, fun p2 us H2 S2 f2 l2 => ?_⟩
    simp only at q4
    split at q4
    · rename_i xs e2
      obtain ⟨ho, h2, vs2, rfl, ll, hz⟩ := S2.get (f2.at hn) e2
      exact hf p2 s2 H2 n a xs vs2 ys us w s' Q S2 (f2.at hn) e2 h2 ll hz l2 q4 (k.of (f1.trans f2))
    · cases q4
  · cases q2
theorem lm_app : LmR G appW rAppend := by
  intro p s H n a xs vs ws us w s' Q S hn en ha l hz lw q k
  match ws, lw, q with
  | [w0], .cons d .nil, q =>
    have q' : cond (Nat.blt xs.length 16777216) (some (Mv.non, s.put n (.lst (xs ++ [w0])))) none = some (w, s') := q
    cases e : Nat.blt xs.length 16777216 with
    | false => rw [e] at q'; cases q'
    | true =>
      rw [e] at q'; cases q'
      have hlt : vs.length < sizeLine := by rw [← l.length, sz_eq]; exact Nat.blt_eq.mp e
      obtain ⟨S2, f2⟩ := S.put hn en rfl (ho := .lst (vs ++ [_])) (o := .lst (xs ++ [w0])) (fun _ z => by cases z) ⟨_, rfl, l.append (.cons d .nil), by rw [List.length_append]; exact hlt⟩
      exact ⟨a, vs, _, rfl, rfl, ha, hlt, k p _ _ S2 f2 .non⟩
theorem lm_pop : LmR G popW rPopAt := by
  intro p s H n a xs vs ws us w s' Q S hn en ha l hz lw q k
  match ws, lw, q with
  | [.int i], .cons (.int _) .nil, q =>
    obtain ⟨j, g1, g2⟩ := ob_some.mp (show (ixN xs.length i).ob _ = some (w, s') from q)
    obtain ⟨x, g3, g4⟩ := omap_some.mp g2
    cases g4
    obtain ⟨v, g5, d⟩ := l.get g3
    rw [l.length] at g1
    obtain ⟨h1, h2, h3, h4⟩ := ixN_seq g1
    have hl := line63
    obtain ⟨S2, f2⟩ := S.put hn en rfl (ho := .lst (vs.eraseIdx j)) (o := .lst (xs.eraseIdx j)) (fun _ z => by cases z) ⟨_, rfl, l.erase j, Nat.le_trans (List.length_eraseIdx_le ..) hz⟩
    exact ⟨a, vs, i, j, v, rfl, rfl, ha, by omega, by omega, h1, g5, k p _ _ S2 f2 (d.fra S f2)⟩
/-! ### zip -/
noncomputable def zipM : List Mv → List Mv → List Mv
  | a :: x, b :: y => .tup [a, b] :: zipM x y
  | _, _ => []
end

end
section
theorem new_tup {G : Mg} {p : List Addr} {s : Ms} {H : Hp} {T : Addr} {ws : List Mv} {vs : List V} (S : Sim G p s H) (hT : H T = none) (l : DenL G p H ws vs) : Sim G p s (upd H T (.tup vs)) ∧ Fra p H p (upd H T (.tup vs)) ∧ Den G p (upd H T (.tup vs)) (.tup ws) (.ref T) := by
  have f := Mi.fra_new (p := p) (o := HO.tup vs) hT
  exact ⟨S.fra_new hT, f, .tup (SqT.of upd_same) (l.fra S f)⟩
theorem zipM_get : ∀ (xs ys : List Mv) (i : Nat), (zipM xs ys)[i]? = match xs[i]?, ys[i]? with
    | some x, some y => some (.tup [x, y])
    | _, _ => none
  | [], ys, i => by simp [zipM]
  | x :: xs, [], i => by simp [zipM]
  | x :: xs, y :: ys, 0 => by simp [zipM]
  | x :: xs, y :: ys, i + 1 => by simpa [zipM] using zipM_get xs ys i
section
variable {X : Cx} {G : Mg} {e : Expr} {pos : Pos}
theorem itr_zl {p0 : List Addr} {H0 : Hp} {n m : Nat} {a b : Addr} (h : p0[n]? = some a) (h' : p0[m]? = some b) : ItR G (Itz X.K a b) (.zl n m) p0 H0 := by
  intro p s H i S st fz
  have ha := st.ix n a h
  have hb := st.ix m b h'
  have key : ∀ o, It0.at (.zl n m) i s = some o → ∃ xs ys vs us, s.get n = some (.lst xs) ∧ s.get m = some (.lst ys) ∧ H a = some (.lst vs) ∧ H b = some (.lst us) ∧ DenL G p H xs vs ∧ DenL G p H ys us ∧ o = match xs[i]?, ys[i]? with
      | some x, some y => some (.tup [x, y])
      | _, _ => none := by
    intro o q
    simp only [It0.at, lget_eq] at q
    split at q
    · rename_i xs ys e1 e2
      obtain ⟨ho, h1, vs, rfl, l1, _⟩ := S.get ha e1
      obtain ⟨ho, h2, us, rfl, l2, _⟩ := S.get hb e2
      exact ⟨xs, ys, vs, us, e1, e2, h1, h2, l1, l2, (Option.some.inj q).symm⟩
    · cases q
  constructor
  · intro q
    obtain ⟨xs, ys, vs, us, e1, e2, h1, h2, l1, l2, eo⟩ := key _ q
    refine ⟨vs, us, SqL.of h1, SqL.of h2, ?_⟩
    cases ex : xs[i]? with
    | none => exact .inl (by rw [← l1.length]; exact List.getElem?_eq_none_iff.mp ex)
    | some x =>
      cases ey : ys[i]? with
      | none => exact .inr (by rw [← l2.length]; exact List.getElem?_eq_none_iff.mp ey)
      | some y => rw [ex, ey] at eo; cases eo
  · intro w q
    obtain ⟨xs, ys, vs, us, e1, e2, h1, h2, l1, l2, eo⟩ := key _ q
    cases ex : xs[i]? with
    | none => rw [ex] at eo; cases eo
    | some x =>
      cases ey : ys[i]? with
      | none => rw [ex, ey] at eo; cases eo
      | some y =>
        rw [ex, ey] at eo
        cases eo
        obtain ⟨v, hv, dv⟩ := l1.get ex
        obtain ⟨u, hu, du⟩ := l2.get ey
        refine ⟨⟨vs, us, v, u, SqL.of h1, SqL.of h2, hv, hu⟩, fun v' H' yl => ?_⟩
        obtain ⟨T, x', y', rfl, hT, rfl, g1, g2⟩ := yl
        have e3 := g1 vs (SqL.of h1)
        have e4 := g2 us (SqL.of h2)
        rw [hv] at e3; cases e3
        rw [hu] at e4; cases e4
        exact new_tup S hT (.cons dv (.cons du .nil))
theorem itr_zt {p0 : List Addr} {H0 : Hp} {xs ys : List Mv} {a b : Addr} {vs us : List V} (h : SqT G.K H0 a vs) (h' : SqT G.K H0 b us) (l : DenL G p0 H0 xs vs) (l' : DenL G p0 H0 ys us) (hK : X.K = G.K) : ItR G (RZ.ItzT X.K a b) (.seq (zipM xs ys)) p0 H0 := by
  intro p s H i S st fz
  have h1 : SqT X.K H a vs := by rw [hK]; exact Stays.tup (G := G) st h
  have h2 : SqT X.K H b us := by rw [hK]; exact Stays.tup (G := G) st h'
  have l1 := l.stay st
  have l2 := l'.stay st
  constructor
  · intro q
    have q' : (zipM xs ys)[i]? = none := by simpa [It0.at, lget_eq] using q
    rw [zipM_get] at q'
    refine ⟨vs, us, h1, h2, ?_⟩
    cases ex : xs[i]? with
    | none => exact .inl (by rw [← l1.length]; exact List.getElem?_eq_none_iff.mp ex)
    | some x =>
      cases ey : ys[i]? with
      | none => exact .inr (by rw [← l2.length]; exact List.getElem?_eq_none_iff.mp ey)
      | some y => rw [ex, ey] at q'; cases q'
  · intro w q
    have q' : (zipM xs ys)[i]? = some w := by simpa [It0.at, lget_eq] using q
    rw [zipM_get] at q'
    cases ex : xs[i]? with
    | none => rw [ex] at q'; cases q'
    | some x =>
      cases ey : ys[i]? with
      | none => rw [ex, ey] at q'; cases q'
      | some y =>
        rw [ex, ey] at q'
        cases q'
        obtain ⟨v, hv, dv⟩ := l1.get ex
        obtain ⟨u, hu, du⟩ := l2.get ey
        refine ⟨⟨vs, us, v, u, h1, h2, hv, hu⟩, fun v' H' yl => ?_⟩
        obtain ⟨T, x', y', rfl, hT, rfl, g1, g2⟩ := yl
        have e3 := g1 vs h1
        have e4 := g2 us h2
        rw [hv] at e3; cases e3
        rw [hu] at e4; cases e4
        exact new_tup S hT (.cons dv (.cons du .nil))
noncomputable def miZ (A : Fa) : Fi := fun r s => (A r s).ob fun x => match x.1 with
  | [.ref n, .ref m] => match x.2.get n, x.2.get m with
    | some (.lst _), some (.lst _) => some (.zl n m, x.2)
    | _, _ => none
  | [.tup xs, .tup ys] => some (.seq (zipM xs ys), x.2)
  | _ => none
theorem im_zip {e2 : Expr} {A : Fa} {q tpos : Pos} {elts : List Expr} {kk : Nat} (hg : Gl X "zip") (hm : X.mg "zip" = none) (ha : PA X [e, e2] (tA G A))
    (hs : starEach [e, e2] X.env = (false, eval e X.env) :: starEach [e2] X.env := by rfl) (hpl : (backTo pos (starEach [e2] X.env)).any (·.1) = false := by rfl) (hK : X.K = G.K := by rfl) :
    PI X (.Tuple elts kk tpos) (.Call (.Name "zip" q) [e, e2] [] pos) (tIt G (miZ A)) := pi_imp (RZ.pi_zipA hg hm ha hs hpl) fun σ H R ⟨p, s, r, it, s', S, E, q, k⟩ => by
  obtain ⟨⟨x, s1⟩, q1, q2⟩ := ob_some.mp q
  refine ⟨p, s, r, x, s1, S, E, q1, fun p1 vs H1 S1 f1 l1 => ?_⟩
  simp only at q2
  split at q2
  · rename_i n m
    match l1 with
    | .cons (.ref hn) (.cons (.ref hm') .nil) =>
      split at q2
      · rename_i xs ys e1 e2
        cases q2
        obtain ⟨ho, h1, vs, rfl, _, _⟩ := S1.get hn e1
        obtain ⟨ho, h2, us, rfl, _, _⟩ := S1.get hm' e2
        exact ⟨_, _, vs, us, rfl, .inl ⟨SqL.of h1, SqL.of h2, k p1 H1 _ S1 f1 (itr_zl hn hm')⟩⟩
      · cases q2
  · rename_i xs ys
    cases q2
    match l1 with
    | .cons (.tup h1 l2) (.cons (.tup h2 l3) .nil) => exact ⟨_, _, _, _, rfl, .inr ⟨by rw [hK]; exact h1, by rw [hK]; exact h2, k p1 H1 _ S1 f1 (itr_zt h1 h2 l2 l3 hK)⟩⟩
  · cases q2
/-! ### enumerate of a tuple -/
end

end
section
section
variable {X : Cx} {G : Mg} {pos : Pos}
theorem pm_int {i j} : PE X (.Constant (.int i) j pos) (tI G (mcon (.int i))) := pm_con pe_int fun _ _ _ _ => .int _
theorem pm_bl {b j} : PE X (.Constant (.bool b) j pos) (tI G (mcon (.bl b))) := pm_con pe_bl fun _ _ _ _ => .bl _
theorem pm_non {j} : PE X (.Constant .none j pos) (tI G (mcon .non)) := pm_con pe_non fun _ _ _ _ => .non
theorem pm_str {x y : Str} {j} (h : x = y) : PE X (.Constant (.str x) j pos) (tI G (mcon (.str y))) := by subst h; exact pm_con pe_str fun _ _ _ _ => .str _
theorem pm_gint {x : Str} {i : Int} (hm : ∃ t, X.mg x = some (.int i t)) (hg : Gl X x) (hd : (x == ("__debug__" : Str)) = false := by decide) : PE X (.Name x pos) (tI G (mcon (.int i))) := by
  obtain ⟨t, hm⟩ := hm
  exact pm_con (v := .int i) (pe_glob (v := .int i) hg hm ⟨t, rfl⟩ hd) fun _ _ _ _ => .int _
theorem pm_gstr {x y z : Str} (hm : ∃ t, X.mg x = some (.str y t)) (h : y = z) (hg : Gl X x) (hd : (x == ("__debug__" : Str)) = false := by decide) : PE X (.Name x pos) (tI G (mcon (.str z))) := by
  subst h
  obtain ⟨t, hm⟩ := hm
  exact pm_con (v := .str y) (pe_glob (v := .str y) hg hm ⟨t, rfl⟩ hd) fun _ _ _ _ => .str _
theorem pm_gtup {x : Str} {a : Addr} {vs : List V} {ws : List Mv} (hm : X.mg x = some (.ref a)) (hs : ∀ H, SqT G.K H a vs) (l : ∀ p H, DenL G p H ws vs) (hg : Gl X x) (hd : (x == ("__debug__" : Str)) = false := by decide) : PE X (.Name x pos) (tI G (mcon (.tup ws))) :=
  pm_con (v := .ref a) (pe_glob (v := .ref a) hg hm rfl hd) fun p _ H _ => .tup (hs H) (l p H)
theorem fn_none {P : Program} {w : World} {K : PySem.W.Frag} {mg : Str → Option Value} {base : Heap} {CX : CXT} {k : Nat} {f : Addr} {fd : FuncData} {ps : List Str} : FnOk P w K mg base CX k f fd ps (spM G (fun _ _ => none)) :=
  ⟨fun vs H Q E h => (by obtain ⟨_, _, _, _, _, _, _, z, _⟩ := h; cases z), fun A outer s H args us vs Q E hr he hb hv h => (by obtain ⟨_, _, _, _, _, _, _, z, _⟩ := h; cases z)⟩
theorem u65 {k : Nat} {A : Around} (r : Room k A) : A.units + 65 < cLine := by have := r.un; omega
theorem sm_for' {tg iter : Expr} {body : List Stmt} {I : Fi} {T : Tg} {B : Fs} (hp : PassesOwn (model X.prog X.w) X.A X.env X.xe) (hc : X.calm = true) (hi : PI X tg iter (tIt G I)) (hg : PG X tg (tG G T)) (hb : PSs X body (tS G B)) (hs : ∀ x, foldedSetIterable iter X.env x = pure x := by intro _; rfl) : PS X (.For tg iter body [] pos) (tS G (sfor I T B)) := sm_for hp hc hi hg hb (ps_for hp hc hi hg hb hs)
/-- a def's promise by its body, its code object known -/
theorem FunD_okC {P : Program} {w : World} {K : PySem.W.Frag} {mg : Str → Option Value} {base : Heap} {x qual : Str} {params : Arguments} {body : List Stmt} {scope : Scope} {dvs : List V} {kws : List (Str × V)} {f : Addr} {fd : FuncData} {CX : CXT} {N ps : List Str} {k : Nat} {sp : Sp} (F : FunD K x qual params body scope dvs kws f fd) (S : FnScope N ps scope)
    (len : ∀ vs H Q E, sp vs H Q E → vs.length = ps.length) (hb : ∀ (cdv : Value) (_ : cdv = fd.code) (A : Around) (outer : List Env) (s : Shared) (H : Hp) (vs : List V) (Q : VK) (E : XK), Room k (A.deeper (envOfC qual scope s.heap.objs.size f cdv)) → sp vs H Q E → ∃ t, PSs (cxOf CX P w K mg base N qual scope f cdv A outer s H E) body t ∧ t { nx := fun _ H' => Q .non H', rt := Q } (start N vs) H) :
    FnOk P w K mg base CX (k + 1) f fd ps sp := by
  obtain ⟨_, _, _, _, _, _, _, cd, _, _, rfl, lk, hcd, _, _⟩ := F.ex
  exact fn_of lk hcd S len fun A outer s H vs Q E hr h => hb cd rfl A outer s H vs Q E hr h
theorem fn_okC {P : Program} {w : World} {K : PySem.W.Frag} {mg : Str → Option Value} {base : Heap} {x qual : Str} {st : Stmt} {f : Addr} {fd : FuncData} {N ps : List Str} {k : Nat} {B : Fs} {dvs : List V} {kws : List (Str × V)} (F : FunD K x qual (defArgs st) (defBody st) (defScope st) dvs kws f fd) (sc : FnScope N ps (defScope st)) {np nl : Nat} (hnp : ps.length = np := by rfl) (hnl : N.length = nl := by rfl)
    (hb : ∀ (cdv : Value) (_ : cdv = fd.code) (A : Around) (outer : List Env) (s : Shared) (H : Hp) (E : XK), Room k (A.deeper (envOfC qual (defScope st) s.heap.objs.size f cdv)) → PSs (cxOf CX0 P w K mg base N qual (defScope st) f cdv A outer s H E).nox (defBody st) (tS G B)) :
    FnOk P w K mg base CX0 (k + 1) f fd ps (spM G (fnM np nl B)) := by
  subst hnp hnl
  have len : ∀ vs H Q E, spM G (fnM ps.length N.length B) vs H Q E → vs.length = ps.length := by
    rintro vs H Q E ⟨p, s, ws, u, s', S, l, q, k'⟩
    rw [← l.length]
    unfold fnM at q
    cases e : Nat.beq ws.length ps.length with
    | false => rw [e] at q; cases q
    | true => exact Nat.eq_of_beq_eq_true e
  refine FunD_okC F sc len fun cdv hcode A outer s H vs Q E hr h => ⟨_, PSs.nox (hb cdv hcode A outer s H E hr), ?_⟩
  have hlen := len vs H Q E h
  obtain ⟨p, s0, ws, u, s', S, l, q, k'⟩ := h
  unfold fnM at q
  cases e : Nat.beq ws.length ps.length with
  | false => rw [e] at q; cases q
  | true =>
    rw [e] at q
    obtain ⟨⟨fl, r', s1⟩, q1, q2⟩ := ob_some.mp q
    refine ⟨p, s0, _, fl, r', s1, S, ?_, q1, fun p1 H1 S1 f1 => ?_⟩
    · show EnvR G p H _ (L2.start N vs)
      unfold L2.start
      rw [hlen]
      rw [lsome_eq]
      exact envR_start _ l
    · cases fl with
      | rt w' =>
        have q2' : some (w', s1) = some (u, s') := q2
        cases q2'
        exact fun v d => k' p1 v H1 S1 f1 d
      | nx =>
        have q2' : some (Mv.non, s1) = some (u, s') := q2
        cases q2'
        exact fun σ E => k' p1 _ H1 S1 f1 .non
      | bk => cases q2
      | ct => cases q2
theorem fn_okD {P : Program} {w : World} {K : PySem.W.Frag} {mg : Str → Option Value} {base : Heap} {x qual : Str} {st : Stmt} {f : Addr} {fd : FuncData} {N ps : List Str} {k : Nat} {B : Fs} {dvs : List V} {kws : List (Str × V)} (F : FunD K x qual (defArgs st) (defBody st) (defScope st) dvs kws f fd) (sc : FnScope N ps (defScope st)) {np nl : Nat} (hnp : ps.length = np := by rfl) (hnl : N.length = nl := by rfl)
    (hb : ∀ (cdv : Value) (A : Around) (outer : List Env) (s : Shared) (H : Hp) (E : XK), Room k (A.deeper (envOfC qual (defScope st) s.heap.objs.size f cdv)) → PSs (cxOf CX0 P w K mg base N qual (defScope st) f cdv A outer s H E).nox (defBody st) (tS G B)) :
    FnOk P w K mg base CX0 (k + 1) f fd ps (spM G (fnM np nl B)) := fn_okC F sc hnp hnl fun cdv _ => hb cdv
end
theorem bb_len : bootBuiltins "len" = some (.builtin "len") := by decide +kernel
theorem bb_all : bootBuiltins "all" = some (.builtin "all") := by decide +kernel
theorem bb_abs : bootBuiltins "abs" = some (.builtin "abs") := by decide +kernel
theorem bb_min : bootBuiltins "min" = some (.builtin "min") := by decide +kernel
theorem bb_isinstance : bootBuiltins "isinstance" = some (.builtin "isinstance") := by decide +kernel
theorem bb_list : bootBuiltins "list" = some (.type "list") := by decide +kernel
theorem bb_tuple : bootBuiltins "tuple" = some (.type "tuple") := by decide +kernel
theorem bb_int : bootBuiltins "int" = some (.type "int") := by decide +kernel
theorem bb_bool : bootBuiltins "bool" = some (.type "bool") := by decide +kernel
theorem bb_str : bootBuiltins "str" = some (.type "str") := by decide +kernel

end
section
/-! ### a def that touches one object alone, run over a store that holds this object alone -/
noncomputable def one (o : Mo) : Ms := ⟨1, .nod .nil (some o) .nil⟩
theorem one_get (o : Mo) (n : Nat) : (one o).get n = if n = 0 then some o else none := by
  show (Mt.nod .nil (some o) .nil).get n = _
  rw [Mt.get_nod, Mt.get_nil, Mt.get_nil]
  by_cases h : n = 0
  · rw [if_pos h, if_pos h]
  · rw [if_neg h, if_neg h]; split <;> rfl
section
variable {G : Mg}
theorem Sim.one {H : Hp} {a : Addr} {o : Mo} {ho : HO} (ha : H a = some ho) (d : DenO G [a] H a o ho) : Sim G [a] (one o) H := by
  refine ⟨rfl, by simp, fun n b hb => ?_, fun n hn => ?_⟩
  · have h0 : n = 0 := by
      have := (List.getElem?_eq_some_iff.mp hb).1
      simp at this
      exact this
    subst h0
    cases hb
    exact ⟨o, ho, by rw [one_get, if_pos rfl], ha, d⟩
  · have h1 : 1 ≤ n := hn
    rw [one_get, if_neg (by omega)]
theorem Sim.nil {H : Hp} : Sim G [] ⟨0, .nil⟩ H := ⟨rfl, by simp, fun n b hb => by simp at hb, fun _ _ => rfl⟩
variable {P : Program} {w : World} {K : PySem.W.Frag} {mg : Str → Option Value} {base : Heap} {k : Nat} {fa : Addr} {fd : FuncData} {ps : List Str}
noncomputable def DrIn (dr : Int → Int → Int → Int → Int × Int × Int) : Prop := ∀ a c n k : Int, BoxOk a c n → 1 ≤ k → 0 ≤ (dr k a c n).1 ∧ (dr k a c n).1 < k ∧ BoxOk (dr k a c n).2.1 c (dr k a c n).2.2
end

end
section
/-! ### calls whose arguments and answers name no object: run over an empty store -/
/-- hands on a value that names no object, written out anew -/
noncomputable def cp {β : Type} (w : Mv) : (Mv → Option β) → Option β :=
  @Mv.rec (fun _ => (Mv → Option β) → Option β) (fun _ => (List Mv → Option β) → Option β)
    (fun k => k .non) (fun b k => k (.bl b)) (fun i k => k (.int i)) (fun x k => k (.str x)) (fun ws ih k => ih fun ws' => k (.tup ws')) (fun _ _ => none) (fun t k => k (.ty t)) (fun ws ih k => ih fun ws' => k (.fl ws')) (fun c k => k (.cls c))
    (fun k => k []) (fun w ws ih1 ih2 k => ih1 fun w' => ih2 fun ws' => k (w' :: ws')) w
noncomputable def cpL {β : Type} (ws : List Mv) : (List Mv → Option β) → Option β :=
  @Mv.rec_1 (fun _ => (Mv → Option β) → Option β) (fun _ => (List Mv → Option β) → Option β)
    (fun k => k .non) (fun b k => k (.bl b)) (fun i k => k (.int i)) (fun x k => k (.str x)) (fun ws ih k => ih fun ws' => k (.tup ws')) (fun _ _ => none) (fun t k => k (.ty t)) (fun ws ih k => ih fun ws' => k (.fl ws')) (fun c k => k (.cls c))
    (fun k => k []) (fun w ws ih1 ih2 k => ih1 fun w' => ih2 fun ws' => k (w' :: ws')) ws
/-- what a value that names no object stands for hangs on no list of objects -/
noncomputable def Fl1 (w : Mv) : Prop := ∀ (G : Mg) p p' H v, Den G p H w v → Den G p' H w v
noncomputable def FlL (ws : List Mv) : Prop := ∀ (G : Mg) p p' H vs, DenL G p H ws vs → DenL G p' H ws vs
theorem FlL.nil : FlL [] := fun G p p' H vs h => by cases h; exact .nil
theorem FlL.cons {w : Mv} {ws : List Mv} (a : Fl1 w) (b : FlL ws) : FlL (w :: ws) := fun G p p' H vs h => by
  cases h with
  | cons h1 h2 => exact .cons (a G p p' H _ h1) (b G p p' H _ h2)
theorem Sim.keep {G : Mg} {p : List Addr} {s : Ms} {H H' : Hp} (S : Sim G p s H) (k : ∀ a o, H a = some o → H' a = some o) : Sim G p s H' ∧ Fra p H p H' := by
  have f : Fra p H p H' := ⟨⟨[], by simp, fun a h => by simp at h⟩, fun a o e _ => k a o e, fun a o u e => k a _ e⟩
  exact ⟨⟨S.len, S.nd, fun n a h => let ⟨o, ho, q1, q2, q3⟩ := S.ob n a h; ⟨o, ho, q1, k a ho q2, q3.stay (f.stays S)⟩, S.out⟩, f⟩
/-- one more object is named -/
theorem Sim.add {G : Mg} {p : List Addr} {s s' : Ms} {H : Hp} {o : Mo} {ho : HO} {n : Nat} {a : Addr} (S : Sim G p s H) (e : s.alloc o = some (n, s')) (nin : a ∉ p) (ha : H a = some ho) (d : DenO G p H a o ho) : Sim G (p ++ [a]) s' H ∧ Den G (p ++ [a]) H (.ref n) (.ref a) := by
  obtain ⟨rfl, h2, h4⟩ := Ms.alloc_eq e
  have st : Stays p H (p ++ [a]) H := ⟨fun n b h => by rw [List.getElem?_append_left (List.getElem?_eq_some_iff.mp h).1]; exact h, fun _ _ e => e, fun _ _ _ _ e => e⟩
  have hlen : (p ++ [a])[s.sz]? = some a := by rw [← S.len]; simp
  refine ⟨⟨by rw [List.length_append, S.len, h2]; rfl, ?_, fun m b hb => ?_, fun m hm => ?_⟩, .ref hlen⟩
  · rw [List.nodup_append]
    exact ⟨S.nd, by simp, fun x hx y hy => by rw [List.mem_singleton.mp hy]; rintro rfl; exact nin hx⟩
  · by_cases hmn : m = s.sz
    · subst hmn
      rw [hlen] at hb; cases hb
      exact ⟨o, ho, by rw [h4, if_pos rfl], ha, d.stay st⟩
    · have hlt : m < p.length := by
        have := (List.getElem?_eq_some_iff.mp hb).1
        rw [List.length_append, S.len] at this
        simp at this
        have := S.len
        omega
      rw [List.getElem?_append_left hlt] at hb
      obtain ⟨o1, ho1, q1, q2, q3⟩ := S.ob m b hb
      exact ⟨o1, ho1, by rw [h4, if_neg hmn]; exact q1, q2, q3.stay st⟩
  · rw [h4, if_neg (by omega)]
    exact S.out m (by omega)
/-- an answer out of the small store, told over the great one -/
noncomputable def bk (lo : Nat) (w : Mv) (s1 s : Ms) : Option (Mv × Ms) := match w with
  | .ref j => cond (Nat.ble lo j) (match s1.get j with
    | some (.lst xs) => cpL xs fun xs' => (s.alloc (.lst xs')).om fun y => (.ref y.1, y.2)
    | _ => none) none
  | w => cp w fun w' => some (w', s)
variable {P : Program} {w : World} {K : PySem.W.Frag} {mg : Str → Option Value} {base : Heap} {k : Nat} {fa : Addr} {fd : FuncData} {ps : List Str} {G : Mg}
end
section
/-! ### a law that asks some sources for some laps each -/
/-- what the law's making of a source must be -/
noncomputable def BoxFn (bx : Fn) : Prop := ∀ (ns : List Int) (k : Int) (s : Ms), 0 ≤ k → k < 1000 → ∃ A C : Int, 0 ≤ A ∧ 0 ≤ C ∧ C < 2 ^ 62 ∧ bx [.fl (ns.map .int), .int k] s = newL [.int A, .int C, .int 0] s
noncomputable def lapB (rt : Fn) (L : Int) : Fs := sif (mnot (mtst (mcall allW (mcons (mlc (miR1 (mcons (mcon (.int L)) (mnil))) (.nm 3) (myes) (mcall rt (mcons (mvar 2) (mnil))) [3]) (mnil))))) (sret (mcon (.bl false))) (snx)
noncomputable def lawB (bx rt : Fn) (R L : Int) : Fs := sseq (sfor (miR1 (mcons (mop2 addW (mcon (.int 1)) (mcall min2W (mcons (mcon (.int R)) (mcons (mcall lenW (mcons (mvar 0) (mnil))) (mnil))))) (mnil))) (.nm 1) (sseq (sset 2 (mcall bx (mcons (mvar 0) (mcons (mvar 1) (mnil))))) (lapB rt L))) (sret (mcon (.bl true)))
theorem bools_rep : ∀ n : Nat, boolsOf (List.replicate n (.bl true)) = some (List.replicate n true)
  | 0 => rfl
  | n + 1 => by
    rw [List.replicate_succ, List.replicate_succ]
    show (boolsOf (List.replicate n (.bl true))).om (fun r => true :: r) = _
    rw [bools_rep n]
    rfl
end
section
/-! ### keys of dicts -/
noncomputable def kEq (a : NestedKey) : NestedKey → Bool :=
  @NestedKey.rec (fun _ => NestedKey → Bool) (fun _ => List NestedKey → Bool)
    (fun b => NestedKey.casesOn (motive_1 := fun _ => Bool) b true (fun _ => false) (fun _ => false) (fun _ => false))
    (fun i b => NestedKey.casesOn (motive_1 := fun _ => Bool) b false (fun j => iEq i j) (fun _ => false) (fun _ => false))
    (fun x b => NestedKey.casesOn (motive_1 := fun _ => Bool) b false (fun _ => false) (fun y => strEq x y) (fun _ => false))
    (fun _ ih b => NestedKey.casesOn (motive_1 := fun _ => Bool) b false (fun _ => false) (fun _ => false) (fun ls => ih ls))
    (fun l => List.casesOn (motive := fun _ => Bool) l true (fun _ _ => false))
    (fun _ _ ih1 ih2 l => List.casesOn (motive := fun _ => Bool) l false (fun b bs => cond (ih1 b) (ih2 bs) false)) a
noncomputable def kEqs (a : List NestedKey) : List NestedKey → Bool :=
  @NestedKey.rec_1 (fun _ => NestedKey → Bool) (fun _ => List NestedKey → Bool)
    (fun b => NestedKey.casesOn (motive_1 := fun _ => Bool) b true (fun _ => false) (fun _ => false) (fun _ => false))
    (fun i b => NestedKey.casesOn (motive_1 := fun _ => Bool) b false (fun j => iEq i j) (fun _ => false) (fun _ => false))
    (fun x b => NestedKey.casesOn (motive_1 := fun _ => Bool) b false (fun _ => false) (fun y => strEq x y) (fun _ => false))
    (fun _ ih b => NestedKey.casesOn (motive_1 := fun _ => Bool) b false (fun _ => false) (fun _ => false) (fun ls => ih ls))
    (fun l => List.casesOn (motive := fun _ => Bool) l true (fun _ _ => false))
    (fun _ _ ih1 ih2 l => List.casesOn (motive := fun _ => Bool) l false (fun b bs => cond (ih1 b) (ih2 bs) false)) a
mutual
theorem kEq_beq : ∀ a b : NestedKey, kEq a b = NestedKey.beq a b
  | .none, b => by cases b <;> rfl
  | .num i, b => by
    cases b with
    | num j => exact iEq_eq i j
    | _ => rfl
  | .text x, b => by
    cases b with
    | text y => exact strEq_eq x y
    | _ => rfl
  | .tup ks, b => by
    cases b with
    | tup ls => exact kEqs_beq ks ls
    | _ => rfl
theorem kEqs_beq : ∀ a b : List NestedKey, kEqs a b = NestedKey.beqAll a b
  | [], b => by cases b <;> rfl
  | k :: ks, b => by
    cases b with
    | nil => rfl
    | cons l ls =>
      show cond (kEq k l) (kEqs ks ls) false = (NestedKey.beq k l && NestedKey.beqAll ks ls)
      rw [kEq_beq k l, kEqs_beq ks ls]
      cases NestedKey.beq k l <;> rfl
end
theorem kEq_eq (a b : NestedKey) : kEq a b = decide (a = b) := by rw [kEq_beq, NestedKey.decide_eq]
noncomputable def toK (w : Mv) : Nat → Option NestedKey :=
  @Mv.rec (fun _ => Nat → Option NestedKey) (fun _ => Nat → Option (List NestedKey))
    (fun _ => some .none) (fun b _ => some (.num (if b = true then 1 else 0))) (fun i _ => some (.num i)) (fun x _ => some (.text x))
    (fun _ ih n => Nat.rec (motive := fun _ => Option NestedKey) none (fun m _ => (ih m).om fun ks => .tup ks) n)
    (fun _ _ => none) (fun _ _ => none) (fun _ _ _ => none) (fun _ _ => none)
    (fun _ => some []) (fun _ _ ih1 ih2 n => (ih1 n).ob fun k => (ih2 n).om fun ks => k :: ks) w
noncomputable def toKs (ws : List Mv) : Nat → Option (List NestedKey) :=
  @Mv.rec_1 (fun _ => Nat → Option NestedKey) (fun _ => Nat → Option (List NestedKey))
    (fun _ => some .none) (fun b _ => some (.num (if b = true then 1 else 0))) (fun i _ => some (.num i)) (fun x _ => some (.text x))
    (fun _ ih n => Nat.rec (motive := fun _ => Option NestedKey) none (fun m _ => (ih m).om fun ks => .tup ks) n)
    (fun _ _ => none) (fun _ _ => none) (fun _ _ _ => none) (fun _ _ => none)
    (fun _ => some []) (fun _ _ ih1 ih2 n => (ih1 n).ob fun k => (ih2 n).om fun ks => k :: ks) ws
mutual
theorem toK_ok : ∀ (w : Mv) (n : Nat) (k : NestedKey), toK w n = some k → KeyM k w ∧ k.depth ≤ n
  | .non, n, k, h => by cases h; exact ⟨.non, Nat.zero_le _⟩
  | .bl b, n, k, h => by cases h; exact ⟨.bl b, Nat.zero_le _⟩
  | .int i, n, k, h => by cases h; exact ⟨.int i, Nat.zero_le _⟩
  | .str x, n, k, h => by cases h; exact ⟨.str x, Nat.zero_le _⟩
  | .tup ws, 0, k, h => by cases h
  | .tup ws, n + 1, k, h => by
    obtain ⟨ks, h1, h2⟩ := omap_some.mp (show (toKs ws n).om (fun ks => NestedKey.tup ks) = some k from h)
    subst h2
    obtain ⟨a, b⟩ := toKs_ok ws n ks h1
    exact ⟨.tup a, by show NestedKey.depthAll ks + 1 ≤ n + 1; omega⟩
  | .ref _, n, k, h => by cases h
  | .ty _, n, k, h => by cases h
  | .fl _, n, k, h => by cases h
  | .cls _, n, k, h => by cases h
theorem toKs_ok : ∀ (ws : List Mv) (n : Nat) (ks : List NestedKey), toKs ws n = some ks → KeyMs ks ws ∧ NestedKey.depthAll ks ≤ n
  | [], n, ks, h => by cases h; exact ⟨.nil, Nat.zero_le _⟩
  | w :: ws, n, ks, h => by
    obtain ⟨k, h1, h2⟩ := ob_some.mp (show (toK w n).ob (fun k => (toKs ws n).om fun ks => k :: ks) = some ks from h)
    obtain ⟨ls, h3, h4⟩ := omap_some.mp h2
    subst h4
    obtain ⟨a, b⟩ := toK_ok w n k h1
    obtain ⟨c, d⟩ := toKs_ok ws n ls h3
    exact ⟨.cons a c, by show max k.depth (NestedKey.depthAll ls) ≤ n; omega⟩
end
section
variable {X : Cx} {pins : List (Addr × Obj)} {σ : L2.St} {H : Hp} {s : Shared} {G : Mg} {p : List Addr}
mutual
theorem KeyM.is (I : Inv X pins σ H s) (hK : X.K = G.K) : ∀ {k : NestedKey} {w : Mv} {v : V} {u : Value}, KeyM k w → Den G p H w v → RelV v u → NestedIs s.heap k u
  | _, _, _, _, .non, d, r => by cases d; cases r; exact .none
  | _, _, _, _, .bl b, d, r => by cases d; cases r; exact .bool rfl
  | _, _, _, _, .int i, d, r => by cases d; obtain ⟨t, rfl⟩ := r; exact .int i t
  | _, _, _, _, .str x, d, r => by cases d; obtain ⟨t, rfl⟩ := r; exact .text x t
  | _, _, _, _, .tup h, d, r => by
    cases d with
    | tup h1 l =>
      cases r
      obtain ⟨its, rv, ⟨o, e, c, n, q⟩, _⟩ := I.tuple (by rw [hK]; exact h1)
      exact .tup e c q (KeyMs.is I hK h l rv)
theorem KeyMs.is (I : Inv X pins σ H s) (hK : X.K = G.K) : ∀ {ks : List NestedKey} {ws : List Mv} {vs : List V} {us : List Value}, KeyMs ks ws → DenL G p H ws vs → Vals vs us → NestedAll s.heap ks us
  | _, _, _, _, .nil, l, r => by cases l; cases r; exact .nil
  | _, _, _, _, .cons h hs, l, r => by
    cases l with
    | cons d l =>
      cases r with
      | cons r rs => exact .cons (KeyM.is I hK h d r) (KeyMs.is I hK hs l rs)
end
theorem KeyM.at (I : Inv X pins σ H s) (hK : X.K = G.K) {k : NestedKey} {w : Mv} {b : Addr} (h : KeyM k w) (hd : k.depth ≤ 8) (d : Den G p H w (.ref b)) : (nestedKind X.prog X.w).is s.heap k b := ⟨KeyM.is I hK h d rfl, hd⟩
/-! ### a dict with tuples as keys, read -/
abbrev PN := Paired (fun (x : NestedKey × Addr × V) (y : NestedKey × Addr × Value) => x.1 = y.1 ∧ x.2.1 = y.2.1 ∧ RelV x.2.2 y.2.2)
theorem DenN.keys (I : Inv X pins σ H s) (hK : X.K = G.K) : ∀ {kvs : List (NestedKey × Mv × Mv)} {xs : List (NestedKey × Addr × V)} {ys : List (NestedKey × Addr × Value)}, DenN G p H kvs xs → PN xs ys → ∀ y ∈ ys, (nestedKind X.prog X.w).is s.heap y.1 y.2.1
  | _, _, _, .nil, q, y, hy => by cases q; cases hy
  | _, _, _, .cons a b c d l, q, y, hy => by
    cases q with
    | cons r t =>
      rcases List.mem_cons.mp hy with e | hy
      · subst e
        obtain ⟨r1, r2, _⟩ := r
        rw [← r1, ← r2]
        exact a.at I hK b c
      · exact l.keys I hK t y hy
theorem nd_rd (I : Inv X pins σ H s) (hK : X.K = G.K) {a : Addr} {kvs : List (NestedKey × Mv × Mv)} {xs : List (NestedKey × Addr × V)} (e : Rd H a (NDo X.prog X.w a xs)) (l : DenN G p H kvs xs) :
    xs.length ≤ sizeLine ∧ (a == sysModules) = false ∧ ∃ ys, PN xs ys ∧ s.heap.DictOfH (nestedKind X.prog X.w) a ys := by
  obtain ⟨⟨z, y, ys, r, o, es, ep, h1, h2, h3, h4, h5⟩, _⟩ := e.ok I.hok
  exact ⟨z, y, ys, r, o, es, ep, h1, h2, h3, h4, l.keys I hK r, h5⟩
noncomputable def dnGet (nk : NestedKey) (kvs : List (NestedKey × Mv × Mv)) : Option Mv := List.rec (motive := fun _ => Option Mv) none (fun e _ ih => cond (kEq e.1 nk) (some e.2.2) ih) kvs
noncomputable def dnPut (nk : NestedKey) (kw v : Mv) (kvs : List (NestedKey × Mv × Mv)) : List (NestedKey × Mv × Mv) := List.rec (motive := fun _ => List (NestedKey × Mv × Mv)) [(nk, kw, v)] (fun e es ih => cond (kEq e.1 nk) ((e.1, e.2.1, v) :: es) (e :: ih)) kvs
theorem dnGet_cons {nk : NestedKey} {e : NestedKey × Mv × Mv} {es : List (NestedKey × Mv × Mv)} : dnGet nk (e :: es) = if e.1 = nk then some e.2.2 else dnGet nk es := by
  show cond (kEq e.1 nk) (some e.2.2) (dnGet nk es) = _
  rw [kEq_eq]
  by_cases h : e.1 = nk
  · rw [if_pos h, decide_eq_true h]; rfl
  · rw [if_neg h, decide_eq_false h]; rfl
theorem dnPut_cons {nk : NestedKey} {kw v : Mv} {e : NestedKey × Mv × Mv} {es : List (NestedKey × Mv × Mv)} : dnPut nk kw v (e :: es) = if e.1 = nk then (e.1, e.2.1, v) :: es else e :: dnPut nk kw v es := by
  show cond (kEq e.1 nk) ((e.1, e.2.1, v) :: es) (e :: dnPut nk kw v es) = _
  rw [kEq_eq]
  by_cases h : e.1 = nk
  · rw [if_pos h, decide_eq_true h]; rfl
  · rw [if_neg h, decide_eq_false h]; rfl
theorem atKey_cons {k : NestedKey} {y : NestedKey × Addr × Value} {ys : List (NestedKey × Addr × Value)} : atKey (y :: ys) k = if y.1 = k then some y.2 else atKey ys k := by
  unfold atKey
  rw [List.find?_cons]
  by_cases h : y.1 = k
  · rw [if_pos h, decide_eq_true h]; rfl
  · rw [if_neg h, decide_eq_false h]
theorem dn_get {nk : NestedKey} : ∀ {kvs : List (NestedKey × Mv × Mv)} {xs : List (NestedKey × Addr × V)} {ys : List (NestedKey × Addr × Value)}, DenN G p H kvs xs → PN xs ys →
    (dnGet nk kvs = none → atKey ys nk = none) ∧ ∀ w, dnGet nk kvs = some w → ∃ q v, atKey ys nk = some q ∧ Den G p H w v ∧ RelV v q.2
  | _, _, _, .nil, q => by cases q; exact ⟨fun _ => rfl, fun w h => by cases h⟩
  | _, _, _, .cons (k := k) (kw := kw) (w := w0) a b c d l, q => by
    cases q with
    | cons r t =>
      obtain ⟨r1, r2, r3⟩ := r
      have ih := dn_get (nk := nk) l t
      rw [dnGet_cons, atKey_cons]
      by_cases h : k = nk
      · rw [if_pos h, if_pos (r1.symm.trans h)]
        exact ⟨fun z => (by cases z), fun w z => by cases z; exact ⟨_, _, rfl, d, r3⟩⟩
      · rw [if_neg h, if_neg (fun z => h (r1.trans z))]
        exact ih
def stRec (k : NestedKey) (a : Addr) {α : Type} (v : α) : List (NestedKey × Addr × α) → List (NestedKey × Addr × α)
  | [] => [(k, a, v)]
  | y :: ys => if y.1 = k then (y.1, y.2.1, v) :: ys else y :: stRec k a v ys
theorem storedH_rec {k : NestedKey} {a : Addr} {v : Value} : ∀ {ys : List (NestedKey × Addr × Value)}, (ys.map (·.1)).Nodup → storedH ys k a v = stRec k a v ys
  | [], _ => rfl
  | y :: ys, nd => by
    rw [List.map_cons, List.nodup_cons] at nd
    have ih := storedH_rec (k := k) (a := a) (v := v) nd.2
    unfold stRec
    by_cases h : y.1 = k
    · have e : atKey (y :: ys) k = some y.2 := by rw [atKey_cons, if_pos h]
      rw [storedH_old e, if_pos h, List.map_cons]
      have e2 : ys.map (putAt k v) = ys := by
        rw [List.map_congr_left (g := id), List.map_id]
        intro x hx
        exact if_neg fun z => nd.1 (by rw [h, ← z]; exact List.mem_map_of_mem hx)
      rw [e2]
      unfold putAt
      rw [if_pos h]
    · rw [if_neg h, ← ih]
      have e : atKey (y :: ys) k = atKey ys k := by rw [atKey_cons, if_neg h]
      cases q : atKey ys k with
      | none => rw [storedH_new (e.trans q), storedH_new q]; rfl
      | some z =>
        rw [storedH_old (e.trans q), storedH_old q, List.map_cons]
        unfold putAt
        rw [if_neg h]
theorem PN.put {k : NestedKey} {a : Addr} {v : V} {u : Value} (rv : RelV v u) : ∀ {xs : List (NestedKey × Addr × V)} {ys : List (NestedKey × Addr × Value)}, PN xs ys → PN (stRec k a v xs) (stRec k a u ys)
  | _, _, .nil => .cons ⟨rfl, rfl, rv⟩ .nil
  | _, _, .cons (a := x) (b := y) r t => by
    unfold stRec
    by_cases h : x.1 = k
    · rw [if_pos h, if_pos (r.1.symm.trans h)]
      exact .cons ⟨r.1, r.2.1, rv⟩ t
    · rw [if_neg h, if_neg (fun z => h (r.1.trans z))]
      exact .cons r (PN.put rv t)
theorem DenN.put {k : NestedKey} {kw w : Mv} {b : Addr} {v : V} (hk : KeyM k kw) (hd : k.depth ≤ 8) (dk : Den G p H kw (.ref b)) (dv : Den G p H w v) : ∀ {kvs : List (NestedKey × Mv × Mv)} {xs : List (NestedKey × Addr × V)}, DenN G p H kvs xs → DenN G p H (dnPut k kw w kvs) (stRec k b v xs)
  | _, _, .nil => .cons hk hd dk dv .nil
  | _, _, .cons (k := k') a1 a2 a3 a4 l => by
    rw [dnPut_cons]
    unfold stRec
    by_cases h : k' = k
    · rw [if_pos h, if_pos h]; exact .cons a1 a2 a3 dv l
    · rw [if_neg h, if_neg h]; exact .cons a1 a2 a3 a4 (DenN.put hk hd dk dv l)
theorem stRec_len {k : NestedKey} {a : Addr} {α : Type} {v : α} : ∀ (ys : List (NestedKey × Addr × α)), (stRec k a v ys).length ≤ ys.length + 1
  | [] => Nat.le_refl _
  | y :: ys => by
    unfold stRec
    split
    · simp
    · have := stRec_len (k := k) (a := a) (v := v) ys
      simp only [List.length_cons]; omega
theorem DenN.length : ∀ {kvs : List (NestedKey × Mv × Mv)} {xs : List (NestedKey × Addr × V)}, DenN G p H kvs xs → kvs.length = xs.length
  | _, _, .nil => rfl
  | _, _, .cons _ _ _ _ l => congrArg Nat.succ l.length
end

end
section
/-! ### dicts: the mirror's words -/
noncomputable def kyEq (a b : Key) : Bool := Sum.rec (motive := fun _ => Bool) (fun i => Sum.rec (motive := fun _ => Bool) (fun j => iEq i j) (fun _ => false) b) (fun x => Sum.rec (motive := fun _ => Bool) (fun _ => false) (fun y => strEq x y) b) a
theorem kyEq_eq (a b : Key) : kyEq a b = decide (a = b) := by
  cases a with
  | inl i => cases b with
    | inl j => show iEq i j = _; rw [iEq_eq]; exact decide_eq_decide.mpr ⟨fun h => by rw [h], fun h => Sum.inl.inj h⟩
    | inr y => exact (decide_eq_false (fun h => by cases h)).symm
  | inr x => cases b with
    | inl j => exact (decide_eq_false (fun h => by cases h)).symm
    | inr y => show strEq x y = _; rw [strEq_eq]; exact decide_eq_decide.mpr ⟨fun h => by rw [h], fun h => Sum.inr.inj h⟩
noncomputable def key1 : Mv → Option Key
  | .int i => some (.inl i)
  | .str x => some (.inr x)
  | _ => none
noncomputable def keyT (w : Mv) : Option NestedKey := match w with
  | .tup _ => toK w 8
  | _ => none
noncomputable def dkGet (k : Key) (kvs : List (Key × Mv)) : Option Mv := List.rec (motive := fun _ => Option Mv) none (fun e _ ih => cond (kyEq e.1 k) (some e.2) ih) kvs
noncomputable def dkRep (k : Key) (v : Mv) (kvs : List (Key × Mv)) : List (Key × Mv) := List.rec (motive := fun _ => List (Key × Mv)) [] (fun e _ ih => cond (kyEq e.1 k) (e.1, v) e :: ih) kvs
noncomputable def dkPut (k : Key) (v : Mv) (kvs : List (Key × Mv)) : List (Key × Mv) := Option.rec (motive := fun _ => List (Key × Mv)) (lapp kvs [(k, v)]) (fun _ => dkRep k v kvs) (dkGet k kvs)
/-- what a dict holds at a key: no answer where the mirror does not know -/
noncomputable def dgetO (o : Mo) (k : Mv) : Option (Option Mv) := match o with
  | .dk kvs => match key1 k with
    | some ky => some (dkGet ky kvs)
    | none => match kvs with
      | [] => (keyT k).om fun _ => none
      | _ => none
  | .lk kvs => match key1 k with
    | some ky => some (dkGet ky kvs)
    | none => none
  | .dn kvs => (keyT k).om fun nk => dnGet nk kvs
  | .ln kvs => (keyT k).om fun nk => dnGet nk kvs
  | _ => none
noncomputable def dputO (o : Mo) (k v : Mv) : Option Mo := match o with
  | .dk kvs => match key1 k with
    | some ky => cond (Nat.blt (llen kvs) 16777216) (some (.dk (dkPut ky v kvs))) none
    | none => match kvs with
      | [] => (keyT k).om fun nk => .dn [(nk, k, v)]
      | _ => none
  | .dn kvs => cond (Nat.blt (llen kvs) 16777216) ((keyT k).om fun nk => .dn (dnPut nk k v kvs)) none
  | _ => none
section
variable {X : Cx} {pins : List (Addr × Obj)} {σ : L2.St} {H : Hp} {s : Shared} {G : Mg} {p : List Addr}
theorem keyT_ok {w : Mv} {k : NestedKey} (h : keyT w = some k) : (∃ ws, w = .tup ws) ∧ KeyM k w ∧ k.depth ≤ 8 := by
  cases w with
  | tup ws => exact ⟨⟨ws, rfl⟩, toK_ok _ _ _ h⟩
  | _ => cases h
theorem key1_ok {w : Mv} {k : Key} (h : key1 w = some k) {v : V} (d : Den G p H w v) : v = kV k := by
  cases w with
  | int i => cases h; cases d; rfl
  | str x => cases h; cases d; rfl
  | _ => cases h
/-- keys alike, values denoted -/
abbrev DK (G : Mg) (p : List Addr) (H : Hp) (kvs : List (Key × Mv)) (kvs' : List (Key × V)) : Prop := kvs'.map (·.1) = kvs.map (·.1) ∧ DenL G p H (kvs.map (·.2)) (kvs'.map (·.2))
theorem DK.inv {kvs : List (Key × Mv)} {kvs' : List (Key × V)} (h : DK G p H kvs kvs') : Paired (fun (a : Key × Mv) (b : Key × V) => a.1 = b.1 ∧ Den G p H a.2 b.2) kvs kvs' := by
  obtain ⟨h1, h2⟩ := h
  induction kvs generalizing kvs' with
  | nil =>
    cases kvs' with
    | nil => exact .nil
    | cons _ _ => cases h1
  | cons e es ih =>
    cases kvs' with
    | nil => cases h1
    | cons e' es' =>
      rw [List.map_cons, List.map_cons] at h1
      injection h1 with g1 g2
      cases h2 with
      | cons d l => exact .cons ⟨g1.symm, d⟩ (ih g2 l)
theorem DK.of {kvs : List (Key × Mv)} {kvs' : List (Key × V)} (h : Paired (fun (a : Key × Mv) (b : Key × V) => a.1 = b.1 ∧ Den G p H a.2 b.2) kvs kvs') : DK G p H kvs kvs' := by
  induction h with
  | nil => exact ⟨rfl, .nil⟩
  | cons r t ih => exact ⟨by rw [List.map_cons, List.map_cons, ih.1, r.1], .cons r.2 ih.2⟩
theorem dkGet_cons {k : Key} {e : Key × Mv} {es : List (Key × Mv)} : dkGet k (e :: es) = if e.1 = k then some e.2 else dkGet k es := by
  show cond (kyEq e.1 k) (some e.2) (dkGet k es) = _
  rw [kyEq_eq]
  by_cases h : e.1 = k
  · rw [if_pos h, decide_eq_true h]; rfl
  · rw [if_neg h, decide_eq_false h]; rfl
theorem dk_get {k : Key} {kvs : List (Key × Mv)} {kvs' : List (Key × V)} (h : Paired (fun (a : Key × Mv) (b : Key × V) => a.1 = b.1 ∧ Den G p H a.2 b.2) kvs kvs') : (dkGet k kvs = none → valV kvs' k = none) ∧ ∀ w, dkGet k kvs = some w → ∃ v, valV kvs' k = some v ∧ Den G p H w v := by
  induction h with
  | nil => exact ⟨fun _ => rfl, fun w z => by cases z⟩
  | cons r t ih =>
    rename_i a b as bs
    rw [dkGet_cons]
    by_cases h : a.1 = k
    · rw [if_pos h, valV_pos (r.1.symm.trans h)]
      exact ⟨fun z => (by cases z), fun w z => by cases z; exact ⟨_, rfl, r.2⟩⟩
    · rw [if_neg h, valV_neg (fun z => h (r.1.trans z))]
      exact ih
theorem dkRep_den {k : Key} {w : Mv} {v : V} (d : Den G p H w v) {kvs : List (Key × Mv)} {kvs' : List (Key × V)} (h : Paired (fun (a : Key × Mv) (b : Key × V) => a.1 = b.1 ∧ Den G p H a.2 b.2) kvs kvs') :
    Paired (fun (a : Key × Mv) (b : Key × V) => a.1 = b.1 ∧ Den G p H a.2 b.2) (dkRep k w kvs) (kvs'.map fun kv => if kv.1 = k then (kv.1, v) else kv) := by
  induction h with
  | nil => exact .nil
  | cons r t ih =>
    rename_i a b as bs
    rw [List.map_cons]
    show Paired _ (cond (kyEq a.1 k) (a.1, w) a :: dkRep k w as) _
    refine .cons ?_ ih
    rw [kyEq_eq]
    by_cases h : a.1 = k
    · rw [decide_eq_true h, if_pos (r.1.symm.trans h)]; exact ⟨r.1, d⟩
    · rw [decide_eq_false h, if_neg (fun z => h (r.1.trans z))]; exact r
theorem dk_put {k : Key} {w : Mv} {v : V} (d : Den G p H w v) {kvs : List (Key × Mv)} {kvs' : List (Key × V)} (h : DK G p H kvs kvs') : DK G p H (dkPut k w kvs) (putK kvs' k v) := by
  have P := h.inv
  have g := dk_get (k := k) P
  unfold dkPut putK
  rw [valV_any]
  cases e : dkGet k kvs with
  | none =>
    rw [g.1 e, if_neg (by simp), lapp_eq]
    refine DK.of (Paired.snoc P ⟨rfl, d⟩)
  | some z =>
    obtain ⟨v', h1, _⟩ := g.2 z e
    rw [h1, if_pos (by rfl)]
    exact DK.of (dkRep_den d P)
/-- the heap behind a store: what stands at the dict then -/
def DPA (G : Mg) (X : Cx) (H : Hp) (a : Addr) (y v : V) (ho' : HO) : Prop :=
  (∃ kvs k, H a = some (.dK kvs) ∧ y = kV k ∧ kvs.length < sizeLine ∧ ho' = .dK (putK kvs k v)) ∨
  ∃ p nk kw b, y = .ref b ∧ KeyM nk kw ∧ nk.depth ≤ 8 ∧ Den G p H kw (.ref b) ∧ ((H a = some (.dK []) ∧ ho' = NDo X.prog X.w a [(nk, b, v)]) ∨
    ∃ kvs xs, H a = some (NDo X.prog X.w a xs) ∧ DenN G p H kvs xs ∧ xs.length < sizeLine ∧ ho' = NDo X.prog X.w a (stRec nk b v xs))
/-- a dict with no entries, for tuples as keys -/
theorem dk_none {P : Program} {w : World} {h : Heap} {a : Addr} (dd : h.DictOf (mixKind P w) a []) : h.DictOfH (nestedKind P w) a [] := by
  obtain ⟨o, es, ep, h1, h2, h3, _, h5, _⟩ := dd
  refine ⟨o, es, ep, h1, h2, h3, ?_, (fun x hx => absurd hx (by simp)), List.nodup_nil⟩
  have := h5.length
  simp only [List.length_nil, Array.length_toList, Array.size_eq_zero_iff] at this
  rw [this]; rfl
theorem nd_new {P : Program} {w : World} {H' : Hp} {h' : Heap} {a : Addr} {xs : List (NestedKey × Addr × V)} {ys : List (NestedKey × Addr × Value)} (z : xs.length ≤ sizeLine) (hd : (a == sysModules) = false) (r : PN xs ys) (dd : h'.DictOfH (nestedKind P w) a ys) :
    ObjOk P w H' h' a (NDo P w a xs) := by
  obtain ⟨o, es, ep, h1, h2, h3, h4, _, h6⟩ := dd
  exact ⟨⟨z, hd, ys, r, o, es, ep, h1, h2, h3, h4, h6⟩, ⟨o, h1⟩, fun g1 g2 ⟨z, hd, ys, r, o, es, ep, h1, q⟩ k => ⟨z, hd, ys, r, o, es, ep, k o h1, q⟩⟩
theorem dpa_core {A : Around} {E : Value → Shared → Prop} {a : Addr} {y v : V} {u r : Value} {ho' : HO} {Q : Unit → Shared → Prop} {f : Value → Value → Sem Unit} (I : Inv X pins σ H s) (hK : X.K = G.K) (g : DPA G X H a y v ho') (ry : RelV y u) (rv : RelV v r) (h : ∀ s', Inv X pins σ (upd H a ho') s' → Q () s')
    (w1 : ∀ {kvs : List (Key × Value)} {k : Key} {key w : Value}, (mixKind X.prog X.w).is k key = true → s.heap.DictOf (mixKind X.prog X.w) a kvs → kvs.length ≤ sizeLine → (∀ h' t', h'.DictOf (mixKind X.prog X.w) a (stored kvs k w) → Heap.SameBut a s.heap h' → Q () { s with heap := h', toks := t' }) → wpAny (model X.prog X.w) A (f key w) Q E s)
    (w2 : ∀ {xs : List (NestedKey × Addr × Value)} {k : NestedKey} {b : Addr} {w : Value}, (nestedKind X.prog X.w).is s.heap k b → s.heap.DictOfH (nestedKind X.prog X.w) a xs → xs.length ≤ sizeLine → (∀ h' t', h'.DictOfH (nestedKind X.prog X.w) a (storedH xs k b w) → Heap.SameBut a s.heap h' → Q () { s with heap := h', toks := t' }) → wpAny (model X.prog X.w) A (f (.ref b) w) Q E s) :
    wpAny (model X.prog X.w) A (f u r) Q E s := by
  rcases g with ⟨kvs, k, e, ey, l, eH⟩ | ⟨p, nk, kw, b, ey, km, kd, dk, g⟩
  · subst ey eH
    obtain ⟨z, hd, vs, rel, dd⟩ := dk_of I.hok e
    have hl : (putK kvs k v).length ≤ sizeLine := by have := length_putK kvs k v; omega
    refine w1 (kV_is ry) dd (by rw [← rel.length]; exact z) fun h' t' dd' hs => h _ ?_
    exact d_write I (by rw [e]; exact True.intro) hs (let ⟨q, _, _, hq, _⟩ := dd'; ⟨q, hq⟩) (dk_new hl hd (rel.put k rv) dd')
  · subst ey
    cases (show u = Value.ref b from ry)
    have key := km.at I hK kd dk
    rcases g with ⟨e, eH⟩ | ⟨kvs, xs, e, l, hz, eH⟩
    · subst eH
      obtain ⟨z, hd, vs, rel, dd⟩ := dk_of I.hok e
      cases rel
      refine w2 key (dk_none dd) (Nat.zero_le _) fun h' t' dd' hs => h _ ?_
      exact d_write I (by rw [e]; exact True.intro) hs (let ⟨q, _, _, hq, _⟩ := dd'; ⟨q, hq⟩) (nd_new (by show 1 ≤ sizeLine; decide) hd (.cons ⟨rfl, rfl, rv⟩ .nil) dd')
    · subst eH
      obtain ⟨z, hd, ys, rel, dd⟩ := nd_rd I hK (.inl e) l
      have hl : (stRec nk b v xs).length ≤ sizeLine := by have := stRec_len (k := nk) (a := b) (v := v) xs; omega
      refine w2 key dd (by rw [← Paired.length rel]; exact z) fun h' t' dd' hs => h _ ?_
      rw [storedH_rec (by obtain ⟨_, _, _, _, _, _, _, _, q⟩ := dd; exact q)] at dd'
      exact d_write I (by rw [e]; exact True.intro) hs (let ⟨q, _, _, hq, _⟩ := dd'; ⟨q, hq⟩) (nd_new hl hd (PN.put rv rel) dd')
theorem dpa_setItem {A : Around} {E : Value → Shared → Prop} {a : Addr} {y v : V} {u r : Value} {ho' : HO} {Q : Unit → Shared → Prop} (hu : A.units + 64 < cLine) (I : Inv X pins σ H s) (hK : X.K = G.K) (g : DPA G X H a y v ho') (ry : RelV y u) (rv : RelV v r) (h : ∀ s', Inv X pins σ (upd H a ho') s' → Q () s') :
    wpAny (model X.prog X.w) A (setItem (.ref a) u r) Q E s :=
  dpa_core (f := fun u r => setItem (.ref a) u r) I hK g ry rv h (fun k d z q => wpAny_setItem_pairs (hsz := z) k d fun h' dd hs => q h' _ dd hs)
    (fun k d z q => wpAny_setItem_heap (hsz := z) (show A.in1.units + 8 < cLine by rw [Around.in1_units]; omega) k d fun h' dd hs => q h' _ dd hs)
/-- a store of the mirror is a store of the heap -/
theorem dputO_at {a : Addr} {ho : HO} {o o' : Mo} {kw w : Mv} {y v : V} (hP : X.prog = G.P) (hw : X.w = G.w) (h1 : H a = some ho) (d : DenO G p H a o ho) (q : dputO o kw w = some o') (dk : Den G p H kw y) (dv : Den G p H w v) :
    ∃ ho', DPA G X H a y v ho' ∧ DenO G p H a o' ho' ∧ (∀ vs, ho' ≠ .tup vs) ∧ unl o = true := by
  cases o with
  | dk kvs =>
    obtain ⟨kvs', rfl, c1, c2⟩ := d
    have c : DK G p H kvs kvs' := ⟨c1, c2⟩
    have hl : kvs.length = kvs'.length := by have := congrArg List.length c1; simpa using this.symm
    unfold dputO at q
    simp only at q
    cases ek : key1 kw with
    | some ky =>
      rw [ek] at q
      simp only [llen_eq] at q
      cases eb : Nat.blt kvs.length 16777216 with
      | false => rw [eb] at q; cases q
      | true =>
        rw [eb] at q; cases q
        have hz : kvs'.length < sizeLine := by rw [sz_eq, ← hl]; exact Nat.blt_eq.mp eb
        have := key1_ok ek dk
        exact ⟨_, .inl ⟨kvs', ky, h1, this, hz, rfl⟩, ⟨_, rfl, (dk_put dv c).1, (dk_put dv c).2⟩, fun _ z => (by cases z), rfl⟩
    | none =>
      rw [ek] at q
      cases kvs with
      | cons _ _ => cases q
      | nil =>
        cases kvs' with
        | cons _ _ => cases c1
        | nil =>
          obtain ⟨nk, g1, g2⟩ := omap_some.mp q
          subst g2
          obtain ⟨⟨ws, rfl⟩, km, kd⟩ := keyT_ok g1
          obtain ⟨b, vs, rfl, _, _⟩ := dk.tup_inv
          exact ⟨_, .inr ⟨p, nk, _, b, rfl, km, kd, dk, .inl ⟨h1, rfl⟩⟩, ⟨_, by rw [hP, hw], .cons km kd dk dv .nil⟩, fun _ z => (by cases z), rfl⟩
  | dn kvs =>
    obtain ⟨xs, rfl, l⟩ := d
    unfold dputO at q
    simp only [llen_eq] at q
    cases eb : Nat.blt kvs.length 16777216 with
    | false => rw [eb] at q; cases q
    | true =>
      rw [eb] at q
      obtain ⟨nk, g1, g2⟩ := omap_some.mp (show (keyT kw).om _ = some o' from q)
      subst g2
      obtain ⟨⟨ws, rfl⟩, km, kd⟩ := keyT_ok g1
      obtain ⟨b, vs, rfl, _, _⟩ := dk.tup_inv
      have hz : xs.length < sizeLine := by rw [sz_eq, ← l.length]; exact Nat.blt_eq.mp eb
      exact ⟨_, .inr ⟨p, nk, _, b, rfl, km, kd, dk, .inr ⟨kvs, xs, by rw [hP, hw]; exact h1, l, hz, rfl⟩⟩, ⟨_, by rw [hP, hw], DenN.put km kd dk dv l⟩, fun _ z => (by cases z), rfl⟩
  | _ => cases q
theorem dputO_ok {n : Nat} {a : Addr} {ms : Ms} {o o' : Mo} {kw w : Mv} {y v : V} (hP : X.prog = G.P) (hw : X.w = G.w) (S : Sim G p ms H) (hn : p[n]? = some a) (e : ms.get n = some o) (q : dputO o kw w = some o') (dk : Den G p H kw y) (dv : Den G p H w v) :
    ∃ ho', DPA G X H a y v ho' ∧ DenO G p H a o' ho' ∧ (∀ vs, ho' ≠ .tup vs) ∧ unl o = true :=
  let ⟨_, h1, d⟩ := S.get hn e
  dputO_at hP hw h1 d q dk dv
/-! ### d[k] = v -/
def rSetM (G : Mg) (X : Cx) : TSet := fun o i v H Q => rSetL o i v H Q ∨ ∃ a ho', o = .ref a ∧ DPA G X H a i v ho' ∧ Q (upd H a ho')
theorem set_any (hu : X.A.units + 64 < cLine) (hK : X.K = G.K) : PSet X (rSetM G X) := by
  intro pins s σ H o i v ov iv u Q I ro ri rv h
  rcases h with h | ⟨a, ho', rfl, g, q⟩
  · exact set_list pins s σ H o i v ov iv u Q I ro ri rv h
  · cases (show ov = Value.ref a from ro)
    exact dpa_setItem hu I hK g ri rv fun s' I' => ⟨_, I', q⟩
noncomputable def ssubA (O I A : Fe) : Fs := fun r s => (A r s).ob fun v => (O r v.2).ob fun o => (I r o.2).ob fun i => match o.1 with
  | .ref n => match i.2.get n with
    | some (.lst xs) => (match i.1 with
      | .int k => (ixN xs.length k).om fun j => (.nx, r, i.2.put n (.lst (xs.set j v.1)))
      | _ => none)
    | some d => (dputO d i.1 v.1).om fun d' => (.nx, r, i.2.put n d')
    | none => none
  | _ => none
variable {o : Expr} {pos : Pos}
theorem sm_subA {O I A : Fe} {i v : Expr} {tp : Pos} (h : PS X (.Assign [.Subscript o i tp] v pos) (tAsg (tI G A) (gSub (tI G O) (tI G I) (rSetM G X)))) (hP : X.prog = G.P := by rfl) (hw : X.w = G.w := by rfl) : PS X (.Assign [.Subscript o i tp] v pos) (tS G (ssubA O I A)) := ps_imp h fun D σ H ⟨p, s, r, fl, r', s', S, E, q, k⟩ => by
  obtain ⟨⟨y, s1⟩, q1, q2⟩ := ob_some.mp q
  obtain ⟨⟨x, s2⟩, q3, q4⟩ := ob_some.mp q2
  obtain ⟨⟨z, s3⟩, q5, q6⟩ := ob_some.mp q4
  refine ⟨p, s, r, y, s1, S, E, q1, fun p1 v1 H1 S1 f1 d1 => ⟨p1, s1, r, x, s2, S1, E.fra S f1, q3, fun p2 v2 H2 S2 f2 d2 => ⟨p2, s2, r, z, s3, S2, (E.fra S f1).fra S1 f2, q5, fun p3 v3 H3 S3 f3 d3 => ?_⟩⟩⟩
  have d1' := (d1.fra S1 f2).fra S2 f3
  have d2' := d2.fra S2 f3
  have E3 := ((E.fra S f1).fra S1 f2).fra S2 f3
  have ff := (f1.trans f2).trans f3
  cases x with
  | ref n =>
    cases d2'
    rename_i a hn
    simp only at q6
    cases e : s3.get n with
    | none => rw [e] at q6; cases q6
    | some ob =>
      rw [e] at q6
      have dict : (dputO ob z y).om (fun d' => (Fl.nx, r, s3.put n d')) = some (fl, r', s') → gSub (tI G O) (tI G I) (rSetM G X) v1 σ H1 (fun σ' H' => D.nx σ' H') → True := fun _ _ => trivial
      cases ob with
      | lst xs =>
        simp only at q6
        cases z with
        | int k0 =>
          cases d3
          obtain ⟨j, g1, g2⟩ := omap_some.mp q6
          cases g2
          obtain ⟨ho, h1, vs, rfl, l, hz⟩ := S3.get hn e
          rw [l.length] at g1
          obtain ⟨S4, f4⟩ := S3.put hn e rfl (ho := .lst (vs.set j v1)) (o := .lst (xs.set j y)) (fun _ z => by cases z) ⟨_, rfl, DenL.set d1' j l, by rw [List.length_set]; exact hz⟩
          refine .inl ⟨a, vs, k0, j, rfl, rfl, h1, g1, ?_⟩
          exact k p3 _ S4 (ff.trans f4) σ (E3.fra S3 f4)
        | _ => cases q6
      | _ =>
        obtain ⟨d', g1, g2⟩ := omap_some.mp q6
        cases g2
        obtain ⟨ho', g, dd, nt, ul⟩ := dputO_ok (X := X) hP hw S3 hn e g1 d3 d1'
        obtain ⟨S4, f4⟩ := S3.put hn e ul nt dd
        exact .inr ⟨a, ho', rfl, g, k p3 _ S4 (ff.trans f4) σ (E3.fra S3 f4)⟩
  | _ => cases q6
end

end
section
section
variable {X : Cx} {pins : List (Addr × Obj)} {σ : L2.St} {H : Hp} {s : Shared} {G : Mg} {p : List Addr}
end
section
variable {X : Cx} {pins : List (Addr × Obj)} {σ : L2.St} {H : Hp} {s : Shared} {G : Mg} {p : List Addr}
/-- the dict of the mirror at hand, with the heap behind it -/
inductive DAt (G : Mg) (X : Cx) (p : List Addr) (H : Hp) (a : Addr) : Mo → Prop
  | k {kvs : List (Key × Mv)} {kvs' : List (Key × V)} : Rd H a (.dK kvs') → DK G p H kvs kvs' → DAt G X p H a (.dk kvs)
  | lk {kvs : List (Key × Mv)} {kvs' : List (Key × V)} : Rd H a (.dK kvs') → DK G p H kvs kvs' → DAt G X p H a (.lk kvs)
  | n {kvs : List (NestedKey × Mv × Mv)} {xs : List (NestedKey × Addr × V)} : Rd H a (NDo X.prog X.w a xs) → DenN G p H kvs xs → DAt G X p H a (.dn kvs)
  | ln {kvs : List (NestedKey × Mv × Mv)} {xs : List (NestedKey × Addr × V)} : Rd H a (NDo X.prog X.w a xs) → DenN G p H kvs xs → DAt G X p H a (.ln kvs)
def isDict : Mo → Bool
  | .dk _ | .lk _ | .dn _ | .ln _ => true
  | _ => false
theorem Sim.dict {n : Nat} {a : Addr} {ms : Ms} {o : Mo} (hP : X.prog = G.P) (hw : X.w = G.w) (S : Sim G p ms H) (hn : p[n]? = some a) (e : ms.get n = some o) (hd : isDict o = true) : DAt G X p H a o := by
  obtain ⟨ho, h1, d⟩ := S.get hn e
  cases o with
  | dk kvs => obtain ⟨kvs', rfl, c⟩ := d; exact .k (.inl h1) c
  | lk kvs => obtain ⟨od, kvs', rfl, c⟩ := d; exact .lk (.inr ⟨od, h1⟩) c
  | dn kvs => obtain ⟨xs, rfl, l⟩ := d; exact .n (.inl (by rw [hP, hw]; exact h1)) l
  | ln kvs => obtain ⟨od, xs, rfl, l⟩ := d; exact .ln (.inr ⟨od, by rw [hP, hw]; exact h1⟩) l
  | _ => cases hd
/-- how the raw dict answers -/
inductive RawD (X : Cx) (s : Shared) (a : Addr) (u : Value) : Option Value → Prop
  | k {vs : List (Key × Value)} {k : Key} : (a == sysModules) = false → s.heap.DictOf (mixKind X.prog X.w) a vs → (mixKind X.prog X.w).is k u = true → RawD X s a u (valueAt vs k)
  | n {ys : List (NestedKey × Addr × Value)} {k : NestedKey} {b : Addr} : (a == sysModules) = false → s.heap.DictOfH (nestedKind X.prog X.w) a ys → u = .ref b → (nestedKind X.prog X.w).is s.heap k b → RawD X s a u ((atKey ys k).map (·.2))
theorem dget_raw {a : Addr} {o : Mo} {kw : Mv} {ow : Option Mv} {y : V} {u : Value} (I : Inv X pins σ H s) (hK : X.K = G.K) (D : DAt G X p H a o) (q : dgetO o kw = some ow) (dk : Den G p H kw y) (ry : RelV y u) :
    ∃ r, RawD X s a u r ∧ (ow = none → r = none) ∧ ∀ w, ow = some w → ∃ v r', r = some r' ∧ Den G p H w v ∧ RelV v r' := by
  have plain : ∀ {kvs : List (Key × Mv)} {kvs' : List (Key × V)} {ky : Key}, Rd H a (.dK kvs') → DK G p H kvs kvs' → key1 kw = some ky → ow = dkGet ky kvs → ∃ r, RawD X s a u r ∧ (ow = none → r = none) ∧ ∀ w, ow = some w → ∃ v r', r = some r' ∧ Den G p H w v ∧ RelV v r' := fun {kvs kvs' ky} rd c ek e => by
    obtain ⟨z, hd, vs, rel, dd⟩ := dk_rd I.hok rd
    have ey := key1_ok ek dk
    subst ey e
    have g := dk_get (k := ky) c.inv
    have rv := rel.val ky
    refine ⟨_, .k hd dd (kV_is ry), fun h => ?_, fun w h => ?_⟩
    · rw [g.1 h] at rv
      cases e2 : valueAt vs ky with
      | none => rfl
      | some _ => rw [e2] at rv; exact rv.elim
    · obtain ⟨v, g1, g2⟩ := g.2 w h
      rw [g1] at rv
      cases e2 : valueAt vs ky with
      | none => rw [e2] at rv; exact rv.elim
      | some r' => rw [e2] at rv; exact ⟨v, r', rfl, g2, rv⟩
  have nest : ∀ {kvs : List (NestedKey × Mv × Mv)} {xs : List (NestedKey × Addr × V)} {nk : NestedKey}, Rd H a (NDo X.prog X.w a xs) → DenN G p H kvs xs → keyT kw = some nk → ow = dnGet nk kvs → ∃ r, RawD X s a u r ∧ (ow = none → r = none) ∧ ∀ w, ow = some w → ∃ v r', r = some r' ∧ Den G p H w v ∧ RelV v r' := fun {kvs xs nk} rd l ek e => by
    obtain ⟨z, hd, ys, rel, dd⟩ := nd_rd I hK rd l
    obtain ⟨⟨ws, rfl⟩, km, kd⟩ := keyT_ok ek
    obtain ⟨b, vs, rfl, _, _⟩ := dk.tup_inv
    cases (show u = Value.ref b from ry)
    have g := dn_get (nk := nk) l rel
    subst e
    refine ⟨_, .n hd dd rfl (km.at I hK kd dk), fun h => by rw [g.1 h]; rfl, fun w h => ?_⟩
    obtain ⟨q', v, g1, g2, g3⟩ := g.2 w h
    exact ⟨v, q'.2, by rw [g1]; rfl, g2, g3⟩
  cases D with
  | k rd c =>
    rename_i kvs kvs'
    unfold dgetO at q
    simp only at q
    cases ek : key1 kw with
    | some ky => rw [ek] at q; cases q; exact plain rd c ek rfl
    | none =>
      rw [ek] at q
      cases kvs with
      | cons _ _ => cases q
      | nil =>
        obtain ⟨nk, g1, g2⟩ := omap_some.mp q
        subst g2
        have e0 : kvs' = [] := List.map_eq_nil_iff.mp c.1
        subst e0
        obtain ⟨z, hd, vs, rel, dd⟩ := dk_rd I.hok rd
        cases rel
        obtain ⟨⟨ws, rfl⟩, km, kd⟩ := keyT_ok g1
        obtain ⟨b, vs, rfl, _, _⟩ := dk.tup_inv
        cases (show u = Value.ref b from ry)
        exact ⟨_, .n hd (dk_none dd) rfl (km.at I hK kd dk), fun _ => rfl, fun w h => by cases h⟩
  | lk rd c =>
    unfold dgetO at q
    simp only at q
    cases ek : key1 kw with
    | some ky => rw [ek] at q; cases q; exact plain rd c ek rfl
    | none => rw [ek] at q; cases q
  | n rd l =>
    obtain ⟨nk, g1, g2⟩ := omap_some.mp (show (keyT kw).om _ = some ow from q)
    exact nest rd l g1 g2.symm
  | ln rd l =>
    obtain ⟨nk, g1, g2⟩ := omap_some.mp (show (keyT kw).om _ = some ow from q)
    exact nest rd l g1 g2.symm
variable {A : Around} {E : Value → Shared → Prop}
theorem RawD.typeIs {a : Addr} {u : Value} {r : Option Value} (R : RawD X s a u r) : s.TypeIs (.ref a) "dict" := by
  cases R with
  | k _ dd _ => exact dd.typeIs
  | n _ dd _ _ => exact dd.typeIs
theorem raw_in {a : Addr} {u : Value} {r : Option Value} {Q : Value → Shared → Prop} (hu : A.units + 64 < cLine) (I : Inv X pins σ H s) (R : RawD X s a u r) (h : ∀ s', Inv X pins σ H s' → Q (.bool r.isSome) s') : wpAny (model X.prog X.w) A (compareOp .In u (.ref a)) Q E s := by
  cases R with
  | k hd dd ku => exact wpAny_in_of ku hd dd.mapOf (h _ (I.tok _))
  | n hd dd eu ku =>
    subst eu
    refine in_keyed (show A.in1.units + 8 < cLine by rw [Around.in1_units]; omega) ku hd ⟨_, dd, rfl⟩ ?_
    rw [valueAt_pairsH]
    exact h _ (I.tok _)
theorem raw_nin {a : Addr} {u : Value} {r : Option Value} {Q : Value → Shared → Prop} (hu : A.units + 64 < cLine) (I : Inv X pins σ H s) (R : RawD X s a u r) (h : ∀ s', Inv X pins σ H s' → Q (.bool (!r.isSome)) s') : wpAny (model X.prog X.w) A (compareOp .NotIn u (.ref a)) Q E s := by
  cases R with
  | k hd dd ku => exact wpAny_notIn_of ku hd dd.mapOf (h _ (I.tok _))
  | n hd dd eu ku =>
    subst eu
    refine notIn_keyed (show A.in1.units + 8 < cLine by rw [Around.in1_units]; omega) ku hd ⟨_, dd, rfl⟩ ?_
    rw [valueAt_pairsH]
    exact h _ (I.tok _)
theorem raw_item {a : Addr} {u : Value} {r' : Value} {Q : Value → Shared → Prop} (hu : A.units + 64 < cLine) (I : Inv X pins σ H s) {r : Option Value} (R : RawD X s a u r) (er : r = some r') (h : ∀ s', Inv X pins σ H s' → Q r' s') : wpAny (model X.prog X.w) A (getItem (.ref a) u) Q E s := by
  cases R with
  | k hd dd ku => exact wpAny_getItem_of ku dd.mapOf er (h _ (I.tok _))
  | n hd dd eu ku =>
    subst eu
    exact getItem_keyed (show A.in1.units + 8 < cLine by rw [Around.in1_units]; omega) ku ⟨_, dd, rfl⟩ (by rw [valueAt_pairsH]; exact er) (h _ (I.tok _))
end
/-! ### k in d, d[k], d.get(k) -/
section
variable {X : Cx} {G : Mg} {a b e : Expr} {pos : Pos}
noncomputable def dinW (neg : Bool) (x y : Mv) (s : Ms) : Option (Mv × Ms) := match y with
  | .ref n => match s.get n with
    | some o => (dgetO o x).om fun r => (.bl (neg != r.isSome), s)
    | none => none
  | _ => none
noncomputable def inA (x y : Mv) (s : Ms) : Option (Mv × Ms) := Option.rec (motive := fun _ => Option (Mv × Ms)) (inW x y s) (fun r => some r) (dinW false x y s)
noncomputable def ninA (x y : Mv) (s : Ms) : Option (Mv × Ms) := Option.rec (motive := fun _ => Option (Mv × Ms)) (ninW x y s) (fun r => some r) (dinW true x y s)
theorem dgetO_dict {o : Mo} {k : Mv} {r : Option Mv} (h : dgetO o k = some r) : isDict o = true := by
  cases o with
  | lst _ => cases h
  | ins _ _ => cases h
  | box _ _ => cases h
  | tab _ _ => cases h
  | cod _ => cases h
  | _ => rfl
def rDI (G : Mg) (neg : Bool) : R2 := fun x y H Q => ∃ p s a b w s', Sim G p s H ∧ Den G p H a x ∧ Den G p H b y ∧ dinW neg a b s = some (w, s') ∧ After G p H w s' Q
theorem din_core {pins : List (Addr × Obj)} {σ : L2.St} {H : Hp} {s : Shared} {x y : V} {v u : Value} {neg : Bool} {Q : VK} (hK : X.K = G.K) (hP : X.prog = G.P) (hw : X.w = G.w) (I : Inv X pins σ H s) (rx : RelV x v) (ry : RelV y u) (h : rDI G neg x y H Q) :
    ∃ a r, u = .ref a ∧ RawD X s a v r ∧ ∀ s', Inv X pins σ H s' → EP X pins σ Q (.bool (neg != r.isSome)) s' := by
  obtain ⟨p, ms, a, b, w, ms', S, da, db, q, k⟩ := h
  cases b with
  | ref n =>
    cases db
    rename_i ad hn
    cases ry
    simp only [dinW] at q
    cases e : ms.get n with
    | none => rw [e] at q; cases q
    | some o =>
      rw [e] at q
      obtain ⟨r, q1, q2⟩ := omap_some.mp q
      cases q2
      obtain ⟨r', R, h1, h2⟩ := dget_raw I hK (S.dict hP hw hn e (dgetO_dict q1)) q1 da rx
      have er : r'.isSome = r.isSome := by
        cases r with
        | none => rw [h1 rfl]; rfl
        | some w =>
          obtain ⟨v', r2, g, _⟩ := h2 w rfl
          rw [g]; rfl
      refine ⟨ad, r', rfl, R, fun s' I' => ?_⟩
      rw [er]
      exact ⟨.bl (neg != r.isSome), H, I', rfl, k p _ H S Fra.refl (.bl _)⟩
  | _ => cases q
theorem op_din (hu : X.A.units + 64 < cLine) (hK : X.K = G.K) (hP : X.prog = G.P) (hw : X.w = G.w) : OpR X (compareOp .In) (rDI G false) := fun pins s σ H x y v u Q I rx ry h => by
  obtain ⟨a, r, rfl, R, f⟩ := din_core hK hP hw I rx ry h
  exact raw_in hu I R fun s' I' => by have := f s' I'; simpa using this
theorem op_dnin (hu : X.A.units + 64 < cLine) (hK : X.K = G.K) (hP : X.prog = G.P) (hw : X.w = G.w) : OpR X (compareOp .NotIn) (rDI G true) := fun pins s σ H x y v u Q I rx ry h => by
  obtain ⟨a, r, rfl, R, f⟩ := din_core hK hP hw I rx ry h
  exact raw_nin hu I R fun s' I' => by have := f s' I'; simpa using this
theorem om_inA (hu : X.A.units + 65 < cLine) (hK : X.K = G.K := by rfl) (hP : X.prog = G.P := by rfl) (hw : X.w = G.w := by rfl) : OpR X (compareOp .In) (q2R G inA) := opr_imp (OpR.or (op_din (by omega) hK hP hw) (om_in hu hK)) fun x y H Q ⟨p, s, a, b, w, s', S, da, db, q, k⟩ => by
  unfold inA at q
  cases e : dinW false a b s with
  | some z => rw [e] at q; cases q; exact .inl ⟨p, s, a, b, w, s', S, da, db, e, k⟩
  | none => rw [e] at q; exact .inr ⟨p, s, a, b, w, s', S, da, db, q, k⟩
theorem om_ninA (hu : X.A.units + 65 < cLine) (hK : X.K = G.K := by rfl) (hP : X.prog = G.P := by rfl) (hw : X.w = G.w := by rfl) : OpR X (compareOp .NotIn) (q2R G ninA) := opr_imp (OpR.or (op_dnin (by omega) hK hP hw) (om_nin hu hK)) fun x y H Q ⟨p, s, a, b, w, s', S, da, db, q, k⟩ => by
  unfold ninA at q
  cases e : dinW true a b s with
  | some z => rw [e] at q; cases q; exact .inl ⟨p, s, a, b, w, s', S, da, db, e, k⟩
  | none => rw [e] at q; exact .inr ⟨p, s, a, b, w, s', S, da, db, q, k⟩
/-- a[b] of lists, tuples, dicts, texts -/
noncomputable def dixW (a b : Mv) (s : Ms) : Option (Mv × Ms) := match a with
  | .ref n => match s.get n with
    | some o => (dgetO o b).ob fun r => r.om fun w => (w, s)
    | none => none
  | _ => none
noncomputable def sixW (a b : Mv) (s : Ms) : Option (Mv × Ms) := match a, b with
  | .str x, .int i => cond (Nat.ble x.length 16777216) ((atF x.cps.toList i).om fun c => (.str ⟨#[c]⟩, s)) none
  | _, _ => none
noncomputable def ixA (a b : Mv) (s : Ms) : Option (Mv × Ms) := Option.rec (motive := fun _ => Option (Mv × Ms)) (Option.rec (motive := fun _ => Option (Mv × Ms)) (sixW a b s) (fun r => some r) (dixW a b s)) (fun r => some r) (ixW a b s)
theorem ix_dictM (hu : X.A.units + 64 < cLine) (hK : X.K = G.K) (hP : X.prog = G.P) (hw : X.w = G.w) : IxR X (q2R G dixW) := by
  intro value slice pins s σ H x y v u Q I rx ry ⟨p, ms, a, b, w, ms', S, da, db, q, k⟩ hs
  cases a with
  | ref n =>
    cases da
    rename_i ad hn
    cases rx
    simp only [dixW] at q
    cases e : ms.get n with
    | none => rw [e] at q; cases q
    | some o =>
      rw [e] at q
      obtain ⟨r, q1, q2⟩ := ob_some.mp q
      obtain ⟨w', q3, q4⟩ := omap_some.mp q2
      cases q4
      obtain ⟨r', R, _, h2⟩ := dget_raw I hK (S.dict hP hw hn e (dgetO_dict q1)) q1 db ry
      obtain ⟨v', r2, g1, g2, g3⟩ := h2 w q3
      exact subscriptTail_builtinR (x := r2) R.typeIs PySem.F.slot_dict_getitem.lookup (raw_item hu I R g1 fun s' I' => ⟨rfl, v', H, I', g3, k p v' H S Fra.refl g2⟩) hs
  | _ => cases q
theorem ix_strM : IxR X (q2R G sixW) := ixr_imp ix_str fun x y H Q ⟨p, s, a, b, w, s', S, da, db, q, k⟩ => by
  cases a with
  | str z =>
    cases b with
    | int i =>
      cases da; cases db
      simp only [sixW] at q
      cases e : Nat.ble z.length 16777216 with
      | false => rw [e] at q; cases q
      | true =>
        rw [e] at q
        obtain ⟨c, q1, q2⟩ := omap_some.mp (show (atF z.cps.toList i).om _ = some (w, s') from q)
        cases q2
        exact ⟨z, i, c, rfl, rfl, ble_sz e, by rw [← atF_eq]; exact q1, k p _ H S Fra.refl (.str _)⟩
    | _ => cases q
  | _ => cases q
theorem ix_any (hu : X.A.units + 64 < cLine) (hK : X.K = G.K) (hP : X.prog = G.P) (hw : X.w = G.w) : IxR X (q2R G ixA) := ixr_imp (IxR.or (ixm hK) (IxR.or (ix_dictM hu hK hP hw) ix_strM)) fun x y H Q ⟨p, s, a, b, w, s', S, da, db, q, k⟩ => by
  unfold ixA at q
  cases e : ixW a b s with
  | some z => rw [e] at q; cases q; exact .inl ⟨p, s, a, b, w, s', S, da, db, e, k⟩
  | none =>
    rw [e] at q
    cases e2 : dixW a b s with
    | some z => rw [e2] at q; cases q; exact .inr (.inl ⟨p, s, a, b, w, s', S, da, db, e2, k⟩)
    | none => rw [e2] at q; exact .inr (.inr ⟨p, s, a, b, w, s', S, da, db, q, k⟩)
theorem pm_ixA {A B : Fe} (hu : X.A.units + 64 < cLine) (ha : PE X a (tI G A)) (hb : PE X b (tI G B)) (hs : PlainIx b := by exact fun _ _ => rfl) (hK : X.K = G.K := by rfl) (hP : X.prog = G.P := by rfl) (hw : X.w = G.w := by rfl) : PE X (.Subscript a b pos) (tI G (mop2 ixA A B)) := pe_imp (pe_ix (ix_any hu hK hP hw) ha hb hs) fun _ _ _ h => t_op2 h
end

end
section
/-! ### dicts that are walked: keys and items of a locked one -/
/-- a raw dict's entries, by values -/
structure EntRel (es : Array DictEntry) (ks : List (V × V)) : Prop where
  sz : es.size = ks.length
  get : ∀ (i : Nat) (kv : V × V), ks[i]? = some kv → ∃ h : i < es.size, RelV kv.1 es[i].key ∧ RelV kv.2 es[i].val
section
variable {P : Program} {w : World} {K : PySem.W.Frag} {d : Addr} {o : Obj} {u : HO} {es : Array DictEntry} {ep : Nat} {ks : List (V × V)}
end
section
variable {X : Cx} {pins : List (Addr × Obj)} {σ : L2.St} {H : Hp} {s : Shared} {G : Mg} {p : List Addr}
/-- the walker's view of a locked dict -/
structure Lkd (X : Cx) (s : Shared) (H : Hp) (d : Addr) (o : Obj) (u : HO) (es : Array DictEntry) (ep : Nat) (ks : List (V × V)) : Prop where
  at_ : H d = some (.frz o u)
  get : s.heap.get? d = some o
  ex : o.ExactDict
  da : o.data = .dict es ep
  sys : (d == sysModules) = false
  R : EntRel es ks
/-- pairs that are denoted -/
abbrev DenP (G : Mg) (p : List Addr) (H : Hp) : List (Mv × Mv) → List (V × V) → Prop := Paired (fun (a : Mv × Mv) (b : V × V) => Den G p H a.1 b.1 ∧ Den G p H a.2 b.2)
abbrev EntL := Paired (fun (e : DictEntry) (kv : V × V) => RelV kv.1 e.key ∧ RelV kv.2 e.val)
theorem paired_at {α β : Type} {R : α → β → Prop} : ∀ {l : List α} {m : List β}, Paired R l m → ∀ {i : Nat} {b : β}, m[i]? = some b → ∃ a, l[i]? = some a ∧ R a b
  | _, _, .nil, i, b, h => by simp at h
  | _, _, .cons r t, 0, b, h => by simp at h; subst h; exact ⟨_, rfl, r⟩
  | _, _, .cons r t, i + 1, b, h => by simpa using paired_at t (i := i) (by simpa using h)
theorem EntRel.of {es : Array DictEntry} {ks : List (V × V)} (h : EntL es.toList ks) : EntRel es ks := by
  refine ⟨by have := Paired.length h; simpa using this, fun i kv hk => ?_⟩
  obtain ⟨e, h1, h2⟩ := paired_at h hk
  rw [Array.getElem?_toList] at h1
  obtain ⟨hi, he⟩ := Array.getElem?_eq_some_iff.mp h1
  exact ⟨hi, by rw [he]; exact h2⟩
theorem DenP.stay {p' : List Addr} {H' : Hp} (z : Stays p H p' H') : ∀ {qs : List (Mv × Mv)} {ks : List (V × V)}, DenP G p H qs ks → DenP G p' H' qs ks
  | _, _, .nil => .nil
  | _, _, .cons r t => .cons ⟨r.1.stay z, r.2.stay z⟩ (DenP.stay z t)
end
/-! ### e.items(), a dict by its keys -/
section
variable {X : Cx} {G : Mg} {e : Expr} {apos cpos : Pos}
end
/-! ### the lock -/
section
variable {X : Cx} {G : Mg} {e : Expr} {p : List Addr} {H : Hp}
end

end
section
/-! ### dict comprehensions, keys of any kind -/
section
variable {X : Cx} {G : Mg}
end

end
section
/-! ### dict comprehensions in the mirror -/
noncomputable def newO (o : Mo) (s : Ms) : Option (Mv × Ms) := (s.alloc o).om fun q => (.ref q.1, q.2)
section
variable {X : Cx} {G : Mg}
/-- a thing outside of the store is changed -/
theorem Sim.out_upd {p : List Addr} {s : Ms} {H : Hp} {D : Addr} {ho ho' : HO} (S : Sim G p s H) (hD : H D = some ho) (nt : ∀ vs, ho ≠ .tup vs) (nf : ∀ o u, ho ≠ .frz o u) (n : D ∉ p) : Sim G p s (upd H D ho') ∧ Stays p H p (upd H D ho') ∧ ∀ a o u, H a = some (.frz o u) → upd H D ho' a = some (.frz o u) := by
  have fz : ∀ a o u, H a = some (.frz o u) → upd H D ho' a = some (.frz o u) := fun a o u e => by rw [upd_ne (by rintro rfl; rw [hD] at e; exact nf o u (Option.some.inj e))]; exact e
  have st : Stays p H p (upd H D ho') := ⟨fun _ _ e => e, fun a vs e => by rw [upd_ne (by rintro rfl; rw [hD] at e; exact nt vs (Option.some.inj e))]; exact e, fun a o u _ e => fz a o u e⟩
  refine ⟨⟨S.len, S.nd, fun m b hb => ?_, S.out⟩, st, fz⟩
  obtain ⟨o1, ho1, q1, q2, q3⟩ := S.ob m b hb
  have hne : b ≠ D := by rintro rfl; exact n (List.mem_of_getElem? hb)
  exact ⟨o1, ho1, q1, by rw [upd_ne hne]; exact q2, q3.stay st⟩
/-- while the dict at D grows, outside of the store -/
structure MidD (G : Mg) (D : Addr) (p1 : List Addr) (H1 : Hp) (acc : Mo) (p : List Addr) (s : Ms) (H : Hp) : Prop where
  S : Sim G p s H
  f : Fra p1 H1 p H
  n : D ∉ p
  a : ∃ ho, H D = some ho ∧ DenO G p H D acc ho ∧ unl acc = true ∧ ∀ vs, ho ≠ .tup vs
theorem MidD.fra {D : Addr} {p1 p p' : List Addr} {H1 H H' : Hp} {acc : Mo} {s s' : Ms} (M : MidD G D p1 H1 acc p s H) (S' : Sim G p' s' H') (f : Fra p H p' H') : MidD G D p1 H1 acc p' s' H' := by
  obtain ⟨ho, h1, h2, h3, h4⟩ := M.a
  exact ⟨S', M.f.trans f, f.notin h1 M.n, ho, f.kee D _ h1 M.n, h2.stay (f.stays M.S), h3, h4⟩
theorem MidD.start {D : Addr} {p1 : List Addr} {H1 : Hp} {s1 : Ms} (S : Sim G p1 s1 H1) (hD : H1 D = none) : MidD G D p1 H1 (.dk []) p1 s1 (upd H1 D (.dK [])) :=
  ⟨S.fra_new hD, fra_new hD, S.free hD, ⟨_, upd_same, ⟨[], rfl, rfl, .nil⟩, rfl, fun _ z => by cases z⟩⟩
theorem dput_unl {o o' : Mo} {k v : Mv} (h : dputO o k v = some o') : unl o' = true := by
  unfold dputO at h
  cases o with
  | dk kvs =>
    simp only at h
    cases e : key1 k with
    | some ky =>
      rw [e] at h
      simp only at h
      cases e2 : Nat.blt (llen kvs) 16777216 with
      | false => rw [e2] at h; cases h
      | true => rw [e2] at h; cases h; rfl
    | none =>
      rw [e] at h
      cases kvs with
      | cons _ _ => cases h
      | nil => obtain ⟨_, _, g⟩ := omap_some.mp h; subst g; rfl
  | dn kvs =>
    simp only at h
    cases e2 : Nat.blt (llen kvs) 16777216 with
    | false => rw [e2] at h; cases h
    | true => rw [e2] at h; obtain ⟨_, _, g⟩ := omap_some.mp (show (keyT k).om _ = some o' from h); subst g; rfl
  | _ => cases h
theorem MidD.put {D : Addr} {p1 p : List Addr} {H1 H : Hp} {acc acc' : Mo} {s : Ms} {kw w : Mv} {y v : V} (hP : X.prog = G.P) (hw : X.w = G.w) (M : MidD G D p1 H1 acc p s H) (hD : H1 D = none) (q : dputO acc kw w = some acc') (dk : Den G p H kw y) (dv : Den G p H w v) :
    ∃ ho', DPA G X H D y v ho' ∧ MidD G D p1 H1 acc' p s (upd H D ho') := by
  obtain ⟨ho, h1, h2, h3, h4⟩ := M.a
  obtain ⟨ho', g1, g2, g3, _⟩ := dputO_at (X := X) hP hw h1 h2 q dk dv
  obtain ⟨S', st, fz⟩ := M.S.out_upd (ho' := ho') h1 h4 (h2.unl h3) M.n
  refine ⟨ho', g1, S', ⟨M.f.pre, fun a o e n => ?_, fun a o u e => fz a o u (M.f.frz a o u e)⟩, M.n, ho', upd_same, g2.stay st, dput_unl q, g3⟩
  rw [upd_ne (by rintro rfl; rw [hD] at e; cases e)]
  exact M.f.kee a o e n
end

end
section
/-! ### further methods of lists; xs[i] += e -/
section
variable {X : Cx} {G : Mg} {e o : Expr} {pos : Pos}
end

end
section
/-! ### a dict displayed with one entry -/
section
variable {X : Cx} {G : Mg} {e o : Expr} {pos : Pos}
/-! ### methods of dicts with one argument -/
/-! ### d.update(d2) -/
end

end
section
/-! ### isinstance with an own class -/
structure IsC (K : PySem.W.Frag) (C : Addr) : Prop where
  tu : PySem.W.kitOne K (.type "tuple") (.ref C) = some false
  ls : PySem.W.kitOne K (.type "list") (.ref C) = some false
  ha : PySem.W.findIn K (.ref C) "__class__" = some (some (.builtin "object.__class__"))
  hn : PySem.W.specialIn K (.builtin "object.__class__") "__get__" = some (some (.builtin "getset_descriptor.__get__"))
  tk : PySem.W.takesIn K (.builtin "object.__class__") = some true
  hm : PySem.W.mroIn K C (.type "object") = some true
section
variable {X : Cx} {G : Mg} {a e o : Expr} {pos : Pos}
/-! ### dict(d), keys whole numbers and texts -/
theorem newO_fresh {p : List Addr} {s s' : Ms} {H : Hp} {o : Mo} {ho : HO} {w : Mv} {Q : VK} (S : Sim G p s H) (h : newO o s = some (w, s')) (k : After G p H w s' Q) {a : Addr} (ha : H a = none) (d : DenO G p H a o ho) : Q (.ref a) (upd H a ho) := by
  obtain ⟨⟨n, s1⟩, q1, q2⟩ := omap_some.mp h
  cases q2
  obtain ⟨S2, f2, d2⟩ := S.new q1 ha (ho := ho) (H' := upd H a ho) d upd_same fun b u eb => by rw [upd_ne (ne_of_none eb ha)]; exact eb
  exact k _ _ _ S2 f2 d2
/-! ### list(range(..)), tuple(range(..)) -/
/-! ### calls that leave parameters to their defaults -/
end

end
section
open PyProof.Rows.H
open PySem.W (EachIs alike alikeAll keyToks keyToksAll dataLt dataKind SortsAt dataType)
/-! ### sorting tuples that can be compared up to their first unlike places -/
/-- the two rows can be compared: alike up to the first place where they differ -/
def lz : List PyData → List PyData → Bool
  | x :: xs, y :: ys => alike x y && (!PyData.eqv x y || lz xs ys)
  | [], _ => true
  | _ :: _, [] => true
section
variable {prog : Program} {w : World} {A : Around} {s : Shared}
theorem katLex_lz {b fin : Bool} {Q : Bool → Shared → Prop} (xs : List PyData) : ∀ (ys : List PyData) (i : Nat) {vs ws : List Value} {as bs : List Addr}, ReadsAll s.heap vs xs as → ReadsAll s.heap ws ys bs → lz xs ys = true →
    A.units + min (PyData.depthAll xs) (PyData.depthAll ys) < cLine → (b = true → i = 0 → ∀ x r t, xs = x :: r → x ≠ .tuple t) → fin = decide (xs.length < ys.length) → Q (PyProof.Rows.lexLt itemOrd (keyToksAll xs) (keyToksAll ys)) s → PySem.W.KatLex prog w A b fin Q (vs.zip ws) i s := by
  induction xs with
  | nil => intro ys i vs ws as bs ra rb _ hu hb hf hq; exact PySem.W.katLex_alike [] ys i _ _ _ _ ra rb rfl hu hb hf hq
  | cons x xs ih =>
    intro ys i vs ws as bs ra rb h hu hb hf hq
    cases ys with
    | nil => exact PySem.W.katLex_alike (x :: xs) [] i _ _ _ _ ra rb rfl hu hb hf hq
    | cons y ys =>
      obtain ⟨h1, h2⟩ := He.ba h
      cases ra with
      | cons r rs =>
        cases rb with
        | cons r' rs' =>
          refine PySem.W.kat_cons (PySem.W.eqAt_alike x y A s _ _ _ _ r r' h1 (SeqAt.room_head hu) prog w _ _ ?_)
          cases hx : PyData.eqv x y with
          | true =>
            rw [PySem.W.dataLt_all_yes h1 hx] at hq
            rw [hx] at h2
            refine PySem.W.kat_yes (ih ys (i + 1) rs rs' h2 (SeqAt.room_tail hu) (fun _ z => absurd z (Nat.succ_ne_zero i)) ?_ hq)
            rw [hf, List.length_cons, List.length_cons]
            exact decide_eq_decide.mpr (by omega)
          | false =>
            rw [PySem.W.dataLt_all_no h1 hx] at hq
            refine PySem.W.kat_no (PySem.W.oneLt_alike (fun z t => ?_) r r' h1 (PySem.W.ne_none_of h1 hx) (SeqAt.room_head hu) hq)
            obtain ⟨z1, z2⟩ := He.ba z
            exact hb z1 (by simpa using z2) x xs t rfl
/-- tuples with an item at least, each two of which can be compared -/
structure LzAll (ds : List PyData) : Prop where
  tp : ∀ d, d ∈ ds → ∃ x r, d = .tuple (x :: r)
  lz : ∀ xs, PyData.tuple xs ∈ ds → ∀ ys, PyData.tuple ys ∈ ds → lz xs ys = true
theorem kind_of {h : Heap} {ds : List PyData} {v : Value} {d : PyData} {as : List Addr} (hd : d ∈ ds) (r : Reads h v d as) : (dataKind h ds).keyOf v = some (keyToks d) := by
  have q : ∃ d, d ∈ ds ∧ ∃ as, Reads h v d as := ⟨d, hd, as, r⟩
  cases e : (dataKind h ds).keyOf v with
  | none =>
    have z : (open Classical in if q : ∃ d, d ∈ ds ∧ ∃ as, Reads h v d as then some (keyToks q.choose) else none) = none := e
    rw [dif_pos q] at z
    cases z
  | some k =>
    obtain ⟨d', as', _, r', rfl⟩ := PySem.W.dataKind_inv e
    rw [(PySem.Reads.unique r _ _ r').1]; rfl
theorem sorts_lz {vs : List Value} {ds : List PyData} (e : EachIs (fun v d => ∃ as, Reads s.heap v d as) vs ds) (L : LzAll ds) (hu : ∀ d, d ∈ ds → A.units + d.depth < cLine) : SortsAt prog w A s (dataKind s.heap ds) vs := by
  refine ⟨fun v hv => ?_, ?_⟩
  · obtain ⟨d, hd, as, r⟩ := e.left v hv
    exact ⟨_, kind_of hd r⟩
  cases ds with
  | nil =>
    cases e
    refine ⟨general', fun E x y a b Q ha => ?_, fun z => absurd z (by simp)⟩
    obtain ⟨_, _, z, _⟩ := PySem.W.dataKind_inv ha
    cases z
  | cons d₀ ds₀ =>
    obtain ⟨x₀, r₀, e₀⟩ := L.tp d₀ (List.mem_cons_self ..)
    have first : ∀ x r, PyData.tuple (x :: r) ∈ d₀ :: ds₀ → dataType x = dataType x₀ := fun x r hm => by
      have z := L.lz _ hm (x₀ :: r₀) (by rw [← e₀]; exact List.mem_cons_self ..)
      exact PySem.W.dataType_alike (He.ba z).1
    refine ⟨tuples' (dataType x₀ != Value.type "tuple"), fun E x y a b Q ha hb hq => ?_, fun h2 E Q hq => ?_⟩
    · obtain ⟨d, as, hd, ra, rfl⟩ := PySem.W.dataKind_inv ha
      obtain ⟨d', as', hd', rb, rfl⟩ := PySem.W.dataKind_inv hb
      obtain ⟨x1, r1, rfl⟩ := L.tp d hd
      obtain ⟨x2, r2, rfl⟩ := L.tp d' hd'
      have hroom : A.units + min (PyData.tuple (x1 :: r1)).depth (PyData.tuple (x2 :: r2)).depth < cLine := Nat.lt_of_le_of_lt (Nat.add_le_add_left (Nat.min_le_left _ _) _) (hu _ hd)
      have hq' : Q (dataLt (.tuple (x1 :: r1)) (.tuple (x2 :: r2))) s := hq
      rw [PySem.W.dataLt_tuple] at hq'
      cases ra with
      | tuple a1 a2 a3 a4 =>
        cases rb with
        | tuple b1 b2 b3 b4 =>
          have n1 := SeqAt.ReadsAll.length _ _ _ a4
          have n2 := SeqAt.ReadsAll.length _ _ _ b4
          rw [Array.length_toList] at n1 n2
          refine PySem.W.kat_lt a1 a3 b1 b3 (katLex_lz (x1 :: r1) (x2 :: r2) 0 a4 b4 (L.lz _ hd _ hd') (by have := SeqAt.room_in hroom; omega) (fun z _ x r t ex => ?_) (by rw [n1, n2]) hq')
          cases ex
          rw [← first _ _ hd] at z
          exact PySem.W.dataType_tuple z t
    · obtain ⟨fs, t1, t2, t3⟩ := PySem.W.each_katTups e L.tp
      refine PySem.W.kat_kind (T := dataType x₀) t1 (by omega) (fun f hf => ?_) (beq_self_eq_true _) hq
      obtain ⟨x, r, as, m1, m2⟩ := t3 f hf
      rw [← first x r m1]
      exact PySem.W.looks_reads m2
end
/-! ### a sort that the kernel can run -/
section
variable {α : Type} {le : α → α → Bool}
noncomputable def ins1 (le : α → α → Bool) (x : α) (l : List α) : List α := List.rec (motive := fun _ => List α) [x] (fun y ys ih => cond (le x y) (x :: y :: ys) (y :: ih)) l
noncomputable def isort (le : α → α → Bool) (l : List α) : List α := List.rec (motive := fun _ => List α) [] (fun x _ ih => ins1 le x ih) l
theorem ins1_cons {x y : α} {ys : List α} : ins1 le x (y :: ys) = cond (le x y) (x :: y :: ys) (y :: ins1 le x ys) := rfl
theorem ins1_mem {x z : α} : ∀ {l : List α}, z ∈ ins1 le x l → z = x ∨ z ∈ l
  | [], h => .inl (by simpa [ins1] using h)
  | y :: ys, h => by
    rw [ins1_cons] at h
    cases e : le x y with
    | true => rw [e] at h; simpa using h
    | false =>
      rw [e] at h
      rcases List.mem_cons.mp (show z ∈ y :: ins1 le x ys from h) with z1 | z1
      · exact .inr (by rw [z1]; exact List.mem_cons_self ..)
      · rcases ins1_mem z1 with z2 | z2
        · exact .inl z2
        · exact .inr (List.mem_cons_of_mem _ z2)
theorem ins1_pw (T : PySem.W.TotalLe le) {x : α} : ∀ {l : List α}, l.Pairwise (fun a b => le a b = true) → (ins1 le x l).Pairwise fun a b => le a b = true
  | [], _ => by simp [ins1]
  | y :: ys, h => by
    rw [ins1_cons]
    obtain ⟨h1, h2⟩ := List.pairwise_cons.mp h
    cases e : le x y with
    | true =>
      refine List.pairwise_cons.mpr ⟨fun z hz => ?_, h⟩
      rcases List.mem_cons.mp hz with rfl | hz
      · exact e
      · exact T.trans _ _ _ e (h1 z hz)
    | false =>
      refine List.pairwise_cons.mpr ⟨fun z hz => ?_, ins1_pw T h2⟩
      rcases ins1_mem hz with rfl | hz
      · exact (T.total y z).elim id fun q => by rw [e] at q; cases q
      · exact h1 z hz
theorem ins1_filter (T : PySem.W.TotalLe le) (c x : α) : ∀ l : List α, (ins1 le x l).filter (PySem.W.sameRank le c) = (x :: l).filter (PySem.W.sameRank le c)
  | [] => rfl
  | y :: ys => by
    rw [ins1_cons]
    cases e : le x y with
    | true => rfl
    | false =>
      show (y :: ins1 le x ys).filter _ = _
      have ih := ins1_filter T c x ys
      rw [List.filter_cons, List.filter_cons, List.filter_cons, ih, List.filter_cons]
      cases e1 : PySem.W.sameRank le c x with
      | false => simp
      | true =>
        cases e2 : PySem.W.sameRank le c y with
        | false => simp
        | true =>
          have z : le x y = true := T.trans _ _ _ (He.ba e1).2 (He.ba e2).1
          rw [e] at z; cases z
theorem isort_eq (T : PySem.W.TotalLe le) (l : List α) : isort le l = l.mergeSort le := by
  refine PySem.W.sort_unique T ?_ fun c => ?_
  · induction l with
    | nil => exact .nil
    | cons x l ih => exact ins1_pw T ih
  · induction l with
    | nil => rfl
    | cons x l ih =>
      show (ins1 le x (isort le l)).filter _ = _
      rw [ins1_filter T, List.filter_cons, ih, List.filter_cons]
end
/-! ### data compared -/
noncomputable def tkLt (a b : Int ⊕ List Nat) : Bool := Sum.rec (motive := fun _ => Bool) (fun i => Sum.rec (motive := fun _ => Bool) (fun j => iLt i j) (fun _ => true) b) (fun x => Sum.rec (motive := fun _ => Bool) (fun _ => false) (fun y => ltCps x y) b) a
theorem tkLt_eq (a b : Int ⊕ List Nat) : tkLt a b = itemLt a b := by
  cases a <;> cases b
  · exact iLt_eq _ _
  · rfl
  · rfl
  · rename_i x y
    show ltCps x y = strKind.blt x y
    rw [ltCps_eq]
noncomputable def tksLt (a : List (Int ⊕ List Nat)) : List (Int ⊕ List Nat) → Bool := List.rec (motive := fun _ => List (Int ⊕ List Nat) → Bool) (fun b => List.rec (motive := fun _ => Bool) false (fun _ _ _ => true) b)
  (fun x _ ih b => List.rec (motive := fun _ => Bool) false (fun y t _ => cond (tkLt x y) true (cond (tkLt y x) false (ih t))) b) a
theorem tksLt_eq : ∀ a b : List (Int ⊕ List Nat), tksLt a b = PyProof.Rows.lexLt itemOrd a b
  | [], [] => rfl
  | [], _ :: _ => rfl
  | _ :: _, [] => rfl
  | x :: r, y :: t => by
    show cond (tkLt x y) true (cond (tkLt y x) false (tksLt r t)) = (itemLt x y || (!itemLt y x && PyProof.Rows.lexLt itemOrd r t))
    rw [tkLt_eq, tkLt_eq, tksLt_eq r t]
    cases itemLt x y <;> cases itemLt y x <;> rfl
noncomputable def dLt (x y : PyData) : Bool := tksLt (keyToks x) (keyToks y)
theorem dLt_eq (x y : PyData) : dLt x y = dataLt x y := tksLt_eq _ _
noncomputable def leD {α : Type} (a b : α × PyData) : Bool := !dLt b.2 a.2
theorem leD_eq {α : Type} : (leD : α × PyData → α × PyData → Bool) = PySem.W.sortLe (listOrd itemOrd) false fun b => keyToks b.2 := by
  funext a b
  show (!dLt b.2 a.2) = cond false _ (!PyProof.Rows.lexLt itemOrd (keyToks b.2) (keyToks a.2))
  rw [dLt_eq]; rfl
theorem leD_total {α : Type} : PySem.W.TotalLe (leD : α × PyData → α × PyData → Bool) := by rw [leD_eq]; exact PySem.W.sortLe_total _ _ _
section
variable {X : Cx} {G : Mg} {p : List Addr} {H : Hp}
theorem triples {h : Heap} : ∀ {ws : List Mv} {vs : List V} {its : List Value} {ds : List PyData} {as : List Addr}, DenL G p H ws vs → Vals vs its → ReadsAll h its ds as →
    ∃ T : List (V × Mv × PyData), EachIs (fun u t => RelV t.1 u ∧ Den G p H t.2.1 t.1) its T ∧ EachIs (fun u t => ∃ as, Reads h u t.2.2 as) its T ∧ T.map (·.2) = ws.zip ds ∧ T.map (·.2.2) = ds
  | [], _, _, ds, _, .nil, .nil, r => by cases r; exact ⟨[], .nil, .nil, rfl, rfl⟩
  | w :: ws, _, _, ds, _, .cons d l, .cons rv rs, r => by
    cases r with
    | cons r1 r2 =>
      obtain ⟨T, t1, t2, t3, t4⟩ := triples l rs r2
      exact ⟨(_, _, _) :: T, .cons ⟨rv, d⟩ t1, .cons ⟨_, r1⟩ t2, by rw [List.map_cons, t3]; rfl, by rw [List.map_cons, t4]⟩
theorem each_zip {α β : Type} {R R' : α → β → Prop} : ∀ {as : List α} {bs : List β}, EachIs R as bs → (∀ a b, b ∈ bs → R a b → R' a b) → EachIs R' as bs
  | _, _, .nil, _ => .nil
  | _, _, .cons h t, k => .cons (k _ _ (List.mem_cons_self ..) h) (each_zip t fun a b hb => k a b (List.mem_cons_of_mem _ hb))
theorem each_out : ∀ {us : List Value} {T : List (V × Mv × PyData)}, EachIs (fun u t => RelV t.1 u ∧ Den G p H t.2.1 t.1) us T → Vals (T.map (·.1)) us ∧ DenL G p H (T.map (·.2.1)) (T.map (·.1))
  | _, _, .nil => ⟨.nil, .nil⟩
  | _, _, .cons h t => ⟨.cons h.1 (each_out t).1, .cons h.2 (each_out t).2⟩
theorem data_sorted {h : Heap} {ws : List Mv} {vs : List V} {its : List Value} {ds : List PyData} {as : List Addr} (l : DenL G p H ws vs) (rv : Vals vs its) (r : ReadsAll h its ds as) :
    ∃ xs, Vals xs (PySem.W.sortVals (dataKind h ds) false its its) ∧ DenL G p H ((isort leD (ws.zip ds)).map (·.1)) xs := by
  obtain ⟨T, t1, t2, t3, t4⟩ := triples l rv r
  have key : EachIs (fun v b => (dataKind h ds).keyOf v = some (keyToks b.2.2)) its T := each_zip t2 fun a b hb ⟨as, q⟩ => kind_of (by rw [← t4]; exact List.mem_map.mpr ⟨b, hb, rfl⟩) q
  have out := PySem.W.sortVals_each (κ := dataKind h ds) (rev := false) (fun b : V × Mv × PyData => keyToks b.2.2) t1 key
  obtain ⟨o1, o2⟩ := each_out out
  refine ⟨_, o1, ?_⟩
  have e : (T.mergeSort (PySem.W.sortLe (dataKind h ds).toKeyOrd false fun b => keyToks b.2.2)).map (·.2) = isort leD (ws.zip ds) := by
    rw [isort_eq leD_total, ← t3]
    exact PySem.W.sort_maps (fun b : V × Mv × PyData => b.2) fun a _ b _ => by rw [leD_eq]; rfl
  rw [← e, List.map_map]
  exact o2
theorem readsAll_each : ∀ {h : Heap} {us : List Value} {ds : List PyData} {as : List Addr}, ReadsAll h us ds as → EachIs (fun v d => ∃ as, Reads h v d as) us ds
  | _, [], _, _, r => by cases r; exact .nil
  | _, _ :: _, _, _, r => by cases r with | cons r1 r2 => exact .cons ⟨_, r1⟩ (readsAll_each r2)
end

end
section
open PyProof.Rows.H
open PySem.W (EachIs alike alikeAll keyToks keyToksAll dataLt dataKind SortsAt dataType)
/-! ### sorted(d.items()) -/
section
variable {X : Cx} {pins : List (Addr × Obj)} {σ : L2.St} {H : Hp} {s : Shared} {G : Mg} {p : List Addr}
end

end
section
open PySem.SeqAt PySem.MeetsSeq
/-! ### x < y of tuples, asked up to the first unlike place -/
/-- the places of two tuples, one after the other: the first unlike one answers -/
inductive Lex (A : Around) (s : Shared) (fin : Bool) : List (Value × Value) → Bool → Prop
  | nil : Lex A s fin [] fin
  | yes {y x : Value} {t : List (Value × Value)} {k : Bool} : EqAt A s y x true → Lex A s fin t k → Lex A s fin ((y, x) :: t) k
  | no {y x : Value} {t : List (Value × Value)} {k : Bool} : EqAt A s y x false → RcLt A s y x k → Lex A s fin ((y, x) :: t) k
section
theorem tuple_lt_lex (l b : Addr) (us vs : Array Value) (n m : Nat) (d1 d2 : Option Addr) (t1 t2 : Array (Option Value)) (k : Bool) :
    Meets (Builtin.«tuple.__lt__» ⟨[.ref l, .ref b], []⟩)
      (fun A R s => s.heap.get? l = some { cls := .type "tuple", dict := d1, data := .seq us n, slots := t1 } ∧ s.heap.get? b = some { cls := .type "tuple", dict := d2, data := .seq vs m, slots := t2 } ∧
        Lex A.in1 s (decide (us.size < vs.size)) (us.toList.zip vs.toList) k ∧ R (.ok (.ret (.bool k))) s) :=
  .of_wp fun prog w A R s h => by
    obtain ⟨hp, g, d, tk, os⟩ := s
    obtain ⟨hl, hb, hx, h⟩ := h
    have f2 := AutoSeq1.sub_tuple_tuple
    wp_walk using wpAny_loadPart' hl, wpAny_loadPart' hb, wpAny_forIn_list _ (fun rest b s' => b.1 = none ∧ s' = ⟨hp, g, d, tk, os⟩ ∧ Lex A.in1 ⟨hp, g, d, tk, os⟩ (decide (us.size < vs.size)) rest k) _
    case turn =>
      rintro ⟨y, x⟩ rest b s' ⟨hb', rfl, hx⟩
      cases hx with
      | yes e t =>
        refine wpAny_bind (e prog w _ _ ?_)
        wp_walk
        exact ⟨rfl, rfl, t⟩
      | no e r =>
        refine wpAny_bind (e prog w _ _ ?_)
        have r0 := r prog w
        generalize PySem.richCompare CmpOp.Lt y x = rc at r0 ⊢
        wp_walk
        refine r0 _ _ ?_
        wp_walk
        exact ⟨_, rfl, h⟩
    case fin =>
      rintro ⟨b1, b2⟩ s' ⟨hb', rfl, hx⟩
      simp only at hb'
      subst hb'
      cases hx
      wp_walk
      exact ⟨_, rfl, by simpa [Builtin.Tuple.tupleCompareSizes] using h⟩
    case h => exact ⟨rfl, rfl, hx⟩
end
section
variable {A : Around} {s : Shared}
theorem rcLt_lex {l b : Addr} {us vs : Array Value} {k : Bool} (hl : s.heap.IsTuple l us) (hb : s.heap.IsTuple b vs) (hu : A.units < cLine) (hx : Lex A.in1 s (decide (us.size < vs.size)) (us.toList.zip vs.toList) k) : RcLt A s (.ref l) (.ref b) k := fun prog w E Q h => by
  obtain ⟨⟨c1, d1, e1, t1⟩, ho, hc, n, hd⟩ := id hl
  obtain ⟨⟨c2, d2, e2, t2⟩, ho2, hc2, m, hd2⟩ := id hb
  simp only at hc hd hc2 hd2
  subst hc hd hc2 hd2
  exact richCompare_meets_room (op := .Lt) ⟨_, ho, rfl⟩ ⟨_, ho2, rfl⟩ F.slot_tuple_lt F.entry_tuple_lt (F.args_tuple_lt_2 _ _) (tuple_lt_lex l b us vs n m d1 d2 t1 t2 k)
    ⟨ho, ho2, hx, show Value.bool k ≠ Value.notImplemented ∧ Q (.bool k) s from ⟨(fun x => nomatch x), h⟩⟩ hu
noncomputable def cmpL (f : PyData → PyData → Option Bool) : List PyData → List PyData → Option Bool
  | [], [] => some false
  | [], _ :: _ => some true
  | _ :: _, [] => some false
  | x :: xs, y :: ys => cond (PyData.eqv x y) (cmpL f xs ys) (f x y)
/-- x < y, where the answer is known -/
noncomputable def cmpD : Nat → PyData → PyData → Option Bool
  | 0, _, _ => none
  | n + 1, d, e => match d, e with
    | .int i, .int j => some (iLt i j)
    | .str x, .str y => some (ltCps x.cps.toList y.cps.toList)
    | .tuple xs, .tuple ys => cmpL (cmpD n) xs ys
    | _, _ => none
theorem lex_of {f : PyData → PyData → Option Bool} (hf : ∀ (da db : PyData) (a b : Value) (as bs : List Addr) (k : Bool), Reads s.heap a da as → Reads s.heap b db bs → da.canLay0 = true → db.canLay0 = true → A.units + min da.depth db.depth < cLine → f da db = some k → RcLt A s a b k) :
    ∀ (xs ys : List PyData) {us vs : List Value} {as bs : List Addr} {k fin : Bool}, ReadsAll s.heap us xs as → ReadsAll s.heap vs ys bs → PyData.canLayAll0 xs = true → PyData.canLayAll0 ys = true → A.units + min (PyData.depthAll xs) (PyData.depthAll ys) < cLine →
      fin = decide (xs.length < ys.length) → cmpL f xs ys = some k → Lex A s fin (us.zip vs) k
  | [], [], _, _, _, _, _, _, ra, rb, _, _, _, hn, h => by cases ra; cases rb; cases h; subst hn; exact .nil
  | [], y :: ys, _, _, _, _, _, _, ra, rb, _, _, _, hn, h => by
    cases ra; cases rb; cases h
    rw [List.zip_nil_left]
    have : (decide (([] : List PyData).length < (y :: ys).length)) = true := by simp
    rw [this] at hn; subst hn; exact .nil
  | x :: xs, [], _, _, _, _, _, _, ra, rb, _, _, _, hn, h => by
    cases ra; cases rb; cases h
    rw [List.zip_nil_right]
    have : (decide ((x :: xs).length < ([] : List PyData).length)) = false := by simp
    rw [this] at hn; subst hn; exact .nil
  | x :: xs, y :: ys, _, _, _, _, k, _, ra, rb, la, lb, hu, hn, h => by
    cases ra with
    | cons r rs =>
      cases rb with
      | cons r' rs' =>
        simp only [PyData.canLayAll0, Bool.and_eq_true] at la lb
        have hn' : _ = decide (xs.length < ys.length) := hn.trans (by simp)
        have e := SeqAt.eqAt_reads x y A s _ _ _ _ r r' la.1 lb.1 (SeqAt.room_head hu)
        have h' : cond (PyData.eqv x y) (cmpL f xs ys) (f x y) = some k := h
        rw [List.zip_cons_cons]
        cases hx : PyData.eqv x y with
        | true =>
          rw [hx] at e h'
          exact .yes e (lex_of hf xs ys rs rs' la.2 lb.2 (SeqAt.room_tail hu) hn' h')
        | false =>
          rw [hx] at e h'
          exact .no e (hf x y _ _ _ _ k r r' la.1 lb.1 (SeqAt.room_head hu) h')
end
theorem cmpD_ok : ∀ (n : Nat) (A : Around) (s : Shared) (da db : PyData) (a b : Value) (as bs : List Addr) (k : Bool), Reads s.heap a da as → Reads s.heap b db bs → da.canLay0 = true → db.canLay0 = true → A.units + min da.depth db.depth < cLine → cmpD n da db = some k → RcLt A s a b k
  | 0, _, _, _, _, _, _, _, _, _, _, _, _, _, _, h => by cases h
  | n + 1, A, s, da, db, a, b, as, bs, k, ra, rb, la, lb, hu, h => by
    cases da with
    | int i =>
      cases db with
      | int j =>
        cases h
        cases ra; cases rb
        rw [iLt_eq]
        exact fun prog w E Q hq => P.lt_int hq
      | _ => cases h
    | str x =>
      cases db with
      | str y =>
        cases h
        cases ra; cases rb
        rw [ltCps_eq]
        exact fun prog w E Q hq => P.lt_str hq
      | _ => cases h
    | tuple xs =>
      cases db with
      | tuple ys =>
        have h' : cmpL (cmpD n) xs ys = some k := h
        cases ra with
        | tuple h1 h2 h3 h4 =>
          cases rb with
          | tuple k1 k2 k3 k4 =>
            have n1 := SeqAt.ReadsAll.length _ _ _ h4
            have n2 := SeqAt.ReadsAll.length _ _ _ k4
            rw [Array.length_toList] at n1 n2
            simp only [PyData.canLay0] at la lb
            refine rcLt_lex ⟨_, h1, h2, _, h3⟩ ⟨_, k1, k2, _, k3⟩ (SeqAt.room_here hu) (lex_of (fun da db a b as bs k => cmpD_ok n A.in1 s da db a b as bs k) xs ys h4 k4 la lb (SeqAt.room_in hu) (by rw [n1, n2]) h')
      | _ => cases h
    | _ => cases h

end
section
/-! ### a lambda of one parameter and no free names is called -/
/-! ### a lambda is made -/
section
variable {X : Cx} {pins : List (Addr × Obj)} {σ : L2.St} {H : Hp} {s : Shared} {G : Mg} {p : List Addr}
end

end
section
/-! ### min(xs, key=lambda x: (len(x), x)) -/
section
variable {X : Cx} {pins : List (Addr × Obj)} {σ : L2.St} {H : Hp} {s : Shared} {h' : Heap}
/-- what is known of a lambda that was made, and of the list that is asked -/
structure Lm (X : Cx) (pins : List (Addr × Obj)) (σ : L2.St) (H : Hp) (s0 : Shared) (f d l : Addr) (q : Str) (fo : Obj) (as : List Addr) : Prop where
  inv : Inv X pins σ H s0
  fo : s0.heap.get? f = some fo
  nf : H f = none
  fr : f ∉ frs X.stack
  cd : H d = some (LamX.CodeO d q)
  li : H l = some (.lst (as.map V.ref))
/-- while the keys are asked: H' has tuples more -/
structure JJ (X : Cx) (pins : List (Addr × Obj)) (σ : L2.St) (H : Hp) (f : Addr) (fo : Obj) (it S : Addr) (H' : Hp) (s : Shared) : Prop where
  inv : Inv X pins σ H' s
  ext : ∀ b o, H b = some o → H' b = some o
  hi : ∀ b, H b = none → H' b = none ∨ ∃ xs, H' b = some (.tup xs)
  nI : H' it = none
  nS : H' S = none
  fo : s.heap.get? f = some fo
  nf : H' f = none
end

end
section
/-! ### min(xs, key=lambda x: (len(x), x)) in the mirror -/
section
variable {X : Cx} {G : Mg} {p : List Addr} {H : Hp}
end

end
section
/-! ### texts, sign by sign; a sign in a text -/
noncomputable def signs (x : Str) : List Mv := x.cps.toList.map fun c => .str ⟨#[c]⟩
noncomputable def miX (A : Fe) : Fi := fun r s => (A r s).ob fun x => match x.1 with
  | .str y => some (.seq (signs y), x.2)
  | _ => none
section
variable {X : Cx} {G : Mg} {e : Expr}
theorem itr_txt {p0 : List Addr} {H0 : Hp} {x : Str} : ItR G (Its x) (.seq (signs x)) p0 H0 := by
  intro p s H i S st fz
  have key : ∀ o, lget (signs x) i = o → o = (x.cps[i]?).map fun c => Mv.str ⟨#[c]⟩ := fun o h => by
    rw [← h, lget_eq]
    unfold signs
    rw [List.getElem?_map, Array.getElem?_toList]
  constructor
  · intro q
    have q' : lget (signs x) i = none := by simpa [It0.at] using q
    have := key _ q'
    cases e : x.cps[i]? with
    | some c => rw [e] at this; cases this
    | none => exact Array.getElem?_eq_none_iff.mp e
  · intro w q
    have q' : lget (signs x) i = some w := by simpa [It0.at] using q
    have := key _ q'
    cases e : x.cps[i]? with
    | none => rw [e] at this; cases this
    | some c =>
      rw [e] at this
      cases this
      refine ⟨(Array.getElem?_eq_some_iff.mp e).1, fun v H' yl => ?_⟩
      obtain ⟨rfl, c', e', rfl⟩ := yl
      rw [e] at e'; cases e'
      exact ⟨S, Fra.refl, .str _⟩
theorem im_txt {tg : Expr} {A : Fe} (h : PE X e (tI G A)) : PI X tg e (tIt G (miX A)) := pi_imp (pi_str h) fun σ H R ⟨p, s, r, it, s', S, E, q, k⟩ => by
  obtain ⟨⟨x, s1⟩, q1, q2⟩ := ob_some.mp q
  refine ⟨p, s, r, x, s1, S, E, q1, fun p1 v1 H1 S1 f1 d1 => ?_⟩
  cases d1 <;> try (cases q2; done)
  cases q2
  exact ⟨_, rfl, k p1 H1 _ S1 f1 itr_txt⟩
noncomputable def sgIn (x y : Mv) (s : Ms) : Option (Mv × Ms) := match x, y with
  | .str a, .str z => match a.cps.toList with
    | [c] => some (.bl (z.cps.toList.any fun d => Nat.beq d c), s)
    | _ => none
  | _, _ => none
theorem any_beq (c : Nat) : ∀ l : List Nat, (l.any fun d => Nat.beq d c) = decide (c ∈ l)
  | [] => by simp
  | d :: l => by
    rw [List.any_cons, any_beq c l]
    by_cases h : d = c
    · subst h; rw [beq_t]; simp
    · rw [beq_f h]
      have : ¬ c = d := fun z => h z.symm
      simp [this]
theorem om_sgIn : OpR X (compareOp .In) (q2R G sgIn) := opr_imp op_in_sign fun x y H Q ⟨p, s, a, b, w, s', S, da, db, q, k⟩ => by
  cases a with
  | str a =>
   cases b with
   | str z =>
    cases da
    cases db
    simp only [sgIn] at q
    split at q
    · rename_i c ec
      cases q
      have e : a = ⟨#[c]⟩ := by
        cases a with
        | mk cps =>
          have : cps.toList = [c] := ec
          have : cps = #[c] := by cases cps; simp_all
          rw [this]
      subst e
      exact ⟨c, z, rfl, rfl, by rw [← any_beq]; exact k p _ H S Fra.refl (.bl _)⟩
    · cases q
   | _ => cases q
  | _ => cases q
end

end
section
/-! ### len(set(t)), t a tuple of texts -/
/-- each once, by its first place -/
def ddS (l : List Str) : List Str := l.foldl (fun acc x => if x ∈ acc then acc else acc ++ [x]) []
theorem ddS_snoc (l : List Str) (x : Str) : ddS (l ++ [x]) = if x ∈ ddS l then ddS l else ddS l ++ [x] := by
  unfold ddS
  rw [List.foldl_append]
  rfl
theorem ddS_mem (l : List Str) : ∀ y, y ∈ ddS l ↔ y ∈ l := by
  suffices h : ∀ (n : Nat) (l : List Str), l.length = n → ∀ y, y ∈ ddS l ↔ y ∈ l from h _ l rfl
  intro n
  induction n with
  | zero => intro l hl y; rw [List.length_eq_zero_iff.mp hl]; exact Iff.rfl
  | succ n ih =>
    intro l hl y
    obtain ⟨l', x, rfl⟩ : ∃ l' x, l = l' ++ [x] := by
      have hne : l ≠ [] := fun z => by rw [z] at hl; cases hl
      exact ⟨l.dropLast, l.getLast hne, (List.dropLast_concat_getLast hne).symm⟩
    have ihl := ih l' (by rw [List.length_append] at hl; simpa using hl)
    rw [ddS_snoc]
    split
    · rename_i hx
      rw [ihl, List.mem_append, List.mem_singleton]
      refine ⟨.inl, fun z => z.elim id fun e => ?_⟩
      rw [e]; exact (ihl x).mp hx
    · rw [List.mem_append, ihl, List.mem_append]
theorem ddS_le (l : List Str) : (ddS l).length ≤ l.length := by
  suffices h : ∀ (l acc : List Str), (l.foldl (fun acc x => if x ∈ acc then acc else acc ++ [x]) acc).length ≤ acc.length + l.length by
    simpa [ddS] using h l []
  intro l
  induction l with
  | nil => intro acc; simp
  | cons x l ih =>
    intro acc
    rw [List.foldl_cons]
    refine Nat.le_trans (ih _) ?_
    rw [List.length_cons]
    split
    · omega
    · rw [List.length_append, List.length_singleton]; omega
section
variable {prog : Program} {w : World} {A : Around} {R : Result → Shared → Prop} {I : Addr} {fp wr : List Addr} {G : Array GenState → Array GenState → Prop} {n : Nat} {P : Nat → Value → Prop} {St : Nat → Shared → Prop}
theorem loop_txts (W : WalksS prog w A.in1 I fp wr G n P St) (S : Addr) (hSf : S ∉ fp) (xs : List Str) (hn : xs.length = n) (hb : n + 1 < scanBound) (hval : ∀ i v, P i v → ∃ y t, xs[i]? = some y ∧ v = .str y t) (k : Nat) :
    ∀ (i : Nat) (s : Shared), n - i = k → i ≤ n → St i s → s.heap.SetOf (PySem.strKind prog w) S (fun y => decide (y ∈ xs.take i)) (ddS (xs.take i)).length →
      (∀ s', Moved (S :: wr) G s s' → s'.heap.SetOf (PySem.strKind prog w) S (fun y => decide (y ∈ xs)) (ddS xs).length → R (.ok (.ret .none)) s') → codeAny (model prog w) A (.builtin "set.update.loop" ⟨[.ref S, .ref I], []⟩) R s := by
  have nw : S ∉ wr := fun z => hSf (W.sub _ z)
  have into : ∀ b ∈ wr, b ∈ S :: wr := fun b z => List.mem_cons_of_mem _ z
  have carry : ∀ {s s' : Shared} {F : Str → Bool} {c : Nat}, Moved wr G s s' → s.heap.SetOf (PySem.strKind prog w) S F c → s'.heap.SetOf (PySem.strKind prog w) S F c := fun m ⟨o, es, ep, t, ho, rest⟩ => ⟨o, es, ep, t, m.heap S _ nw ho, rest⟩
  induction k with
  | zero =>
    intro i s hk hi st hS hR
    have e : i = n := by omega
    have et : xs.take i = xs := List.take_of_length_le (by omega)
    rw [et] at hS
    refine codeAny_builtin PyProof.Rows.F.entry_set_update_loop ?_
    rw [Around.under_plainId PyProof.Rows.F.plain_set_update_loop]
    refine wpAny_bind (m := pyNext (.ref I)) (W.done s _ _ (e ▸ st) fun s' m => ?_)
    exact wpAny_pure (hR s' (m.mono into) (carry m hS))
  | succ k ih =>
    intro i s hk hi st hS hR
    have lt : i < n := by omega
    refine codeAny_builtin PyProof.Rows.F.entry_set_update_loop ?_
    rw [Around.under_plainId PyProof.Rows.F.plain_set_update_loop]
    refine wpAny_bind (m := pyNext (.ref I)) (W.item i s _ _ lt st fun v s' hP st' m => ?_)
    obtain ⟨y, t, hy, rfl⟩ := hval i v hP
    refine wpAny_bind (m := holding [Value.str y t] (setAdd S (.str y t))) (wpAny_holding ?_)
    unfold setAdd
    refine wpAny_holding (wpAny_bind ((PySem.strKind prog w).pyHash (k := y) (strKind_is _ _ _ _) ?_))
    have hSm := carry m hS
    have hle := ddS_le (xs.take i)
    rw [List.length_take] at hle
    refine wpAny_setAddHashed_of (knd := PySem.strKind prog w) (s := { s' with toks := s'.toks + 1 }) (strKind_is _ _ _ _) rfl hSm (by omega) fun h' sb hS2 => ?_
    have tk : xs.take (i + 1) = xs.take i ++ [y] := by rw [List.take_add_one, hy]; rfl
    have hS3 : h'.SetOf (PySem.strKind prog w) S (fun z => decide (z ∈ xs.take (i + 1))) (ddS (xs.take (i + 1))).length := by
      refine SetOf_congr hS2 (fun z => ?_) ?_
      · rw [tk]; simp [List.mem_append]
      · rw [tk, ddS_snoc]
        by_cases h : y ∈ xs.take i
        · rw [if_pos ((ddS_mem _ y).mpr h), if_pos (decide_eq_true h)]
        · rw [if_neg (fun z => h ((ddS_mem _ y).mp z)), if_neg (by simpa using h), List.length_append]; rfl
    refine wpAny_pure ⟨plainId_quiet PyProof.Rows.F.plain_set_update_loop _, ih (i + 1) _ (by omega) lt (W.frame _ s' _ _ st' (Nat.le_succ _) fun b hb o eo => ?_) hS3 fun s2 m2 hS4 => ?_⟩
    · rw [sb.2 b (fun z => hSf (z ▸ hb))]; exact eo
    · refine hR s2 (Moved.trans W.gtrans ((m.mono into).then_heap (Nat.le_succ _) fun b o hb eo => ?_) m2) hS4
      rw [sb.2 b (fun z => hb (by rw [z]; exact List.mem_cons_self))]; exact eo
end
section
variable {prog : Program} {w : World} {A : Around} {E : Value → Shared → Prop} {s : Shared}
abbrev newSetO (b : Bool) : Obj := { cls := .type "set", dict := none, data := .set #[] 0 (.fresh 0 0 b) }
theorem call_set_txt {l : Addr} {us : Array Value} {xs : List Str} {Q : Value → Shared → Prop} (hh : A.handled = none) (hl : s.heap.IsTuple l us) (hx : PyProof.Rows.StrsAre us.toList xs) (hb : xs.length + 1 < scanBound)
    (h : ∀ (h' : Heap) (tk : Nat), h'.SetOf (PySem.strKind prog w) s.heap.objs.size (fun y => decide (y ∈ xs)) (ddS xs).length → (∀ b o, s.heap.get? b = some o → h'.get? b = some o) → Q (.ref s.heap.objs.size) { s with heap := h', toks := tk }) :
    wpAny (model prog w) A (call (.type "set") [.ref l]) Q E s := by
  obtain ⟨c0, t0, m0⟩ := PySem.F.called_set.mro
  have m1 := PySem.F.called_set.made
  have m2 := PySem.F.called_set.sub
  have m3 := PySem.F.called_set.notType
  have m4 := PySem.F.called_set.canCreate
  have m5 := PySem.F.typeCall_set_1 (.ref l)
  apply wpAny_call
  apply codeAny_of_tree
  show wpAny _ _ (callAny (.type "set") ⟨[.ref l], []⟩) _ _ s
  refine wpAny_pure ⟨Code.quiet_builtin _ (by decide +kernel), ?_⟩
  refine codeAny_builtin PySem.F.entry_type_call ?_
  rw [Around.under_plain (weight_type_call_type "set" [Value.ref l] []) rfl]
  repeat any_goals (first | assumption | wp_step)
  refine codeAny_mono (code_set_new_1 (.ref l) (E := E) (Q₁ := fun v s1 => ∃ b : Bool, v = .ref s.heap.objs.size ∧ s1 = { s with heap := s.heap.push (newSetO b) }) fun b => ⟨b, rfl, rfl⟩) fun r s1 hr => ?_
  cases r with
  | error e => exact hr
  | ok fl =>
    cases fl with
    | ret v =>
      obtain ⟨b, rfl, rfl⟩ := hr
      have gS : (s.heap.push (newSetO b)).get? s.heap.objs.size = some (newSetO b) := Heap.get?_push_size _ rfl
      have tS : Shared.TypeIs { s with heap := s.heap.push (newSetO b) } (.ref s.heap.objs.size) "set" := ⟨_, gS, rfl⟩
      have i1 := PySem.F.called_set.init.lookup
      have i2 := PySem.F.called_set.init.bind (.ref s.heap.objs.size)
      repeat any_goals (first | assumption | wp_step)
      refine codeAny_mono (codeAny_call_builtin (R := wants (fun r s2 => r = .none ∧ ∃ h' tk, s2 = { s with heap := h', toks := tk } ∧ h'.SetOf (PySem.strKind prog w) s.heap.objs.size (fun y => decide (y ∈ xs)) (ddS xs).length ∧ ∀ b o, s.heap.get? b = some o → h'.get? b = some o) E)
        PySem.F.called_set.init.plain PySem.F.entry_set_init (check_set_init_1 tS ?_)) fun r2 s2 hr2 => ?_
      · obtain ⟨⟨oc, od, oa, os⟩, g, c1, m, c2⟩ := hl
        simp only at c1 c2
        subst c1 c2
        have g1 : (s.heap.push (newSetO b)).get? l = some { cls := .type "tuple", dict := od, data := .seq us m, slots := os } := Heap.get?_push_of_some _ g
        have j1 := PySem.F.sub_tuple_set
        have j2 := PySem.F.sub_tuple_frozenset
        have j3 : (Value.type "tuple" == Value.type "dict") = false := by decide
        have hl1 : (s.heap.push (newSetO b)).IsTuple l us := ⟨_, g1, rfl, m, rfl⟩
        unfold Builtin.«set.__init__» noKeywords Builtin.Frozenset.updateFrom
        generalize eI : pyIter = PI
        wp_walk
        subst eI
        refine wpAny_pyIter_tuple hl1 (wpAny_bind (wpAny_runValue ?_))
        have ll : l < s.heap.objs.size := Heap.lt_size g
        have sz1 : (s.heap.push (newSetO b)).objs.size = s.heap.objs.size + 1 := Heap.size_push _ _
        have nl : l ≠ (s.heap.push (newSetO b)).objs.size := by rw [sz1]; exact Nat.ne_of_lt (Nat.lt_succ_of_lt ll)
        have nS : s.heap.objs.size ∉ [(s.heap.push (newSetO b)).objs.size, l] := fun z => by
          rcases List.mem_cons.mp z with z | z
          · rw [sz1] at z; exact Nat.ne_of_lt (Nat.lt_succ_self _) z
          · exact Nat.ne_of_gt ll (List.mem_singleton.mp z)
        have len : xs.length = us.size := by rw [← StrsAre.len_eq hx, Array.length_toList]
        have vals : ∀ (i : Nat) (v : Value), us[i]? = some v → ∃ y t, xs[i]? = some y ∧ v = .str y t := fun i v hv => by
          obtain ⟨t, e⟩ := SS.strs_at hx i v (by rw [Array.getElem?_toList]; exact hv)
          have lt : i < xs.length := by rw [len]; exact (Array.getElem?_eq_some_iff.mp hv).1
          exact ⟨xs[i], t, List.getElem?_eq_getElem lt, by rw [e, List.getD_eq_getElem?_getD, List.getElem?_eq_getElem lt]; rfl⟩
        refine loop_txts ((Walks.tuple (show A.in1.in1.in1.handled = none from hh) _ l nl us).toS) s.heap.objs.size nS xs len (by rw [← len]; exact hb) vals (us.size - 0) 0 _ rfl (Nat.zero_le _) ⟨⟨_, Heap.get?_push_size _ rfl, rfl, rfl⟩, hl1.push _⟩ ?_ fun s3 mv hS3 => ?_
        · have g2 : ((s.heap.push (newSetO b)).push { cls := .type "tuple_iterator", data := .fields #[.ref l, .int 0 0] }).get? s.heap.objs.size = some (newSetO b) := Heap.get?_push_of_some _ gS
          exact SetOf_congr ((PyProof.Rows.setObjOf_fresh (knd := PySem.strKind prog w) b).setOf g2 (by unfold scanBound; omega)) (fun _ => by simp) rfl
        · obtain ⟨h3, g3, d3, k3, o3⟩ := s3
          obtain rfl : g3 = s.gens := mv.gens
          obtain rfl : d3 = s.drawn := mv.drawn
          obtain rfl : o3 = s.os := mv.os
          refine wpAny_pure (show wpAny _ _ (ret Value.none) _ _ _ from wpAny_pure ⟨rfl, h3, k3, rfl, hS3, fun a o ho => ?_⟩)
          refine mv.heap a o (fun z => ?_) (Heap.get?_push_of_some _ (Heap.get?_push_of_some _ ho))
          have la := Heap.lt_size ho
          rcases List.mem_cons.mp z with z | z
          · rw [z] at la; exact Nat.lt_irrefl _ la
          · rw [List.mem_singleton.mp z, sz1] at la; exact Nat.not_lt.mpr (Nat.le_succ _) la
      · cases r2 with
        | error e => exact hr2
        | ok fl2 =>
          cases fl2 with
          | ret v2 =>
            obtain ⟨rfl, h', tk, rfl, hS, hk⟩ := hr2
            repeat any_goals (first | assumption | wp_step)
            exact h _ _ hS hk
          | _ => exact hr2.elim
    | _ => exact hr.elim
end

end
section
noncomputable def ddF (l : List Str) : List Str := l.foldl (fun acc x => cond (acc.any fun y => strEq y x) acc (acc ++ [x])) []
theorem any_str (x : Str) : ∀ l : List Str, (l.any fun y => strEq y x) = decide (x ∈ l)
  | [] => by simp
  | y :: l => by
    rw [List.any_cons, any_str x l, strEq_eq]
    by_cases h : y = x
    · subst h; simp
    · have : ¬ x = y := fun z => h z.symm
      simp [h, this]
theorem ddF_eq (l : List Str) : ddF l = ddS l := by
  unfold ddF ddS
  congr 1
  funext acc x
  rw [any_str]
  by_cases h : x ∈ acc
  · rw [if_pos h, decide_eq_true h]; rfl
  · rw [if_neg h, decide_eq_false h]; rfl
noncomputable def mlenS (A : Fe) : Fe := fun r s => (A r s).ob fun x => match x.1 with
  | .tup ws => (strsOf ws).ob fun ys => cond (Nat.ble (llen ys) 1000) (some (.int ((ddF ys).length : Nat), x.2)) none
  | _ => none
section
variable {X : Cx} {G : Mg} {a : Expr}
theorem pm_lenS {A : Fe} {p p2 q pos : Pos} (hc : X.calm = true) (hg : Gl X "len") (hm : X.mg "len" = none) (hg2 : Gl X "set") (hm2 : X.mg "set" = none) (ha : PE X a (tI G A)) (na : starEach [a] X.env = (false, eval a X.env) :: starEach [] X.env := by rfl) (hK : X.K = G.K := by rfl) :
    PE X (.Call (.Name "len" p) [.Call (.Name "set" p2) [a] [] q] [] pos) (tI G (mlenS A)) := by
  refine ⟨fun pins s σ H Q I ⟨p0, ms, r, w, ms', S, Er, q0, kk⟩ => ?_⟩
  obtain ⟨⟨xv, s1⟩, q1, q2⟩ := ob_some.mp q0
  refine Call_ (ld_blt I hg hm boot_len (PyProof.Rows.callWith_builtin1 (PyProof.Rows.args_cons (Call_ (ld_blt I hg2 hm2 boot_set ?_)) rfl) rfl rfl))
  refine PyProof.Rows.callWith_type1 (PyProof.Rows.args_cons (thn (ha.run pins s σ H (fun v1 H1 => ∃ p1, Sim G p1 s1 H1 ∧ Fra p0 H p1 H1 ∧ Den G p1 H1 xv v1) I ⟨p0, ms, r, xv, s1, S, Er, q1, fun p1 v1 H1 S1 f1 d1 => ⟨p1, S1, f1, d1⟩⟩) fun u t1 ⟨vx, H1, I1, rx, p1, S1, f1, d1⟩ => PyProof.Rows.args_nil ?_) na) na rfl
  cases xv with
  | tup ws =>
    obtain ⟨ys, q3, q4⟩ := ob_some.mp q2
    cases eb : Nat.ble (llen ys) 1000 with
    | false => rw [eb] at q4; cases q4
    | true =>
      rw [eb] at q4; cases q4
      obtain ⟨l, vs, rfl, sq, lx⟩ := d1.tup_inv
      cases rx
      rw [← hK] at sq
      have ev := (strsOf_ok lx q3).1
      subst ev
      obtain ⟨its, rv, tp, _⟩ := I1.tuple sq
      have hlen : ys.length ≤ 1000 := by rw [← llen_eq]; exact Nat.le_of_ble_eq_true eb
      refine call_set_txt (I1.ok.hd hc) tp (by simpa using strsAre_of rv) (by unfold scanBound; omega) fun h' tk hS hk => ?_
      obtain ⟨o, es, ep, t, ho, hex, hd, _, _, _, hf, hn⟩ := hS
      have I2 : Inv X pins σ H1 { t1 with heap := h', toks := tk } := I1.kept hk
      refine PyProof.Rows.args_nil (call_len_set ho hex hd hf (by have := ddS_le ys; rw [hn]; omega) ⟨.int ((ddF ys).length : Nat), H1, I2.tok _, ⟨_, by rw [hn, ddF_eq]⟩, kk p1 _ H1 S1 f1 (.int _)⟩)
  | _ => cases q2
end

end
section
/-! ### xs[::k], k a written number above nought -/
section
variable {X : Cx} {G : Mg} {e : Expr} {pos : Pos}
end

end
section
/-! ### a small store, written out; a run over a part of the store -/
noncomputable def push (s : Ms) (o : Mo) : Ms := ⟨Nat.succ s.sz, s.t.set s.sz o⟩
theorem push_get (s : Ms) (o : Mo) (n : Nat) : (push s o).get n = if n = s.sz then some o else s.get n := Mt.get_set s.t s.sz o n
theorem put_get' (s : Ms) (b : Nat) (o : Mo) (n : Nat) : (s.put b o).get n = if n = b then some o else s.get n := Mt.get_set s.t b o n
section
variable {G : Mg}
theorem Sim.part {p p0 q x : List Addr} {s s1 s' : Ms} {H H' : Hp} (S : Sim G p s H) (h0 : ∀ a ∈ p0, a ∈ p) (S1 : Sim G (p0 ++ q) s1 H') (f1 : Fra p0 H (p0 ++ q) H') (hx : ∀ a ∈ x, a ∈ q) (xnd : x.Nodup) (hlen : s'.sz = s.sz + x.length) (hout : ∀ n, s'.sz ≤ n → s'.get n = none)
    (hold : ∀ n a, p[n]? = some a → a ∉ p0 → s'.get n = s.get n) (hnew : ∀ n a, (p ++ x)[n]? = some a → a ∈ p0 ∨ a ∈ x → ∃ o ho, s'.get n = some o ∧ H' a = some ho ∧ DenO G (p ++ x) H' a o ho) : Sim G (p ++ x) s' H' ∧ Fra p H (p ++ x) H' := by
  have fresh : ∀ a ∈ q, H a = none := fun a ha => by
    obtain ⟨q', e, hq⟩ := f1.pre
    have e' : q = q' := List.append_cancel_left e
    subst e'
    refine hq a ha fun z => ?_
    have := S1.nd
    rw [List.nodup_append] at this
    exact this.2.2 a z a ha rfl
  have nin : ∀ a ∈ q, a ∉ p := fun a ha z => by
    obtain ⟨n, hn⟩ := List.mem_iff_getElem?.mp z
    obtain ⟨_, _, _, e, _⟩ := S.ob n a hn
    rw [fresh a ha] at e; cases e
  have ff : Fra p H (p ++ x) H' := ⟨⟨x, rfl, fun a ha _ => fresh a (hx a ha)⟩, fun a o e n => f1.kee a o e fun z => n (h0 a z), f1.frz⟩
  have st := ff.stays S
  refine ⟨⟨by rw [List.length_append, S.len, hlen], ?_, fun n a ha => ?_, hout⟩, ff⟩
  · rw [List.nodup_append]
    exact ⟨S.nd, xnd, fun a ha b hb => by rintro rfl; exact nin a (hx a hb) ha⟩
  · by_cases c : a ∈ p0 ∨ a ∈ x
    · exact hnew n a ha c
    · have hn : n < p.length := by
        refine Nat.lt_of_not_le fun z => ?_
        rw [List.getElem?_append_right z] at ha
        exact c (.inr (List.mem_of_getElem? ha))
      have ha' : p[n]? = some a := by rw [← List.getElem?_append_left hn]; exact ha
      obtain ⟨o, ho, q1, q2, q3⟩ := S.ob n a ha'
      have c0 : a ∉ p0 := fun z => c (.inl z)
      exact ⟨o, ho, by rw [hold n a ha' c0]; exact q1, f1.kee a ho q2 c0, q3.stay st⟩
/-! ### a def that makes a lambda: its table, made or not yet -/
noncomputable def tmade (l c : Nat) (q : Str) (s : Ms) (j : Nat) : Prop := s.get 0 = some (.tab 0 (some (l, c, j))) ∧ s.get j = some (.cod q)
noncomputable def isCod (q : Str) : Option Mo → Bool
  | some (.cod q') => strEq q q'
  | _ => false
noncomputable def mkTab (l c : Nat) (q : Str) (s : Ms) : Ms := push (s.put 0 (.tab 0 (some (l, c, s.sz)))) (.cod q)
theorem mkTab_get {l c : Nat} {q : Str} {s : Ms} (n : Nat) : (mkTab l c q s).get n = if n = s.sz then some (.cod q) else if n = 0 then some (.tab 0 (some (l, c, s.sz))) else s.get n := by
  unfold mkTab
  rw [push_get, put_get']
  rfl
/-- the state behind a run that leaves the table made; which tables it began with -/
noncomputable def behind (l c : Nat) (q : Str) (s : Ms) : Option Ms := match s.get 0 with
  | some (.tab 0 none) => some (mkTab l c q s)
  | some (.tab 0 (some x)) => cond (Nat.beq l x.1 && (Nat.beq c x.2.1 && isCod q (s.get x.2.2))) (some s) none
  | _ => none
variable {P : Program} {w : World} {K : PySem.W.Frag} {mg : Str → Option Value} {base : Heap} {k : Nat} {fa : Addr} {fd : FuncData} {ps : List Str}
/-! ### a def of plain arguments that tells True -/
end

end
section
/-! ### a def of one source that makes some draws, tells True and leaves the table made -/
noncomputable def boxN (ks : List Int) : Option Mo → Option Nat
  | some (.box m []) => cond (Nat.ble (m + ks.length) 1000000) (some (m + ks.length)) none
  | some (.lst [.int a, .int c, .int n]) => cond (decide (0 ≤ a) && (decide (0 ≤ c) && (decide (c < 2 ^ 62) && (decide (n = 0) && Nat.ble ks.length 1000000)))) (some ks.length) none
  | _ => none
section
variable {G : Mg} {P : Program} {w : World} {K : PySem.W.Frag} {mg : Str → Option Value} {base : Heap} {k : Nat} {fa : Addr} {fd : FuncData} {ps : List Str}
noncomputable def rightT (l c : Nat) (q : Str) (ks : List Int) : Fn := fun ws s => match ws with
  | [.ref b] => (boxN ks (s.get b)).ob fun m => (behind l c q (s.put b (.box m []))).om fun s' => (.bl true, s')
  | _ => none
end
/-! ### the law's loop, with a table and a script of either kind -/
/-- the source b stands behind m draws -/
noncomputable def Bx (s : Ms) (b m : Nat) : Prop := (m = 0 ∧ ∃ A C : Int, s.get b = some (.lst [.int A, .int C, .int 0]) ∧ 0 ≤ A ∧ 0 ≤ C ∧ C < 2 ^ 62) ∨ s.get b = some (.box m [])
theorem boxN_bx {ks : List Int} {s : Ms} {b m : Nat} (h : Bx s b m) (hm : m + ks.length ≤ 1000000) : boxN ks (s.get b) = some (m + ks.length) := by
  rcases h with ⟨rfl, A, C, h, h1, h2, h3⟩ | h
  · rw [h]
    show cond (decide (0 ≤ A) && (decide (0 ≤ C) && (decide (C < 2 ^ 62) && (decide ((0 : Int) = 0) && Nat.ble ks.length 1000000)))) (some ks.length) none = _
    rw [decide_eq_true h1, decide_eq_true h2, decide_eq_true h3, decide_eq_true rfl, Nat.ble_eq_true_of_le (by omega), Nat.zero_add]
    rfl
  · rw [h]
    show cond (Nat.ble (m + ks.length) 1000000) (some (m + ks.length)) none = _
    rw [cond_t (Nat.ble_eq_true_of_le hm)]
/-- what stands while the law runs: the table, the script -/
structure LInv (l c : Nat) (q : Str) (lo : Nat) (sv : Mv) (ns : List Int) (s : Ms) : Prop where
  sz : lo ≤ s.sz
  lo0 : 0 < lo
  tab : s.get 0 = some (.tab 0 none) ∨ ∃ j, j < s.sz ∧ tmade l c q s j
  scr : sv = .fl (ns.map .int) ∨ ∃ i, sv = .ref i ∧ i ≠ 0 ∧ i < lo ∧ s.get i = some (.lst (ns.map .int))
theorem LInv.push {l c : Nat} {q : Str} {lo : Nat} {sv : Mv} {ns : List Int} {s : Ms} (h : LInv l c q lo sv ns s) (o : Mo) : LInv l c q lo sv ns (push s o) := by
  have z := h.sz
  have z0 := h.lo0
  refine ⟨by show lo ≤ s.sz + 1; omega, h.lo0, ?_, ?_⟩
  · rcases h.tab with e | ⟨j, hj, e1, e2⟩
    · exact .inl (by rw [push_get, if_neg (by omega)]; exact e)
    · exact .inr ⟨j, by show j < s.sz + 1; omega, by rw [push_get, if_neg (by omega)]; exact e1, by rw [push_get, if_neg (by omega)]; exact e2⟩
  · rcases h.scr with e | ⟨i, e, h0, hi, e2⟩
    · exact .inl e
    · exact .inr ⟨i, e, h0, hi, by rw [push_get, if_neg (by omega)]; exact e2⟩
theorem LInv.right {l c : Nat} {q : Str} {lo : Nat} {sv : Mv} {ns : List Int} {s : Ms} {ks : List Int} {b m : Nat} (h : LInv l c q lo sv ns s) (hlo : lo ≤ b) (hb : b < s.sz) (B : Bx s b m) (hm : m + ks.length ≤ 1000000) : ∃ s', rightT l c q ks [.ref b] s = some (.bl true, s') ∧ LInv l c q lo sv ns s' ∧ b < s'.sz ∧ Bx s' b (m + ks.length) := by
  have z := h.sz
  have z0 := h.lo0
  have run : ∀ s', behind l c q (s.put b (.box (m + ks.length) [])) = some s' → rightT l c q ks [.ref b] s = some (.bl true, s') := fun s' e => by
    show (boxN ks (s.get b)).ob (fun m => (behind l c q (s.put b (.box m []))).om fun s' => (Mv.bl true, s')) = _
    rw [boxN_bx B hm, ob_of, e]
    rfl
  rcases h.tab with e | ⟨j, hj, e1, e2⟩
  · refine ⟨mkTab l c q (s.put b (.box (m + ks.length) [])), run _ ?_, ⟨?_, z0, .inr ⟨s.sz, Nat.lt_succ_self _, ?_, ?_⟩, ?_⟩, ?_, .inr ?_⟩
    · unfold behind
      have e' : (s.put b (.box (m + ks.length) [])).get 0 = some (.tab 0 none) := by rw [put_get', if_neg (by omega)]; exact e
      rw [e']
      rfl
    · show lo ≤ s.sz + 1; omega
    · rw [mkTab_get]
      show (if 0 = s.sz then _ else if 0 = 0 then some (Mo.tab 0 (some (l, c, s.sz))) else _) = _
      rw [if_neg (by omega), if_pos rfl]
    · rw [mkTab_get]
      exact if_pos rfl
    · rcases h.scr with e | ⟨i, e, h0, hi, e2⟩
      · exact .inl e
      · exact .inr ⟨i, e, h0, hi, by rw [mkTab_get, if_neg (show i ≠ (s.put b (.box (m + ks.length) [])).sz from Nat.ne_of_lt (show i < s.sz by omega)), if_neg h0, put_get', if_neg (by omega)]; exact e2⟩
    · show b < s.sz + 1; omega
    · rw [mkTab_get, if_neg (show b ≠ (s.put b (.box (m + ks.length) [])).sz from Nat.ne_of_lt hb), if_neg (by omega), put_get', if_pos rfl]
  · have hjb : j ≠ b := by
      rintro rfl
      rcases B with ⟨_, A, C, h, _⟩ | h
      · rw [h] at e2; cases e2
      · rw [h] at e2; cases e2
    refine ⟨s.put b (.box (m + ks.length) []), run _ ?_, ⟨z, z0, .inr ⟨j, hj, ?_, ?_⟩, ?_⟩, hb, .inr ?_⟩
    · unfold behind
      have e' : (s.put b (.box (m + ks.length) [])).get 0 = some (.tab 0 (some (l, c, j))) := by rw [put_get', if_neg (by omega)]; exact e1
      rw [e']
      show cond (Nat.beq l l && (Nat.beq c c && isCod q ((s.put b (.box (m + ks.length) [])).get j))) _ none = _
      rw [put_get', if_neg hjb, e2]
      show cond (Nat.beq l l && (Nat.beq c c && strEq q q)) _ none = _
      rw [strEq_eq, decide_eq_true rfl, Nat.beq_refl, Nat.beq_refl]
      rfl
    · rw [put_get', if_neg (by omega)]; exact e1
    · rw [put_get', if_neg hjb]; exact e2
    · rcases h.scr with e | ⟨i, e, h0, hi, e2⟩
      · exact .inl e
      · exact .inr ⟨i, e, h0, hi, by rw [put_get', if_neg (by omega)]; exact e2⟩
    · rw [put_get', if_pos rfl]
theorem LInv.len {l c : Nat} {q : Str} {lo : Nat} {sv : Mv} {ns : List Int} {s : Ms} (h : LInv l c q lo sv ns s) : lenW [sv] s = some (.int (ns.length : Int), s) := by
  rcases h.scr with e | ⟨i, e, _, _, e2⟩
  · subst e
    show (some (ns.map Mv.int).length).om (fun (n : Nat) => (Mv.int (n : Int), s)) = _
    rw [List.length_map]
    rfl
  · subst e
    show (match s.get i with
      | some (.lst ws) => some ws.length
      | _ => none).om (fun (n : Nat) => (Mv.int (n : Int), s)) = _
    rw [e2]
    show (some (ns.map Mv.int).length).om (fun (n : Nat) => (Mv.int (n : Int), s)) = _
    rw [List.length_map]
    rfl
end
section
/-! ### -x of an int; a, b, c = x, y, z; small things -/
section
variable {X : Cx} {G : Mg}
noncomputable def negW (a : Mv) (s : Ms) : Option (Mv × Ms) := match a with
  | .int i => some (.int (-i), s)
  | _ => none
theorem um_neg : UnR X (unaryOp .USub) (q1R G negW) := by
  intro pins s σ H x v Q I r h
  obtain ⟨p, ms, a, w, ms', S, da, q, k⟩ := h
  cases a with
  | int i =>
    cases q
    cases da
    exact un_neg pins s σ H _ v Q I r ⟨i, rfl, k p _ H S Fra.refl (.int _)⟩
  | _ => cases q
end
end
section
/-! ### a call over the least store that will do -/
section
variable {P : Program} {w : World} {K : PySem.W.Frag} {mg : Str → Option Value} {base : Heap} {k : Nat} {fa : Addr} {fd : FuncData} {ps : List Str} {G : Mg}
end

end
section
/-! ### calls over the least store, with words that the kernel can keep: a value written out, an answer -/
noncomputable def ob2 {α β γ : Type} (o : Option (α × β)) (k : α → β → Option γ) : Option γ := Option.rec (motive := fun _ => Option γ) none (fun x => Prod.rec (motive := fun _ => Option γ) k x) o
noncomputable def nf (w : Mv) : Option Mv := cp w some
inductive Res where
  | v (w : Mv) | l (ws : List Mv)
noncomputable def resOf (lo : Nat) (w : Mv) (s1 : Ms) : Option Res := match w with
  | .ref j => cond (Nat.ble lo j) (match s1.get j with
    | some (.lst xs) => cpL xs fun xs' => some (.l xs')
    | _ => none) none
  | w => cp w fun w' => some (.v w')
section
variable {P : Program} {w : World} {K : PySem.W.Frag} {mg : Str → Option Value} {base : Heap} {k : Nat} {fa : Addr} {fd : FuncData} {ps : List Str} {G : Mg}
noncomputable def gF (f : Fn) (ws : List Mv) : Option Res := ob2 (f ws ⟨0, .nil⟩) (resOf 0)
noncomputable def g1 (f : Fn) (ws xs : List Mv) : Option (Res × List Mv) := ob2 (f ws (one (.lst xs))) fun w s => match s.get 0 with
  | some (.lst ys) => (resOf 1 w s).ob fun r => cpL ys fun ys' => some (r, ys')
  | _ => none
end

end
section
/-! ### promises of defs that are called while nothing is being shown (repr's own guards are empty) -/
structure FnG (P : Program) (w : World) (K : PySem.W.Frag) (mg : Str → Option Value) (base : Heap) (k : Nat) (f : Addr) (fd : FuncData) (ps : List Str) (sp : Sp) : Prop where
  len : ∀ vs H Q E, sp vs H Q E → vs.length = ps.length
  run : ∀ B : Around, B.guards = some [] → ∀ (ou : List Env) (st : Shared) (H : Hp) (ar : Args) (us : List Value) (vs : List V) (Q : VK) (E : XK), Room k B → Env0 P w K mg base B ou st H → BindsTo st fd ar (ps.zip us) → Vals vs us → sp vs H Q E →
    codeAny (model P w) B (.call (.ref f) ar) (CR CX0 ou P w H st Q E) st
section
variable {P : Program} {w : World} {K : PySem.W.Frag} {mg : Str → Option Value} {base : Heap} {k : Nat} {f : Addr} {fd : FuncData} {ps : List Str} {sp sp' : Sp}
theorem FnG.imp (F : FnG P w K mg base k f fd ps sp) (h : ∀ vs H Q E, sp' vs H Q E → sp vs H Q E) : FnG P w K mg base k f fd ps sp' :=
  ⟨fun vs H Q E q => F.len vs H Q E (h vs H Q E q), fun B g ou st H ar us vs Q E a1 a2 a3 a4 a5 => F.run B g ou st H ar us vs Q E a1 a2 a3 a4 (h vs H Q E a5)⟩
theorem fnG_of {x qual : Str} {params : Arguments} {body : List Stmt} {scope : Scope} {dvs : List V} {kws : List (Str × V)} {N : List Str} (F : FunD K x qual params body scope dvs kws f fd) (S : FnScope N ps scope) (len : ∀ vs H Q E, sp vs H Q E → vs.length = ps.length)
    (hb : ∀ (cd : Value) (B : Around), B.guards = some [] → ∀ (ou : List Env) (st : Shared) (H : Hp) (vs : List V) (Q : VK) (E : XK), Room k (B.deeper (envOfC qual scope st.heap.objs.size f cd)) → sp vs H Q E →
      ∃ t, PSs (cxOf CX0 P w K mg base N qual scope f cd B ou st H E) body t ∧ t { nx := fun _ H' => Q .non H', rt := Q } (L2.start N vs) H) : FnG P w K mg base (k + 1) f fd ps sp := by
  obtain ⟨_, _, _, _, _, _, _, cd, _, _, rfl, look, hcode, _, _⟩ := F.ex
  refine ⟨len, fun B g ou st H ar us vs Q E room env bind rel pre => ?_⟩
  have inK : K.In st.heap := env.mod.kin.keeps fun b o z => (env.bs b o z).1
  have noLim : st.heap.NoLimit := env.mod.nolimit.keeps fun b o z => (env.bs b o z).1
  have kinds : ∀ y ∈ ps.zip us, scope.names.lookup y.1 = some .local ∨
      (scope.names.lookup y.1 = some .cell ∧ ((cellsFrom (st.heap.objs.size + 1) scope.names []).lookup y.1).isSome = true) := by
    rintro ⟨nm, v⟩ hy
    cases S.par nm (List.of_mem_zip hy).1 with
    | inl z => exact .inl z
    | inr z => exact .inr ⟨z, PySem.W.cellsFrom_some _ _ _ (.inl z)⟩
  refine codeAny_call_function room.depth (inK _ _ look) rfl S.co S.gen rfl (PySem.W.codeRec_of inK hcode) (bind _ _ _ _ ?_)
  refine wpAny_newFunctionEnv_cells S.kind kinds fun en hen s2 z => ?_
  subst hen
  refine ⟨noLim.keeps z.toInCall.keep, codeAny_func ?_⟩
  obtain ⟨t, ht, hq⟩ := hb cd B g ou st H vs Q E (room.deeper _) pre
  have I0 := inv_start (CX := CX0) (E := E) S room.hd env (len _ _ _ _ pre) rel z
  refine wpAny_mono (ht.run [] s2 (L2.start N vs) H _ I0 hq) (fun fl s3 hs => ?_) fun _ _ hs => hs
  cases fl with
  | ret u =>
    obtain ⟨v, _, H3, J, rv, q⟩ := hs
    exact ⟨v, H3, J.os, J.bare, J.base, J.hok, rv, q⟩
  | next =>
    obtain ⟨_, H3, J, q⟩ := hs
    exact ⟨V.non, H3, J.os, J.bare, J.base, J.hok, rfl, q⟩
  | brk => obtain ⟨_, _, _, q⟩ := hs; exact q.elim
  | cont => obtain ⟨_, _, _, q⟩ := hs; exact q.elim
end
section
variable {X : Cx} {G : Mg} {x : Str} {p0 pos : Pos} {e : Expr} {es : List Expr} {A : Fa} {f : Fn}
theorem pe_callG {k : Nat} {fa : Addr} {fd : FuncData} {ps : List Str} {sp : Sp} {t : TA} {E : XK} (F : FnG X.prog X.w X.K X.mg X.base k fa fd ps sp) (gd : X.A.guards = some []) (hr : Room k X.A) (hg : Gl X x) (hm : X.mg x = some (.ref fa)) (hk : PySem.W.keepIn X.K (.ref fa) = true) (hb : Binds X.K fd ps []) (ha : PA X (e :: es) t)
    (hdb : (x == ("__debug__" : Str)) = false := by decide) (he : starEach (e :: es) X.env = (false, eval e X.env) :: starEach es X.env := by rfl) (hpl : (backTo pos (starEach es X.env)).any (·.1) = false := by rfl) :
    PE X (.Call (.Name x p0) (e :: es) [] pos) (tCall sp [] E t) := by
  refine ⟨fun pins st σ H Q I h => wpAny_Call_Name_kw (ld_glob I hg hm ?_ hdb)⟩
  refine PySem.W.callWith_K (h₀ := X.base) I.ok.mod.kin hk (thn (ha.run pos pins st σ H _ I h) fun us s2 hz => ?_) he hpl
  obtain ⟨vs, H2, I2, rel, pre⟩ := hz
  refine ⟨I2.kIn, ?_⟩
  have rel2 : Vals (vs ++ []) (us ++ []) := rel.append .nil
  have hlen : (us ++ []).length = ps.length := by
    rw [← rel2.length]
    exact F.len _ _ _ _ pre
  refine wpAny_call (codeAny_mono (F.run X.A gd X.stack s2 H2 ⟨us, []⟩ (us ++ []) (vs ++ []) Q E hr I2.env0 (hb s2 us I2.kIn hlen) rel2 pre) fun r s3 hq => ?_)
  match r, hq with
  | .error _, hq => exact hq.elim
  | .ok (.ret u), hq => exact I2.after hq
  | .ok .next, hq => exact hq.elim
  | .ok .brk, hq => exact hq.elim
  | .ok .cont, hq => exact hq.elim
theorem pm_callG {k : Nat} {fa : Addr} {fd : FuncData} {ps : List Str} (F : FnG X.prog X.w X.K X.mg X.base k fa fd ps (spM G f)) (gd : X.A.guards = some []) (hr : Room k X.A) (hg : Gl X x) (hm : X.mg x = some (.ref fa)) (hk : PySem.W.keepIn X.K (.ref fa) = true) (hb : Binds X.K fd ps []) (ha : PA X (e :: es) (tA G A))
    (hdb : (x == ("__debug__" : Str)) = false := by decide) (he : starEach (e :: es) X.env = (false, eval e X.env) :: starEach es X.env := by rfl) (hpl : (backTo pos (starEach es X.env)).any (·.1) = false := by rfl) :
    PE X (.Call (.Name x p0) (e :: es) [] pos) (tI G (mcall f A)) := pe_imp (pe_callG (E := fun _ _ _ => False) F gd hr hg hm hk hb ha hdb he hpl) fun σ H Q h => by
  obtain ⟨p, s, r, w, s', S, E, q, k⟩ := t_call h
  exact ⟨p, s, r, w, s', S, E, q, fun p1 vs H1 S1 f1 d1 => by
    show rF G f (vs ++ []) H1 Q
    rw [List.append_nil]
    exact k p1 vs H1 S1 f1 d1⟩
theorem fn_okG {P : Program} {w : World} {K : PySem.W.Frag} {mg : Str → Option Value} {base : Heap} {x qual : Str} {st : Stmt} {f : Addr} {fd : FuncData} {N ps : List Str} {k : Nat} {B : Fs} {dvs : List V} {kws : List (Str × V)} (F : FunD K x qual (defArgs st) (defBody st) (defScope st) dvs kws f fd) (sc : FnScope N ps (defScope st)) {np nl : Nat} (hnp : ps.length = np := by rfl) (hnl : N.length = nl := by rfl)
    (hb : ∀ (cdv : Value) (A : Around) (_ : A.guards = some []) (outer : List Env) (s : Shared) (H : Hp) (E : XK), Room k (A.deeper (envOfC qual (defScope st) s.heap.objs.size f cdv)) → PSs (cxOf CX0 P w K mg base N qual (defScope st) f cdv A outer s H E).nox (defBody st) (tS G B)) :
    FnG P w K mg base (k + 1) f fd ps (spM G (fnM np nl B)) := by
  subst hnp hnl
  have len : ∀ vs H Q E, spM G (fnM ps.length N.length B) vs H Q E → vs.length = ps.length := by
    rintro vs H Q E ⟨p, s, ws, u, s', S, l, q, k'⟩
    rw [← l.length]
    unfold fnM at q
    cases e : Nat.beq ws.length ps.length with
    | false => rw [e] at q; cases q
    | true => exact Nat.eq_of_beq_eq_true e
  refine fnG_of F sc len fun cdv A gd outer s H vs Q E hr h => ⟨_, PSs.nox (hb cdv A gd outer s H E hr), ?_⟩
  have hlen := len vs H Q E h
  obtain ⟨p, s0, ws, u, s', S, l, q, k'⟩ := h
  unfold fnM at q
  cases e : Nat.beq ws.length ps.length with
  | false => rw [e] at q; cases q
  | true =>
    rw [e] at q
    obtain ⟨⟨fl, r', s1⟩, q1, q2⟩ := ob_some.mp q
    refine ⟨p, s0, _, fl, r', s1, S, ?_, q1, fun p1 H1 S1 f1 => ?_⟩
    · show EnvR G p H _ (L2.start N vs)
      unfold L2.start
      rw [hlen]
      rw [lsome_eq]
      exact envR_start _ l
    · cases fl with
      | rt w' =>
        have q2' : some (w', s1) = some (u, s') := q2
        cases q2'
        exact fun v d => k' p1 v H1 S1 f1 d
      | nx =>
        have q2' : some (Mv.non, s1) = some (u, s') := q2
        cases q2'
        exact fun σ E => k' p1 _ H1 S1 f1 .non
      | bk => cases q2
      | ct => cases q2
end

end
section
/-! ### repr of a list, a tuple; a try that runs through -/
theorem bb_repr : bootBuiltins "repr" = some (.builtin "repr") := by decide +kernel
noncomputable def showD (d : PyData) : Bool := PyData.showable d && (!PyData.hasDict d && (Nat.ble (PyData.depth d) 30 && Nat.ble (PyData.shown d).length 16777216))
noncomputable def reprW : Fn := fun ws s => match ws with
  | [.ref n] => (toD 24 s (.ref n)).ob fun d => cond (showD d) (some (.str (PyData.shown d), s)) none
  | [.tup xs] => (toD 24 s (.tup xs)).ob fun d => cond (showD d) (some (.str (PyData.shown d), s)) none
  | _ => none
section
variable {X : Cx} {G : Mg}
theorem cm_repr (gd : X.A.guards = some []) (hu : X.A.units + 64 < cLine) (hK : X.K = G.K := by rfl) : CallR X (.builtin "repr") (rF G reprW) := by
  intro pins st σ H xs us Q I r h
  obtain ⟨p, ms, ws, w, ms', S, l, q, k⟩ := h
  have core : ∀ (w0 : Mv) (a : Addr) (u : Value), Den G p H w0 (.ref a) → RelV (.ref a) u → (toD 24 ms w0).ob (fun d => cond (showD d) (some (Mv.str (PyData.shown d), ms)) none) = some (w, ms') → wpAny (model X.prog X.w) X.A (call (.builtin "repr") [u]) (EP X pins σ Q) X.xe st := by
    intro w0 a u d0 ru q
    obtain ⟨d, q1, q2⟩ := ob_some.mp q
    cases ec : showD d with
    | false => rw [ec] at q2; cases q2
    | true =>
      rw [ec] at q2
      cases q2
      unfold showD at ec
      obtain ⟨c1, c2⟩ := Bool.and_eq_true_iff.mp ec
      obtain ⟨c3, c4⟩ := Bool.and_eq_true_iff.mp c2
      obtain ⟨c5, c6⟩ := Bool.and_eq_true_iff.mp c4
      have o1 := toD_ok S 24 _ _ _ d0 q1
      obtain ⟨as, rd⟩ := Dp.reads I d (.ref a) u (by rw [hK]; exact o1.dp) ru
      have eu : u = .ref a := ru
      subst eu
      have nd : PyData.hasDict d = false := by
        cases z : PyData.hasDict d with
        | false => rfl
        | true => rw [z] at c3; cases c3
      have hd := Nat.le_of_ble_eq_true c5
      have hz : (PyData.shown d).length ≤ sizeLine := by rw [sz_eq]; exact Nat.le_of_ble_eq_true c6
      exact repr_of_reads' rd c1 (fun z => by rw [nd] at z; cases z) gd (by omega) (fun _ _ e => e) (fun h' u tk hk => ⟨.str _, H, I.kept hk, ⟨u, rfl⟩, k p _ H S Fra.refl (.str _)⟩) hz
  match ws, l, q with
  | [.ref n], .cons (.ref hn) .nil, q =>
    cases r with
    | cons r1 r2 =>
      cases r2
      exact core _ _ _ (.ref hn) r1 q
  | [.tup xs0], .cons (.tup ht lt) .nil, q =>
    cases r with
    | cons r1 r2 =>
      cases r2
      exact core _ _ _ (.tup ht lt) r1 q
/-! sorted(d), d's keys being texts -/
end

end
section
/-! ### the end of a law whose def wants empty guards -/
theorem law_callG {P : Program} {w : World} {K : PySem.W.Frag} {mg mb : Str → Option Value} {k : Nat} {fa a : Addr} {fd : FuncData} {x : Str} {sp : Sp} {st : Shared} {vs : List Value} {ns : List Int}
    (KX : K.In st.heap) (gl : st.heap.Ns mainGlobals mg) (bl : st.heap.Ns builtinsNs mb) (boot : ∀ y : Str, y ≠ "__name__" → mb y = bootBuiltins y) (lim : st.heap.NoLimit) (gens : st.gens = #[])
    (ha : st.heap.get? a = some { cls := .type "list", data := .seq vs.toArray }) (hi : IntsAre vs ns) (hl : ns.length ≤ sizeLine) (room : Room k callerA)
    (F : ∀ base : Heap, K.In base → base.Ns mainGlobals mg → FnG P w K mg base k fa fd [x] sp) (bind : ∀ (s : Shared) (u : Value), BindsTo s fd ⟨[u], []⟩ [(x, u)])
    (pre : ∀ H : Hp, Only H → SqL K H a (ns.map V.int) → sp [.ref a] H (fun v _ => v = .bl true) fun _ _ _ => False) :
    codeAny (model P w) callerA (.call (.ref fa) ⟨[.ref a], []⟩) (fun r s2 => r = .ok (.ret (.bool true)) ∧ OldK st.heap s2.heap ∧ s2.os = st.os ∧ AllBare s2.gens) st := by
  have rel := vals_ints hi
  have main : ∀ H : Hp, (∀ b o, H b = some o → b = a ∧ K.lookup a = none ∧ o = .frz { cls := .type "list", data := .seq vs.toArray } (.lst (ns.map V.int))) → SqL K H a (ns.map V.int) →
      codeAny (model P w) callerA (.call (.ref fa) ⟨[.ref a], []⟩) (fun r s2 => r = .ok (.ret (.bool true)) ∧ OldK st.heap s2.heap ∧ s2.os = st.os ∧ AllBare s2.gens) st := by
    intro H hH hS
    have free : ∀ {b : Addr} {o : Obj}, st.heap.get? b = some o → (∀ us m, o.data ≠ .seq us m) → H b = none := by
      intro b o e hd
      cases q : H b with
      | none => rfl
      | some u =>
        obtain ⟨rfl, _, _⟩ := hH b u q
        rw [ha] at e
        cases e
        exact (hd _ _ rfl).elim
    have spaces : ∀ {b : Addr} {m : Str → Option Value}, st.heap.Ns b m → (hidT st.heap H).Ns b m := by
      rintro b m ⟨o, es, ep, e, d, r⟩
      exact ⟨o, es, ep, hidT_get e (free e fun us m z => by rw [d] at z; cases z), d, r⟩
    have inB : K.In (hidT st.heap H) := fun b o e => by
      refine hidT_get (KX b o e) ?_
      cases q : H b with
      | none => rfl
      | some u =>
        obtain ⟨rfl, z, _⟩ := hH b u q
        rw [z] at e
        cases e
    have md : L2.Mod K mg (hidT st.heap H) := by
      obtain ⟨mc, l1, l2⟩ := lim
      exact ⟨inB, spaces gl, ⟨mb, spaces bl, boot⟩, mc, spaces l1, l2⟩
    have good : HOk P w H st.heap := fun b u z => by
      obtain ⟨rfl, _, rfl⟩ := hH b u z
      exact ⟨ha, by rw [List.length_map]; exact hl, vs, _, rel, ha⟩
    have only : Only H := fun b => by
      cases q : H b with
      | none => exact .inl rfl
      | some u =>
        obtain ⟨_, _, rfl⟩ := hH b u q
        exact .inr ⟨_, _, rfl⟩
    have env : Env0 P w K mg (hidT st.heap H) callerA [] st H :=
      ⟨rfl, md, fun _ _ e => of_hidT e, Nat.le_of_eq (hidT_size _ _), trivial, fun b hb => (by cases (show b ∈ ([] : List Addr) from hb)), good, .of_eq gens⟩
    refine codeAny_mono ((F _ inB (spaces gl)).run callerA rfl [] st H ⟨[.ref a], []⟩ [.ref a] [.ref a] _ _ room env (bind st (.ref a)) (.cons rfl .nil) (pre H only hS)) fun r s2 h => ?_
    match r, h with
    | .error _, h => exact h.elim
    | .ok .next, h => exact h.elim
    | .ok .brk, h => exact h.elim
    | .ok .cont, h => exact h.elim
    | .ok (.ret u), h =>
      obtain ⟨v, H2, os, bare, un, good2, rv, q⟩ := h
      have ev : v = .bl true := q
      subst ev
      have eu : u = Value.bool true := rv
      subst eu
      refine ⟨rfl, OldK.of_keep fun b o e => ?_, os, bare⟩
      cases z : H b with
      | none => exact un.keep b o e z (fun y => by cases (show b ∈ ([] : List Addr) from y)) (by simp)
      | some u2 =>
        obtain ⟨rfl, _, rfl⟩ := hH b u2 z
        obtain ⟨g, _⟩ := good2 b _ (un.frzs b _ _ z)
        rw [ha] at e
        cases e
        exact g
  cases hk : K.lookup a with
  | some o =>
    have e := KX a o hk
    rw [ha] at e
    cases e
    exact main (fun _ => none) (fun b o z => by cases z) (.inr ⟨_, vs.toArray, _, hk, rfl, rfl, rfl, by rw [List.size_toArray, hi.length]; exact hl, by simpa using rel⟩)
  | none =>
    refine main (fun b => if b = a then some (.frz { cls := .type "list", data := .seq vs.toArray } (.lst (ns.map V.int))) else none) (fun b o z => ?_) (.inl (.inr ⟨_, if_pos rfl⟩))
    by_cases hb : b = a
    · have z2 := (if_pos hb).symm.trans z
      cases z2
      exact ⟨hb, hk, rfl⟩
    · have z2 := (if_neg hb).symm.trans z
      cases z2
theorem walk_ofG {l : PySem.W.OpenLaw} {n k : Nat} {q : Program} {loose : List Str} {XP : (Str → Option Value) → Heap → Prop} {YP : World → Heap → Prop} {d : DefRec} {x : Str} (hn : l.most = some n) (hn2 : n ≤ sizeLine) (hdf : d.params.defaults = []) (room : Room k callerA)
    (F : ∀ (w : World) (mg : Str → Option Value) (fa : Addr) (h : Heap), YP w h → h.Ns mainGlobals mg → mg d.name = some (.ref fa) →
      ∃ (K : PySem.W.Frag) (fd : FuncData) (sp : Sp), K.In h ∧ (∀ (s : Shared) (u : Value), BindsTo s fd ⟨[u], []⟩ [(x, u)]) ∧
        (∀ (H : Hp) (a : Addr) (ns : List Int), ns.length ≤ n → Only H → SqL K H a (ns.map V.int) → sp [.ref a] H (fun v _ => v = .bl true) fun _ _ _ => False) ∧
        ∀ base : Heap, K.In base → base.Ns mainGlobals mg → FnG l.prog w K mg base k fa fd [x] sp) :
    PySem.W.WalkO q loose XP YP l.row.toRowW d [] (fun f vs => PySem.call f vs) := by
  refine Att.attach_call hn hdf fun w _ s1 mg mb fa _ _ _ _ a vs ns top Y _ _ _ hmg hob hint hlen gens => ?_
  obtain ⟨K, fd, sp, KX, bind, pre, hF⟩ := F w mg fa _ Y top.T.g hmg
  exact law_callG KX top.T.g top.T.b top.T.builtins top.T.nolimit gens hob hint (Nat.le_trans hlen hn2) room hF bind fun H only sq => pre H a ns hlen only sq
/-! ### a def of one source, as before -/
end
section
/-! ### sets of tuples of texts: at most four of them (the first table) -/
section
variable {P : Program} {w : World} {A : Around} {E : Value → Shared → Prop} {s : Shared}
abbrev TX (P : Program) (w : World) (hp : Heap) (k : List Str) (b : Addr) : Prop := IsTupleKey (PySem.strKind P w) hp k b
abbrev hX (P : Program) (w : World) (k : List Str) : Int := tupleKeyHash (PySem.strKind P w) k
theorem TX.held {hp hp' : Heap} {k : List Str} {b : Addr} (x : TX P w hp k b) (g : ∀ c o, hp.get? c = some o → hp'.get? c = some o) : TX P w hp' k b :=
  let ⟨o, its, n, e, r⟩ := x
  ⟨o, its, n, g b o e, r⟩
theorem TX.but {hp hp' : Heap} {k : List Str} {a b : Addr} {o : Obj} {es : Array (Int × Value)} {ep : Nat} {t : SetTable} (x : TX P w hp k b) (e : hp.get? a = some o) (d : o.data = .set es ep t) (sb : Heap.SameBut a hp hp') : TX P w hp' k b := by
  obtain ⟨o1, its, n, e1, c, d1, r⟩ := x
  refine ⟨o1, its, n, ?_, c, d1, r⟩
  rw [sb.2 b fun z => ?_]
  · exact e1
  · rw [z, e] at e1
    cases e1
    rw [d] at d1
    cases d1
theorem txt_of {k : List Str} {vs : List Value} (h : ItemsAre (PySem.strKind P w) k vs) : ∀ v ∈ vs, ∃ y t, v = Value.str y t := by
  induction h with
  | nil => exact fun _ z => nomatch z
  | @cons y u _ _ hu _ ih =>
    intro v hv
    cases hv with
    | head => obtain ⟨t, e⟩ := Value.isStrOf_shape hu; exact ⟨y, t, e⟩
    | tail _ hv => exact ih v hv
theorem cls_txt (n : Nat) (y : Str) (t : Tok) : ofAClassStatement n (.str y t) = pure false := by cases n <;> rfl
theorem hby_txt (n : Nat) (y : Str) (t : Tok) : hashByValue n (.str y t) = pure false := by cases n <;> rfl
theorem cls_tup {k : List Str} {b : Addr} {Q : Bool → Shared → Prop} (hk : TX P w s.heap k b) (h : Q false s) : wpAny (model P w) A (ofAClassStatement 8 (.ref b)) Q E s := by
  have ty := hk.typeIs
  obtain ⟨o, its, n, e1, _, e2, e3⟩ := hk
  unfold ofAClassStatement
  refine wpAny_bind (wpAny_typeOf ty ?_)
  simp only [show (("tuple" : String) == "tuple") = true by decide, if_true, Bool.not_true, Bool.false_eq_true, if_false]
  refine wpAny_bind (wpAny_pure ?_)
  simp only [Bool.not_true, Bool.false_eq_true, if_false]
  refine wpAny_bind (wpAny_seqItems e1 e2 ?_)
  refine wpAny_bind ?_
  rw [← Array.forIn_toList]
  refine wpAny_forIn_list _ (fun l r z => (r.1 = none ∧ z = s) ∧ ∀ v ∈ l, ∃ y t, v = Value.str y t) _ (fun v l r z q => ?_) (fun r z q => ?_) _ _ ⟨⟨rfl, rfl⟩, txt_of e3⟩
  · obtain ⟨⟨_, rfl⟩, hall⟩ := q
    obtain ⟨y, t, rfl⟩ := hall v (List.mem_cons_self ..)
    rw [cls_txt]
    exact wpAny_bind (wpAny_pure (wpAny_pure ⟨⟨rfl, rfl⟩, fun u hu => hall u (List.mem_cons_of_mem _ hu)⟩))
  · obtain ⟨r1, r2⟩ := r
    obtain ⟨⟨q1, rfl⟩, _⟩ := q
    cases q1
    exact wpAny_pure h
theorem hby_tup {k : List Str} {b : Addr} {Q : Bool → Shared → Prop} (hk : TX P w s.heap k b) (h : ∀ c, Q c s) : wpAny (model P w) A (hashByValue 8 (.ref b)) Q E s := by
  have ty := hk.typeIs
  obtain ⟨o, its, n, e1, _, e2, e3⟩ := hk
  unfold hashByValue
  refine wpAny_bind (wpAny_specialOf ty F.slot_tuple_hash.lookup ?_)
  refine wpAny_bind (wpAny_seqItems e1 e2 ?_)
  refine wpAny_bind ?_
  simp only
  rw [← Array.forIn_toList]
  refine wpAny_forIn_list _ (fun l r z => z = s ∧ r.1 = none ∧ ∀ v ∈ l, ∃ y t, v = Value.str y t) _ (fun v l r z q => ?_) (fun r z q => ?_) _ _ ⟨rfl, rfl, txt_of e3⟩
  · obtain ⟨rfl, hr, hall⟩ := q
    obtain ⟨y, t, rfl⟩ := hall v (List.mem_cons_self ..)
    rw [hby_txt]
    exact wpAny_bind (wpAny_pure (wpAny_pure (wpAny_pure (h false))))
  · obtain ⟨r1, r2⟩ := r
    obtain ⟨rfl, q1, _⟩ := q
    cases q1
    exact wpAny_pure (h true)
theorem quiet_tups {k : List Str} {b : Addr} {Q : Bool → Shared → Prop} (hk : TX P w s.heap k b) {ys : List Value} (hy : ∀ y ∈ ys, ∃ k' c, y = Value.ref c ∧ TX P w s.heap k' c) (h : Q false s) : wpAny (model P w) A (searchCouldBeSeen (.ref b) ys) Q E s := by
  unfold searchCouldBeSeen
  refine wpAny_bind (wpAny_forIn_list _ (fun l r z => (r.1 = none ∧ z = s) ∧ ∀ y ∈ l, y ∈ ys) _ (fun v l r z q => ?_) (fun r z q => ?_) _ _ ⟨⟨rfl, rfl⟩, fun _ z => z⟩)
  · obtain ⟨⟨_, rfl⟩, sub⟩ := q
    obtain ⟨k', c, rfl, hc⟩ := hy v (sub v (List.mem_cons_self ..))
    have fin : ∀ y ∈ l, y ∈ ys := fun u hu => sub u (List.mem_cons_of_mem _ hu)
    dsimp only
    split
    · exact wpAny_pure ⟨⟨rfl, rfl⟩, fin⟩
    · refine wpAny_bind (wpAny_eqIsQuiet_tuple hk ?_)
      refine wp_if_neg (by decide) (wpAny_bind (wpAny_eqIsQuiet_tuple hc ?_))
      refine wp_if_neg (by decide) (wpAny_bind (cls_tup hk ?_))
      refine wp_if_neg (by decide) (wpAny_bind (cls_tup hc ?_))
      exact wp_if_neg (by decide) (wpAny_pure ⟨⟨rfl, rfl⟩, fin⟩)
  · obtain ⟨r1, r2⟩ := r
    obtain ⟨⟨q1, rfl⟩, _⟩ := q
    cases q1
    exact wpAny_pure h
end

end
section
/-! ### such a set, looked through and added to -/
structure Few (P : Program) (w : World) (hp : Heap) (a : Addr) (L : List (Addr × List Str)) (es : Array (Int × Value)) (ep : Nat) (t : SetTable) : Prop where
  at' : ∃ o, hp.get? a = some o ∧ o.ExactSet ∧ o.data = .set es ep t
  row : es.toList = L.map fun q => (hX P w q.2, Value.ref q.1)
  tab : TabOk t (L.map fun q => hX P w q.2)
  once : (L.map (·.2)).Nodup
  key : ∀ q ∈ L, TX P w hp q.2 q.1
  led : w.params.followText "set-order" = true ∨ t.led = true
  m7 : t.mask = 7
  len : L.length ≤ 4
section
variable {P : Program} {w : World} {A : Around} {E : Value → Shared → Prop} {s : Shared} {a : Addr} {L : List (Addr × List Str)} {es : Array (Int × Value)} {ep : Nat} {t : SetTable}
theorem Few.size {hp : Heap} (F : Few P w hp a L es ep t) : es.size = L.length := by rw [← Array.length_toList, F.row, List.length_map]
theorem Few.psz {hp : Heap} (F : Few P w hp a L es ep t) : t.place.size = L.length := by rw [F.tab.sz, List.length_map]
theorem Few.fit {hp : Heap} (F : Few P w hp a L es ep t) : t.fits es.size = true := by
  have e1 := F.psz
  have e2 := F.size
  have e3 := F.len
  unfold SetTable.fits SetTable.fill
  rw [F.tab.dm, F.m7]
  simp only [Bool.and_eq_true, beq_iff_eq, decide_eq_true_eq]
  exact ⟨by omega, by show t.place.size + 0 ≤ 7; omega⟩
theorem Few.nth {hp : Heap} (F : Few P w hp a L es ep t) {i : Nat} {q : Addr × List Str} (h : L[i]? = some q) : es[i]? = some (hX P w q.2, Value.ref q.1) := by
  have z := congrArg (fun l => l[i]?) F.row
  simp only [Array.getElem?_toList, List.getElem?_map, h, Option.map_some] at z
  exact z
theorem Few.noway {hp : Heap} (F : Few P w hp a L es ep t) : ¬ t.gaveWay = true := by
  unfold SetTable.gaveWay
  rw [F.m7]
  decide
/-- the c-th probe for a hash -/
abbrev prb (t : SetTable) (h : Int) (c : Nat) : SetTable.Probe := L2.nth t.mask (runAt t.mask (SetTable.bits h % (t.mask + 1)) (SetTable.bits h)) c
theorem prb_dm (t : SetTable) (h : Int) : ∀ c, (prb t h c).dummy = none
  | 0 => rfl
  | c + 1 => by
    have z := prb_dm t h c
    show (L2.nth t.mask _ (c + 1)).dummy = none
    rw [nth_succ]
    unfold adv
    split <;> exact z
/-- the look, from the c-th probe on; K is the first free place, n the steps that are left -/
theorem look {k : List Str} {x : Addr} {K : Nat} {Q : SetFound → Shared → Prop} (F : Few P w s.heap a L es ep t) (hx : TX P w s.heap k x) (hu : A.units < cLine) (k1 : K < 10 * SetTable.turns t.mask) (k2 : (prb t (hX P w k) K).j ∉ t.place.toList) (k3 : ∀ c, c < K → (prb t (hX P w k) c).j ∈ t.place.toList)
    (yes : k ∈ L.map (·.2) → Q (.there none) s) (no : k ∉ L.map (·.2) → Q (.free (prb t (hX P w k) K).j false) s) (n : Nat) :
    ∀ (f c : Nat) (st : Option SetTable.Probe), K - c = n → c ≤ K → n < f → st.getD (t.probeStart (hX P w k)) = prb t (hX P w k) c →
      (∀ (i : Nat) (q : Addr × List Str), L[i]? = some q → q.2 = k → ∃ d, c ≤ d ∧ d < K ∧ t.place.toList[i]? = some (prb t (hX P w k) d).j) → wpAny (model P w) A (setSearchFrom a (.ref x) (hX P w k) true f st) Q E s := by
  induction n using Nat.strongRecOn with
  | _ n ih =>
    intro f c st hn hc hf hst ahead
    obtain ⟨f, rfl⟩ : ∃ g, f = g + 1 := ⟨f - 1, by omega⟩
    obtain ⟨o, e1, e2, e3⟩ := F.at'
    generalize eh : hX P w k = h at *
    have sh : ∀ d, L2.nth t.mask (prb t h c) d = prb t h (c + d) := fun d => (nth_add t.mask c _ d).symm
    have hashes : ∀ (i : Nat) (q : Addr × List Str), L[i]? = some q → ((es[i]?.map (·.1)).getD 0) = hX P w q.2 := fun i q hq => by rw [F.nth hq]; rfl
    -- nobody of the key has been passed before d
    have unmet : ∀ d' : Nat, (∀ (d i : Nat), d < d' → t.place.toList[i]? = some (L2.nth t.mask (prb t h c) d).j → ((es[i]?.map (·.1)).getD 0) ≠ h) → ∀ (i : Nat) (q : Addr × List Str), L[i]? = some q → q.2 = k → ∀ d, c ≤ d → t.place.toList[i]? = some (prb t h d).j → c + d' ≤ d := fun d' hno i q hq hk d hd hp => by
      apply Classical.byContradiction
      intro hlt
      refine hno (d - c) i (by omega) (by rw [sh, show c + (d - c) = d by omega]; exact hp) ?_
      rw [hashes i q hq, hk]
      exact eh
    rw [setSearchFrom_succ]
    refine wpAny_bind (wpAny_setState_of e1 e3 F.fit ?_)
    refine wp_if_neg F.noway ?_
    have go := go_spec t F.tab.ris F.tab.dm (fun i => (es[i]?.map (·.1)).getD 0) h (10 * SetTable.turns t.mask) (K - c) (prb t h c) (prb_dm t h c) (by omega)
      (fun d hd => by rw [sh]; exact k3 _ (by omega)) (by rw [sh, show c + (K - c) = K by omega]; exact k2)
    rw [hst]
    have pe : ∀ z, SetTable.probe.go t (fun i => (es[i]?.map (·.1)).getD 0) h (10 * SetTable.turns t.mask) (prb t h c) = z → t.probe (fun i => (es[i]?.map (·.1)).getD 0) h (prb t h c) = z := fun _ z => z
    rcases go with ⟨d, i, d1, d2, d3, d4, d5⟩ | ⟨d4, d5⟩
    · rw [pe _ d5]
      rw [sh] at d2
      have il : i < L.length := by
        have z := (List.getElem?_eq_some_iff.mp d2).1
        rw [Array.length_toList, F.psz] at z
        exact z
      obtain ⟨q, hq⟩ : ∃ q, L[i]? = some q := ⟨_, List.getElem?_eq_getElem il⟩
      have qm := List.mem_of_getElem? hq
      have tail : wpAny (model P w) A (searchRest a (.ref x) h true f es t (L2.nth t.mask (prb t h c) d).j i (L2.nth t.mask (prb t h c) (d + 1))) Q E s := by
        unfold searchRest
        rw [F.nth hq]
        refine wpAny_bind (wpAny_holding (wpAny_eqBool_tuple hu (F.key q qm) hx ?_))
        refine wpAny_bind (wpAny_setState_of e1 e3 F.fit ?_)
        by_cases ek : q.2 = k
        · exact wp_if_pos (by simp [ek]) (wpAny_pure (yes (ek ▸ List.mem_map_of_mem qm)))
        · refine wp_if_neg (by simp [ek]) ?_
          rw [sameMem]
          have live : t.slot (L2.nth t.mask (prb t h c) d).j = .live i := by rw [sh]; exact slot_live F.tab.ris d2
          simp only [if_true, live, F.nth hq]
          refine wpAny_bind (wpAny_isSame_ref_self (wpAny_bind (wpAny_pure ?_)))
          simp only [if_true]
          refine wp_if_neg (by simp [ek]) ?_
          refine ih (K - (c + (d + 1))) (by omega) f (c + (d + 1)) _ rfl (by omega) (by omega) (sh (d + 1)) fun j p hp hk => ?_
          obtain ⟨g, g1, g2, g3⟩ := ahead j p hp hk
          have g4 := unmet d d4 j p hp hk g g1 g3
          refine ⟨g, ?_, g2, g3⟩
          by_cases z : g = c + d
          · rw [z] at g3
            have l2 := slot_live F.tab.ris g3
            rw [sh] at live
            rw [live] at l2
            cases l2
            rw [hq] at hp
            cases hp
            exact absurd hk ek
          · omega
      by_cases tl : t.led = true
      · exact wp_if_neg (by simp [tl]) tail
      · refine wp_if_pos (by simp [tl]) (wpAny_bind (quiet_tups hx (fun y hy => ?_) (wp_if_neg (by decide) tail)))
        obtain ⟨e, he, rfl⟩ := List.mem_map.mp hy
        have he' : e ∈ es.toList := by
          have := (show e ∈ es ∧ e.1 = h by simpa using he).1
          simpa using this
        rw [F.row] at he'
        obtain ⟨p, hp, rfl⟩ := List.mem_map.mp he'
        exact ⟨p.2, p.1, rfl, F.key p hp⟩
    · rw [pe _ d5, sh, show c + (K - c) = K by omega]
      refine wpAny_pure (no fun hm => ?_)
      obtain ⟨q, qm, hk⟩ := List.mem_map.mp hm
      obtain ⟨i, hi⟩ := List.mem_iff_getElem?.mp qm
      obtain ⟨g, g1, g2, g3⟩ := ahead i q hi hk
      have := unmet (K - c) d4 i q hi hk g g1 g3
      omega
theorem look0 {k : List Str} {x : Addr} {Q : SetFound → Shared → Prop} (F : Few P w s.heap a L es ep t) (hx : TX P w s.heap k x) (hu : A.units < cLine) (yes : k ∈ L.map (·.2) → Q (.there none) s)
    (no : ∀ K, k ∉ L.map (·.2) → (prb t (hX P w k) K).j ∉ t.place.toList → (∀ c, c < K → (prb t (hX P w k) c).j ∈ t.place.toList) → Q (.free (prb t (hX P w k) K).j false) s) : wpAny (model P w) A (setSearch a (.ref x) (hX P w k) true) Q E s := by
  obtain ⟨K, k1, k2, k3⟩ := F.tab.first (by rw [List.length_map, F.m7]; have := F.len; omega) (hX P w k)
  have tn : SetTable.turns t.mask ≤ 1000 := by rw [F.m7]; decide
  refine look F hx hu k1 k2 k3 yes (fun z => no K z k2 k3) (K - 0) 100000 0 none rfl (Nat.zero_le _) (by omega) rfl fun i q hq hk => ?_
  have il := (List.getElem?_eq_some_iff.mp hq).1
  have pl : i < t.place.toList.length := by rw [Array.length_toList, F.psz]; exact il
  obtain ⟨c, c1, c2⟩ := F.tab.before k2 (i := i) (by rw [List.getElem?_map, hq, ← hk]; rfl) (List.getElem?_eq_getElem pl)
  exact ⟨c, Nat.zero_le _, c1, by rw [List.getElem?_eq_getElem pl]; exact congrArg some c2.symm⟩
end

end
section
section
variable {P : Program} {w : World} {A : Around} {E : Value → Shared → Prop} {s : Shared} {a : Addr} {L : List (Addr × List Str)} {es : Array (Int × Value)} {ep : Nat} {t : SetTable}
theorem Few.held {hp hp' : Heap} (F : Few P w hp a L es ep t) (g : ∀ c o, hp.get? c = some o → hp'.get? c = some o) : Few P w hp' a L es ep t :=
  let ⟨o, e, r⟩ := F.at'
  ⟨⟨o, g a o e, r⟩, F.row, F.tab, F.once, fun q hq => (F.key q hq).held g, F.led, F.m7, F.len⟩
theorem tab_plain {hs : List Int} (T : TabOk t hs) (b : Bool) : TabOk { t with plain := b } hs := ⟨T.ris, T.dm, T.sz, T.mok, T.bd, T.reach⟩
theorem add4 {k : List Str} {x : Addr} {Q : Bool → Shared → Prop} (F : Few P w s.heap a L es ep t) (hx : TX P w s.heap k x) (hu : A.units < cLine) (room : L.length + 1 ≤ 4)
    (hQ : ∀ b h' L' es' ep' t', Heap.SameBut a s.heap h' → Few P w h' a L' es' ep' t' → (k ∈ L.map (·.2) → L' = L) → (k ∉ L.map (·.2) → L'.Perm ((x, k) :: L)) → Q b { s with heap := h' }) :
    wpAny (model P w) A (setAddHashed a (.ref x) (hX P w k)) Q E s := by
  obtain ⟨o, e1, e2, e3⟩ := F.at'
  unfold setAddHashed
  refine wpAny_holding ?_
  rw [show (100000 : Nat) = 99999 + 1 from rfl, setAddHashedIn_succ]
  refine wpAny_bind (wpAny_setState_of e1 e3 F.fit ?_)
  refine wp_if_neg (by simp [byScan, Value.scannable]) ?_
  refine wpAny_bind (look0 F hx hu (fun hm => ?_) fun K hm k2 k3 => ?_)
  · exact wpAny_pure (hQ false s.heap L es ep t (Heap.SameBut.refl ..) F (fun _ => rfl) fun z => absurd hm z)
  · refine wpAny_bind (wpAny_setState_of e1 e3 F.fit ?_)
    obtain ⟨c1, c2, c3, c4, c5, c6, c7, c8, c9⟩ := F.tab.put k2 k3
    dsimp only
    generalize ept : t.put (prb t (hX P w k) K).j = pt at c1 c3 c4 c5 c6 c7 c8 c9 ⊢
    obtain ⟨t1, j⟩ := pt
    dsimp only at c1 c3 c4 c5 c9 ⊢
    rw [← c1] at c2 c3
    have pm := put_perm L j (x, k)
    have row1 : (SetTable.insertAt es j (hX P w k, Value.ref x)).toList = (L.take j ++ (x, k) :: L.drop j).map fun q => (hX P w q.2, Value.ref q.1) := by
      rw [SetTable.toList_insertAt, F.row, List.map_append, List.map_cons, List.map_take, List.map_drop]
    have tab1 : TabOk t1 ((L.take j ++ (x, k) :: L.drop j).map fun q => hX P w q.2) := by
      rw [List.map_append, List.map_cons, List.map_take, List.map_drop]
      exact c3
    have len1 : (L.take j ++ (x, k) :: L.drop j).length = L.length + 1 := pm.length_eq
    have once1 : ((L.take j ++ (x, k) :: L.drop j).map (·.2)).Nodup := (pm.map (·.2)).nodup_iff.mpr (List.nodup_cons.mpr ⟨hm, F.once⟩)
    have sz1 : (SetTable.insertAt es j (hX P w k, Value.ref x)).size = L.length + 1 := by rw [← Array.length_toList, row1, List.length_map, len1]
    generalize SetTable.insertAt es j (hX P w k, Value.ref x) = es1 at row1 sz1 ⊢
    generalize L.take j ++ (x, k) :: L.drop j = L1 at pm row1 tab1 len1 once1
    -- whatever is told of the hash
    have fin : ∀ t2 : SetTable, TabOk t2 (L1.map fun q => hX P w q.2) → t2.mask = 7 → t2.led = t.led → t2.fill = L.length + 1 → wpAny (model P w) A (do
        storeSet a es1 t2
        if !false && t2.tooFull then setRelay a (SetTable.grown (es.size + 1))
        return true) Q E s := fun t2 T2 m2 l2 f2 => by
      refine wpAny_bind (wpAny_storeSet_of e1 e3 ?_ (by rw [sz1, sizeLine_eq]; omega))
      have tf : t2.tooFull = false := by
        unfold SetTable.tooFull
        rw [f2, m2]
        exact decide_eq_false (by omega)
      refine wp_if_neg (by rw [tf]; decide) (wpAny_pure (hQ true _ L1 es1 (ep + 1) t2 (Heap.SameBut.update ..) ⟨⟨_, store_at e1 e3, ⟨e2.1, e2.2.1, e2.2.2⟩, rfl⟩, row1, T2, once1, fun q hq => ?_, by rw [l2]; exact F.led, m2, by omega⟩ (fun z => absurd z hm) fun _ => pm))
      rcases List.mem_cons.mp (pm.mem_iff.mp hq) with rfl | hq
      · exact hx.but e1 e3 (Heap.SameBut.update ..)
      · exact (F.key q hq).but e1 e3 (Heap.SameBut.update ..)
    have f1 : t1.fill = L.length + 1 := by rw [c9, List.length_map]
    have m1 : t1.mask = 7 := by rw [c4, F.m7]
    have both : ∀ b : Bool, wpAny (model P w) A (do
        storeSet a es1 (if b = true then t1 else { t1 with plain := false })
        if !false && (if b = true then t1 else { t1 with plain := false }).tooFull then setRelay a (SetTable.grown (es.size + 1))
        return true) Q E s := fun b => by
      cases b with
      | true => exact fin t1 tab1 m1 c5 f1
      | false => exact fin { t1 with plain := false } (tab_plain tab1 false) m1 c5 f1
    by_cases pl : t1.plain = true
    · rw [if_pos pl]
      exact wpAny_bind (hby_tup hx fun b => both b)
    · rw [if_neg pl]
      exact wpAny_bind (wpAny_pure (both true))
end

end
section
/-! ### set(l) for a list l of at most four tuples of texts -/
/-- what the set holds behind i items -/
structure Holds4 (ks : List (Addr × List Str)) (i : Nat) (L : List (Addr × List Str)) : Prop where
  sub : ∀ q ∈ L, q ∈ ks
  all : ∀ q ∈ ks.take i, q.2 ∈ L.map (·.2)
  few : L.length ≤ i
theorem Holds4.next {ks L L' : List (Addr × List Str)} {i : Nat} {q : Addr × List Str} (h : Holds4 ks i L) (e : ks[i]? = some q) (c1 : q.2 ∈ L.map (·.2) → L' = L) (c2 : q.2 ∉ L.map (·.2) → L'.Perm (q :: L)) : Holds4 ks (i + 1) L' := by
  have tk : ks.take (i + 1) = ks.take i ++ [q] := by rw [List.take_add_one, e]; rfl
  have qm := List.mem_of_getElem? e
  by_cases c : q.2 ∈ L.map (·.2)
  · rw [c1 c]
    refine ⟨h.sub, fun p hp => ?_, Nat.le_succ_of_le h.few⟩
    rw [tk, List.mem_append, List.mem_singleton] at hp
    rcases hp with hp | rfl
    · exact h.all p hp
    · exact c
  · have pm := c2 c
    refine ⟨fun p hp => ?_, fun p hp => ?_, ?_⟩
    · rcases List.mem_cons.mp (pm.mem_iff.mp hp) with rfl | hp
      · exact qm
      · exact h.sub p hp
    · refine (pm.map (·.2)).mem_iff.mpr ?_
      rw [tk, List.mem_append, List.mem_singleton] at hp
      rw [List.map_cons, List.mem_cons]
      rcases hp with hp | rfl
      · exact .inr (h.all p hp)
      · exact .inl rfl
    · rw [pm.length_eq, List.length_cons]
      exact Nat.succ_le_succ h.few
section
variable {prog : Program} {w : World} {A : Around} {R : Result → Shared → Prop} {I : Addr} {fp wr : List Addr} {G : Array GenState → Array GenState → Prop} {n : Nat} {P : Nat → Value → Prop} {St : Nat → Shared → Prop}
theorem loop_tups (W : WalksS prog w A.in1 I fp wr G n P St) (S : Addr) (hSf : S ∉ fp) (ks : List (Addr × List Str)) (hn : ks.length = n) (h4 : n ≤ 4) (hval : ∀ i v, P i v → ∃ q, ks[i]? = some q ∧ v = .ref q.1) (hu : A.in1.units < cLine) (h0 : Heap) (hk : ∀ q ∈ ks, TX prog w h0 q.2 q.1) (nS : h0.get? S = none) (nw0 : ∀ b ∈ wr, h0.get? b = none) (k : Nat) :
    ∀ (i : Nat) (s : Shared), n - i = k → i ≤ n → St i s → (∀ b o, h0.get? b = some o → s.heap.get? b = some o) → (∃ L es ep t, Few prog w s.heap S L es ep t ∧ Holds4 ks i L) →
      (∀ s' L es ep t, Moved (S :: wr) G s s' → Few prog w s'.heap S L es ep t → Holds4 ks n L → (∀ b o, h0.get? b = some o → s'.heap.get? b = some o) → R (.ok (.ret .none)) s') → codeAny (model prog w) A (.builtin "set.update.loop" ⟨[.ref S, .ref I], []⟩) R s := by
  have nw : S ∉ wr := fun z => hSf (W.sub _ z)
  have into : ∀ b ∈ wr, b ∈ S :: wr := fun b z => List.mem_cons_of_mem _ z
  have stay : ∀ {s s' : Shared}, Moved wr G s s' → (∀ b o, h0.get? b = some o → s.heap.get? b = some o) → ∀ b o, h0.get? b = some o → s'.heap.get? b = some o := fun m g b o e => m.heap b o (fun z => by rw [nw0 b z] at e; cases e) (g b o e)
  have carry : ∀ {s s' : Shared} {L : List (Addr × List Str)} {i : Nat} {es : Array (Int × Value)} {ep : Nat} {t : SetTable}, Moved wr G s s' → (∀ b o, h0.get? b = some o → s'.heap.get? b = some o) → Few prog w s.heap S L es ep t → Holds4 ks i L → Few prog w s'.heap S L es ep t := fun m g F h => by
    obtain ⟨o, e, r⟩ := F.at'
    exact ⟨⟨o, m.heap S o nw e, r⟩, F.row, F.tab, F.once, fun q hq => (hk q (h.sub q hq)).held g, F.led, F.m7, F.len⟩
  induction k with
  | zero =>
    intro i s hk0 hi st g0 hF hR
    obtain ⟨L, es, ep, t, F, h⟩ := hF
    have e : i = n := by omega
    refine codeAny_builtin PyProof.Rows.F.entry_set_update_loop ?_
    rw [Around.under_plainId PyProof.Rows.F.plain_set_update_loop]
    refine wpAny_bind (m := pyNext (.ref I)) (W.done s _ _ (e ▸ st) fun s' m => ?_)
    exact wpAny_pure (hR s' L es ep t (m.mono into) (carry m (stay m g0) F h) (e ▸ h) (stay m g0))
  | succ k ih =>
    intro i s hk0 hi st g0 hF hR
    obtain ⟨L, es, ep, t, F, h⟩ := hF
    have lt : i < n := by omega
    refine codeAny_builtin PyProof.Rows.F.entry_set_update_loop ?_
    rw [Around.under_plainId PyProof.Rows.F.plain_set_update_loop]
    refine wpAny_bind (m := pyNext (.ref I)) (W.item i s _ _ lt st fun v s' hP st' m => ?_)
    obtain ⟨q, hq, rfl⟩ := hval i v hP
    have g1 := stay m g0
    have hx := (hk q (List.mem_of_getElem? hq)).held g1
    refine wpAny_bind (m := holding [Value.ref q.1] (setAdd S (.ref q.1))) (wpAny_holding ?_)
    unfold setAdd
    refine wpAny_holding (wpAny_bind (wpAny_pyHash_tuple hu hx ?_))
    have F' := carry m g1 F h
    refine add4 (s := { s' with toks := s'.toks + (q.2.length + 1) }) F' hx hu (by have := h.few; omega) fun b h' L' es' ep' t' sb F2 c1 c2 => ?_
    have g2 : ∀ b o, h0.get? b = some o → h'.get? b = some o := fun b o e => by
      rw [sb.2 b fun z => by rw [z, nS] at e; cases e]
      exact g1 b o e
    refine wpAny_pure ⟨plainId_quiet PyProof.Rows.F.plain_set_update_loop _, ih (i + 1) _ (by omega) lt (W.frame _ s' _ _ st' (Nat.le_add_right _ _) fun b hb o eo => ?_) g2 ⟨L', es', ep', t', F2, h.next hq c1 c2⟩ fun s2 L2 es2 ep2 t2 m2 F3 h3 g3 => ?_⟩
    · rw [sb.2 b (fun z => hSf (z ▸ hb))]; exact eo
    · refine hR s2 L2 es2 ep2 t2 (Moved.trans W.gtrans ((m.mono into).then_heap (Nat.le_add_right _ _) fun b o hb eo => ?_) m2) F3 h3 g3
      rw [sb.2 b (fun z => hb (by rw [z]; exact List.mem_cons_self))]; exact eo
end
section
variable {prog : Program} {w : World} {A : Around} {E : Value → Shared → Prop} {s : Shared}
abbrev setO (w : World) : Obj := { cls := .type "set", dict := none, data := .set #[] 0 (.fresh 0 0 (!w.params.followText "set-order")) }
theorem few_new {hp : Heap} {a : Addr} (e : hp.get? a = some (setO w)) : Few prog w hp a [] #[] 0 (.fresh 0 0 (!w.params.followText "set-order")) :=
  ⟨⟨_, e, ⟨rfl, rfl, rfl⟩, rfl⟩, rfl, ⟨List.Pairwise.nil, rfl, rfl, .inl rfl, (fun _ z => (nomatch z)), (fun i h j z => by simp at z)⟩, List.nodup_nil, (fun _ z => (nomatch z)), by
    show _ ∨ (!w.params.followText "set-order") = true
    cases w.params.followText "set-order"
    · exact .inr rfl
    · exact .inl rfl, rfl, Nat.zero_le _⟩
theorem call_set_few {l : Addr} {us : Array Value} {ks : List (Addr × List Str)} {Q : Value → Shared → Prop} (hh : A.handled = none) (hl : s.heap.IsList l us) (hv : us.toList = ks.map fun q => Value.ref q.1) (hk : ∀ q ∈ ks, TX prog w s.heap q.2 q.1) (h4 : ks.length ≤ 4) (hu : A.units + 3 < cLine)
    (h : ∀ (h' : Heap) (tk : Nat) L es ep t, Few prog w h' s.heap.objs.size L es ep t → Holds4 ks ks.length L → (∀ b o, s.heap.get? b = some o → h'.get? b = some o) → Q (.ref s.heap.objs.size) { s with heap := h', toks := tk }) :
    wpAny (model prog w) A (call (.type "set") [.ref l]) Q E s := by
  obtain ⟨c0, t0, m0⟩ := PySem.F.called_set.mro
  have m1 := PySem.F.called_set.made
  have m2 := PySem.F.called_set.sub
  have m3 := PySem.F.called_set.notType
  have m4 := PySem.F.called_set.canCreate
  have m5 := PySem.F.typeCall_set_1 (.ref l)
  apply wpAny_call
  apply codeAny_of_tree
  show wpAny _ _ (callAny (.type "set") ⟨[.ref l], []⟩) _ _ s
  refine wpAny_pure ⟨Code.quiet_builtin _ (by decide +kernel), ?_⟩
  refine codeAny_builtin PySem.F.entry_type_call ?_
  rw [Around.under_plain (weight_type_call_type "set" [Value.ref l] []) rfl]
  repeat any_goals (first | assumption | wp_step)
  refine codeAny_mono (code_set_led1 (.ref l) (E := E) (Q₁ := fun v s1 => v = .ref s.heap.objs.size ∧ s1 = { s with heap := s.heap.push (setO w) }) ⟨rfl, rfl⟩) fun r s1 hr => ?_
  cases r with
  | error e => exact hr
  | ok fl =>
    cases fl with
    | ret v =>
      obtain ⟨rfl, rfl⟩ := hr
      have gS : (s.heap.push (setO w)).get? s.heap.objs.size = some (setO w) := Heap.get?_push_size _ rfl
      have tS : Shared.TypeIs { s with heap := s.heap.push (setO w) } (.ref s.heap.objs.size) "set" := ⟨_, gS, rfl⟩
      have i1 := PySem.F.called_set.init.lookup
      have i2 := PySem.F.called_set.init.bind (.ref s.heap.objs.size)
      repeat any_goals (first | assumption | wp_step)
      refine codeAny_mono (codeAny_call_builtin (R := wants (fun r s2 => r = .none ∧ ∃ h' tk L es ep t, s2 = { s with heap := h', toks := tk } ∧ Few prog w h' s.heap.objs.size L es ep t ∧ Holds4 ks ks.length L ∧ ∀ b o, s.heap.get? b = some o → h'.get? b = some o) E)
        PySem.F.called_set.init.plain PySem.F.entry_set_init (check_set_init_1 tS ?_)) fun r2 s2 hr2 => ?_
      · obtain ⟨⟨oc, od, oa, os⟩, g, c1, m, c2⟩ := hl
        simp only at c1 c2
        subst c1 c2
        have g1 : (s.heap.push (setO w)).get? l = some { cls := .type "list", dict := od, data := .seq us m, slots := os } := Heap.get?_push_of_some _ g
        have j1 := PySem.F.sub_list_set
        have j2 := PySem.F.sub_list_frozenset
        have j3 : (Value.type "list" == Value.type "dict") = false := by decide
        have hl1 : (s.heap.push (setO w)).IsList l us := ⟨_, g1, rfl, m, rfl⟩
        unfold Builtin.«set.__init__» noKeywords Builtin.Frozenset.updateFrom
        generalize eI : pyIter = PI
        wp_walk
        subst eI
        refine wpAny_pyIter_list hl1 (wpAny_bind (wpAny_runValue ?_))
        have ll : l < s.heap.objs.size := Heap.lt_size g
        have sz1 : (s.heap.push (setO w)).objs.size = s.heap.objs.size + 1 := Heap.size_push _ _
        have nl : l ≠ (s.heap.push (setO w)).objs.size := by rw [sz1]; exact Nat.ne_of_lt (Nat.lt_succ_of_lt ll)
        have nS : s.heap.objs.size ∉ [(s.heap.push (setO w)).objs.size, l] := fun z => by
          rcases List.mem_cons.mp z with z | z
          · rw [sz1] at z; exact Nat.ne_of_lt (Nat.lt_succ_self _) z
          · exact Nat.ne_of_gt ll (List.mem_singleton.mp z)
        have len : ks.length = us.size := by rw [← Array.length_toList, hv, List.length_map]
        have vals : ∀ (i : Nat) (v : Value), us[i]? = some v → ∃ q, ks[i]? = some q ∧ v = .ref q.1 := fun i v e => by
          rw [← Array.getElem?_toList, hv, List.getElem?_map] at e
          obtain ⟨q, e3, e4⟩ := Option.map_eq_some_iff.mp e
          exact ⟨q, e3, e4.symm⟩
        have noo : ∀ b, s.heap.objs.size ≤ b → s.heap.get? b = none := fun b hb => by
          cases q : s.heap.get? b with
          | none => rfl
          | some o => exact absurd (Heap.lt_size q) (Nat.not_lt.mpr hb)
        refine loop_tups ((Walks.list (show A.in1.in1.in1.handled = none from hh) _ l nl us).toS) s.heap.objs.size nS ks len (by omega) vals hu s.heap hk (noo _ (Nat.le_refl _)) (fun b hb => noo b (by rw [List.mem_singleton.mp hb, sz1]; exact Nat.le_succ _)) (us.size - 0) 0 _ rfl (Nat.zero_le _) ⟨⟨_, Heap.get?_push_size _ rfl, rfl, rfl⟩, hl1.push _⟩ (fun b o e => Heap.get?_push_of_some _ (Heap.get?_push_of_some _ e)) ⟨[], #[], 0, _, few_new (Heap.get?_push_of_some _ gS), ⟨(fun _ z => (nomatch z)), (fun _ z => by simp at z), Nat.zero_le _⟩⟩ fun s3 L es ep t mv F3 h3 g3 => ?_
        obtain ⟨h', g', d', k', o'⟩ := s3
        obtain rfl : g' = s.gens := mv.gens
        obtain rfl : d' = s.drawn := mv.drawn
        obtain rfl : o' = s.os := mv.os
        exact wpAny_pure (show wpAny _ _ (ret Value.none) _ _ _ from wpAny_pure ⟨rfl, h', k', L, es, ep, t, rfl, F3, len ▸ h3, g3⟩)
      · cases r2 with
        | error e => exact hr2
        | ok fl2 =>
          cases fl2 with
          | ret v2 =>
            obtain ⟨rfl, h', tk, L, es, ep, t, rfl, F3, h3, g3⟩ := hr2
            repeat any_goals (first | assumption | wp_step)
            exact h _ _ _ _ _ _ F3 h3 g3
          | _ => exact hr2.elim
    | _ => exact hr.elim
end

end
section
open PySem.W (EachIs alike alikeAll keyToks keyToksAll dataLt dataKind SortsAt dataType)
/-! ### sorted(set(l)), l a list of pairs of texts -/
def rowK (k : List Str) : Mv × PyData := (.tup (k.map .str), .tuple (k.map .str))
noncomputable def sortK (ks : List (List Str)) : List Mv := (isort leD (ks.map rowK)).map (·.1)
theorem tk_tri {a b : Int ⊕ List Nat} (h1 : tkLt a b = false) (h2 : tkLt b a = false) : a = b := by
  cases a <;> cases b
  · have e1 := h1.symm.trans (iLt_eq _ _)
    have e2 := h2.symm.trans (iLt_eq _ _)
    have e1 := of_decide_eq_false e1.symm
    have e2 := of_decide_eq_false e2.symm
    exact congrArg _ (by omega)
  · cases h1
  · cases h2
  · rename_i x y
    have e1 : ltCps x y = false := h1
    have e2 : ltCps y x = false := h2
    rw [ltCps_eq] at e1 e2
    have e1 := of_decide_eq_false e1
    have e2 := of_decide_eq_false e2
    exact congrArg _ (List.le_antisymm (List.not_lt.mp e2) (List.not_lt.mp e1))
theorem tks_tri : ∀ {a b : List (Int ⊕ List Nat)}, tksLt a b = false → tksLt b a = false → a = b
  | [], [], _, _ => rfl
  | [], _ :: _, h, _ => by cases h
  | _ :: _, [], _, h => by cases h
  | x :: r, y :: t, h1, h2 => by
    have h1 : cond (tkLt x y) true (cond (tkLt y x) false (tksLt r t)) = false := h1
    have h2 : cond (tkLt y x) true (cond (tkLt x y) false (tksLt t r)) = false := h2
    cases e1 : tkLt x y with
    | true => rw [e1] at h1; cases h1
    | false =>
      cases e2 : tkLt y x with
      | true => rw [e2] at h2; cases h2
      | false =>
        rw [e1, e2] at h1
        rw [e1, e2] at h2
        rw [tk_tri e1 e2, tks_tri h1 h2]
theorem cps_inj {x y : Str} (h : x.cps.toList = y.cps.toList) : x = y := by
  cases x; cases y
  exact congrArg _ (Array.toList_inj.mp h)
theorem toks_inj : ∀ {a b : List Str}, keyToksAll (a.map .str) = keyToksAll (b.map .str) → a = b
  | [], [], _ => rfl
  | [], _ :: _, h => by simp [keyToksAll] at h
  | _ :: _, [], h => by simp [keyToksAll] at h
  | x :: a, y :: b, h => by
    simp only [List.map_cons, keyToksAll, keyToks, List.cons_append, List.nil_append, List.cons.injEq, Sum.inr.injEq, true_and] at h
    rw [cps_inj h.1, toks_inj h.2]
theorem row_tri {a b : List Str} (h1 : leD (rowK a) (rowK b) = true) (h2 : leD (rowK b) (rowK a) = true) : a = b := by
  have e1 : dLt (.tuple (b.map .str)) (.tuple (a.map .str)) = false := by simpa [leD, rowK] using h1
  have e2 : dLt (.tuple (a.map .str)) (.tuple (b.map .str)) = false := by simpa [leD, rowK] using h2
  have e := tks_tri (a := keyToks (.tuple (a.map .str))) (b := keyToks (.tuple (b.map .str))) e2 e1
  simp only [keyToks] at e
  exact toks_inj e
theorem isort_pw {α : Type} {le : α → α → Bool} (T : PySem.W.TotalLe le) : ∀ l : List α, (isort le l).Pairwise fun a b => le a b = true
  | [] => .nil
  | _ :: l => ins1_pw T (isort_pw T l)
theorem isort_perm {α : Type} {le : α → α → Bool} (T : PySem.W.TotalLe le) (l : List α) : (isort le l).Perm l := by rw [isort_eq T]; exact List.mergeSort_perm l le
theorem sortK_perm {k1 k2 : List (List Str)} (h : k1.Perm k2) : sortK k1 = sortK k2 := by
  unfold sortK
  have e : isort leD (k1.map rowK) = isort leD (k2.map rowK) := by
    refine List.Perm.eq_of_pairwise (le := fun a b => leD a b = true) (fun a b ha hb h1 h2 => ?_) (isort_pw leD_total _) (isort_pw leD_total _) ((isort_perm leD_total _).trans ((h.map rowK).trans (isort_perm leD_total _).symm))
    obtain ⟨x, _, rfl⟩ := List.mem_map.mp ((isort_perm leD_total _).mem_iff.mp ha)
    obtain ⟨y, _, rfl⟩ := List.mem_map.mp ((isort_perm leD_total _).mem_iff.mp hb)
    rw [row_tri h1 h2]
  rw [e]
theorem sortK_mem {ks : List (List Str)} {v : Mv} (h : v ∈ sortK ks) : ∃ k ∈ ks, v = .tup (k.map .str) := by
  obtain ⟨q, hq, rfl⟩ := List.mem_map.mp h
  obtain ⟨k, hk, rfl⟩ := List.mem_map.mp ((isort_perm leD_total _).mem_iff.mp hq)
  exact ⟨k, hk, rfl⟩
theorem sortK_len (ks : List (List Str)) : (sortK ks).length = ks.length := by
  unfold sortK
  rw [List.length_map, (isort_perm leD_total _).length_eq, List.length_map]
noncomputable def pairOf (w : Mv) : Option (List Str) := match w with
  | .tup [.str x, .str y] => some [x, y]
  | _ => none
theorem pairOf_eq {w : Mv} {k : List Str} (h : pairOf w = some k) : ∃ x y, w = .tup [.str x, .str y] ∧ k = [x, y] := by
  unfold pairOf at h
  split at h
  · cases h; exact ⟨_, _, rfl, rfl⟩
  · cases h
noncomputable def keysOf (ws : List Mv) : Option (List (List Str)) := ws.foldr (fun w acc => (pairOf w).ob fun k => acc.om fun ks => k :: ks) (some [])
theorem keysOf_cons {w : Mv} {ws : List Mv} {ks : List (List Str)} (h : keysOf (w :: ws) = some ks) : ∃ x y ks', w = .tup [.str x, .str y] ∧ keysOf ws = some ks' ∧ ks = [x, y] :: ks' := by
  have h : (pairOf w).ob (fun k => (keysOf ws).om fun ks => k :: ks) = some ks := h
  obtain ⟨k, h1, h2⟩ := ob_some.mp h
  obtain ⟨ks', h3, rfl⟩ := omap_some.mp h2
  obtain ⟨x, y, rfl, rfl⟩ := pairOf_eq h1
  exact ⟨x, y, ks', rfl, h3, rfl⟩
noncomputable def ddK (l : List (List Str)) : List (List Str) := l.foldr (fun k acc => if k ∈ acc then acc else k :: acc) []
theorem ddK_mem : ∀ {l : List (List Str)} {k : List Str}, k ∈ ddK l ↔ k ∈ l
  | [], k => Iff.rfl
  | x :: l, k => by
    show k ∈ (if x ∈ ddK l then ddK l else x :: ddK l) ↔ _
    have ih := @ddK_mem l
    split
    · rename_i h
      rw [ih, List.mem_cons]
      exact ⟨.inr, fun z => z.elim (fun e => by rw [e]; exact ih.mp h) id⟩
    · rw [List.mem_cons, List.mem_cons, ih]
theorem ddK_nd : ∀ (l : List (List Str)), (ddK l).Nodup
  | [] => List.nodup_nil
  | x :: l => by
    show (if x ∈ ddK l then ddK l else x :: ddK l).Nodup
    split
    · exact ddK_nd l
    · rename_i h; exact List.nodup_cons.mpr ⟨h, ddK_nd l⟩
theorem ddK_len : ∀ (l : List (List Str)), (ddK l).length ≤ l.length
  | [] => Nat.le_refl _
  | x :: l => by
    show (if x ∈ ddK l then ddK l else x :: ddK l).length ≤ _
    have := ddK_len l
    split
    · exact Nat.le_succ_of_le this
    · exact Nat.succ_le_succ this
noncomputable def msrtS (A : Fe) : Fe := fun r s => (A r s).ob fun x => (lstOf x.1 x.2).ob fun ws => (keysOf ws).ob fun ks => cond (Nat.ble ks.length 4) (newO (.lst (sortK (ddK ks))) x.2) none
/-- the set at a, without its tuples -/
def FewO (P : Program) (w : World) (a : Addr) (L : List (Addr × List Str)) : HO := .ext fun h => ∃ es ep t, (∃ o, h.get? a = some o ∧ o.ExactSet ∧ o.data = .set es ep t) ∧ es.toList = (L.map fun q => (hX P w q.2, Value.ref q.1)) ∧ TabOk t (L.map fun q => hX P w q.2) ∧ (L.map (·.2)).Nodup ∧ (w.params.followText "set-order" = true ∨ t.led = true) ∧ t.mask = 7 ∧ L.length ≤ 4
section
variable {X : Cx} {pins : List (Addr × Obj)} {σ : L2.St} {H : Hp} {s : Shared} {G : Mg} {p : List Addr}
theorem fewO_ok {h : Heap} {a : Addr} {L : List (Addr × List Str)} {es : Array (Int × Value)} {ep : Nat} {t : SetTable} {P : Program} {w : World} (F : Few P w h a L es ep t) : ObjOk P w H h a (FewO P w a L) := by
  obtain ⟨o, e, r⟩ := F.at'
  refine ⟨⟨es, ep, t, ⟨o, e, r⟩, F.row, F.tab, F.once, F.led, F.m7, F.len⟩, ⟨o, e⟩, fun h1 h2 ⟨es1, ep1, t1, ⟨o1, e1, r1⟩, q⟩ k => ⟨es1, ep1, t1, ⟨o1, k o1 e1, r1⟩, q⟩⟩
theorem strs_items {P : Program} {w : World} : ∀ {k : List Str} {us : List Value}, Vals (k.map V.str) us → ItemsAre (PySem.strKind P w) k us
  | [], _, .nil => .nil
  | y :: k, _, .cons r t => by
    obtain ⟨tk, rfl⟩ := r
    exact .cons (strKind_is P w y tk) (strs_items t)
theorem tx_of {b : Addr} {k : List Str} (I : Inv X pins σ H s) (h : SqT X.K H b (k.map V.str)) : TX X.prog X.w s.heap k b := by
  obtain ⟨its, r, ⟨o, e1, e2, n, e3⟩, _⟩ := I.tuple h
  exact ⟨o, its.toArray, n, e1, e2, e3, by simpa using strs_items r⟩
theorem keys_ok : ∀ (ws : List Mv) (vs : List V) (ks : List (List Str)), DenL G p H ws vs → keysOf ws = some ks → ∃ L : List (Addr × List Str), L.map (·.2) = ks ∧ vs = (L.map fun q => V.ref q.1) ∧ (∀ q ∈ L, SqT G.K H q.1 (q.2.map V.str)) ∧ ∀ k ∈ ks, k.length = 2 := by
  intro ws
  induction ws with
  | nil =>
    intro vs ks l h
    cases l
    cases h
    exact ⟨[], rfl, rfl, (fun _ z => nomatch z), (fun _ z => nomatch z)⟩
  | cons w ws ih =>
    intro vs ks l h
    obtain ⟨x, y, ks', rfl, h2, rfl⟩ := keysOf_cons h
    cases l with
    | cons d l =>
      obtain ⟨L, l1, rfl, l3, l4⟩ := ih _ _ l h2
      obtain ⟨a, vs0, rfl, sq, dl⟩ := d.tup_inv
      have e0 : vs0 = [V.str x, V.str y] := by
        cases dl with
        | cons d1 dl =>
          cases dl with
          | cons d2 dl =>
            cases dl
            cases d1
            cases d2
            rfl
      subst e0
      refine ⟨(a, [x, y]) :: L, by rw [List.map_cons, l1], rfl, fun q hq => ?_, fun k hk => ?_⟩
      · rcases List.mem_cons.mp hq with e | hq
        · rw [e]; exact sq
        · exact l3 q hq
      · rcases List.mem_cons.mp hk with e | hk
        · rw [e]; rfl
        · exact l4 k hk
noncomputable def rSet4 (G : Mg) : List V → Hp → VK → Prop := fun xs H Q => ∃ p ms w v ws ks, xs = [v] ∧ Sim G p ms H ∧ Den G p H w v ∧ lstOf w ms = some ws ∧ keysOf ws = some ks ∧ ks.length ≤ 4 ∧ ∀ a L, H a = none → (L.map (·.2)).Perm (ddK ks) → (∀ q ∈ L, SqT G.K H q.1 (q.2.map V.str)) → (∀ q ∈ L, q.2.length = 2) → Q (.ref a) (upd H a (FewO G.P G.w a L))
theorem cm_set4 (hc : X.calm = true) (hu : X.A.units + 64 < cLine) (hK : X.K = G.K := by rfl) (hP : X.prog = G.P := by rfl) (hw : X.w = G.w := by rfl) : CallR X (.type "set") (rSet4 G) := by
  intro pins s σ H xs us Q I r h
  obtain ⟨p, ms, w, v, ws, ks, rfl, S, d, q1, q2, q3, k⟩ := h
  obtain ⟨a, vs, rfl, sq, l⟩ := lstOf_ok S d q1
  obtain ⟨L, l1, rfl, l3, l4⟩ := keys_ok _ _ _ l q2
  rw [← hK] at sq
  obtain ⟨its, rv, pl, hz⟩ := I.list sq
  rw [Vals.ref1 r]
  have ev : ∀ {L : List (Addr × List Str)} {us : List Value}, Vals (L.map fun q => V.ref q.1) us → us = L.map fun q => Value.ref q.1 := fun {L} => by
    induction L with
    | nil => intro us r; cases r; rfl
    | cons q L ih => intro us r; cases r with | cons r1 r2 => cases r1; rw [ih r2]; rfl
  have ll : L.length = ks.length := by rw [← l1, List.length_map]
  refine call_set_few (ks := L) (I.ok.hd hc) pl.isList (by simpa using ev rv) (fun q hq => tx_of I (by rw [hK]; exact l3 q hq)) (by omega) (by omega) fun h' tk L' es ep t F hh kp => ?_
  have nn : H s.heap.objs.size = none := I.hok.fresh (Nat.le_refl _)
  refine ⟨.ref s.heap.objs.size, upd H s.heap.objs.size (FewO X.prog X.w s.heap.objs.size L'), I.laid (t' := tk) kp (Nat.le_refl _) (fewO_ok F), rfl, ?_⟩
  rw [hP, hw]
  refine k _ L' nn ?_ (fun q hq => l3 q (hh.sub q hq)) fun q hq => l4 _ (by rw [← l1]; exact List.mem_map_of_mem (hh.sub q hq))
  refine (List.perm_ext_iff_of_nodup F.once (ddK_nd ks)).mpr fun x => ?_
  rw [ddK_mem, ← l1]
  constructor
  · intro hx
    obtain ⟨q, hq, rfl⟩ := List.mem_map.mp hx
    exact List.mem_map_of_mem (hh.sub q hq)
  · intro hx
    obtain ⟨q, hq, rfl⟩ := List.mem_map.mp hx
    exact hh.all q (by rw [List.take_length]; exact hq)
end

end
section
open PyProof.Rows.H
open PySem.W (EachIs alike alikeAll keyToks keyToksAll dataLt dataKind SortsAt dataType)
section
variable {X : Cx} {pins : List (Addr × Obj)} {σ : L2.St} {H : Hp} {s : Shared} {G : Mg} {p : List Addr}
theorem alike_str (x y : Str) : alike (.str x) (.str y) = true := by simp [alike]
theorem lz_strs : ∀ a b : List Str, lz (a.map .str) (b.map .str) = true
  | [], _ => by simp [lz]
  | _ :: _, [] => by simp [lz]
  | x :: a, y :: b => by simp [lz, alike_str, lz_strs a b]
theorem lz_keys {ks : List (List Str)} (h : ∀ k ∈ ks, k.length = 2) : LzAll (ks.map fun k => (rowK k).2) := by
  refine ⟨fun d hd => ?_, fun xs hx ys hy => ?_⟩
  · obtain ⟨k, hk, rfl⟩ := List.mem_map.mp hd
    match k, h k hk with
    | x :: r, _ => exact ⟨_, _, rfl⟩
  · obtain ⟨k, _, e⟩ := List.mem_map.mp hx
    obtain ⟨k', _, e'⟩ := List.mem_map.mp hy
    cases e
    cases e'
    exact lz_strs k k'
theorem depth_key (k : List Str) : (rowK k).2.depth ≤ 24 := by
  have all : ∀ l : List Str, PyData.depthAll (l.map .str) ≤ 8 := by
    intro l
    induction l with
    | nil => simp [PyData.depthAll]
    | cons x l ih => simp [PyData.depthAll, PyData.depth]; omega
  have := all k
  simp only [rowK, PyData.depth]
  omega
theorem den_strs : ∀ (k : List Str), DenL G p H (k.map .str) (k.map V.str)
  | [] => .nil
  | x :: k => .cons (.str x) (den_strs k)
theorem dp_txts {K : PySem.W.Frag} : ∀ (k : List Str), DpAll K H (k.map V.str) (k.map .str)
  | [] => .nil
  | x :: k => .cons (.str x) (dp_txts k)
theorem den_rows : ∀ (L : List (Addr × List Str)), (∀ q ∈ L, SqT G.K H q.1 (q.2.map V.str)) → DenL G p H (L.map fun q => (rowK q.2).1) (L.map fun q => V.ref q.1)
  | [], _ => .nil
  | q :: L, h => .cons (.tup (h q (List.mem_cons_self ..)) (den_strs q.2)) (den_rows L fun r hr => h r (List.mem_cons_of_mem _ hr))
theorem dp_rows {K : PySem.W.Frag} : ∀ (L : List (Addr × List Str)), (∀ q ∈ L, SqT K H q.1 (q.2.map V.str)) → DpAll K H (L.map fun q => V.ref q.1) (L.map fun q => (rowK q.2).2)
  | [], _ => .nil
  | q :: L, h => .cons (.tup (h q (List.mem_cons_self ..)) (dp_txts q.2)) (dp_rows L fun r hr => h r (List.mem_cons_of_mem _ hr))
theorem vals_rows : ∀ (L : List (Addr × List Str)), Vals (L.map fun q => V.ref q.1) (L.map fun q => Value.ref q.1)
  | [] => .nil
  | _ :: L => .cons rfl (vals_rows L)
theorem zip_rows : ∀ (L : List (Addr × List Str)), (L.map fun q => (rowK q.2).1).zip (L.map fun q => (rowK q.2).2) = (L.map (·.2)).map rowK
  | [] => rfl
  | q :: L => by rw [List.map_cons, List.map_cons, List.zip_cons_cons, zip_rows L]; rfl
/-- refs that are a rearrangement of the rows' are those of rearranged rows -/
theorem rows_perm {out : List Value} {L : List (Addr × List Str)} (h : out.Perm (L.map fun q => Value.ref q.1)) : ∃ L' : List (Addr × List Str), out = (L'.map fun q => Value.ref q.1) ∧ L'.Perm L := by
  generalize e : (L.map fun q => Value.ref q.1) = l at h
  have key : ∀ {a b : List Value}, a.Perm b → ∀ L : List (Addr × List Str), (L.map fun q => Value.ref q.1) = b → ∃ L' : List (Addr × List Str), a = (L'.map fun q => Value.ref q.1) ∧ L'.Perm L := by
    intro a b h
    induction h with
    | nil => intro L e; exact ⟨L, e.symm, .refl _⟩
    | cons x _ ih =>
      intro L e
      cases L with
      | nil => cases e
      | cons q L =>
        rw [List.map_cons] at e
        obtain ⟨e1, e2⟩ := List.cons.inj e
        obtain ⟨L', f1, f2⟩ := ih L e2
        exact ⟨q :: L', by rw [List.map_cons, e1, f1], f2.cons q⟩
    | swap x y l =>
      intro L e
      match L, e with
      | q :: r :: L, e =>
        rw [List.map_cons, List.map_cons] at e
        obtain ⟨e1, e2⟩ := List.cons.inj e
        obtain ⟨e3, e4⟩ := List.cons.inj e2
        exact ⟨r :: q :: L, by rw [List.map_cons, List.map_cons, e1, e3, e4], .swap ..⟩
    | trans _ _ ih1 ih2 =>
      intro L e
      obtain ⟨L1, f1, f2⟩ := ih2 L e
      obtain ⟨L2, g1, g2⟩ := ih1 L1 f1.symm
      exact ⟨L2, g1, g2.trans f2⟩
  exact key h L e
noncomputable def rSrt4 (G : Mg) : List V → Hp → VK → Prop := fun xs H Q => ∃ p ms a L w ms', xs = [.ref a] ∧ H a = some (FewO G.P G.w a L) ∧ Sim G p ms H ∧ (∀ q ∈ L, SqT G.K H q.1 (q.2.map V.str)) ∧ (∀ q ∈ L, q.2.length = 2) ∧ newO (.lst (sortK (L.map (·.2)))) ms = some (w, ms') ∧ After G p H w ms' Q
theorem cm_srt4 (hc : X.calm = true) (hu : X.A.units + 64 < cLine) (hK : X.K = G.K := by rfl) (hP : X.prog = G.P := by rfl) (hw : X.w = G.w := by rfl) : CallR X (.builtin "sorted") (rSrt4 G) := by
  intro pins s σ H xs us Q I r h
  obtain ⟨p, ms, a, L, w, ms', rfl, ha, S, sq, l2, q4, k⟩ := h
  rw [Vals.ref1 r]
  rw [← hP, ← hw] at ha
  obtain ⟨es, ep, t, at', row, tab, once, led, m7, len⟩ := (I.hok a _ ha).1
  have sq' : ∀ q ∈ L, SqT X.K H q.1 (q.2.map V.str) := by rw [hK]; exact sq
  have F : Few X.prog X.w s.heap a L es ep t := ⟨at', row, tab, once, fun q hq => tx_of I (sq' q hq), led, m7, len⟩
  obtain ⟨o, e1, e2, e3⟩ := at'
  refine Calls.call_function_entry kind_sorted plain_sorted entry_sorted (args_sorted1 _) ?_
  unfold Builtin.«sorted»
  refine wpAny_bind (m := checkCount "sorted" 1 1 _) (wpAny_pure ?_)
  refine wpAny_bind (collect_set (A := X.A.in1) (I.ok.hd hc) ⟨o, e1, e2.1, e3⟩ F.fit (by rw [F.size]; unfold scanBound; omega) tab.ris led fun s1 out k1 hz g1 o1 pm => ?_)
  have er : es.toList.map (·.2) = L.map fun q => Value.ref q.1 := by rw [row, List.map_map]; rfl
  rw [er] at pm
  obtain ⟨L', rfl, pL⟩ := rows_perm pm
  have sqL : ∀ q ∈ L', SqT X.K H q.1 (q.2.map V.str) := fun q hq => sq' q (pL.mem_iff.mp hq)
  have ln : L'.length ≤ 4 := by rw [pL.length_eq]; exact len
  have hL : (L'.map fun q => Value.ref q.1).length ≤ sizeLine := by rw [List.length_map, sizeLine_eq]; omega
  obtain ⟨as, ra⟩ := Dp.readsAll I _ _ _ (dp_rows L' sqL) (vals_rows L')
  refine wpAny_bind (wpAny_newList ?_ hL)
  have hob : (s1.heap.push (seqObj "list" (L'.map fun q => Value.ref q.1).toArray 0)).get? s1.heap.objs.size = some (seqObj "list" (L'.map fun q => Value.ref q.1).toArray 0) := Heap.get?_push_size _ rfl
  have k2 : ∀ b ob, s.heap.get? b = some ob → b ≠ s1.heap.objs.size ∧ (s1.heap.push (seqObj "list" (L'.map fun q => Value.ref q.1).toArray 0)).get? b = some ob := fun b ob e => ⟨Nat.ne_of_lt (Heap.lt_size (k1 b ob e)), Heap.get?_push_of_some _ (k1 b ob e)⟩
  show wpAny _ _ (holding [Value.ref s1.heap.objs.size] _ >>= _) _ _ { s1 with heap := s1.heap.push (seqObj "list" (L'.map fun q => Value.ref q.1).toArray 0) }
  generalize s1.heap.push (seqObj "list" (L'.map fun q => Value.ref q.1).toArray 0) = h2 at hob k2 ⊢
  have keepS : ∀ b ob, s.heap.get? b = some ob → (PySem.W.sortingHeap h2 s1.heap.objs.size (L'.map fun q => Value.ref q.1)).get? b = some ob := fun b ob e => PySem.W.sortingHeap_old (k2 b ob e).1 (k2 b ob e).2
  obtain ⟨as', ra'⟩ : ∃ as, ReadsAll (PySem.W.sortingHeap h2 s1.heap.objs.size (L'.map fun q => Value.ref q.1)) (L'.map fun q => Value.ref q.1) (L'.map fun q => (rowK q.2).2) as := ⟨as, PyProof.Rows.ReadsAll.keeps keepS ra⟩
  have srt : SortsAt X.prog X.w X.A.in1.in1 { s1 with heap := PySem.W.sortingHeap h2 s1.heap.objs.size (L'.map fun q => Value.ref q.1) } (dataKind (PySem.W.sortingHeap h2 s1.heap.objs.size (L'.map fun q => Value.ref q.1)) (L'.map fun q => (rowK q.2).2)) (L'.map fun q => Value.ref q.1) :=
    sorts_lz (readsAll_each ra') (by
      have z := lz_keys (ks := L'.map (·.2)) fun k hk => by
        obtain ⟨q, hq, rfl⟩ := List.mem_map.mp hk
        exact l2 q (pL.mem_iff.mp hq)
      rwa [List.map_map] at z) fun d hd => by
        obtain ⟨q, _, rfl⟩ := List.mem_map.mp hd
        have := depth_key q.2
        rw [Around.in1_units, Around.in1_units]; omega
  refine wpAny_bind (wpAny_holding (wpAny_call_entry PyProof.Rows.slot_list_sort ⟨_, hob, rfl⟩ PyProof.Rows.entry_list_sort (PySem.W.list_sort_vals (s := { s1 with heap := h2 }) hob srt hL ⟨.none, rfl, ?_⟩) (PyProof.Rows.args_list_sort _)))
  obtain ⟨ep', hat⟩ := PyProof.Rows.sortedHeap_at (out := (PySem.W.sortVals (dataKind (PySem.W.sortingHeap h2 s1.heap.objs.size (L'.map fun q => Value.ref q.1)) (L'.map fun q => (rowK q.2).2)) false (L'.map fun q => Value.ref q.1) (L'.map fun q => Value.ref q.1)).toArray) hob
  have lx := den_rows (G := G) (p := p) L' (by rw [← hK]; exact sqL)
  obtain ⟨zs, z1, z2⟩ := data_sorted lx (vals_rows L') ra'
  have hl2 : zs.length ≤ sizeLine := by rw [z1.length, PySem.W.sortVals_length false rfl]; exact hL
  rw [zip_rows] at z2
  have z3 : DenL G p H (sortK (L.map (·.2))) zs := by rw [← sortK_perm (pL.map (·.2))]; exact z2
  have kF : ∀ b ob, s.heap.get? b = some ob → (PyProof.Rows.sortedHeap h2 s1.heap.objs.size (L'.map fun q => Value.ref q.1) (PySem.W.sortVals (dataKind (PySem.W.sortingHeap h2 s1.heap.objs.size (L'.map fun q => Value.ref q.1)) (L'.map fun q => (rowK q.2).2)) false (L'.map fun q => Value.ref q.1) (L'.map fun q => Value.ref q.1)).toArray).get? b = some ob := fun b ob e => by
    rw [PyProof.Rows.sortedHeap_old (k2 b ob e).1 (Heap.lt_size (k2 b ob e).2)]; exact (k2 b ob e).2
  have nn : H s1.heap.objs.size = none := I.hok.fresh hz
  refine wpAny_pure ⟨_, rfl, .ref s1.heap.objs.size, upd H s1.heap.objs.size (.lst zs), ?_, rfl, newO_fresh S q4 k nn ⟨zs, rfl, z3, hl2⟩⟩
  exact I.call' (ch := []) o1 (Un.laid kF hz nn) (I.hok.laid kF hz ⟨hl2, _, ep', z1, hat⟩) (by show AllBare s1.gens; rw [g1]; exact I.bare) (fun _ z => nomatch z)
end

end
section
section
variable {X : Cx} {G : Mg}
/-- set(a), told to whoever sorts it -/
noncomputable def tSet4 (G : Mg) (A : Fe) : TE := fun σ H Q => ∃ p s r w s' ws ks, Sim G p s H ∧ EnvR G p H r σ ∧ A r s = some (w, s') ∧ lstOf w s' = some ws ∧ keysOf ws = some ks ∧ ks.length ≤ 4 ∧ ∀ p' H' a L, Sim G p' s' H' → Fra p H p' H' → H' a = none → (L.map (·.2)).Perm (ddK ks) → (∀ q ∈ L, SqT G.K H' q.1 (q.2.map V.str)) → (∀ q ∈ L, q.2.length = 2) → Q (.ref a) (upd H' a (FewO G.P G.w a L))
theorem pe_set4 {a : Expr} {A : Fe} {p2 pos : Pos} (hc : X.calm = true) (hu : X.A.units + 64 < cLine) (hg : Gl X "set") (hm : X.mg "set" = none) (ha : PE X a (tI G A)) (hs : starEach [a] X.env = [(false, eval a X.env)] := by rfl) (hpl : (backTo pos (starEach [] X.env)).any (·.1) = false := by rfl) (hK : X.K = G.K := by rfl) (hP : X.prog = G.P := by rfl) (hw : X.w = G.w := by rfl) :
    PE X (.Call (.Name "set" p2) [a] [] pos) (tSet4 G A) :=
  pe_imp (pe_callTy (cm_set4 hc hu hK hP hw) hg hm (by decide +kernel) (pa_cons ha pa_nil hs) (he := hs) (hpl := hpl)) fun σ H Q ⟨p, s, r, w, s', ws, ks, S, E, q1, q2, q3, q4, k⟩ =>
    ⟨p, s, r, w, s', S, E, q1, fun p1 v1 H1 S1 f1 d1 => ⟨p1, s', w, v1, ws, ks, rfl, S1, d1, q2, q3, q4, fun a L na pm sq l2 => k p1 H1 a L S1 f1 na pm sq l2⟩⟩
theorem pm_srtS {a : Expr} {A : Fe} {p1 p2 pos cpos : Pos} (hc : X.calm = true) (hu : X.A.units + 64 < cLine) (hg : Gl X "sorted") (hm : X.mg "sorted" = none) (hg2 : Gl X "set") (hm2 : X.mg "set" = none) (ha : PE X a (tI G A)) (hs : starEach [a] X.env = [(false, eval a X.env)] := by rfl) (hpl : (backTo cpos (starEach [] X.env)).any (·.1) = false := by rfl)
    (hs1 : starEach [.Call (.Name "set" p2) [a] [] cpos] X.env = [(false, eval (.Call (.Name "set" p2) [a] [] cpos) X.env)] := by rfl) (hpl1 : (backTo pos (starEach [] X.env)).any (·.1) = false := by rfl) (hK : X.K = G.K := by rfl) (hP : X.prog = G.P := by rfl) (hw : X.w = G.w := by rfl) :
    PE X (.Call (.Name "sorted" p1) [.Call (.Name "set" p2) [a] [] cpos] [] pos) (tI G (msrtS A)) :=
  pe_imp (pe_callB (cm_srt4 hc hu hK hP hw) hg hm (by decide +kernel) (pa_cons (pe_set4 hc hu hg2 hm2 ha hs hpl hK hP hw) pa_nil hs1) (he := hs1) (hpl := hpl1)) fun σ H Q ⟨p, s, r, w, s', S, E, q, k⟩ => by
    obtain ⟨⟨x, s1⟩, q1, q2⟩ := ob_some.mp q
    obtain ⟨ws, q3, q4⟩ := ob_some.mp q2
    obtain ⟨ks, q5, q6⟩ := ob_some.mp q4
    cases e4 : Nat.ble ks.length 4 with
    | false => rw [e4] at q6; cases q6
    | true =>
      rw [e4] at q6
      refine ⟨p, s, r, x, s1, ws, ks, S, E, q1, q3, q5, Nat.le_of_ble_eq_true e4, fun p' H' a L S' f' na pm sq l2 => ?_⟩
      have f2 := fra_new (p := p') (o := FewO G.P G.w a L) na
      have S2 := S'.fra_new (o := FewO G.P G.w a L) na
      refine ⟨p', s1, a, L, w, s', rfl, upd_same, S2, fun q hq => (f2.stays S').tup (sq q hq), l2, ?_, k.of (f'.trans f2)⟩
      rw [sortK_perm pm]
      exact q6
end

end
section
/-! ### f(k1 = e1, .., kn = en): keywords alone -/
noncomputable def kpick {α : Type} (is : List Nat) (ws : List α) : List α := is.filterMap fun i => ws[i]?
noncomputable def mkw (is : List Nat) (A : Fa) : Fa := fun r s => (A r s).om fun x => (kpick is x.1, x.2)
theorem vals_at : ∀ {zs : List V} {ws : List Value}, Vals zs ws → ∀ i : Nat, (zs[i]? = none ∧ ws[i]? = none) ∨ ∃ z w, zs[i]? = some z ∧ ws[i]? = some w ∧ RelV z w
  | _, _, .nil, i => .inl ⟨by simp, by simp⟩
  | _, _, .cons r _, 0 => .inr ⟨_, _, rfl, rfl, r⟩
  | _, _, .cons _ t, i + 1 => by simpa using vals_at t i
theorem vals_kp {zs : List V} {ws : List Value} (h : Vals zs ws) : ∀ is : List Nat, Vals (kpick is zs) (kpick is ws)
  | [] => .nil
  | i :: is => by
    have ih := vals_kp h is
    unfold kpick at ih ⊢
    rw [List.filterMap_cons, List.filterMap_cons]
    rcases vals_at h i with ⟨e1, e2⟩ | ⟨z, w, e1, e2, r⟩
    · rw [e1, e2]; exact ih
    · rw [e1, e2]; exact .cons r ih
section
variable {X : Cx} {G : Mg} {p : List Addr} {H : Hp}
theorem denL_at : ∀ {ws : List Mv} {vs : List V}, DenL G p H ws vs → ∀ i : Nat, (ws[i]? = none ∧ vs[i]? = none) ∨ ∃ w v, ws[i]? = some w ∧ vs[i]? = some v ∧ Den G p H w v
  | [], _, l, i => by cases l; exact .inl ⟨by simp, by simp⟩
  | w :: ws, _, l, i => by
    cases l with
    | cons d l =>
      cases i with
      | zero => exact .inr ⟨_, _, rfl, rfl, d⟩
      | succ i => simpa using denL_at l i
theorem denL_kp {ws : List Mv} {vs : List V} (l : DenL G p H ws vs) : ∀ is : List Nat, DenL G p H (kpick is ws) (kpick is vs)
  | [] => .nil
  | i :: is => by
    have ih := denL_kp l is
    unfold kpick at ih ⊢
    rw [List.filterMap_cons, List.filterMap_cons]
    rcases denL_at l i with ⟨e1, e2⟩ | ⟨z, w, e1, e2, r⟩
    · rw [e1, e2]; exact ih
    · rw [e1, e2]; exact .cons r ih
theorem pk_imp {kws : List Keyword} {t t' : TA} (h : PK X kws t) (i : ∀ σ H Q, t' σ H Q → t σ H Q) : PK X kws t' := ⟨fun pos pins s σ H Q I q => h.run pos pins s σ H Q I (i σ H Q q)⟩
theorem km_nil : PK X [] (tA G mnil) := pk_imp pk_nil fun σ H Q ⟨p, s, r, ws, s', S, E, q, k⟩ => by cases q; exact k p [] H S Fra.refl .nil
theorem km_cons {e : Expr} {kws : List Keyword} {nm : Option Str} {kpos : Pos} {A : Fe} {B : Fa} (ha : PE X e (tI G A)) (hr : PK X kws (tA G B)) : PK X (⟨nm, e, kpos⟩ :: kws) (tA G (mcons A B)) :=
  pk_imp (pk_cons ha hr) fun σ H Q ⟨p, s, r, ws, s', S, E, q, k⟩ => by
    obtain ⟨⟨x, s1⟩, q1, q2⟩ := ob_some.mp q
    obtain ⟨⟨y, s2⟩, q3, q4⟩ := ob_some.mp q2
    cases q4
    exact ⟨p, s, r, x, s1, S, E, q1, fun p1 v1 H1 S1 f1 d1 => ⟨p1, s1, r, y, s2, S1, E.fra S f1, q3, fun p2 vs H2 S2 f2 d2 => k p2 _ H2 S2 (f1.trans f2) (.cons (d1.fra S1 f2) d2)⟩⟩
def gKw {α : Type} (is : List Nat) (us ws : List α) : List α := match us with
  | [] => kpick is ws
  | _ => []
theorem kb_of {K : PySem.W.Frag} {x qual : Str} {params : Arguments} {body : List Stmt} {scope : Scope} {kws : List (Str × V)} {f : Addr} {fd : FuncData} {ps ks : List Str} {is : List Nat} (F : FunD K x qual params body scope [] kws f fd) (hp : ps ≠ [])
    (h : ∀ (kV doc pm : Value) (an : Option Addr) (cdv ct : Value) (ws : List Value), (kpick is ws).length = ps.length → bindArgs (PySem.W.fnOf x qual params body scope .none kV doc pm an cdv ct) ⟨[], ks.zip ws⟩ = pure (ps.zip (kpick is ws))) : KBinds K fd ps ks (gKw is) (gKw is) := by
  obtain ⟨oc, od, dV, kV, doc, pm, an, cdv, ct, osl, rfl, lk, hcd, hD, hK⟩ := F.ex
  rcases hD with ⟨_, rfl⟩ | ⟨e, _⟩
  · refine ⟨fun s us ws _ hl => ?_, fun {vs us zs ws} r rz => ?_⟩
    · cases us with
      | nil => exact .of_eq (h kV doc pm an cdv ct ws hl)
      | cons u us => exact absurd (List.length_eq_zero_iff.mp (show ps.length = 0 from hl.symm)) hp
    · cases r with
      | nil => exact vals_kp rz is
      | cons _ _ => exact .nil
  · exact absurd rfl e
theorem pm_callKW {x : Str} {p0 pos : Pos} {kws : List Keyword} {f : Fn} {A : Fa} {CX : CXT} {k : Nat} {fa : Addr} {fd : FuncData} {ps ks : List Str} {is : List Nat} {E : XK} (F : FnOk X.prog X.w X.K X.mg X.base CX k fa fd ps (spM G f)) (hr : Room k X.A) (hg : Gl X x) (hm : X.mg x = some (.ref fa)) (hk : PySem.W.keepIn X.K (.ref fa) = true) (hb : KBinds X.K fd ps ks (gKw is) (gKw is)) (hx : Passes CX X E)
    (hkw : PK X kws (tA G A)) (hall : (backToKw pos (keywordEach kws X.env)).all (·.1.isSome) = true := by rfl) (hks : (backToKw pos (keywordEach kws X.env)).filterMap (·.1) = ks := by rfl) (hdb : (x == ("__debug__" : Str)) = false := by decide)
    (hpl : ((backTo pos (starEach [] X.env)).any (·.1) || (backToKw pos (keywordEach kws X.env)).any (·.1.isNone)) = false := by rfl) : PE X (.Call (.Name x p0) [] kws pos) (tI G (mcall f (mkw is A))) := by
  refine ⟨fun pins s σ H Q I h => ?_⟩
  have h := t_call h
  obtain ⟨p, ms, r, ws0, s', S, E0, q, kk⟩ := h
  obtain ⟨⟨ws, s1⟩, q1, q2⟩ := omap_some.mp q
  cases q2
  have h2 : tA G A σ H fun zs H1 => rF G f (kpick is zs) H1 Q := ⟨p, ms, r, ws, s1, S, E0, q1, fun p1 vs H1 S1 f1 d1 => kk p1 _ H1 S1 f1 (denL_kp d1 is)⟩
  refine wpAny_Call_Name_kw (ld_glob I hg hm ?_ hdb)
  refine PySem.W.callWith_KW0 (h₀ := X.base) I.ok.mod.kin hk hall (thn (hkw.run pos pins s σ H _ I h2) fun us s2 ⟨zs, H2, I2, rz, q2⟩ => ⟨I2.kIn, ?_⟩) hpl
  rw [hks]
  exact run_fnk (us := []) (vs := []) F hr hb hx I2 .nil rz q2
end

end
section
/-! ### [..] * k -/
noncomputable def lmulW (a b : Mv) (s : Ms) : Option (Mv × Ms) := match a, b with
  | .ref n, .int k => match s.get n with
    | some (.lst ws) => cond (decide (0 ≤ k) && (decide (k ≤ 1000) && Nat.ble ws.length 1000)) (newL (List.replicate k.toNat ws).flatten s) none
    | _ => none
  | _, _ => none
section
variable {X : Cx} {G : Mg} {p : List Addr} {H : Hp}
theorem denL_app2 : ∀ {ws us : List Mv} {vs zs : List V}, DenL G p H ws vs → DenL G p H us zs → DenL G p H (ws ++ us) (vs ++ zs)
  | [], _, _, _, l, m => by cases l; exact m
  | w :: ws, _, _, _, l, m => by
    cases l with
    | cons d l => exact .cons d (denL_app2 l m)
theorem denL_rep {ws : List Mv} {vs : List V} (l : DenL G p H ws vs) : ∀ n : Nat, DenL G p H (List.replicate n ws).flatten (List.replicate n vs).flatten
  | 0 => .nil
  | n + 1 => by
    rw [List.replicate_succ, List.replicate_succ, List.flatten_cons, List.flatten_cons]
    exact denL_app2 l (denL_rep l n)
theorem denL_len2 : ∀ {ws : List Mv} {vs : List V}, DenL G p H ws vs → ws.length = vs.length
  | [], _, l => by cases l; rfl
  | w :: ws, _, l => by
    cases l with
    | cons d l => rw [List.length_cons, List.length_cons, denL_len2 l]
theorem om_lmul : OpR X (binaryOp .Mult) (q2R G lmulW) := opr_imp op_rep fun x y H Q ⟨p, s, a, b, w, s', S, da, db, q, k⟩ => by
  unfold lmulW at q
  split at q
  · rename_i n j
    split at q
    · rename_i ws e
      cases ec : (decide (0 ≤ j) && (decide (j ≤ 1000) && Nat.ble ws.length 1000)) with
      | false => rw [ec] at q; cases q
      | true =>
        rw [ec] at q
        obtain ⟨c1, c2⟩ := Bool.and_eq_true_iff.mp ec
        obtain ⟨c3, c4⟩ := Bool.and_eq_true_iff.mp c2
        have c1 := of_decide_eq_true c1
        have c3 := of_decide_eq_true c3
        have c4 := Nat.le_of_ble_eq_true c4
        cases da with
        | ref hn =>
          cases db
          obtain ⟨ho, h1, vs, rfl, l, hz⟩ := S.get hn e
          have ln := denL_len2 l
          have hm : vs.length * j.toNat ≤ 1000 * 1000 := Nat.mul_le_mul (by omega) (by omega)
          obtain ⟨g1, g2⟩ := newL_ok S (denL_rep l j.toNat) q k
          exact ⟨_, j, vs, rfl, rfl, h1, by omega, by omega, by rw [sz_eq]; omega, fun P hP => g2 P hP⟩
    · cases q
  · cases q
end

end
section
/-! ### 'x' * k -/
noncomputable def smulW (a b : Mv) (s : Ms) : Option (Mv × Ms) := match a, b with
  | .str x, .int k => cond (decide (1 ≤ k) && (decide (k ≤ 1000) && (Nat.ble x.length 1000 && Nat.ble (if (k == 1 || x.length == 0) = true then x else ⟨(List.replicate k.toNat x.cps).foldl (· ++ ·) #[]⟩).length 16777216))) (some (.str (if (k == 1 || x.length == 0) = true then x else ⟨(List.replicate k.toNat x.cps).foldl (· ++ ·) #[]⟩), s)) none
  | _, _ => none
section
variable {X : Cx} {G : Mg} {p : List Addr} {H : Hp}
theorem om_smul : OpR X (binaryOp .Mult) (q2R G smulW) := by
  intro pins s σ H x y v u Q I rx ry h
  obtain ⟨p, ms, a, b, w, ms', S, da, db, q, k⟩ := h
  unfold smulW at q
  split at q
  · rename_i z j
    cases ec : (decide (1 ≤ j) && (decide (j ≤ 1000) && (Nat.ble z.length 1000 && Nat.ble (if (j == 1 || z.length == 0) = true then z else ⟨(List.replicate j.toNat z.cps).foldl (· ++ ·) #[]⟩).length 16777216))) with
    | false => rw [ec] at q; cases q
    | true =>
      rw [ec] at q
      cases q
      obtain ⟨c1, c2⟩ := Bool.and_eq_true_iff.mp ec
      obtain ⟨c3, c4⟩ := Bool.and_eq_true_iff.mp c2
      have c1 := of_decide_eq_true c1
      have c3 := of_decide_eq_true c3
      obtain ⟨c4, c5⟩ := Bool.and_eq_true_iff.mp c4
      have c4 := Nat.le_of_ble_eq_true c4
      have c5 := ble_sz c5
      cases da
      cases db
      obtain ⟨t, rfl⟩ := rx
      obtain ⟨t', rfl⟩ := ry
      have hm : z.length * j.toNat ≤ 1000 * 1000 := Nat.mul_le_mul c4 (by omega)
      refine PySem.P.mul_str (by rw [decide_eq_false (by omega), decide_eq_false (by omega)]; rfl) (fun _ _ => ?_) (fun _ _ => ?_) ?_
      · have : (2 ^ 63 - 1) / 1000 ≤ (2 ^ 63 - 1 : Int) / j := by
          rw [Int.le_ediv_iff_mul_le (by omega)]
          have : (9223372036854775 : Int) * j ≤ 9223372036854775 * 1000 := Int.mul_le_mul_of_nonneg_left c3 (by decide)
          omega
        omega
      · unfold Builtin.Str.tooLong
        exact decide_eq_false (by rw [sz_eq]; omega)
      · rw [if_neg (by omega)]
        by_cases e : (j == 1 || z.length == 0) = true
        · rw [if_pos e] at k ⊢
          exact ⟨.str z, H, I, ⟨_, rfl⟩, k p _ H S Fra.refl (.str _)⟩
        · rw [if_neg e] at k c5 ⊢
          exact ⟨c5, .str _, H, I.tok _, ⟨_, rfl⟩, k p _ H S Fra.refl (.str _)⟩
  · cases q
end

end
section
/-! ### what a run of the mirror tells, for values that are not known -/
def Wp {α : Type} (o : Option α) (Q : α → Prop) : Prop := ∃ x, o = some x ∧ Q x
section
variable {α β : Type} {o : Option α} {Q R : α → Prop}
theorem wp_ob {f : α → Option β} {Q : β → Prop} : Wp (o.ob f) Q ↔ Wp o fun x => Wp (f x) Q := by
  cases o with
  | none => exact ⟨fun ⟨_, h, _⟩ => (by cases h), fun ⟨_, h, _⟩ => (by cases h)⟩
  | some a => exact ⟨fun h => ⟨a, rfl, h⟩, fun ⟨_, h, q⟩ => by cases h; exact q⟩
theorem wp_om {f : α → β} {Q : β → Prop} : Wp (o.om f) Q ↔ Wp o fun x => Q (f x) := by
  cases o with
  | none => exact ⟨fun ⟨_, h, _⟩ => (by cases h), fun ⟨_, h, _⟩ => (by cases h)⟩
  | some a => exact ⟨fun ⟨_, h, q⟩ => by cases h; exact ⟨a, rfl, q⟩, fun ⟨_, h, q⟩ => by cases h; exact ⟨_, rfl, q⟩⟩
theorem wp_some {x : α} : Wp (some x) Q ↔ Q x := ⟨fun ⟨_, h, q⟩ => by cases h; exact q, fun q => ⟨x, rfl, q⟩⟩
theorem wp_none : Wp (none : Option α) Q ↔ False := ⟨fun ⟨_, h, _⟩ => (by cases h), fun h => h.elim⟩
theorem Wp.mono (h : Wp o Q) (i : ∀ x, Q x → R x) : Wp o R := let ⟨x, e, q⟩ := h; ⟨x, e, i x q⟩
theorem Wp.of {x : α} (e : o = some x) (q : Q x) : Wp o Q := ⟨x, e, q⟩
end
/-! ### stores: what stays -/
theorem Ms.get_push {s : Ms} {o : Mo} : (push s o).get s.sz = some o := by rw [push_get, if_pos rfl]
theorem push_sz {s : Ms} {o : Mo} : (push s o).sz = s.sz + 1 := rfl
theorem put_sz {s : Ms} {b : Nat} {o : Mo} : (s.put b o).sz = s.sz := rfl
/-- all but the one at b stay, new ones come behind -/
structure Ext (b : Nat) (s s' : Ms) : Prop where
  sz : s.sz ≤ s'.sz
  get : ∀ n, n < s.sz → n ≠ b → s'.get n = s.get n
theorem Ext.refl {b : Nat} {s : Ms} : Ext b s s := ⟨Nat.le_refl _, fun _ _ _ => rfl⟩
theorem Ext.trans {b : Nat} {s s1 s2 : Ms} (h : Ext b s s1) (g : Ext b s1 s2) : Ext b s s2 := ⟨Nat.le_trans h.sz g.sz, fun n hn hb => (g.get n (Nat.lt_of_lt_of_le hn h.sz) hb).trans (h.get n hn hb)⟩
theorem Ext.push {b : Nat} {s : Ms} {o : Mo} : Ext b s (push s o) := ⟨Nat.le_succ _, fun n hn _ => by rw [push_get, if_neg (by omega)]⟩
theorem Ext.put {b : Nat} {s s' : Ms} {o : Mo} {n : Nat} (h : Ext b s s') (hn : n = b ∨ s.sz ≤ n) : Ext b s (s'.put n o) := ⟨h.sz, fun m hm hb => by
  rw [put_get', if_neg (by omega)]; exact h.get m hm hb⟩
theorem Ext.at {b : Nat} {s s' : Ms} (h : Ext b s s') {n : Nat} {o : Option Mo} (hn : n < s.sz) (hb : n ≠ b) (e : s.get n = o) : s'.get n = o := (h.get n hn hb).trans e
/-- nothing changes, new ones come behind -/
structure Ex0 (s s' : Ms) : Prop where
  sz : s.sz ≤ s'.sz
  get : ∀ n, n < s.sz → s'.get n = s.get n
theorem Ex0.refl {s : Ms} : Ex0 s s := ⟨Nat.le_refl _, fun _ _ => rfl⟩
theorem Ex0.trans {s s1 s2 : Ms} (h : Ex0 s s1) (g : Ex0 s1 s2) : Ex0 s s2 := ⟨Nat.le_trans h.sz g.sz, fun n hn => (g.get n (Nat.lt_of_lt_of_le hn h.sz)).trans (h.get n hn)⟩
theorem Ex0.push {s : Ms} {o : Mo} : Ex0 s (push s o) := ⟨Nat.le_succ _, fun n hn => by rw [push_get, if_neg (by omega)]⟩
theorem Ex0.ext {b : Nat} {s s' : Ms} (h : Ex0 s s') : Ext b s s' := ⟨h.sz, fun n hn _ => h.get n hn⟩
theorem Ex0.at {s s' : Ms} (h : Ex0 s s') {n : Nat} {o : Option Mo} (hn : n < s.sz) (e : s.get n = o) : s'.get n = o := (h.get n hn).trans e
/-- the source of draws -/
structure Bx' (s : Ms) (b m : Nat) : Prop where
  lt : b < s.sz
  ob : ∃ a c n : Int, s.get b = some (.lst [.int a, .int c, .int n]) ∧ BoxOk a c n ∧ n ≤ m
theorem Bx'.mono {s : Ms} {b m m' : Nat} (h : Bx' s b m) (le : m ≤ m') : Bx' s b m' := ⟨h.lt, h.ob.elim fun a ⟨c, n, e, o, l⟩ => ⟨a, c, n, e, o, by omega⟩⟩
theorem Bx'.ex0 {s s' : Ms} {b m : Nat} (h : Bx' s b m) (g : Ex0 s s') : Bx' s' b m := ⟨Nat.lt_of_lt_of_le h.lt g.sz, h.ob.elim fun a ⟨c, n, e, o, l⟩ => ⟨a, c, n, g.at h.lt e, o, l⟩⟩
theorem Bx'.put {s : Ms} {b m n : Nat} {o : Mo} (h : Bx' s b m) (hn : n ≠ b) : Bx' (s.put n o) b m := ⟨h.lt, h.ob.elim fun a ⟨c, n, e, o, l⟩ => ⟨a, c, n, by rw [put_get', if_neg (by omega)]; exact e, o, l⟩⟩
theorem Bx'.push {s : Ms} {b m : Nat} {o : Mo} (h : Bx' s b m) : Bx' (push s o) b m := h.ex0 Ex0.push
/-! ### words -/
theorem newL_of {ws : List Mv} {s : Ms} (h : ws.length ≤ 16777216) : newL ws s = some (.ref s.sz, push s (.lst ws)) := by
  unfold newL
  rw [llen_eq, Nat.ble_eq_true_of_le h]
  rfl
theorem newT_of {ws : List Mv} {s : Ms} (h : ws.length ≤ 16777216) : newT ws s = some (.tup ws, s) := by
  unfold newT
  rw [llen_eq, Nat.ble_eq_true_of_le h]
  rfl
theorem wp_newL {ws : List Mv} {s : Ms} {Q : Mv × Ms → Prop} (h : ws.length ≤ 16777216) : Wp (newL ws s) Q ↔ Q (.ref s.sz, push s (.lst ws)) := by rw [newL_of h, wp_some]
theorem wp_newT {ws : List Mv} {s : Ms} {Q : Mv × Ms → Prop} (h : ws.length ≤ 16777216) : Wp (newT ws s) Q ↔ Q (.tup ws, s) := by rw [newT_of h, wp_some]
theorem newO_of {o : Mo} {s : Ms} : newO o s = some (.ref s.sz, push s o) := rfl
theorem items_ref {s : Ms} {n : Nat} {ws : List Mv} (h : s.get n = some (.lst ws)) : items (.ref n) s = some ws := by
  show (match s.get n with
    | some (.lst ws) => some ws
    | _ => none) = _
  rw [h]
theorem items_tup {s : Ms} {ws : List Mv} : items (.tup ws) s = some ws := rfl
theorem ixA_of {a : Mv} {s : Ms} {i : Int} {ws : List Mv} {w : Mv} (h : items a s = some ws) (e : atF ws i = some w) : ixA a (.int i) s = some (w, s) := by
  unfold ixA
  have : ixW a (.int i) s = some (w, s) := by
    show (items a s).ob (fun ws => (atF ws i).om fun w => (w, s)) = _
    rw [h, ob_of, e, om_of]
  rw [this]
theorem atF_of {α : Type} {ws : List α} {i : Nat} {w : α} (h : ws[i]? = some w) : atF ws (i : Int) = some w := by
  show lget ws i = _
  rw [lget_eq]; exact h
theorem atF_int {α : Type} {ws : List α} {i : Int} {w : α} (h0 : 0 ≤ i) (h : ws[i.toNat]? = some w) : atF ws i = some w := by
  obtain ⟨n, rfl⟩ := Int.eq_ofNat_of_zero_le h0
  exact atF_of h
theorem lenB_of {a : Mv} {s : Ms} {ws : List Mv} (h : items a s = some ws) : lenB a s = some ws.length := by
  unfold items at h
  unfold lenB
  cases a with
  | tup xs => cases h; rfl
  | fl xs => cases h; rfl
  | ref n =>
    simp only at h ⊢
    split at h
    · rename_i e
      cases h
      first
        | rfl
        | rw [e]
    · cases h
  | _ => cases h
theorem lenW_of {a : Mv} {s : Ms} {ws : List Mv} (h : items a s = some ws) : lenW [a] s = some (.int (ws.length : Nat), s) := by
  show (lenB a s).om _ = _
  rw [lenB_of h]; rfl
/-- the iterator gives these -/
def Gives (it : It0) (ws : List Mv) (s : Ms) : Prop := ∀ i, it.at i s = some ws[i]?
theorem gives_seq {ws : List Mv} {s : Ms} : Gives (.seq ws) ws s := fun i => by show some (lget ws i) = _; rw [lget_eq]
theorem gives_lst {n : Nat} {ws : List Mv} {s : Ms} (h : s.get n = some (.lst ws)) : Gives (.lst n) ws s := fun i => by
  show (match s.get n with
    | some (.lst ws) => some (lget ws i)
    | _ => none) = _
  rw [h]
  show some (lget ws i) = _
  rw [lget_eq]
def rngL (lo : Int) (n : Nat) : List Mv := (List.range n).map fun (i : Nat) => Mv.int (lo + (i : Int))
theorem rngL_len {lo : Int} {n : Nat} : (rngL lo n).length = n := by simp [rngL]
theorem rngL_get {lo : Int} {n i : Nat} {w : Mv} (h : (rngL lo n)[i]? = some w) : i < n ∧ w = .int (lo + (i : Int)) := by
  unfold rngL at h
  rw [List.getElem?_map] at h
  by_cases hi : i < n
  · rw [List.getElem?_range hi] at h
    cases h
    exact ⟨hi, rfl⟩
  · rw [List.getElem?_eq_none (by simp; omega)] at h
    cases h
theorem gives_rng {lo : Int} {n : Nat} {s : Ms} : Gives (.rng lo n) (rngL lo n) s := fun i => by
  show some (cond (Nat.blt i n) (some (Mv.int (lo + i))) none) = _
  rw [nblt]
  unfold rngL
  by_cases hi : i < n
  · rw [decide_eq_true hi, List.getElem?_map, List.getElem?_range hi]; rfl
  · rw [decide_eq_false hi, List.getElem?_eq_none (by simp; omega)]; rfl
/-! ### loops -/
theorem wp_loop {it : It0} {T : Tg} {B : Fs} (ws : List Mv) (I : Nat → Me → Ms → Prop) (ha : ∀ i r s, i ≤ ws.length → I i r s → Gives it ws s)
    (hs : ∀ i w r s, ws[i]? = some w → I i r s → Wp (T.asg w r) fun r1 => Wp (B r1 s) fun x => x.1 = .nx ∧ I (i + 1) x.2.1 x.2.2) : ∀ (m i : Nat) (r : Me) (s : Ms), ws.length < m + i → i ≤ ws.length → I i r s → Wp (mloop it T B m i r s) fun x => x.1 = .nx ∧ I ws.length x.2.1 x.2.2
  | 0, i, r, s, hm, hi, _ => by omega
  | m + 1, i, r, s, hm, hi, h => by
    rw [mloop_succ, ha i r s hi h i]
    cases e : ws[i]? with
    | none =>
      have : i = ws.length := by have := List.getElem?_eq_none_iff.mp e; omega
      subst this
      exact ⟨_, rfl, rfl, h⟩
    | some w =>
      have hl := (List.getElem?_eq_some_iff.mp e).1
      show Wp ((T.asg w r).ob _) _
      rw [wp_ob]
      refine (hs i w r s e h).mono fun r1 h1 => ?_
      rw [wp_ob]
      refine h1.mono fun x hx => ?_
      obtain ⟨fl, r2, s2⟩ := x
      obtain ⟨rfl, h2⟩ := hx
      exact wp_loop ws I ha hs m (i + 1) r2 s2 (by omega) (by omega) h2
theorem wp_flat {it : It0} {st : Mv → Ms → Option (List Mv × Ms)} (ws : List Mv) (I : Nat → List Mv → Ms → Prop) (ha : ∀ i acc s, i ≤ ws.length → I i acc s → Gives it ws s)
    (hs : ∀ i w acc s, ws[i]? = some w → I i acc s → Wp (st w s) fun x => I (i + 1) (acc ++ x.1) x.2) : ∀ (m i : Nat) (acc : List Mv) (s : Ms), ws.length < m + i → i ≤ ws.length → I i acc s → Wp (mflat it st m i s) fun x => I ws.length (acc ++ x.1) x.2
  | 0, i, acc, s, hm, hi, _ => by omega
  | m + 1, i, acc, s, hm, hi, h => by
    rw [mflat_succ, ha i acc s hi h i]
    cases e : ws[i]? with
    | none =>
      have : i = ws.length := by have := List.getElem?_eq_none_iff.mp e; omega
      subst this
      exact ⟨_, rfl, by simpa using h⟩
    | some w =>
      have hl := (List.getElem?_eq_some_iff.mp e).1
      show Wp ((st w s).ob _) _
      rw [wp_ob]
      refine (hs i w acc s e h).mono fun x hx => ?_
      rw [wp_om]
      refine (wp_flat ws I ha hs m (i + 1) (acc ++ x.1) x.2 (by omega) (by omega) hx).mono fun y hy => ?_
      simpa [List.append_assoc] using hy
/-- a comprehension that leaves the store as it is -/
theorem flat_pure {it : It0} {st : Mv → Ms → Option (List Mv × Ms)} {ws : List Mv} {s : Ms} (f : Mv → List Mv) (hl : ws.length < 1000000000) (ha : Gives it ws s) (hs : ∀ w ∈ ws, st w s = some (f w, s)) : mflat it st 1000000000 0 s = some (ws.flatMap f, s) := by
  obtain ⟨⟨y, s'⟩, e, h1, h2⟩ := wp_flat (it := it) (st := st) ws (fun i acc s' => s' = s ∧ acc = (ws.take i).flatMap f) (fun i acc s' _ h => h.1 ▸ ha) (fun i w acc s' e h => by
    obtain ⟨rfl, rfl⟩ := h
    refine ⟨_, hs w (List.mem_of_getElem? e), rfl, ?_⟩
    rw [List.take_add_one, e]
    simp) 1000000000 0 [] s (by omega) (by omega) ⟨rfl, rfl⟩
  simp only [List.nil_append, List.take_length] at h2
  simp only at h1
  rw [e, h1, h2]

end
section
/-! ### words of the mirror, with what is wanted behind them -/
theorem wp_mvar {i : Nat} {r : Me} {s : Ms} {Q : Mv × Ms → Prop} : Wp (mvar i r s) Q ↔ (match r[i]? with
    | some (some w) => Q (w, s)
    | _ => False) := by
  unfold mvar
  rw [lget_eq]
  cases r[i]? with
  | none => exact wp_none
  | some o => cases o with
    | none => exact wp_none
    | some w => exact wp_some
theorem wp_seq {A B : Fs} {r : Me} {s : Ms} {Q : Fl × Me × Ms → Prop} (h : Wp (A r s) fun x => x.1 = .nx ∧ Wp (B x.2.1 x.2.2) Q) : Wp (sseq A B r s) Q := by
  unfold sseq
  rw [wp_ob]
  refine h.mono fun x hx => ?_
  obtain ⟨fl, r1, s1⟩ := x
  obtain ⟨rfl, h⟩ := hx
  exact h
theorem wp_fn {np nl : Nat} {B : Fs} {ws : List Mv} {s : Ms} {Q : Mv × Ms → Prop} (r : Me) (hl : ws.length = np) (hr : lsome (nl - np) ws = r) (h : Wp (B r s) fun x => ∃ w, x.1 = .rt w ∧ Q (w, x.2.2)) : Wp (fnM np nl B ws s) Q := by
  unfold fnM
  rw [hl, beq_t, cond_true, hr, wp_ob]
  refine h.mono fun x hx => ?_
  obtain ⟨fl, r1, s1⟩ := x
  obtain ⟨w, e, q⟩ := hx
  simp only at e
  subst e
  exact ⟨_, rfl, q⟩
theorem wp_for {I : Fi} {T : Tg} {B : Fs} {r : Me} {s : Ms} {Q : Fl × Me × Ms → Prop} (h : Wp (I r s) fun x => Wp (mloop x.1 T B 1000000000 0 r x.2) Q) : Wp (sfor I T B r s) Q := by
  unfold sfor
  rw [wp_ob]; exact h
theorem wp_R1 {A : Fa} {r : Me} {s : Ms} {Q : It0 × Ms → Prop} (h : Wp (A r s) fun x => ∃ j : Int, x.1 = [.int j] ∧ okI j = true ∧ Q (.rng 0 j.toNat, x.2)) : Wp (miR1 A r s) Q := by
  unfold miR1
  rw [wp_ob]
  refine h.mono fun x hx => ?_
  obtain ⟨ws, s1⟩ := x
  obtain ⟨j, rfl, h1, h2⟩ := hx
  exact ⟨_, by show cond (okI j) _ _ = _; rw [h1]; rfl, h2⟩
theorem okI_of {j : Int} (h0 : 0 ≤ j) (h1 : j ≤ 1000000) : okI j = true := by
  unfold okI
  rw [decide_eq_true (by omega), decide_eq_true (by omega)]; rfl
/-- a sequence whose items stay -/
def Itm (b : Nat) (s : Ms) (v : Mv) (ws : List Mv) : Prop := v = .tup ws ∨ ∃ n, v = .ref n ∧ n < s.sz ∧ n ≠ b ∧ s.get n = some (.lst ws)
theorem Itm.items {b : Nat} {s : Ms} {v : Mv} {ws : List Mv} (h : Itm b s v ws) : items v s = some ws := by
  rcases h with rfl | ⟨n, rfl, _, _, e⟩
  · rfl
  · exact items_ref e
theorem Itm.ext {b : Nat} {s s' : Ms} {v : Mv} {ws : List Mv} (h : Itm b s v ws) (x : Ext b s s') : Itm b s' v ws := by
  rcases h with rfl | ⟨n, rfl, h1, h2, e⟩
  · exact .inl rfl
  · exact .inr ⟨n, rfl, Nat.lt_of_lt_of_le h1 x.sz, h2, x.at h1 h2 e⟩
theorem wp_S {b : Nat} {A : Fe} {r : Me} {s : Ms} {Q : It0 × Ms → Prop} (h : Wp (A r s) fun x => ∃ ws, Itm b x.2 x.1 ws ∧ ∀ it, (∀ s', Ext b x.2 s' → Gives it ws s') → Q (it, x.2)) : Wp (miS A r s) Q := by
  unfold miS
  rw [wp_ob]
  refine h.mono fun x hx => ?_
  obtain ⟨v, s1⟩ := x
  obtain ⟨ws, h1, h2⟩ := hx
  rcases h1 with e | ⟨n, e, e1, e2, e3⟩
  · simp only at e
    subst e
    exact ⟨_, rfl, h2 _ fun s' _ => gives_seq⟩
  · simp only at e e1 e2 e3
    subst e
    refine ⟨(.lst n, s1), ?_, h2 _ fun s' x => gives_lst (x.at e1 e2 e3)⟩
    simp only [e3]
theorem wp_S' {A : Fe} {r : Me} {s : Ms} {Q : It0 × Ms → Prop} (h : Wp (A r s) fun x => ∃ ws, items x.1 x.2 = some ws ∧ ∀ it, (∀ s', items x.1 s' = some ws → Gives it ws s') → Q (it, x.2)) : Wp (miS A r s) Q := by
  unfold miS
  rw [wp_ob]
  refine h.mono fun x hx => ?_
  obtain ⟨v, s1⟩ := x
  obtain ⟨ws, h1, h2⟩ := hx
  have gl : ∀ n (s' : Ms), items (.ref n) s' = some ws → s'.get n = some (.lst ws) := fun n s' e => by
    unfold items at e
    simp only at e
    split at e
    · rename_i e1
      cases e
      exact e1
    · cases e
  cases v with
  | tup xs => cases h1; exact ⟨_, rfl, h2 _ fun s' _ => gives_seq⟩
  | fl xs => cases h1; exact ⟨_, rfl, h2 _ fun s' _ => gives_seq⟩
  | ref n =>
    refine ⟨(.lst n, s1), ?_, h2 _ fun s' e => gives_lst (gl n s' e)⟩
    simp only [gl n s1 h1]
  | _ => cases h1
theorem wp_lc {I : Fi} {T : Tg} {C : Ft} {E : Fe} {vs : List Nat} {r : Me} {s : Ms} {Q : Mv × Ms → Prop} (h : Wp (I r s) fun x => Wp (mflat x.1 (mstep T C E (mwipe r vs)) 1000000000 0 x.2) fun y => y.1.length ≤ 16777216 ∧ Q (.ref y.2.sz, push y.2 (.lst y.1))) : Wp (mlc I T C E vs r s) Q := by
  unfold mlc
  rw [wp_ob]
  refine h.mono fun x hx => ?_
  rw [wp_ob]
  exact hx.mono fun y hy => ⟨_, newL_of hy.1, hy.2⟩
/-- found.append(..), where found is a list of ours -/
theorem wp_app {O : Fe} {A : Fa} {r : Me} {s : Ms} {Q : Mv × Ms → Prop} {n : Nat} {xs : List Mv} (hO : O r s = some (.ref n, s)) (hn : s.get n = some (.lst xs)) (h : Wp (A r s) fun x => ∃ w ys, x.1 = [w] ∧ x.2.get n = some (.lst ys) ∧ ys.length < 16777216 ∧ Q (.non, x.2.put n (.lst (ys ++ [w])))) : Wp (mbmL appW O A r s) Q := by
  unfold mbmL
  rw [hO, ob_of]
  simp only [hn]
  rw [wp_ob]
  refine h.mono fun x hx => ?_
  obtain ⟨ws, s1⟩ := x
  obtain ⟨w, ys, rfl, e, hl, q⟩ := hx
  simp only at e q
  simp only [e]
  refine ⟨_, ?_, q⟩
  show cond (Nat.blt ys.length 16777216) _ _ = _
  rw [nblt, decide_eq_true hl]; rfl
theorem wp_pop {O : Fe} {A : Fa} {r : Me} {s : Ms} {Q : Mv × Ms → Prop} {n : Nat} {xs : List Mv} (hO : O r s = some (.ref n, s)) (hn : s.get n = some (.lst xs)) (h : Wp (A r s) fun x => ∃ (i : Int) (ys : List Mv) (w : Mv), x.1 = [.int i] ∧ 0 ≤ i ∧ x.2.get n = some (.lst ys) ∧ ys[i.toNat]? = some w ∧ Q (w, x.2.put n (.lst (ys.eraseIdx i.toNat)))) : Wp (mbmL popW O A r s) Q := by
  unfold mbmL
  rw [hO, ob_of]
  simp only [hn]
  rw [wp_ob]
  refine h.mono fun x hx => ?_
  obtain ⟨ws, s1⟩ := x
  obtain ⟨i, ys, w, rfl, h0, e, hw, q⟩ := hx
  simp only at e q
  simp only [e]
  refine ⟨_, ?_, q⟩
  show (ixN ys.length i).ob _ = _
  have : ixN ys.length i = some i.toNat := by
    unfold ixN
    have := (List.getElem?_eq_some_iff.mp hw).1
    rw [if_pos h0, if_pos (by omega)]
  rw [this, ob_of, hw, om_of]
theorem erase_map {α β : Type} (f : α → β) : ∀ (l : List α) (i : Nat), (l.map f).eraseIdx i = (l.eraseIdx i).map f
  | [], _ => rfl
  | _ :: _, 0 => rfl
  | x :: l, i + 1 => congrArg (f x :: ·) (erase_map f l i)
theorem erase_perm {α : Type} : ∀ (l : List α) (i : Nat) (h : i < l.length), (l[i] :: l.eraseIdx i).Perm l
  | x :: l, 0, _ => List.Perm.refl _
  | x :: l, i + 1, h => (List.Perm.swap _ _ _).trans ((erase_perm l i (by simpa using h)).cons x)

end
section
/-! ### the law's own loop, over sources that are lists of numbers -/
theorem len_fl {s : Ms} {ns : List Int} : lenW [.fl (ns.map Mv.int)] s = some (.int (ns.length : Nat), s) := by
  rw [lenW_of (a := .fl (ns.map Mv.int)) (s := s) (ws := ns.map Mv.int) rfl, List.length_map]
theorem all_rep {s : Ms} {n j : Nat} (h : s.get n = some (.lst (List.replicate j (Mv.bl true)))) : allW [.ref n] s = some (.bl true, s) := by
  show ((lstOf (.ref n) s).ob fun xs => (boolsOf xs).om fun bs => (Mv.bl (bs.all id), s)) = _
  have : lstOf (.ref n) s = some (List.replicate j (Mv.bl true)) := items_ref h
  rw [this, ob_of, bools_rep, om_of]
  have : (List.replicate j true).all id = true := by
    rw [List.all_eq_true]
    intro x hx
    rw [List.eq_of_mem_replicate hx]; rfl
  rw [this]
theorem law_genW {bx rt : Fn} {R L D : Nat} (hb : BoxFn bx) (hR : R ≤ 100) (hL : L ≤ 100) (hr : ∀ s b m, Bx' s b m → m + D ≤ L * D → Wp (rt [.ref b] s) fun x => x.1 = .bl true ∧ Bx' x.2 b (m + D)) (ns : List Int) : ∃ s', fnM 1 4 (lawB bx rt (R : Int) (L : Int)) [.fl (ns.map .int)] ⟨0, .nil⟩ = some (.bl true, s') := by
  have key : Wp (fnM 1 4 (lawB bx rt (R : Int) (L : Int)) [.fl (ns.map .int)] ⟨0, .nil⟩) fun y => y.1 = .bl true := by
    refine wp_fn [some (.fl (ns.map .int)), none, none, none] rfl rfl ?_
    unfold lawB
    refine wp_seq ?_
    refine wp_for (wp_R1 ?_)
    simp only [wp_ob, wp_om, wp_some, wp_mvar, sset, sexp, sret, sif, spar, spar3, snx, mtB, mtst, mop1, mop2, mcall, mcons, mnil, mcon, mif, mtup, mlst, mand, mor, mnot, mandV, morV, mnotV, lset_eq, List.getElem?_cons_zero, List.getElem?_cons_succ, List.set_cons_zero, List.set_cons_succ, cond_true, cond_false, len_fl, min2W, addW]
    generalize hj : Int.add 1 (if ((ns.length : Nat) : Int) < (R : Int) then ((ns.length : Nat) : Int) else (R : Int)) = j
    have hj' : 1 + (if ((ns.length : Nat) : Int) < (R : Int) then ((ns.length : Nat) : Int) else (R : Int)) = j := hj
    have j0 : 0 ≤ j ∧ j ≤ 101 := by split at hj' <;> omega
    refine ⟨j, rfl, okI_of j0.1 (by omega), ?_⟩
    refine (wp_loop (rngL 0 j.toNat) (fun i r s' => ∃ o1 o2 o3, r = [some (.fl (ns.map .int)), o1, o2, o3]) (fun i r s' _ _ => gives_rng) ?_ 1000000000 0 _ _ (by rw [rngL_len]; omega) (by omega) ⟨none, none, none, rfl⟩).mono ?_
    · rintro i w r s' hw ⟨o1, o2, o3, rfl⟩
      obtain ⟨hi, rfl⟩ := rngL_get hw
      refine ⟨_, rfl, wp_seq ?_⟩
      obtain ⟨A, C, hA, hC, hC2, e⟩ := hb ns (0 + (i : Int)) s' (by omega) (by omega)
      rw [newL_of (by simp)] at e
      simp only [wp_ob, wp_om, wp_some, wp_mvar, sset, sexp, sret, sif, spar, spar3, snx, mtB, mtst, mop1, mop2, mcall, mcons, mnil, mcon, mif, mtup, mlst, mand, mor, mnot, mandV, morV, mnotV, lset_eq, List.getElem?_cons_zero, List.getElem?_cons_succ, List.set_cons_zero, List.set_cons_succ, cond_true, cond_false, e]
      refine ⟨trivial, ?_⟩
      unfold lapB
      simp only [wp_ob, wp_om, wp_some, wp_mvar, sset, sexp, sret, sif, spar, spar3, snx, mtB, mtst, mop1, mop2, mcall, mcons, mnil, mcon, mif, mtup, mlst, mand, mor, mnot, mandV, morV, mnotV, lset_eq, List.getElem?_cons_zero, List.getElem?_cons_succ, List.set_cons_zero, List.set_cons_succ, cond_true, cond_false]
      refine wp_lc (wp_R1 ?_)
      simp only [wp_ob, wp_om, wp_some, wp_mvar, sset, sexp, sret, sif, spar, spar3, snx, mtB, mtst, mop1, mop2, mcall, mcons, mnil, mcon, mif, mtup, mlst, mand, mor, mnot, mandV, morV, mnotV, lset_eq, List.getElem?_cons_zero, List.getElem?_cons_succ, List.set_cons_zero, List.set_cons_succ, cond_true, cond_false]
      refine ⟨L, rfl, okI_of (by omega) (by omega), ?_⟩
      have B0 : Bx' (push s' (.lst [.int A, .int C, .int 0])) s'.sz 0 := ⟨by rw [push_sz]; omega, A, C, 0, Ms.get_push, ⟨hA, hC, hC2, by decide⟩, by decide⟩
      refine (wp_flat (rngL 0 (L : Int).toNat) (fun i acc s2 => acc = List.replicate i (Mv.bl true) ∧ Bx' s2 s'.sz (i * D)) (fun i acc s2 _ _ => gives_rng) ?_ 1000000000 0 [] _ (by rw [rngL_len]; omega) (by omega) ⟨rfl, by simpa using B0⟩).mono ?_
      · rintro k w acc s2 hw2 ⟨rfl, B⟩
        obtain ⟨hk, rfl⟩ := rngL_get hw2
        unfold mstep
        simp only [wp_ob, wp_om, wp_some, wp_mvar, sset, sexp, sret, sif, spar, spar3, snx, mtB, mtst, mop1, mop2, mcall, mcons, mnil, mcon, mif, mtup, mlst, mand, mor, mnot, mandV, morV, mnotV, lset_eq, List.getElem?_cons_zero, List.getElem?_cons_succ, List.set_cons_zero, List.set_cons_succ, cond_true, cond_false, mwipe, Tg.asg, myes]
        have hk' : k < L := by omega
        refine (hr s2 s'.sz (k * D) B ?_).mono fun x hx => ?_
        · calc k * D + D = (k + 1) * D := by rw [Nat.succ_mul]
            _ ≤ L * D := Nat.mul_le_mul_right D hk'
        · obtain ⟨h1, h2⟩ := hx
          rw [h1]
          refine ⟨by rw [List.replicate_succ'], ?_⟩
          rw [Nat.succ_mul]; exact h2
      · rintro ⟨acc, s2⟩ ⟨h1, h2⟩
        simp only [List.nil_append] at h1
        subst h1
        refine ⟨by rw [List.length_replicate, rngL_len]; omega, ?_⟩
        rw [all_rep Ms.get_push]
        simp only [wp_ob, wp_om, wp_some, wp_mvar, sset, sexp, sret, sif, spar, spar3, snx, mtB, mtst, mop1, mop2, mcall, mcons, mnil, mcon, mif, mtup, mlst, mand, mor, mnot, mandV, morV, mnotV, lset_eq, List.getElem?_cons_zero, List.getElem?_cons_succ, List.set_cons_zero, List.set_cons_succ, cond_true, cond_false, tru, Bool.not_true]
        exact ⟨trivial, _, _, _, rfl⟩
    · rintro ⟨fl, r, s'⟩ ⟨e, o1, o2, o3, rfl⟩
      simp only at e
      subst e
      refine ⟨rfl, ?_⟩
      exact ⟨_, rfl, rfl⟩
  obtain ⟨⟨w, s'⟩, h1, h2⟩ := key
  simp only at h2
  subst h2
  exact ⟨s', h1⟩
section
variable {X : Cx} {G : Mg} {x : Str} {p0 pos : Pos} {f : Fn}
end

end
section
/-! ### frames: what stays outside of some places -/
structure ExtL (L : List Nat) (s s' : Ms) : Prop where
  sz : s.sz ≤ s'.sz
  get : ∀ n, n < s.sz → n ∉ L → s'.get n = s.get n
theorem ExtL.refl {L : List Nat} {s : Ms} : ExtL L s s := ⟨Nat.le_refl _, fun _ _ _ => rfl⟩
theorem ExtL.trans' {L L' : List Nat} {s s1 s2 : Ms} (h : ExtL L s s1) (g : ExtL L' s1 s2) (i : ∀ x ∈ L', x ∈ L ∨ s.sz ≤ x) : ExtL L s s2 := ⟨Nat.le_trans h.sz g.sz, fun n hn hL => by
  rw [g.get n (Nat.lt_of_lt_of_le hn h.sz) (fun z => (i n z).elim hL fun z => by omega), h.get n hn hL]⟩
theorem ExtL.trans {L : List Nat} {s s1 s2 : Ms} (h : ExtL L s s1) (g : ExtL L s1 s2) : ExtL L s s2 := h.trans' g fun _ z => .inl z
theorem Ex0.extL {L : List Nat} {s s' : Ms} (h : Ex0 s s') : ExtL L s s' := ⟨h.sz, fun n hn _ => h.get n hn⟩
theorem Ext.extL {L : List Nat} {b : Nat} {s s' : Ms} (h : Ext b s s') (hb : b ∈ L) : ExtL L s s' := ⟨h.sz, fun n hn hL => h.get n hn fun z => hL (z ▸ hb)⟩
theorem ExtL.ext {b : Nat} {s s' : Ms} (h : ExtL [b] s s') : Ext b s s' := ⟨h.sz, fun n hn hb => h.get n hn (by simpa using hb)⟩
theorem ExtL.mono {L L' : List Nat} {s s' : Ms} (h : ExtL L s s') (i : ∀ x ∈ L, x ∈ L' ∨ s.sz ≤ x) : ExtL L' s s' := ⟨h.sz, fun n hn hL => h.get n hn fun z => (i n z).elim hL fun z => by omega⟩
theorem ExtL.put {L : List Nat} {s s' : Ms} {o : Mo} {n : Nat} (h : ExtL L s s') (hn : n ∈ L ∨ s.sz ≤ n) : ExtL L s (s'.put n o) := ⟨h.sz, fun m hm hL => by
  rw [put_get', if_neg (by rintro rfl; exact hn.elim hL fun z => by omega)]; exact h.get m hm hL⟩
theorem ExtL.push {L : List Nat} {s s' : Ms} {o : Mo} (h : ExtL L s s') : ExtL L s (Mi.push s' o) := h.trans Ex0.push.extL
theorem ExtL.at {L : List Nat} {s s' : Ms} (h : ExtL L s s') {n : Nat} {o : Option Mo} (hn : n < s.sz) (hL : n ∉ L) (e : s.get n = o) : s'.get n = o := (h.get n hn hL).trans e
theorem Bx'.extL {L : List Nat} {s s' : Ms} {b m : Nat} (h : Bx' s b m) (g : ExtL L s s') (hb : b ∉ L) : Bx' s' b m := ⟨Nat.lt_of_lt_of_le h.lt g.sz, h.ob.elim fun a ⟨c, n, e, o, l⟩ => ⟨a, c, n, g.at h.lt hb e, o, l⟩⟩
/-! ### fields, methods -/
/-! ### while -/
/-! ### dict comprehensions -/
/-! ### sets of names: dicts whose values are True -/
theorem wp_seqR {A B : Fs} {r : Me} {s : Ms} {Q : Fl × Me × Ms → Prop} (h : Wp (A r s) fun x => (x.1 = .nx ∧ Wp (B x.2.1 x.2.2) Q) ∨ ∃ w, x.1 = .rt w ∧ Q (.rt w, x.2)) : Wp (sseq A B r s) Q := by
  unfold sseq
  rw [wp_ob]
  refine h.mono fun x hx => ?_
  obtain ⟨fl, r1, s1⟩ := x
  rcases hx with ⟨e, h⟩ | ⟨w, e, h⟩
  · simp only at e
    subst e
    exact h
  · simp only at e
    subst e
    exact ⟨_, rfl, h⟩
/-- a loop that may tell at once -/
theorem wp_loopR {it : It0} {T : Tg} {B : Fs} (ws : List Mv) (I : Nat → Me → Ms → Prop) (R : Mv → Ms → Prop) (ha : ∀ i r s, i ≤ ws.length → I i r s → Gives it ws s)
    (hs : ∀ i w r s, ws[i]? = some w → I i r s → Wp (T.asg w r) fun r1 => Wp (B r1 s) fun x => (x.1 = .nx ∧ I (i + 1) x.2.1 x.2.2) ∨ ∃ w, x.1 = .rt w ∧ R w x.2.2) : ∀ (m i : Nat) (r : Me) (s : Ms), ws.length < m + i → i ≤ ws.length → I i r s → Wp (mloop it T B m i r s) fun x => (x.1 = .nx ∧ I ws.length x.2.1 x.2.2) ∨ ∃ w, x.1 = .rt w ∧ R w x.2.2
  | 0, i, r, s, hm, hi, _ => by omega
  | m + 1, i, r, s, hm, hi, h => by
    rw [mloop_succ, ha i r s hi h i]
    cases e : ws[i]? with
    | none =>
      have : i = ws.length := by have := List.getElem?_eq_none_iff.mp e; omega
      subst this
      exact ⟨_, rfl, .inl ⟨rfl, h⟩⟩
    | some w =>
      have hl := (List.getElem?_eq_some_iff.mp e).1
      show Wp ((T.asg w r).ob _) _
      rw [wp_ob]
      refine (hs i w r s e h).mono fun r1 h1 => ?_
      rw [wp_ob]
      refine h1.mono fun x hx => ?_
      obtain ⟨fl, r2, s2⟩ := x
      rcases hx with ⟨e, h2⟩ | ⟨w, e, h2⟩
      · simp only at e
        subst e
        exact wp_loopR ws I R ha hs m (i + 1) r2 s2 (by omega) (by omega) h2
      · simp only at e
        subst e
        exact ⟨_, rfl, .inr ⟨w, rfl, h2⟩⟩
theorem wp_sift {C : Ft} {A B : Fs} {r : Me} {s : Ms} {Q : Fl × Me × Ms → Prop} (h : Wp (C r s) fun x => x.1 = true ∧ Wp (A r x.2) Q) : Wp (sif C A B r s) Q := by
  unfold sif
  rw [wp_ob]
  refine h.mono fun x hx => ?_
  obtain ⟨v, s1⟩ := x
  obtain ⟨e, h⟩ := hx
  simp only at e
  subst e
  exact h
theorem wp_siff {C : Ft} {A B : Fs} {r : Me} {s : Ms} {Q : Fl × Me × Ms → Prop} (h : Wp (C r s) fun x => x.1 = false ∧ Wp (B r x.2) Q) : Wp (sif C A B r s) Q := by
  unfold sif
  rw [wp_ob]
  refine h.mono fun x hx => ?_
  obtain ⟨v, s1⟩ := x
  obtain ⟨e, h⟩ := hx
  simp only at e
  subst e
  exact h
theorem wp_orf {C D : Ft} {r : Me} {s : Ms} {Q : Bool × Ms → Prop} (h : Wp (C r s) fun x => x.1 = false ∧ Wp (D r x.2) Q) : Wp (mor C D r s) Q := by
  unfold mor
  rw [wp_ob]
  refine h.mono fun x hx => ?_
  obtain ⟨v, s1⟩ := x
  obtain ⟨e, h⟩ := hx
  simp only at e
  subst e
  exact h
theorem wp_ort {C D : Ft} {r : Me} {s : Ms} {Q : Bool × Ms → Prop} (h : Wp (C r s) fun x => x.1 = true ∧ Q (true, x.2)) : Wp (mor C D r s) Q := by
  unfold mor
  rw [wp_ob]
  refine h.mono fun x hx => ?_
  obtain ⟨v, s1⟩ := x
  obtain ⟨e, h⟩ := hx
  simp only at e
  subst e
  exact ⟨_, rfl, h⟩
end
section
/-! ### sorted(tuple of texts) -/
section
open PySem.Calls
variable {prog : Program} {w : World} {A : Around} {E : Value → Shared → Prop} {s : Shared}
end
section
variable {X : Cx} {G : Mg}
end
/-! ### enumerate(list) -/
section
variable {X : Cx} {G : Mg} {e : Expr}
end

end
section
/-! ### an own exception over a built-in class is made: its own start asks the class above it, then keeps the one argument in a field -/
section
open PySem.W PySem.Calls
variable {prog : Program} {w : World} {A : Around} {E : Value → Shared → Prop} {R : Result → Shared → Prop} {K : Frag} {hA : Heap} {g : Array GenState} {d : Drawn} {tk : Nat} {os : OsState}
variable {C fI cc cda : Addr} {u : Value} {mg mb : Str → Option Value} {B initId newId : String} {bmB : List Value}
variable {nm0 qual x1 x2 fld : Str} {params : Arguments} {scope : Scope} {dV kV doc pm ct oc ccl cl : Value} {an od cdd cld : Option Addr} {osl ccs csl : Array (Option Value)} {vs : Array Value} {file : Str} {tf : Tok} {ar : Arg}
variable {p0 p1 p2 p3 p4 p5 p6 p7 p8 p9 : Pos}
/-- the body of the start -/
abbrev xcBody (x1 x2 fld : Str) (p0 p1 p2 p3 p4 p5 p6 p7 p8 p9 : Pos) : List Stmt :=
  [.Expr (.Call (.Attribute (.Call (.Name "super" p0) [] [] p1) "__init__" p2) [.Name x2 p3] [] p4) p5, .Assign [.Attribute (.Name x1 p6) fld p7] (.Name x2 p8) p9]
/-- what is read off the written part -/
structure XcC (prog : Program) (K : Frag) (mg : Str → Option Value) (C : Addr) (B newId initId : String) (bmB : List Value) : Prop where
  base : ExcBaseFacts B newId initId bmB
  kxs : KxsFacts B initId
  st : StoreFacts B bmB "object.__setattr__" "object"
  q : excInitIn K C bmB newId = true
  ov : excOver K C bmB = true
  dc : hasDictIn K C = true
  sub : subIn K (.ref C) (.type B) = some true
  sC : mroIn K C (.ref C) = some true
  sa : findIn K (.ref C) "__setattr__" = some (some (.builtin "object.__setattr__"))
  any : nsIn K cStatics "thirdparty.any" = some none
  mi : ks_superIn K C C "__init__" = some (some (.builtin initId))
  cls : ∃ cd, clsIn K C = some cd
  sup : mg "super" = none
  top : (prog.main.scope.names.lookup ("super" : Str)).isSome = false
  boot : bootBuiltins "super" = some (.type "super")
/-- all that a class of exceptions is asked -/
def XcOk (prog : Program) (K : Frag) (mg : Str → Option Value) (C : Addr) : Prop :=
  ∃ (fI cc cda : Addr) (B initId newId : String) (bmB : List Value) (nm0 qual x1 x2 fld : Str) (params : Arguments) (scope : Scope) (dV kV doc pm ct ccl cl : Value) (an od cdd cld : Option Addr) (osl ccs csl : Array (Option Value)) (vs : Array Value) (file : Str) (tf : Tok) (ar : Arg) (p0 p1 p2 p3 p4 p5 p6 p7 p8 p9 : Pos) (pl : Sem Bool),
    XcC prog K mg C B newId initId bmB ∧ findIn K (.ref C) "__init__" = some (some (.ref fI)) ∧
    K.lookup fI = some ⟨.type "function", od, .func (ksFn nm0 qual params (xcBody x1 x2 fld p0 p1 p2 p3 p4 p5 p6 p7 p8 p9) scope dV kV doc pm an (.ref cda) ct cc), osl⟩ ∧
    codeIn K (.ref cda) qual = true ∧
    (∀ u a s, BindsTo s (ksFn nm0 qual params (xcBody x1 x2 fld p0 p1 p2 p3 p4 p5 p6 p7 p8 p9) scope dV kV doc pm an (.ref cda) ct cc) ⟨[.ref a, u], []⟩ [(x1, .ref a), (x2, u)]) ∧
    (params.posonlyargs ++ params.args).head? = some ar ∧ ar.arg = x1 ∧
    K.lookup cda = some ⟨ccl, cdd, .fields vs, ccs⟩ ∧ vs[2]? = some (.str file tf) ∧ ((prog.main.file : Str) == file) = true ∧
    K.lookup cc = some ⟨cl, cld, .cell (some (.ref C)), csl⟩ ∧ (∀ x ∈ scope.names, x.2 ≠ .cell) ∧
    scope.names.lookup ("super" : Str) = some .globalImplicit ∧ scope.names.lookup ("__class__" : Str) = some .free ∧ scope.names.lookup x1 = some .local ∧ scope.names.lookup x2 = some .local ∧ scope.kind = .function ∧
    scope.isCoroutine = false ∧ scope.isGenerator = false ∧ (x1 == ("__debug__" : Str)) = false ∧ (x2 == ("__debug__" : Str)) = false ∧ takerIn K C fld = some none ∧ x2 ≠ x1 ∧
    (∀ L, eval (.Call (.Attribute (.Call (.Name "super" p0) [] [] p1) "__init__" p2) [.Name x2 p3] [] p4) (ksEnv qual scope L fI (.ref cda) cc) = (do
      let ov ← attributeBase (.Call (.Name "super" p0) [] [] p1) "__init__" (ksEnv qual scope L fI (.ref cda) cc) (eval (.Call (.Name "super" p0) [] [] p1) (ksEnv qual scope L fI (.ref cda) cc))
      standAt p2.atName
      let (fu, fs) ← holding [ov] (getMethod ov "__init__" pl)
      callWith p4 fu fs (backTo p4 (starEach [.Name x2 p3] (ksEnv qual scope L fI (.ref cda) cc))) []))
end

end
section
/-! ### promises of defs that raise: what is told is the store when they do -/
section
variable {X : Cx} {G : Mg} {C : Addr} {W : WX} {e o : Expr} {es : List Expr} {pos : Pos} {st : Stmt} {rest : List Stmt} {σ : L2.St} {H : Hp} {c : Nat}
end

end
section
section
variable {P : Program} {w : World} {K : PySem.W.Frag} {mg : Str → Option Value} {base : Heap} {G : Mg} {C : Addr}
end

end
section
section
variable {X : Cx} {G : Mg} {C D : Addr} {W : WX} {e o : Expr} {es : List Expr} {pos apos : Pos} {f : Addr} {fd : FuncData} {k : Nat} {ps : List Str} {sp : Sp} {m : Str} {ta : TE} {t : TA} {pl : Sem Bool}
end
section
variable {X : Cx} {G : Mg} {C : Addr} {W : WX} {e o : Expr} {es : List Expr} {pos : Pos} {c : Nat}
end

end
section
section
variable {X : Cx} {G : Mg} {C : Addr}
end

end
section
section
variable {X : Cx} {G : Mg} {C : Addr}
end
/-! ### two promises of one def -/
end
section
/-! ### what the end of the run tells of a class of exceptions -/
abbrev XcV : Type := Option (Str × Str × Arguments × FuncBody × Scope × Addr × List Str × Addr)
/-- the start of the class that x names -/
def xcW (K : PySem.W.Frag) (x : Str) : XcV := match K.lookup (He.ma K (He.ga K x) "__init__") with
  | some ⟨_, _, .func fd, _⟩ => some (fd.name, fd.qualname, fd.params, fd.body, fd.scope, fd.globals, fd.closure.map (·.1), fd.builtins)
  | _ => none
/-- a class of exceptions: its name, its field, the class above it, the start's def -/
structure XcD where
  name : Str
  qual : Str
  fld : Str
  B : String
  newId : String
  initId : String
  bmB : List Value
  params : Arguments
  body : List Stmt
  scope : Scope
def XcD.val (d : XcD) : XcV := some ("__init__", d.qual, d.params, .stmts d.body, d.scope, mainGlobals, ["__class__"], builtinsNs)
/-- the code object of the start, the cell: at the right places -/
def xcFn (K : PySem.W.Frag) (C : Addr) (qual file : Str) : Bool := match K.lookup (He.ma K C "__init__") with
  | some ⟨.type t, _, .func fd, _⟩ => (t == "function" && fd.defaults == .none) && (match fd.code with
    | .ref cda => PySem.W.codeIn K (.ref cda) qual && (match K.lookup cda with
      | some ⟨_, _, .fields vs, _⟩ => (match vs.toList with
        | _ :: _ :: .str f _ :: _ => f == file
        | _ => false)
      | _ => false)
    | _ => false) && (match fd.closure with
    | [(_, cc)] => (match K.lookup cc with
      | some ⟨_, _, .cell (some v), _⟩ => v == .ref C
      | _ => false)
    | _ => false)
  | _ => false
def XcD.ok (d : XcD) (file : Str) (K : PySem.W.Frag) : Bool :=
  PySem.W.excInitIn K (He.ga K d.name) d.bmB d.newId && (PySem.W.excOver K (He.ga K d.name) d.bmB && (PySem.W.hasDictIn K (He.ga K d.name) && (decide (PySem.W.subIn K (.ref (He.ga K d.name)) (.type d.B) = some true) &&
  (decide (PySem.W.mroIn K (He.ga K d.name) (.ref (He.ga K d.name)) = some true) && (decide (PySem.W.findIn K (.ref (He.ga K d.name)) "__setattr__" = some (some (.builtin "object.__setattr__"))) && (decide (PySem.W.nsIn K PySem.cStatics "thirdparty.any" = some none) &&
  (decide (PySem.W.ks_superIn K (He.ga K d.name) (He.ga K d.name) "__init__" = some (some (.builtin d.initId))) && ((PySem.W.clsIn K (He.ga K d.name)).isSome && (decide (PySem.W.takerIn K (He.ga K d.name) d.fld = some none) &&
  (decide (PySem.W.findIn K (.ref (He.ga K d.name)) "__init__" = some (some (.ref (He.ma K (He.ga K d.name) "__init__")))) && (xcFn K (He.ga K d.name) d.qual file && (decide (PySem.W.subIn K (.ref (He.ga K d.name)) (.type "BaseException") = some true) && (decide (PySem.W.typeIn K (.ref (He.ga K d.name)) = some (.type "type")) && (PySem.W.keepIn K (.ref (He.ga K d.name)) && decide (PySem.W.exmOne K (.ref (He.ga K d.name)) (.ref (He.ga K d.name)) = some true)))))))))))))))
section
open PySem.W
/-- what raising and catching ask of the class -/
structure XnF (P : Program) (K : Frag) (mg : Str → Option Value) (x : Str) : Prop where
  xc : XcOk P K mg (He.ga K x)
  sub : subIn K (.ref (He.ga K x)) (.type "BaseException") = some true
  ty : typeIn K (.ref (He.ga K x)) = some (.type "type")
  kp : keepIn K (.ref (He.ga K x)) = true
  ex : exmOne K (.ref (He.ga K x)) (.ref (He.ga K x)) = some true
  gl : mg x = some (.ref (He.ga K x))
end

end
section
open PySem PySem.Spec PyProof.Rows L2 He
/-! ### the head's hook, with classes of exceptions -/
structure SaysY (fa : List He.Fa) (fn : List DefD) (ts : List Tab) (tf : List Defn) (ex : PySem.W.Frag → Bool) (xs : List XcD) (file : Str) (w : World) (h : Heap) (K : PySem.W.Frag) : Prop where
  c : SaysX fa fn ts tf ex w h K
  x : (xs.map fun d => xcW K d.name) = xs.map XcD.val
  b : (xs.all fun d => d.ok file K) = true
theorem SaysY.val {fa : List He.Fa} {fn : List DefD} {ts : List Tab} {tf : List Defn} {ex : PySem.W.Frag → Bool} {xs : List XcD} {file : Str} {w : World} {h : Heap} {K : PySem.W.Frag} (c : SaysY fa fn ts tf ex xs file w h K) {d : XcD} (hd : d ∈ xs) : xcW K d.name = d.val ∧ d.ok file K = true := by
  refine ⟨?_, List.all_eq_true.mp c.b d hd⟩
  obtain ⟨i, hi, e⟩ := List.mem_iff_getElem.mp hd
  have z := congrArg (fun l => l[i]?) c.x
  simp only [List.getElem?_map, List.getElem?_eq_getElem hi, e, Option.map_some] at z
  exact Option.some.inj z

end
section
/-! ### dict(a list of pairs) -/
section
variable {X : Cx} {G : Mg} {p : List Addr} {H : Hp}
/-! keys that are tuples -/
end

end
section
/-! ### {text: value, ..} -/
section
variable {X : Cx} {G : Mg}
end

end
section
/-! ### o.m(k = v, ..) -/
section
variable {X : Cx} {G : Mg}
end

end
section
/-! ### list(d.items()), whatever the keys are -/
section
variable {X : Cx} {pins : List (Addr × Obj)} {σ : L2.St} {H : Hp} {s : Shared} {G : Mg} {p : List Addr} {es : Array DictEntry}
end

end
section
/-! ### len(o) of a class with its own __len__; C(k = v, ..) -/
section
variable {X : Cx} {G : Mg} {f : Fn} {CXo : CXT} {k c : Nat} {fa : Addr} {fd : FuncData} {ps : List Str} {EO : XK}
end

end
section
/-! ### C(k = v, ..) -/
section
variable {X : Cx} {G : Mg} {CXo : CXT} {k : Nat} {f C : Addr} {fd : FuncData} {ps ks : List Str} {sp : Sp} {E : XK}
end

end
section
/-! ### an own exception is made, and its field is known -/
section
open PySem.W PySem.Calls
variable {prog : Program} {w : World} {A : Around} {E : Value → Shared → Prop} {R : Result → Shared → Prop} {K : Frag} {hA : Heap} {g : Array GenState} {d : Drawn} {tk : Nat} {os : OsState}
variable {C fI cc cda : Addr} {u : Value} {mg mb : Str → Option Value} {B initId newId : String} {bmB : List Value}
variable {nm0 qual x1 x2 fld : Str} {params : Arguments} {scope : Scope} {dV kV doc pm ct oc ccl cl : Value} {an od cdd cld : Option Addr} {osl ccs csl : Array (Option Value)} {vs : Array Value} {file : Str} {tf : Tok} {ar : Arg}
variable {p0 p1 p2 p3 p4 p5 p6 p7 p8 p9 : Pos}
end

end
section
section
open PySem.W PySem.Calls
variable {C : Addr}
/-- all that a class of exceptions is asked, its field by name -/
def XcOkF (prog : Program) (K : Frag) (mg : Str → Option Value) (C : Addr) (fld : Str) : Prop :=
  ∃ (fI cc cda : Addr) (B initId newId : String) (bmB : List Value) (nm0 qual x1 x2 : Str) (params : Arguments) (scope : Scope) (dV kV doc pm ct ccl cl : Value) (an od cdd cld : Option Addr) (osl ccs csl : Array (Option Value)) (vs : Array Value) (file : Str) (tf : Tok) (ar : Arg) (p0 p1 p2 p3 p4 p5 p6 p7 p8 p9 : Pos) (pl : Sem Bool),
    XcC prog K mg C B newId initId bmB ∧ findIn K (.ref C) "__init__" = some (some (.ref fI)) ∧
    K.lookup fI = some ⟨.type "function", od, .func (ksFn nm0 qual params (xcBody x1 x2 fld p0 p1 p2 p3 p4 p5 p6 p7 p8 p9) scope dV kV doc pm an (.ref cda) ct cc), osl⟩ ∧
    codeIn K (.ref cda) qual = true ∧
    (∀ u a s, BindsTo s (ksFn nm0 qual params (xcBody x1 x2 fld p0 p1 p2 p3 p4 p5 p6 p7 p8 p9) scope dV kV doc pm an (.ref cda) ct cc) ⟨[.ref a, u], []⟩ [(x1, .ref a), (x2, u)]) ∧
    (params.posonlyargs ++ params.args).head? = some ar ∧ ar.arg = x1 ∧
    K.lookup cda = some ⟨ccl, cdd, .fields vs, ccs⟩ ∧ vs[2]? = some (.str file tf) ∧ ((prog.main.file : Str) == file) = true ∧
    K.lookup cc = some ⟨cl, cld, .cell (some (.ref C)), csl⟩ ∧ (∀ x ∈ scope.names, x.2 ≠ .cell) ∧
    scope.names.lookup ("super" : Str) = some .globalImplicit ∧ scope.names.lookup ("__class__" : Str) = some .free ∧ scope.names.lookup x1 = some .local ∧ scope.names.lookup x2 = some .local ∧ scope.kind = .function ∧
    scope.isCoroutine = false ∧ scope.isGenerator = false ∧ (x1 == ("__debug__" : Str)) = false ∧ (x2 == ("__debug__" : Str)) = false ∧ takerIn K C fld = some none ∧ x2 ≠ x1 ∧
    (∀ L, eval (.Call (.Attribute (.Call (.Name "super" p0) [] [] p1) "__init__" p2) [.Name x2 p3] [] p4) (ksEnv qual scope L fI (.ref cda) cc) = (do
      let ov ← attributeBase (.Call (.Name "super" p0) [] [] p1) "__init__" (ksEnv qual scope L fI (.ref cda) cc) (eval (.Call (.Name "super" p0) [] [] p1) (ksEnv qual scope L fI (.ref cda) cc))
      standAt p2.atName
      let (fu, fs) ← holding [ov] (getMethod ov "__init__" pl)
      callWith p4 fu fs (backTo p4 (starEach [.Name x2 p3] (ksEnv qual scope L fI (.ref cda) cc))) []))
end

end
section
/-! ### try: what raises; except (A, B, C) as n: y = n; then the rest, with the exception held -/
section
variable {X : Cx} {pins : List (Addr × Obj)} {σ : L2.St} {H : Hp} {s : Shared}
end

end
section
/-! ### the exception that is held: its class is asked, its field is read -/
section
open PySem.W PySem.Calls
variable {prog : Program} {w : World} {A : Around} {E : Value → Shared → Prop} {s : Shared} {K : Frag} {x D : Addr} {ox od : Obj}
end
section
variable {X : Cx} {a D : Addr} {oe : Obj} {dd : Addr}
end

end
section
/-! ### promises of defs that raise, with what they raise: class C, field fld -/
noncomputable def spV (G : Mg) (C : Addr) (fld : Str) (f : Fn) : Sp := fun vs H _ E => ∃ p s ws w s', Sim G p s H ∧ DenL G p H ws vs ∧ f ws s = some (w, s') ∧ ∀ p' H' dv v, Sim G p' s' H' → Fra p H p' H' → Den G p' H' w v → H' dv = some (.xd [(fld, v)]) → E (.ref C) (some dv) H'
section
variable {X : Cx} {G : Mg} {C : Addr} {fld : Str} {W : WX} {e o : Expr} {es : List Expr} {pos : Pos} {st : Stmt} {rest : List Stmt} {σ : L2.St} {H : Hp} {c : Nat}
end
/-! ### a def that raises: its promise by its body -/
section
variable {P : Program} {w : World} {K : PySem.W.Frag} {mg : Str → Option Value} {base : Heap} {G : Mg} {C : Addr} {fld : Str}
end

end
section
/-! ### what is asked of the exception that was caught -/
def HeldV (a dd : Addr) (fld : Str) (ic : Nat) (σ : L2.St) (H : Hp) (v : V) : Prop := σ[ic]? = some (some (.ref a)) ∧ H dd = some (.xd [(fld, v)])
theorem HeldV.upd {a dd t : Addr} {fld : Str} {ic : Nat} {σ : L2.St} {H : Hp} {v : V} {o : HO} (h : HeldV a dd fld ic σ H v) (ht : H t = none) : HeldV a dd fld ic σ (L2.upd H t o) v := ⟨h.1, by rw [upd_ne (ne_of_none h.2 ht)]; exact h.2⟩
section
variable {X : Cx} {a D dd : Addr} {oe : Obj} {fld y : Str} {ic : Nat} {b : Bool} {p0 p1 p2 p3 pos : Pos}
end
/-! ### a def that tries what raises, and tells of the exception -/
section
variable {X : Cx} {G : Mg}
end

end
section
/-! ### try .. except (A, B, C) as n: y = n, and behind it what is told of the exception -/
section
variable {X : Cx} {G : Mg} {C : Addr} {fld : Str}
/-- what a class of exceptions is asked when it is looked at -/
structure XvK (K : PySem.W.Frag) (C : Addr) (fld : Str) : Prop where
  ex : ExcC K C
  xf : XfC K C
  no : PySem.W.findIn K (.ref C) fld = some none
end

end
section
/-! ### what is read off the classes of exceptions that are caught and looked at -/
section
open PySem.W
structure XvH (K : Frag) (x fld : Str) (cs ns : List Str) (tys : List String) : Prop where
  v : XvK K (He.ga K x) fld
  ca : exmAny K (.ref (He.ga K x)) (cs.map fun c => .ref (He.ga K c)) = some true
  is : kitOne K (.ref (He.ga K x)) (.ref (He.ga K x)) = some true
  no : kitAny K (.ref (He.ga K x)) (ns.map fun c => .ref (He.ga K c)) = some false
  ty : ∀ t ∈ tys, kitOne K (.ref (He.ga K x)) (.type t) = some true
/-- .. and of the one that is raised -/
structure XvF (P : Program) (K : Frag) (mg : Str → Option Value) (x fld : Str) : Prop where
  n : XnF P K mg x
  f : XcOkF P K mg (He.ga K x) fld
end

end
section
/-! ### t[::-1], xs[::-1] -/
section
variable {prog : Program} {w : World} {A : Around} {E : Value → Shared → Prop} {s : Shared}
theorem adjust_back (n : Nat) : Builtin.Slice.sliceAdjust none none (-1) (n : Int) = ((n : Int) - 1, -1) := by
  unfold Builtin.Slice.sliceAdjust
  simp
theorem places_back (n : Nat) : Builtin.Slice.slicePlaces ((n : Int) - 1) (-1) (-1) = n := by
  unfold Builtin.Slice.slicePlaces
  simp
  omega
theorem fm_congr {α β : Type} {f g : α → Option β} : ∀ {l : List α}, (∀ x ∈ l, f x = g x) → l.filterMap f = l.filterMap g
  | [], _ => rfl
  | x :: l, h => by
    rw [List.filterMap_cons, List.filterMap_cons, h x (List.mem_cons_self ..), fm_congr fun y hy => h y (List.mem_cons_of_mem _ hy)]
theorem pick_back (xs : Array Value) : ((List.range xs.size).filterMap fun (m : Nat) => xs[(((xs.size : Int) - 1) + (m : Int) * (-1)).toNat]?).toArray = xs.toList.reverse.toArray := by
  have e : ((List.range xs.size).filterMap fun (m : Nat) => xs[(((xs.size : Int) - 1) + (m : Int) * (-1)).toNat]?) = ((List.range xs.size).map fun k => xs.size - 1 - k).filterMap (xs[·]?) := by
    rw [List.filterMap_map]
    refine fm_congr fun m hm => ?_
    have := List.mem_range.mp hm
    have z : (((xs.size : Int) - 1) + (m : Int) * (-1)).toNat = xs.size - 1 - m := by omega
    show xs[_]? = xs[_]?
    rw [z]
  rw [e, PySem.W.krv_range, List.filterMap_reverse, PySem.W.krv_all]
theorem sliceApplied_back {sl : Addr} {vl vu vk : Value} {n : Nat} {Q : Int × Int × Nat → Shared → Prop} (hs : s.heap.IsSliceOf sl vl vu vk) (pl : IsPart vl none) (pu : IsPart vu none) (pk : IsPart vk (some (-1)))
    (h : Q ((n : Int) - 1, -1, n) s) : wpAny (model prog w) A (Builtin.Slice.sliceApplied (.ref sl) (pure (n : Int))) Q E s := by
  obtain ⟨os, hos, hcs, hds⟩ := id hs
  unfold Builtin.Slice.sliceApplied Builtin.Slice.sliceFields
  refine wpAny_bind (wpAny_bind (wpAny_field hos hds (x := vl) rfl (wpAny_bind (wpAny_field hos hds (x := vu) rfl (wpAny_bind (wpAny_field hos hds (x := vk) rfl (wpAny_pure ?_)))))))
  refine wpAny_bind (HT.slicePart_ pk ?_)
  show wpAny _ _ (if ((-1 : Int) == 0) = true then _ else _) _ _ s
  rw [if_neg (by decide)]
  refine wpAny_bind (HT.slicePart_ pl (wpAny_bind (HT.slicePart_ pu (wpAny_bind (wpAny_pure ?_)))))
  show wpAny _ _ (match Builtin.Slice.sliceAdjust none none (-1) (n : Int) with | (lo, hi) => pure (lo, (-1 : Int), Builtin.Slice.slicePlaces lo hi (-1))) _ _ s
  rw [adjust_back n]
  show wpAny _ _ (pure ((n : Int) - 1, (-1 : Int), Builtin.Slice.slicePlaces ((n : Int) - 1) (-1) (-1))) _ _ s
  rw [places_back]
  exact wpAny_pure h
theorem getItem_tuple_back {t sl : Addr} {its : Array Value} {vl vu vk : Value} {Q : Value → Shared → Prop} (tp : IsTup s.heap t its) (hs : s.heap.IsSliceOf sl vl vu vk) (pl : IsPart vl none) (pu : IsPart vu none) (pk : IsPart vk (some (-1)))
    (h : Q (.ref s.heap.objs.size) { s with heap := s.heap.push { cls := .type "tuple", data := .seq its.toList.reverse.toArray } }) (hsz : its.size ≤ sizeLine) : wpAny (model prog w) A (getItem (.ref t) (.ref sl)) Q E s := by
  have htake : sizeOk (.seq its.toList.reverse.toArray) := by
    show its.toList.reverse.toArray.size ≤ sizeLine
    rw [List.size_toArray, List.length_reverse, Array.length_toList]
    exact hsz
  obtain ⟨os, hos, hcs, hds⟩ := id hs
  have hTs : s.TypeIs (.ref sl) "slice" := ⟨os, hos, hcs⟩
  unfold getItem
  try with_reducible refine wpAny_holding ?_
  first | refine wpAny_bind (wpAny_pure ?_) | skip
  refine wpAny_bind (wpAny_sequenceKey tp.typeIs (by decide) ?_)
  refine wpAny_bind (wpAny_callSpecial?_slot (name := Str.ofString "__getitem__") tp.typeIs PyProof.Rows.slot_tuple_getitem
    (wpAny_call_entry PyProof.Rows.slot_tuple_getitem tp.typeIs entry_tuple_getitem ?_ (args_tuple_getitem _ _)))
  show wpAny _ _ (Builtin.Tuple.tupleItemsOf (.ref t) >>= _) _ _ s
  refine wpAny_bind (tupleItemsOf_ tp ?_)
  refine wpAny_bind (wpAny_typeOf hTs ?_)
  rw [if_pos (by decide)]
  refine wpAny_bind (sliceApplied_back hs pl pu pk ?_)
  have hno : ¬ (((((its.size : Nat) : Int) - 1) == 0 && (-1 : Int) == 1 && its.size == its.size) = true) := by
    intro q
    rw [Bool.and_eq_true, Bool.and_eq_true] at q
    exact absurd q.1.2 (by decide)
  show wpAny _ _ (if ((((its.size : Nat) : Int) - 1) == 0 && (-1 : Int) == 1 && its.size == its.size) = true then _ else _) _ _ s
  rw [if_neg hno, pick_back]
  first
    | exact wpAny_bind (m := Builtin.Tuple.tupleExact _) (wpAny_newObj_type (wpAny_pure ⟨_, rfl, wpAny_pure h⟩) htake)
    | exact wpAny_bind (m := Builtin.Tuple.tupleExact _) (wpAny_newObj_type (wpAny_bind (wpAny_pure (wpAny_pure ⟨_, rfl, wpAny_pure h⟩))) htake)
    | exact wpAny_bind (wpAny_bind (m := Builtin.Tuple.tupleExact _) (wpAny_newObj_type (wpAny_pure (wpAny_pure ⟨_, rfl, wpAny_pure h⟩)) htake))
    | exact wpAny_bind (wpAny_bind (m := Builtin.Tuple.tupleExact _) (wpAny_newObj_type (wpAny_pure ⟨_, rfl, wpAny_pure h⟩) htake))
end
noncomputable def mrev (A : Fe) : Fe := fun r s => (A r s).ob fun x => match x.1 with
  | .tup ws => newT ws.reverse x.2
  | .ref n => match x.2.get n with
    | some (.lst ws) => newL ws.reverse x.2
    | _ => none
  | _ => none
section
variable {X : Cx} {G : Mg} {e : Expr} {pos : Pos}
theorem DenL.rev {p : List Addr} {H : Hp} : ∀ {ws : List Mv} {vs : List V}, DenL G p H ws vs → DenL G p H ws.reverse vs.reverse
  | _, _, .nil => .nil
  | _, _, .cons d l => by rw [List.reverse_cons, List.reverse_cons]; exact l.rev.append (.cons d .nil)
theorem pm_rev {A : Fe} {k : Nat} {pk1 p2 p3 : Pos} (he : PE X e (tI G A)) (hK : X.K = G.K := by rfl) : PE X (.Subscript e (.Slice none none (some (.UnaryOp .USub (.Constant (.int 1) k pk1) p2)) p3) pos) (tI G (mrev A)) := by
  refine ⟨fun pins s σ H Q I ⟨p, ms, r, w, ms', S, Er, q, kk⟩ => ?_⟩
  obtain ⟨⟨xv, s1⟩, q1, q2⟩ := ob_some.mp q
  cases xv with
  | ref n =>
    simp only at q2
    split at q2
    · rename_i ws ew
      refine (pe_revL (k := k) (p1 := pk1) (p2 := p2) (p3 := p3) (pos := pos) he).run pins s σ H Q I ⟨p, ms, r, .ref n, s1, S, Er, q1, fun p1 v1 H1 S1 f1 d1 => ?_⟩
      cases d1
      rename_i a hn
      obtain ⟨ho, hl, vs, rfl, lx, hz⟩ := S1.get hn ew
      obtain ⟨_, z2⟩ := newL_ok S1 (DenL.rev lx) q2 (kk.of f1)
      exact ⟨a, vs, rfl, by rw [hK]; exact SqL.of hl, z2⟩
    · cases q2
  | tup ws =>
    refine Subscript_ (thn (he.run pins s σ H (fun v1 H1 => ∃ p1, Sim G p1 s1 H1 ∧ Fra p H p1 H1 ∧ Den G p1 H1 (.tup ws) v1) I ⟨p, ms, r, .tup ws, s1, S, Er, q1, fun p1 v1 H1 S1 f1 d1 => ⟨p1, S1, f1, d1⟩⟩) fun u t1 ⟨vx, H1, I1, rx, p1, S1, f1, d1⟩ => ?_)
    cases d1
    rename_i a vs hh lx
    cases rx
    have stp : PO X (some (.UnaryOp .USub (.Constant (.int 1) k pk1) p2)) (tPart (tUn (rU fun i => .int (-i)) (tC (.int 1)))) := po_some (pe_un un_neg pe_int)
    refine wpAny_Slice (thn (po_none.run pins t1 σ H1 (fun o H2 => o = none ∧ H2 = H1) I1 ⟨rfl, rfl⟩) fun vl t2 ⟨o1, H2, I2, pl, el, e2⟩ => ?_)
    subst el e2
    refine thn (po_none.run pins t2 σ H2 (fun o H3 => o = none ∧ H3 = H2) I2 ⟨rfl, rfl⟩) fun vu t3 ⟨o2, H3, I3, pu, eu, e3⟩ => ?_
    subst eu e3
    refine thn (stp.run pins t3 σ H3 (fun o H4 => o = some (-1) ∧ H4 = H3) I3 ⟨1, rfl, -1, rfl, rfl, rfl⟩) fun vk t4 ⟨o3, H4, I4, pk, eo, e4⟩ => ?_
    subst eo e4
    have I5 : Inv X pins σ H4 { t4 with heap := t4.heap.push { cls := .type "slice", data := .fields #[vl, vu, vk] } } := I4.kept (t' := t4.toks) fun b ob z => Heap.get?_push_of_some _ z
    obtain ⟨its, rv, tp, hz⟩ := I5.tuple (by rw [hK]; exact hh)
    have hlen := rv.length
    refine tail_any (ops := [.ref a, .ref t4.heap.objs.size]) tp.typeIs PyProof.Rows.slot_tuple_getitem.lookup ?_ (by with_unfolding_all rfl)
    refine getItem_tuple_back tp (Heap.IsSliceOf.new _ vl vu vk) pl pu pk ?_ (by rw [List.size_toArray]; omega)
    obtain ⟨_, z2, _⟩ := newT_ok S1 (DenL.rev lx) q2 (kk.of f1)
    refine ⟨.ref _, _, I5.laid (t' := t4.toks) (o := .tup vs.reverse) (fun b ob z => Heap.get?_push_of_some _ z) (Nat.le_refl _) ?_, rfl, z2 _ (I5.hok.fresh (Nat.le_refl _))⟩
    exact ⟨by rw [List.length_reverse]; exact hz, _, rv.reverse, IsTup.new _ _⟩
  | _ => cases q2
end

end
section
/-! ### a def that tries what raises, and goes on with names of its own -/
section
variable {X : Cx} {G : Mg}
end
section
variable {X : Cx} {G : Mg} {C : Addr} {fld : Str}
end

end
section
/-! ### len of a dict -/
theorem DenN.len {G : Mg} {p : List Addr} {H : Hp} {kvs : List (NestedKey × Mv × Mv)} {xs : List (NestedKey × Addr × V)} (l : DenN G p H kvs xs) : kvs.length = xs.length := by
  induction l with
  | nil => rfl
  | cons _ _ _ _ _ ih => rw [List.length_cons, List.length_cons, ih]
section
variable {X : Cx} {G : Mg}
end

end
section
/-! ### a dict that nobody changes any more -/
section
variable {X : Cx} {G : Mg} {e : Expr}
end

end
section
/-! ### sum of a list of integers -/
section
variable {X : Cx} {G : Mg}
end
/-! ### what a run of it tells -/
end
section
/-! ### d.get(k, x) of a dict with texts or whole numbers as keys -/
section
variable {X : Cx} {G : Mg} {o e f : Expr} {apos cpos : Pos}
end

end
section
/-! ### zip of any two walkers: what one walker must keep -/
structure Nxt (prog : Program) (w : World) (A : Around) (i l : Addr) (xs : Array Value) (St : Heap → Nat → Prop) : Prop where
  item : ∀ (E : Value → Shared → Prop) (s : Shared) (k : Nat) (x : Value) (Q : Value → Shared → Prop), St s.heap k → xs[k]? = some x →
    (∀ hp, St hp (k + 1) → Heap.SameBut i s.heap hp → Q x { s with heap := hp }) → wpAny (model prog w) A (Builtin.SmallTypes.nextOf (.ref i)) Q E s
  fin : ∀ (E : Value → Shared → Prop) (s : Shared) (k : Nat) (Q : Value → Shared → Prop), St s.heap k → xs[k]? = none →
    (∀ hp e, Heap.ExtBut i s.heap hp → (∃ o, hp.get? e = some o ∧ o.cls = .type "StopIteration") → E (.ref e) { s with heap := hp }) → wpAny (model prog w) A (Builtin.SmallTypes.nextOf (.ref i)) Q E s
  move : ∀ (c : Addr) (hp hq : Heap) (k : Nat), i ≠ c → l ≠ c → Heap.ExtBut c hp hq → St hp k → St hq k
  it : ∀ (hp : Heap) (k : Nat), St hp k → ∃ o, hp.get? i = some o
section
variable {prog : Program} {w : World} {A : Around} {i l : Addr} {xs : Array Value}
end
section
variable {prog : Program} {w : World} {A : Around} {E : Value → Shared → Prop} {s : Shared}
variable {z u v i1 i2 l1 l2 : Addr} {k1 k2 : Nat} {xs ys : Array Value} {a b : Value} {S1 S2 : Heap → Nat → Prop}
end
/-! ### zip of a tuple and a list -/
/-! ### a comprehension's list that nobody changes: it is told whole -/
section
variable {X : Cx} {G : Mg}
end

end
section
/-! ### dict([(key, value), ..]): tuples as keys, each once -/
inductive PrD (G : Mg) (p : List Addr) (H : Hp) : List V → List (NestedKey × Mv × Mv) → List (NestedKey × Addr × V) → Prop
  | nil : PrD G p H [] [] []
  | cons {T b : Addr} {k : NestedKey} {kw w : Mv} {v : V} {L : List V} {ks : List (NestedKey × Mv × Mv)} {xs : List (NestedKey × Addr × V)} : SqT G.K H T [.ref b, v] → KeyM k kw → k.depth ≤ 8 → Den G p H kw (.ref b) → Den G p H w v → PrD G p H L ks xs → PrD G p H (.ref T :: L) ((k, kw, w) :: ks) ((k, b, v) :: xs)
theorem PrD.keys {G : Mg} {p : List Addr} {H : Hp} {L : List V} {ks : List (NestedKey × Mv × Mv)} {xs : List (NestedKey × Addr × V)} (h : PrD G p H L ks xs) : xs.map (·.1) = ks.map (·.1) ∧ xs.length = L.length := by
  induction h with
  | nil => exact ⟨rfl, rfl⟩
  | cons _ _ _ _ _ _ ih => exact ⟨by rw [List.map_cons, List.map_cons, ih.1], by rw [List.length_cons, List.length_cons, ih.2]⟩
section
variable {X : Cx} {G : Mg} {p : List Addr} {H : Hp} {pins : List (Addr × Obj)} {σ : L2.St} {s : Shared}
theorem PrD.at (I : Inv X pins σ H s) (hK : X.K = G.K) {L : List V} {ks : List (NestedKey × Mv × Mv)} {xs : List (NestedKey × Addr × V)} (h : PrD G p H L ks xs) : ∀ {its : List Value}, Vals L its → ∃ (ys : List (NestedKey × Addr × Value)) (Ts : List Addr), PN xs ys ∧ Ts.length = ys.length ∧ its = Ts.map Value.ref ∧
    (∀ (j : Nat) (T : Addr) (k : NestedKey) (b : Addr) (u : Value), Ts[j]? = some T → ys[j]? = some (k, b, u) → s.heap.IsTuple T #[.ref b, u]) ∧ ∀ y ∈ ys, (nestedKind X.prog X.w).is s.heap y.1 y.2.1 := by
  induction h with
  | nil => intro its r; cases r; exact ⟨[], [], .nil, rfl, rfl, fun j T k b u e _ => by simp at e, fun y hy => by cases hy⟩
  | @cons T b k kw w v L ks xs h1 h2 h3 h4 h5 _ ih =>
    intro its r
    cases r with
    | cons r0 rr =>
      cases r0
      obtain ⟨ys, Ts, q1, q2, rfl, q4, q5⟩ := ih rr
      obtain ⟨its2, rv, tp, _⟩ := I.tuple (by rw [hK]; exact h1)
      cases rv with
      | cons rb rv =>
        cases rv with
        | cons ru rv =>
          cases rv
          cases rb
          rename_i u
          refine ⟨(k, b, u) :: ys, T :: Ts, .cons ⟨rfl, rfl, ru⟩ q1, by rw [List.length_cons, List.length_cons, q2], rfl, fun j T' k' b' u' e1 e2 => ?_, fun y hy => ?_⟩
          · cases j with
            | zero => cases e1; cases e2; exact tp
            | succ j => exact q4 j T' k' b' u' (by simpa using e1) (by simpa using e2)
          · rcases List.mem_cons.mp hy with rfl | hy
            · exact h2.at I hK h3 h4
            · exact q5 y hy
end
end
section
/-! ### more that raises: x = f(..), a, b = f(..), if .. : .. else: .., [f, g][i](..) -/
section
variable {X : Cx} {G : Mg} {C : Addr} {fld : Str} {W : WX} {e o : Expr} {es : List Expr} {pos : Pos} {st : Stmt} {rest : List Stmt}
structure HeldR (X : Cx) (G : Mg) (C : Addr) (fld : Str) (k : Nat) (f : Addr) (v : Fn) : Prop where
  ex : ∃ (fd : FuncData) (ps : List Str), FnOk X.prog X.w X.K X.mg X.base (L2.CX X.prog X.w) k f fd ps (spV G C fld v) ∧ PySem.W.keepIn X.K (.ref f) = true ∧ Binds X.K fd ps []
end
section
variable {X : Cx} {C : Addr} {fld : Str}
end
section
open PySem.W
end
/-! ### t * n -/
section
variable {X : Cx} {G : Mg}
noncomputable def tmulW (a b : Mv) (s : Ms) : Option (Mv × Ms) := match a, b with
  | .tup ws, .int k => cond (decide (2 ≤ k) && (decide (k ≤ 1000) && (Nat.ble 1 ws.length && Nat.ble ws.length 1000))) (newT (List.replicate k.toNat ws).flatten s) none
  | _, _ => none
theorem om_tmul (hK : X.K = G.K := by rfl) : OpR X (binaryOp .Mult) (q2R G tmulW) := opr_imp op_repT fun x y H Q ⟨p, s, a, b, w, s', S, da, db, q, k⟩ => by
  unfold tmulW at q
  split at q
  · rename_i ws j
    cases ec : (decide (2 ≤ j) && (decide (j ≤ 1000) && (Nat.ble 1 ws.length && Nat.ble ws.length 1000))) with
    | false => rw [ec] at q; cases q
    | true =>
      rw [ec] at q
      obtain ⟨c1, c2⟩ := Bool.and_eq_true_iff.mp ec
      obtain ⟨c3, c4⟩ := Bool.and_eq_true_iff.mp c2
      obtain ⟨c5, c6⟩ := Bool.and_eq_true_iff.mp c4
      have c1 := of_decide_eq_true c1
      have c3 := of_decide_eq_true c3
      have c5 := Nat.le_of_ble_eq_true c5
      have c6 := Nat.le_of_ble_eq_true c6
      cases da with
      | tup hh l =>
      cases db
      obtain ⟨vs, l, hh⟩ := (⟨_, l, hh⟩ : ∃ vs', DenL G p H ws vs' ∧ SqT G.K H _ vs')
      have ln := denL_len2 l
      obtain ⟨g1, g2, _⟩ := newT_ok S (denL_rep l j.toNat) q k
      exact ⟨_, j, vs, rfl, rfl, by rw [hK]; exact hh, (fun e => by rw [e] at ln; rw [ln] at c5; exact absurd c5 (by decide)), c1, c3, (ln ▸ c6), fun P hP => g2 P hP⟩
  · cases q
end

end
section
/-! ### except (A, B, C, D) as n -/
section
variable {X : Cx} {pins : List (Addr × Obj)} {σ : L2.St} {H : Hp} {s : Shared}
end
section
variable {X : Cx} {G : Mg} {C : Addr} {fld : Str}
end
/-! ### is, is not of truths -/
section
variable {X : Cx} {G : Mg}
noncomputable def isBW (neg : Bool) (a b : Mv) (s : Ms) : Option (Mv × Ms) := match a, b with
  | .bl x, .bl y => some (.bl (neg != decide (x = y)), s)
  | _, _ => none
theorem om_isnotB : OpR X (compareOp .IsNot) (q2R G (isBW true)) := opr_imp op_notBl fun x y H Q ⟨p, s, a, b, w, s', S, da, db, q, k⟩ => by
  cases db <;> try (cases a <;> cases q; done)
  cases da <;> try (cases q; done)
  cases q
  refine ⟨_, _, rfl, rfl, ?_⟩
  have z := k p _ H S Fra.refl (.bl _)
  simpa using z
end

end
section
/-! ### methods that raise, with what they raise; try: x = o.m(..) is None; except X as n: return n.f == e -/
section
variable {X : Cx} {G : Mg} {C : Addr} {fld : Str} {W : WX} {e o : Expr} {es : List Expr} {pos : Pos} {c : Nat}
end
section
variable {X : Cx} {G : Mg} {C : Addr} {fld : Str}
end

end
section
open PySem.SeqAt PySem.MeetsSeq
/-! ### x > y of tuples, asked up to the first unlike place -/
/-- the places of two tuples, one after the other: the first unlike one answers -/
inductive LexG (A : Around) (s : Shared) (fin : Bool) : List (Value × Value) → Bool → Prop
  | nil : LexG A s fin [] fin
  | yes {y x : Value} {t : List (Value × Value)} {k : Bool} : EqAt A s y x true → LexG A s fin t k → LexG A s fin ((y, x) :: t) k
  | no {y x : Value} {t : List (Value × Value)} {k : Bool} : EqAt A s y x false → SeqAt.RcOp .Gt A s y x k → LexG A s fin ((y, x) :: t) k
section
variable {A : Around} {s : Shared}
end
section
variable {X : Cx} {G : Mg}
end

end
section
/-! ### t * 0, t * 1 -/
section
variable {X : Cx} {G : Mg}
end

end
section
open PyProof.Rows.H
open PySem.W (EachIs alike alikeAll keyToks keyToksAll dataLt dataKind SortsAt dataType)
/-! ### sorted(d), whatever d's keys are (tuples that can be compared) -/
section
variable {X : Cx} {G : Mg}
end

end
section
open PyProof.Rows.H
/-! ### an empty tuple at an address (a default) -/
end
section
open PyProof.Rows.H
/-! ### list(d), whatever d's keys are -/
section
variable {X : Cx} {G : Mg}
end

end
section
open PyProof.Rows.H
/-! ### d.update(d2): tuples as keys, d2 of one entry at most -/
section
variable {X : Cx} {G : Mg} {p : List Addr} {pins : List (Addr × Obj)} {σ : L2.St} {H : Hp} {s : Shared}
end

end
section
/-! ### dict(d), where d has a tuple as its one key -/
section
variable {prog : Program} {w : World} {K : Type} [DecidableEq K] {A : Around} {E : Value → Shared → Prop} {s : Shared}
end
section
variable {X : Cx} {G : Mg}
end

end
section
/-! ### d.setdefault(k, x) of a dict with texts or whole numbers as keys -/
section
variable {X : Cx} {G : Mg} {o e f : Expr} {apos cpos : Pos}
end

end
section
open PyProof.Rows.H
open PySem.W (EachIs alike alikeAll keyToks keyToksAll dataLt dataKind SortsAt dataType)
/-! ### sorted(t), t a tuple of data -/
section
variable {X : Cx} {G : Mg}
end

end
section
/-! ### zip of a tuple and a list that may change -/
section
variable {X : Cx} {G : Mg}
end
end
section
/-! ### min of a list whose items can be compared up to their first unlike places -/
section
variable {X : Cx} {G : Mg}
end

end
section
/-! ### e.values() of a dict that does not change -/
section
variable {P : Program} {w : World} {K : PySem.W.Frag} {d : Addr} {o : Obj} {u : HO} {es : Array DictEntry} {ep : Nat} {ks : List (V × V)}
end
section
variable {X : Cx} {G : Mg} {e : Expr} {apos cpos : Pos}
end

end
section
/-! ### [..].count(True); three classes of exceptions told apart by it -/
section
variable {X : Cx}
end
section
variable {X : Cx} {C a dd : Addr} {fld y : Str} {ic : Nat}
end

end
section
/-! ### a list, or another one where it is empty -/
section
variable {X : Cx} {G : Mg} {a b : Expr} {rest : List Expr} {pos : Pos}
end

end
section
/-! ### sorted(set(l)), l a list of numbers -/
section
variable {P : Program} {w : World} {A : Around} {E : Value → Shared → Prop} {s : Shared}
end
section
variable {X : Cx} {G : Mg}
end

end
section
/-! ### a, b = a list -/
section
variable {X : Cx} {G : Mg} {pos : Pos} {e : Expr}
end

end
section
/-! ### what is told of a held exception stands in a new list -/
section
variable {X : Cx} {G : Mg} {C : Addr} {fld : Str}
/-- kept: all that was there is there still -/
def KeptH (H H' : Hp) : Prop := ∀ b o, H b = some o → H' b = some o
theorem KeptH.refl {H : Hp} : KeptH H H := fun _ _ h => h
theorem KeptH.upd {H H' : Hp} {t : Addr} {o : HO} (h : KeptH H H') (ht : H' t = none) : KeptH H (L2.upd H' t o) := fun b u e => by rw [upd_ne (ne_of_none (h b u e) ht)]; exact h b u e
/-- a list of flags told by three tests -/
theorem HeldV.kept {a dd : Addr} {ic : Nat} {σ : L2.St} {H H' : Hp} {v : V} (h : HeldV a dd fld ic σ H v) (k : KeptH H H') : HeldV a dd fld ic σ H' v := ⟨h.1, k _ _ h.2⟩
def FlagAt (jf : Nat) (bs : List Bool) (σ : L2.St) (H : Hp) : Prop := ∃ l, σ[jf]? = some (some (.ref l)) ∧ H l = some (.lst (bs.map V.bl))
theorem FlagAt.upd {jf : Nat} {bs : List Bool} {σ : L2.St} {H : Hp} {t : Addr} {o : HO} (h : FlagAt jf bs σ H) (ht : H t = none) : FlagAt jf bs σ (L2.upd H t o) := by
  obtain ⟨l, h1, h2⟩ := h
  exact ⟨l, h1, by rw [upd_ne (ne_of_none h2 ht)]; exact h2⟩
end

end
section
open PySem.W (EachIs alike alikeAll keyToks keyToksAll dataLt dataKind SortsAt dataType sortVals)
/-! ### list.sort with a key, whatever stays while the keys are asked -/
section
variable {prog : Program} {w : World} {A : Around} {E : Value → Shared → Prop} {s : Shared} {a kS : Addr} {b : Bool} {vs : List Value} {keys : Array Value} {e e1 : Nat} {P : PySem.Fin → Shared → Prop}
end
/-- what the key needs -/
structure KeyJ (prog : Program) (w : World) (A : Around) (f : Value) (a kS : Addr) (vs : List Value) (J : Shared → Prop) (V : Nat → Value → Shared → Prop) : Prop where
  keep : ∀ s h' tk, J s → (∀ b o, b ≠ kS → s.heap.get? b = some o → h'.get? b = some o) → J { s with heap := h', toks := tk }
  keepV : ∀ i k s h' tk, V i k s → (∀ b o, b ≠ kS → s.heap.get? b = some o → h'.get? b = some o) → V i k { s with heap := h', toks := tk }
  turn : ∀ i v (s : Shared) (oS oA : Obj) (Q : Value → Shared → Prop) (E : Value → Shared → Prop), vs[i]? = some v → J s → s.heap.get? kS = some oS → s.heap.get? a = some oA →
    (∀ k s', J s' → s'.heap.get? kS = some oS → s'.heap.get? a = some oA → V i k s' → (∀ j k', V j k' s → V j k' s') → Q k s') → wpAny (model prog w) A (call f [v]) Q E s
section
variable {prog : Program} {w : World} {A : Around} {E : Value → Shared → Prop} {s : Shared} {a kS : Addr} {vs : List Value} {e1 : Nat} {P : PySem.Fin → Shared → Prop} {J : Shared → Prop} {V : Nat → Value → Shared → Prop} {f : Value}
end
/-! ### sorted(xs, key=lambda x: (len(x), x)) in the mirror -/
section
variable {X : Cx} {G : Mg} {p : List Addr} {H : Hp}
end
section
variable {X : Cx} {pins : List (Addr × Obj)} {σ : L2.St} {H : Hp}
end
section
variable {X : Cx} {G : Mg}
end

end
section
/-! ### xs[::k], k told by the code, above nought -/
section
variable {X : Cx} {G : Mg} {e ke : Expr} {pos : Pos}
end

end
section
/-! ### a dict == an empty one -/
section
variable {X : Cx} {G : Mg}
end
/-! ### a, b = an item: a tuple or a list -/
section
variable {X : Cx} {G : Mg} {pos : Pos}
end
/-! ### if isinstance(e, A) and isinstance(e, B): return ("..", e.f); return ("..", e.g) if isinstance(e, M) and isinstance(e, B) else None -/
section
variable {X : Cx} {C a dd : Addr} {fld y : Str} {ic : Nat}
end

end
section
/-! ### a(..) if t else b(..) that raises; if isinstance(e, A): return e.f; return e.g if isinstance(e, B) and not isinstance(e, N) else None -/
section
variable {X : Cx} {G : Mg} {C : Addr} {fld : Str} {W : WX} {a b : Expr} {pos : Pos}
end
section
variable {X : Cx} {C a dd : Addr} {fld y : Str} {ic : Nat}
end

end
section
/-! ### sets of tuples of whole numbers and texts, fewer than 64 of them -/
section
variable {P : Program} {w : World} {A : Around} {E : Value → Shared → Prop} {s : Shared}
abbrev KX (P : Program) (w : World) (hp : Heap) (k : List Key) (b : Addr) : Prop := IsTupleKey (mixKind P w) hp k b
abbrev hK (P : Program) (w : World) (k : List Key) : Int := tupleKeyHash (mixKind P w) k
theorem KX.held {hp hp' : Heap} {k : List Key} {b : Addr} (x : KX P w hp k b) (g : ∀ c o, hp.get? c = some o → hp'.get? c = some o) : KX P w hp' k b :=
  let ⟨o, its, n, e, r⟩ := x
  ⟨o, its, n, g b o e, r⟩
theorem KX.but {hp hp' : Heap} {k : List Key} {a b : Addr} {o : Obj} {es : Array (Int × Value)} {ep : Nat} {t : SetTable} (x : KX P w hp k b) (e : hp.get? a = some o) (d : o.data = .set es ep t) (sb : Heap.SameBut a hp hp') : KX P w hp' k b := by
  obtain ⟨o1, its, n, e1, c, d1, r⟩ := x
  refine ⟨o1, its, n, ?_, c, d1, r⟩
  rw [sb.2 b fun z => ?_]
  · exact e1
  · rw [z, e] at e1
    cases e1
    rw [d] at d1
    cases d1
def Leaf (v : Value) : Prop := (∃ y t, v = Value.str y t) ∨ ∃ i t, v = Value.int i t
theorem leaf_of {k : List Key} {vs : List Value} (h : ItemsAre (mixKind P w) k vs) : ∀ v ∈ vs, Leaf v := by
  induction h with
  | nil => exact fun _ z => nomatch z
  | @cons y u _ _ hu _ ih =>
    intro v hv
    cases hv with
    | head =>
      rcases keyIs_shape hu with ⟨i, t, _, e⟩ | ⟨x, t, _, e⟩
      · exact .inr ⟨i, t, e⟩
      · exact .inl ⟨x, t, e⟩
    | tail _ hv => exact ih v hv
theorem cls_leaf (n : Nat) {v : Value} (h : Leaf v) : ofAClassStatement n v = pure false := by
  rcases h with ⟨y, t, rfl⟩ | ⟨y, t, rfl⟩ <;> cases n <;> rfl
theorem hby_leaf (n : Nat) {v : Value} (h : Leaf v) : ∃ b, hashByValue n v = pure b := by
  rcases h with ⟨y, t, rfl⟩ | ⟨y, t, rfl⟩
  · exact ⟨_, hby_txt n y t⟩
  · exact ⟨true, by cases n <;> rfl⟩
theorem cls_kup {k : List Key} {b : Addr} {Q : Bool → Shared → Prop} (hk : KX P w s.heap k b) (h : Q false s) : wpAny (model P w) A (ofAClassStatement 8 (.ref b)) Q E s := by
  have ty := hk.typeIs
  obtain ⟨o, its, n, e1, _, e2, e3⟩ := hk
  unfold ofAClassStatement
  refine wpAny_bind (wpAny_typeOf ty ?_)
  simp only [show (("tuple" : String) == "tuple") = true by decide, if_true, Bool.not_true, Bool.false_eq_true, if_false]
  refine wpAny_bind (wpAny_pure ?_)
  simp only [Bool.not_true, Bool.false_eq_true, if_false]
  refine wpAny_bind (wpAny_seqItems e1 e2 ?_)
  refine wpAny_bind ?_
  rw [← Array.forIn_toList]
  refine wpAny_forIn_list _ (fun l r z => (r.1 = none ∧ z = s) ∧ ∀ v ∈ l, Leaf v) _ (fun v l r z q => ?_) (fun r z q => ?_) _ _ ⟨⟨rfl, rfl⟩, leaf_of e3⟩
  · obtain ⟨⟨_, rfl⟩, hall⟩ := q
    rw [cls_leaf _ (hall v (List.mem_cons_self ..))]
    exact wpAny_bind (wpAny_pure (wpAny_pure ⟨⟨rfl, rfl⟩, fun u hu => hall u (List.mem_cons_of_mem _ hu)⟩))
  · obtain ⟨r1, r2⟩ := r
    obtain ⟨⟨q1, rfl⟩, _⟩ := q
    cases q1
    exact wpAny_pure h
theorem hby_kup {k : List Key} {b : Addr} {Q : Bool → Shared → Prop} (hk : KX P w s.heap k b) (h : ∀ c, Q c s) : wpAny (model P w) A (hashByValue 8 (.ref b)) Q E s := by
  have ty := hk.typeIs
  obtain ⟨o, its, n, e1, _, e2, e3⟩ := hk
  unfold hashByValue
  refine wpAny_bind (wpAny_specialOf ty F.slot_tuple_hash.lookup ?_)
  refine wpAny_bind (wpAny_seqItems e1 e2 ?_)
  refine wpAny_bind ?_
  simp only
  rw [← Array.forIn_toList]
  refine wpAny_forIn_list _ (fun l r z => z = s ∧ r.1 = none ∧ ∀ v ∈ l, Leaf v) _ (fun v l r z q => ?_) (fun r z q => ?_) _ _ ⟨rfl, rfl, leaf_of e3⟩
  · obtain ⟨rfl, hr, hall⟩ := q
    obtain ⟨b, e⟩ := hby_leaf 7 (hall v (List.mem_cons_self ..))
    rw [e]
    cases b with
    | false => exact wpAny_bind (wpAny_pure (wpAny_pure (wpAny_pure (h false))))
    | true => exact wpAny_bind (wpAny_pure (wpAny_pure ⟨rfl, rfl, fun u hu => hall u (List.mem_cons_of_mem _ hu)⟩))
  · obtain ⟨r1, r2⟩ := r
    obtain ⟨rfl, q1, _⟩ := q
    cases q1
    exact wpAny_pure (h true)
theorem quiet_kups {k : List Key} {b : Addr} {Q : Bool → Shared → Prop} (hk : KX P w s.heap k b) {ys : List Value} (hy : ∀ y ∈ ys, ∃ k' c, y = Value.ref c ∧ KX P w s.heap k' c) (h : Q false s) : wpAny (model P w) A (searchCouldBeSeen (.ref b) ys) Q E s := by
  unfold searchCouldBeSeen
  refine wpAny_bind (wpAny_forIn_list _ (fun l r z => (r.1 = none ∧ z = s) ∧ ∀ y ∈ l, y ∈ ys) _ (fun v l r z q => ?_) (fun r z q => ?_) _ _ ⟨⟨rfl, rfl⟩, fun _ z => z⟩)
  · obtain ⟨⟨_, rfl⟩, sub⟩ := q
    obtain ⟨k', c, rfl, hc⟩ := hy v (sub v (List.mem_cons_self ..))
    have fin : ∀ y ∈ l, y ∈ ys := fun u hu => sub u (List.mem_cons_of_mem _ hu)
    dsimp only
    split
    · exact wpAny_pure ⟨⟨rfl, rfl⟩, fin⟩
    · refine wpAny_bind (wpAny_eqIsQuiet_tuple hk ?_)
      refine wp_if_neg (by decide) (wpAny_bind (wpAny_eqIsQuiet_tuple hc ?_))
      refine wp_if_neg (by decide) (wpAny_bind (cls_kup hk ?_))
      refine wp_if_neg (by decide) (wpAny_bind (cls_kup hc ?_))
      exact wp_if_neg (by decide) (wpAny_pure ⟨⟨rfl, rfl⟩, fin⟩)
  · obtain ⟨r1, r2⟩ := r
    obtain ⟨⟨q1, rfl⟩, _⟩ := q
    cases q1
    exact wpAny_pure h
end

end
section
/-! ### such a set, looked through and added to -/
structure KSet (P : Program) (w : World) (hp : Heap) (a : Addr) (L : List (Addr × List Key)) (es : Array (Int × Value)) (ep : Nat) (t : SetTable) : Prop where
  at' : ∃ o, hp.get? a = some o ∧ o.ExactSet ∧ o.data = .set es ep t
  row : es.toList = L.map fun q => (hK P w q.2, Value.ref q.1)
  tab : TabOk t (L.map fun q => hK P w q.2)
  once : (L.map (·.2)).Nodup
  key : ∀ q ∈ L, KX P w hp q.2 q.1
  led : w.params.followText "set-order" = true ∨ t.led = true
  room : L.length * 5 < t.mask * 3
  few : L.length < 64
section
variable {P : Program} {w : World} {A : Around} {E : Value → Shared → Prop} {s : Shared} {a : Addr} {L : List (Addr × List Key)} {es : Array (Int × Value)} {ep : Nat} {t : SetTable}
theorem KSet.size {hp : Heap} (F : KSet P w hp a L es ep t) : es.size = L.length := by rw [← Array.length_toList, F.row, List.length_map]
theorem KSet.psz {hp : Heap} (F : KSet P w hp a L es ep t) : t.place.size = L.length := by rw [F.tab.sz, List.length_map]
theorem KSet.fit {hp : Heap} (F : KSet P w hp a L es ep t) : t.fits es.size = true := by
  have e1 := F.psz
  have e2 := F.size
  have e3 := F.room
  unfold SetTable.fits SetTable.fill
  rw [F.tab.dm]
  simp only [Bool.and_eq_true, beq_iff_eq, decide_eq_true_eq]
  exact ⟨by omega, by show t.place.size + 0 ≤ t.mask; omega⟩
theorem KSet.nth {hp : Heap} (F : KSet P w hp a L es ep t) {i : Nat} {q : Addr × List Key} (h : L[i]? = some q) : es[i]? = some (hK P w q.2, Value.ref q.1) := by
  have z := congrArg (fun l => l[i]?) F.row
  simp only [Array.getElem?_toList, List.getElem?_map, h, Option.map_some] at z
  exact z
theorem KSet.noway {hp : Heap} (F : KSet P w hp a L es ep t) : ¬ t.gaveWay = true := by
  unfold SetTable.gaveWay
  rcases F.tab.mok with e | e | e <;> rw [e] <;> decide
/-- the look, from the c-th probe on; K is the first free place, n the steps that are left -/
theorem klook {k : List Key} {x : Addr} {K : Nat} {Q : SetFound → Shared → Prop} (F : KSet P w s.heap a L es ep t) (hx : KX P w s.heap k x) (hu : A.units < cLine) (k1 : K < 10 * SetTable.turns t.mask) (k2 : (prb t (hK P w k) K).j ∉ t.place.toList) (k3 : ∀ c, c < K → (prb t (hK P w k) c).j ∈ t.place.toList)
    (yes : k ∈ L.map (·.2) → Q (.there none) s) (no : k ∉ L.map (·.2) → Q (.free (prb t (hK P w k) K).j false) s) (n : Nat) :
    ∀ (f c : Nat) (st : Option SetTable.Probe), K - c = n → c ≤ K → n < f → st.getD (t.probeStart (hK P w k)) = prb t (hK P w k) c →
      (∀ (i : Nat) (q : Addr × List Key), L[i]? = some q → q.2 = k → ∃ d, c ≤ d ∧ d < K ∧ t.place.toList[i]? = some (prb t (hK P w k) d).j) → wpAny (model P w) A (setSearchFrom a (.ref x) (hK P w k) true f st) Q E s := by
  induction n using Nat.strongRecOn with
  | _ n ih =>
    intro f c st hn hc hf hst ahead
    obtain ⟨f, rfl⟩ : ∃ g, f = g + 1 := ⟨f - 1, by omega⟩
    obtain ⟨o, e1, e2, e3⟩ := F.at'
    generalize eh : hK P w k = h at *
    have sh : ∀ d, L2.nth t.mask (prb t h c) d = prb t h (c + d) := fun d => (nth_add t.mask c _ d).symm
    have hashes : ∀ (i : Nat) (q : Addr × List Key), L[i]? = some q → ((es[i]?.map (·.1)).getD 0) = hK P w q.2 := fun i q hq => by rw [F.nth hq]; rfl
    -- nobody of the key has been passed before d
    have unmet : ∀ d' : Nat, (∀ (d i : Nat), d < d' → t.place.toList[i]? = some (L2.nth t.mask (prb t h c) d).j → ((es[i]?.map (·.1)).getD 0) ≠ h) → ∀ (i : Nat) (q : Addr × List Key), L[i]? = some q → q.2 = k → ∀ d, c ≤ d → t.place.toList[i]? = some (prb t h d).j → c + d' ≤ d := fun d' hno i q hq hk d hd hp => by
      apply Classical.byContradiction
      intro hlt
      refine hno (d - c) i (by omega) (by rw [sh, show c + (d - c) = d by omega]; exact hp) ?_
      rw [hashes i q hq, hk]
      exact eh
    rw [setSearchFrom_succ]
    refine wpAny_bind (wpAny_setState_of e1 e3 F.fit ?_)
    refine wp_if_neg F.noway ?_
    have go := go_spec t F.tab.ris F.tab.dm (fun i => (es[i]?.map (·.1)).getD 0) h (10 * SetTable.turns t.mask) (K - c) (prb t h c) (prb_dm t h c) (by omega)
      (fun d hd => by rw [sh]; exact k3 _ (by omega)) (by rw [sh, show c + (K - c) = K by omega]; exact k2)
    rw [hst]
    have pe : ∀ z, SetTable.probe.go t (fun i => (es[i]?.map (·.1)).getD 0) h (10 * SetTable.turns t.mask) (prb t h c) = z → t.probe (fun i => (es[i]?.map (·.1)).getD 0) h (prb t h c) = z := fun _ z => z
    rcases go with ⟨d, i, d1, d2, d3, d4, d5⟩ | ⟨d4, d5⟩
    · rw [pe _ d5]
      rw [sh] at d2
      have il : i < L.length := by
        have z := (List.getElem?_eq_some_iff.mp d2).1
        rw [Array.length_toList, F.psz] at z
        exact z
      obtain ⟨q, hq⟩ : ∃ q, L[i]? = some q := ⟨_, List.getElem?_eq_getElem il⟩
      have qm := List.mem_of_getElem? hq
      have tail : wpAny (model P w) A (searchRest a (.ref x) h true f es t (L2.nth t.mask (prb t h c) d).j i (L2.nth t.mask (prb t h c) (d + 1))) Q E s := by
        unfold searchRest
        rw [F.nth hq]
        refine wpAny_bind (wpAny_holding (wpAny_eqBool_tuple hu (F.key q qm) hx ?_))
        refine wpAny_bind (wpAny_setState_of e1 e3 F.fit ?_)
        by_cases ek : q.2 = k
        · exact wp_if_pos (by simp [ek]) (wpAny_pure (yes (ek ▸ List.mem_map_of_mem qm)))
        · refine wp_if_neg (by simp [ek]) ?_
          rw [sameMem]
          have live : t.slot (L2.nth t.mask (prb t h c) d).j = .live i := by rw [sh]; exact slot_live F.tab.ris d2
          simp only [if_true, live, F.nth hq]
          refine wpAny_bind (wpAny_isSame_ref_self (wpAny_bind (wpAny_pure ?_)))
          simp only [if_true]
          refine wp_if_neg (by simp [ek]) ?_
          refine ih (K - (c + (d + 1))) (by omega) f (c + (d + 1)) _ rfl (by omega) (by omega) (sh (d + 1)) fun j p hp hk => ?_
          obtain ⟨g, g1, g2, g3⟩ := ahead j p hp hk
          have g4 := unmet d d4 j p hp hk g g1 g3
          refine ⟨g, ?_, g2, g3⟩
          by_cases z : g = c + d
          · rw [z] at g3
            have l2 := slot_live F.tab.ris g3
            rw [sh] at live
            rw [live] at l2
            cases l2
            rw [hq] at hp
            cases hp
            exact absurd hk ek
          · omega
      by_cases tl : t.led = true
      · exact wp_if_neg (by simp [tl]) tail
      · refine wp_if_pos (by simp [tl]) (wpAny_bind (quiet_kups hx (fun y hy => ?_) (wp_if_neg (by decide) tail)))
        obtain ⟨e, he, rfl⟩ := List.mem_map.mp hy
        have he' : e ∈ es.toList := by
          have := (show e ∈ es ∧ e.1 = h by simpa using he).1
          simpa using this
        rw [F.row] at he'
        obtain ⟨p, hp, rfl⟩ := List.mem_map.mp he'
        exact ⟨p.2, p.1, rfl, F.key p hp⟩
    · rw [pe _ d5, sh, show c + (K - c) = K by omega]
      refine wpAny_pure (no fun hm => ?_)
      obtain ⟨q, qm, hk⟩ := List.mem_map.mp hm
      obtain ⟨i, hi⟩ := List.mem_iff_getElem?.mp qm
      obtain ⟨g, g1, g2, g3⟩ := ahead i q hi hk
      have := unmet (K - c) d4 i q hi hk g g1 g3
      omega
theorem klook0 {k : List Key} {x : Addr} {Q : SetFound → Shared → Prop} (F : KSet P w s.heap a L es ep t) (hx : KX P w s.heap k x) (hu : A.units < cLine) (yes : k ∈ L.map (·.2) → Q (.there none) s)
    (no : ∀ K, k ∉ L.map (·.2) → (prb t (hK P w k) K).j ∉ t.place.toList → (∀ c, c < K → (prb t (hK P w k) c).j ∈ t.place.toList) → Q (.free (prb t (hK P w k) K).j false) s) : wpAny (model P w) A (setSearch a (.ref x) (hK P w k) true) Q E s := by
  obtain ⟨K, k1, k2, k3⟩ := F.tab.first (by rw [List.length_map]; have := F.room; omega) (hK P w k)
  have tn : SetTable.turns t.mask ≤ 1000 := by rcases F.tab.mok with e | e | e <;> rw [e] <;> decide
  refine klook F hx hu k1 k2 k3 yes (fun z => no K z k2 k3) (K - 0) 100000 0 none rfl (Nat.zero_le _) (by omega) rfl fun i q hq hk => ?_
  have il := (List.getElem?_eq_some_iff.mp hq).1
  have pl : i < t.place.toList.length := by rw [Array.length_toList, F.psz]; exact il
  obtain ⟨c, c1, c2⟩ := F.tab.before k2 (i := i) (by rw [List.getElem?_map, hq, ← hk]; rfl) (List.getElem?_eq_getElem pl)
  exact ⟨c, Nat.zero_le _, c1, by rw [List.getElem?_eq_getElem pl]; exact congrArg some c2.symm⟩
/-! ### the table, laid anew when it is too full -/
theorem range_pick {α : Type} (L : List α) : (List.range L.length).filterMap (fun i => L[i]?) = L := by
  have e : (List.range L.length).map (fun i => L[i]?) = L.map some := List.ext_getElem (by simp) fun i h1 h2 => by
    simp only [List.length_map, List.length_range] at h1
    simp [List.getElem?_eq_getElem h1]
  have e2 : (List.range L.length).filterMap (fun i => L[i]?) = ((List.range L.length).map (fun i => L[i]?)).filterMap id := by rw [List.filterMap_map]; rfl
  rw [e2, e, List.filterMap_map]
  exact List.filterMap_some
theorem picked {α : Type} {f : α → Int × Value} {L : List α} {es : Array (Int × Value)} (row : es.toList = L.map f) {order : Array Nat} (pm : order.toList.Perm (List.range L.length)) :
    ∃ L2 : List α, L2.Perm L ∧ (order.filterMap (es[·]?)).toList = L2.map f ∧ (L2.map fun q => (f q).1) = order.toList.map fun i => (es.map (·.1)).getD i 0 := by
  have at_ : ∀ i : Nat, es[i]? = (L[i]?).map f := fun i => by rw [← Array.getElem?_toList, row, List.getElem?_map]
  refine ⟨order.toList.filterMap fun i => L[i]?, ?_, ?_, ?_⟩
  · have z := pm.filterMap fun i => L[i]?
    rwa [range_pick] at z
  · rw [Array.toList_filterMap, List.map_filterMap]
    exact congrArg (fun g => List.filterMap g order.toList) (funext at_)
  · have bd : ∀ i ∈ order.toList, i < L.length := fun i hi => List.mem_range.mp (pm.mem_iff.mp hi)
    generalize order.toList = l at bd
    induction l with
    | nil => rfl
    | cons i l ih =>
      have il := bd i (List.mem_cons_self ..)
      rw [List.filterMap_cons_some (List.getElem?_eq_getElem il), List.map_cons, List.map_cons, ih fun j hj => bd j (List.mem_cons_of_mem _ hj)]
      congr 1
      have e5 : (es.map (·.1))[i]? = some (f L[i]).1 := by rw [Array.getElem?_map, at_, List.getElem?_eq_getElem il]; rfl
      simp [Array.getD_eq_getD_getElem?, e5]
theorem krelay {o : Obj} {wanted M : Nat} {Q : Unit → Shared → Prop} (e1 : s.heap.get? a = some o) (e2 : o.ExactSet) (e3 : o.data = .set es ep t) (row : es.toList = L.map fun q => (hK P w q.2, Value.ref q.1)) (T : TabOk t (L.map fun q => hK P w q.2)) (ful : L.length ≤ t.mask)
    (once : (L.map (·.2)).Nodup) (key : ∀ q ∈ L, KX P w s.heap q.2 q.1) (led : w.params.followText "set-order" = true ∨ t.led = true) (few : L.length < 64) (sz : SetTable.sizeAbove wanted = M + 1) (mok : MaskOk M) (small : M < 128) (room : L.length * 5 < M * 3)
    (hQ : ∀ h2 L2 es2 ep2 t2, Heap.SameBut a s.heap h2 → KSet P w h2 a L2 es2 ep2 t2 → L2.Perm L → Q () { s with heap := h2 }) : wpAny (model P w) A (setRelay a wanted) Q E s := by
  have n1 : es.size = L.length := by rw [← Array.length_toList, row, List.length_map]
  have n2 : t.place.size = L.length := by rw [T.sz, List.length_map]
  have ft : t.fits es.size = true := by
    unfold SetTable.fits SetTable.fill
    rw [T.dm]
    simp only [Bool.and_eq_true, beq_iff_eq, decide_eq_true_eq]
    exact ⟨by omega, by show t.place.size + 0 ≤ t.mask; omega⟩
  obtain ⟨t2, order, r1, r2, r3, r4, r5, r6, r7⟩ := relaid_ok t (hs := es.map (·.1)) (wanted := wanted) (M := M) (by omega) mok (by rw [Array.size_map, n1]; omega)
  rw [Array.size_map, n1] at r2
  obtain ⟨L2, p1, p2, p3⟩ := picked (f := fun q => (hK P w q.2, Value.ref q.1)) row r2
  rw [← p3] at r3
  have n3 : (order.filterMap (es[·]?)).size = L.length := by rw [← Array.length_toList, p2, List.length_map, p1.length_eq]
  rw [setRelay_eq]
  refine wpAny_bind (wpAny_setState_of e1 e3 ft ?_)
  refine wp_if_neg (by rw [sizeLine_eq]; omega) ?_
  rw [r1]
  refine wpAny_bind ?_
  refine wp_if_neg (by rw [n3, n1]; simp) (wpAny_pure ?_)
  refine wpAny_storeSet_of e1 e3 ?_ (by rw [n3, sizeLine_eq]; omega)
  refine hQ _ L2 _ (ep + 1) t2 (Heap.SameBut.update ..) ⟨⟨_, store_at e1 e3, ⟨e2.1, e2.2.1, e2.2.2⟩, rfl⟩, p2, r3, (p1.map (·.2)).nodup_iff.mpr once, fun q hq => (key q (p1.mem_iff.mp hq)).but e1 e3 (Heap.SameBut.update ..), by rw [r5]; exact led, by rw [p1.length_eq, r4]; exact room, by rw [p1.length_eq]; exact few⟩ p1
end

end
section
section
variable {P : Program} {w : World} {A : Around} {E : Value → Shared → Prop} {s : Shared} {a : Addr} {L : List (Addr × List Key)} {es : Array (Int × Value)} {ep : Nat} {t : SetTable}
theorem KSet.held {hp hp' : Heap} (F : KSet P w hp a L es ep t) (g : ∀ c o, hp.get? c = some o → hp'.get? c = some o) : KSet P w hp' a L es ep t :=
  let ⟨o, e, r⟩ := F.at'
  ⟨⟨o, g a o e, r⟩, F.row, F.tab, F.once, fun q hq => (F.key q hq).held g, F.led, F.room, F.few⟩
theorem kadd {k : List Key} {x : Addr} {Q : Bool → Shared → Prop} (F : KSet P w s.heap a L es ep t) (hx : KX P w s.heap k x) (hu : A.units < cLine) (more : L.length + 1 < 64)
    (hQ : ∀ b h' L' es' ep' t', Heap.SameBut a s.heap h' → KSet P w h' a L' es' ep' t' → (k ∈ L.map (·.2) → L' = L) → (k ∉ L.map (·.2) → L'.Perm ((x, k) :: L)) → Q b { s with heap := h' }) :
    wpAny (model P w) A (setAddHashed a (.ref x) (hK P w k)) Q E s := by
  obtain ⟨o, e1, e2, e3⟩ := F.at'
  unfold setAddHashed
  refine wpAny_holding ?_
  rw [show (100000 : Nat) = 99999 + 1 from rfl, setAddHashedIn_succ]
  refine wpAny_bind (wpAny_setState_of e1 e3 F.fit ?_)
  refine wp_if_neg (by simp [byScan, Value.scannable]) ?_
  refine wpAny_bind (klook0 F hx hu (fun hm => ?_) fun K hm k2 k3 => ?_)
  · exact wpAny_pure (hQ false s.heap L es ep t (Heap.SameBut.refl ..) F (fun _ => rfl) fun z => absurd hm z)
  · refine wpAny_bind (wpAny_setState_of e1 e3 F.fit ?_)
    obtain ⟨c1, c2, c3, c4, c5, c6, c7, c8, c9⟩ := F.tab.put k2 k3
    dsimp only
    generalize ept : t.put (prb t (hK P w k) K).j = pt at c1 c3 c4 c5 c6 c7 c8 c9 ⊢
    obtain ⟨t1, j⟩ := pt
    dsimp only at c1 c3 c4 c5 c9 ⊢
    rw [← c1] at c2 c3
    have pm := put_perm L j (x, k)
    have row1 : (SetTable.insertAt es j (hK P w k, Value.ref x)).toList = (L.take j ++ (x, k) :: L.drop j).map fun q => (hK P w q.2, Value.ref q.1) := by
      rw [SetTable.toList_insertAt, F.row, List.map_append, List.map_cons, List.map_take, List.map_drop]
    have tab1 : TabOk t1 ((L.take j ++ (x, k) :: L.drop j).map fun q => hK P w q.2) := by
      rw [List.map_append, List.map_cons, List.map_take, List.map_drop]
      exact c3
    have len1 : (L.take j ++ (x, k) :: L.drop j).length = L.length + 1 := pm.length_eq
    have once1 : ((L.take j ++ (x, k) :: L.drop j).map (·.2)).Nodup := (pm.map (·.2)).nodup_iff.mpr (List.nodup_cons.mpr ⟨hm, F.once⟩)
    have sz1 : (SetTable.insertAt es j (hK P w k, Value.ref x)).size = L.length + 1 := by rw [← Array.length_toList, row1, List.length_map, len1]
    generalize SetTable.insertAt es j (hK P w k, Value.ref x) = es1 at row1 sz1 ⊢
    generalize L.take j ++ (x, k) :: L.drop j = L1 at pm row1 tab1 len1 once1
    -- whatever is told of the hash
    have fin : ∀ t2 : SetTable, TabOk t2 (L1.map fun q => hK P w q.2) → t2.mask = t.mask → t2.led = t.led → t2.fill = L.length + 1 → wpAny (model P w) A (do
        storeSet a es1 t2
        if !false && t2.tooFull then setRelay a (SetTable.grown (es.size + 1))
        return true) Q E s := fun t2 T2 m2 l2 f2 => by
      have rm := F.room
      refine wpAny_bind (wpAny_storeSet_of e1 e3 ?_ (by rw [sz1, sizeLine_eq]; omega))
      have sb : Heap.SameBut a s.heap (s.heap.update a (Obj.putSet es1 t2)) := Heap.SameBut.update ..
      have at2 := store_at (es' := es1) (t' := t2) e1 e3
      generalize s.heap.update a (Obj.putSet es1 t2) = h1 at sb at2 ⊢
      have key1 : ∀ q ∈ L1, KX P w h1 q.2 q.1 := fun q hq => by
        rcases List.mem_cons.mp (pm.mem_iff.mp hq) with rfl | hq
        · exact hx.but e1 e3 sb
        · exact (F.key q hq).but e1 e3 sb
      have led2 : w.params.followText "set-order" = true ∨ t2.led = true := by rw [l2]; exact F.led
      cases tf : t2.tooFull with
      | false =>
        refine wp_if_neg (by decide) (wpAny_pure (hQ true _ L1 es1 (ep + 1) t2 sb ⟨⟨_, at2, ⟨e2.1, e2.2.1, e2.2.2⟩, rfl⟩, row1, T2, once1, key1, led2, ?_, by omega⟩ (fun z => absurd z hm) fun _ => pm))
        unfold SetTable.tooFull at tf
        have := of_decide_eq_false tf
        omega
      | true =>
        unfold SetTable.tooFull at tf
        have tf := of_decide_eq_true tf
        have big : (t.mask = 7 ∧ L.length = 4) ∨ (t.mask = 31 ∧ L.length = 18) := by
          rcases F.tab.mok with e | e | e <;> omega
        have again : ∀ M, SetTable.sizeAbove (SetTable.grown (L.length + 1)) = M + 1 → MaskOk M → M < 128 → (L.length + 1) * 5 < M * 3 →
            wpAny (model P w) A (setRelay a (SetTable.grown (L.length + 1))) (fun _ s2 => wpAny (model P w) A (pure true) Q E s2) E { s with heap := h1 } := fun M g1 g2 g3 g4 =>
          krelay (s := { s with heap := h1 }) at2 ⟨e2.1, e2.2.1, e2.2.2⟩ rfl row1 T2 (by rcases big with ⟨e, e'⟩ | ⟨e, e'⟩ <;> omega) once1 key1 led2 (by omega) g1 g2 g3 (by omega) fun h2 L2 es2 ep2 t3 sb2 F2 p2 =>
            wpAny_pure (hQ true h2 L2 es2 ep2 t3 (sb.trans sb2) F2 (fun z => absurd z hm) fun _ => p2.trans pm)
        refine wp_if_pos (by decide) (wpAny_bind ?_)
        rw [F.size]
        rcases big with ⟨_, e'⟩ | ⟨_, e'⟩
        · exact again 31 (by rw [e']; exact size_20) (.inr (.inl rfl)) (by decide) (by omega)
        · exact again 127 (by rw [e']; exact size_76) (.inr (.inr rfl)) (by decide) (by omega)
    have f1 : t1.fill = L.length + 1 := by rw [c9, List.length_map]
    have m1 : t1.mask = t.mask := c4
    have both : ∀ b : Bool, wpAny (model P w) A (do
        storeSet a es1 (if b = true then t1 else { t1 with plain := false })
        if !false && (if b = true then t1 else { t1 with plain := false }).tooFull then setRelay a (SetTable.grown (es.size + 1))
        return true) Q E s := fun b => by
      cases b with
      | true => exact fin t1 tab1 m1 c5 f1
      | false => exact fin { t1 with plain := false } (tab_plain tab1 false) m1 c5 f1
    by_cases pl : t1.plain = true
    · rw [if_pos pl]
      exact wpAny_bind (hby_kup hx fun b => both b)
    · rw [if_neg pl]
      exact wpAny_bind (wpAny_pure (both true))
end

end
section
/-! ### set(l) for a list l of fewer than 64 tuples -/
/-- what the set holds behind i items -/
structure HoldsK (ks : List (Addr × List Key)) (i : Nat) (L : List (Addr × List Key)) : Prop where
  sub : ∀ q ∈ L, q ∈ ks
  all : ∀ q ∈ ks.take i, q.2 ∈ L.map (·.2)
  few : L.length ≤ i
theorem HoldsK.next {ks L L' : List (Addr × List Key)} {i : Nat} {q : Addr × List Key} (h : HoldsK ks i L) (e : ks[i]? = some q) (c1 : q.2 ∈ L.map (·.2) → L' = L) (c2 : q.2 ∉ L.map (·.2) → L'.Perm (q :: L)) : HoldsK ks (i + 1) L' := by
  have tk : ks.take (i + 1) = ks.take i ++ [q] := by rw [List.take_add_one, e]; rfl
  have qm := List.mem_of_getElem? e
  by_cases c : q.2 ∈ L.map (·.2)
  · rw [c1 c]
    refine ⟨h.sub, fun p hp => ?_, Nat.le_succ_of_le h.few⟩
    rw [tk, List.mem_append, List.mem_singleton] at hp
    rcases hp with hp | rfl
    · exact h.all p hp
    · exact c
  · have pm := c2 c
    refine ⟨fun p hp => ?_, fun p hp => ?_, ?_⟩
    · rcases List.mem_cons.mp (pm.mem_iff.mp hp) with rfl | hp
      · exact qm
      · exact h.sub p hp
    · refine (pm.map (·.2)).mem_iff.mpr ?_
      rw [tk, List.mem_append, List.mem_singleton] at hp
      rw [List.map_cons, List.mem_cons]
      rcases hp with hp | rfl
      · exact .inr (h.all p hp)
      · exact .inl rfl
    · rw [pm.length_eq, List.length_cons]
      exact Nat.succ_le_succ h.few
section
variable {prog : Program} {w : World} {A : Around} {R : Result → Shared → Prop} {I : Addr} {fp wr : List Addr} {G : Array GenState → Array GenState → Prop} {n : Nat} {P : Nat → Value → Prop} {St : Nat → Shared → Prop}
theorem loop_kups (W : WalksS prog w A.in1 I fp wr G n P St) (S : Addr) (hSf : S ∉ fp) (ks : List (Addr × List Key)) (hn : ks.length = n) (h4 : n < 64) (hval : ∀ i v, P i v → ∃ q, ks[i]? = some q ∧ v = .ref q.1) (hu : A.in1.units < cLine) (h0 : Heap) (hk : ∀ q ∈ ks, KX prog w h0 q.2 q.1) (nS : h0.get? S = none) (nw0 : ∀ b ∈ wr, h0.get? b = none) (k : Nat) :
    ∀ (i : Nat) (s : Shared), n - i = k → i ≤ n → St i s → (∀ b o, h0.get? b = some o → s.heap.get? b = some o) → (∃ L es ep t, KSet prog w s.heap S L es ep t ∧ HoldsK ks i L) →
      (∀ s' L es ep t, Moved (S :: wr) G s s' → KSet prog w s'.heap S L es ep t → HoldsK ks n L → (∀ b o, h0.get? b = some o → s'.heap.get? b = some o) → R (.ok (.ret .none)) s') → codeAny (model prog w) A (.builtin "set.update.loop" ⟨[.ref S, .ref I], []⟩) R s := by
  have nw : S ∉ wr := fun z => hSf (W.sub _ z)
  have into : ∀ b ∈ wr, b ∈ S :: wr := fun b z => List.mem_cons_of_mem _ z
  have stay : ∀ {s s' : Shared}, Moved wr G s s' → (∀ b o, h0.get? b = some o → s.heap.get? b = some o) → ∀ b o, h0.get? b = some o → s'.heap.get? b = some o := fun m g b o e => m.heap b o (fun z => by rw [nw0 b z] at e; cases e) (g b o e)
  have carry : ∀ {s s' : Shared} {L : List (Addr × List Key)} {i : Nat} {es : Array (Int × Value)} {ep : Nat} {t : SetTable}, Moved wr G s s' → (∀ b o, h0.get? b = some o → s'.heap.get? b = some o) → KSet prog w s.heap S L es ep t → HoldsK ks i L → KSet prog w s'.heap S L es ep t := fun m g F h => by
    obtain ⟨o, e, r⟩ := F.at'
    exact ⟨⟨o, m.heap S o nw e, r⟩, F.row, F.tab, F.once, fun q hq => (hk q (h.sub q hq)).held g, F.led, F.room, F.few⟩
  induction k with
  | zero =>
    intro i s hk0 hi st g0 hF hR
    obtain ⟨L, es, ep, t, F, h⟩ := hF
    have e : i = n := by omega
    refine codeAny_builtin PyProof.Rows.F.entry_set_update_loop ?_
    rw [Around.under_plainId PyProof.Rows.F.plain_set_update_loop]
    refine wpAny_bind (m := pyNext (.ref I)) (W.done s _ _ (e ▸ st) fun s' m => ?_)
    exact wpAny_pure (hR s' L es ep t (m.mono into) (carry m (stay m g0) F h) (e ▸ h) (stay m g0))
  | succ k ih =>
    intro i s hk0 hi st g0 hF hR
    obtain ⟨L, es, ep, t, F, h⟩ := hF
    have lt : i < n := by omega
    refine codeAny_builtin PyProof.Rows.F.entry_set_update_loop ?_
    rw [Around.under_plainId PyProof.Rows.F.plain_set_update_loop]
    refine wpAny_bind (m := pyNext (.ref I)) (W.item i s _ _ lt st fun v s' hP st' m => ?_)
    obtain ⟨q, hq, rfl⟩ := hval i v hP
    have g1 := stay m g0
    have hx := (hk q (List.mem_of_getElem? hq)).held g1
    refine wpAny_bind (m := holding [Value.ref q.1] (setAdd S (.ref q.1))) (wpAny_holding ?_)
    unfold setAdd
    refine wpAny_holding (wpAny_bind (wpAny_pyHash_tuple hu hx ?_))
    have F' := carry m g1 F h
    refine kadd (s := { s' with toks := s'.toks + (q.2.length + 1) }) F' hx hu (by have := h.few; omega) fun b h' L' es' ep' t' sb F2 c1 c2 => ?_
    have g2 : ∀ b o, h0.get? b = some o → h'.get? b = some o := fun b o e => by
      rw [sb.2 b fun z => by rw [z, nS] at e; cases e]
      exact g1 b o e
    refine wpAny_pure ⟨plainId_quiet PyProof.Rows.F.plain_set_update_loop _, ih (i + 1) _ (by omega) lt (W.frame _ s' _ _ st' (Nat.le_add_right _ _) fun b hb o eo => ?_) g2 ⟨L', es', ep', t', F2, h.next hq c1 c2⟩ fun s2 L2 es2 ep2 t2 m2 F3 h3 g3 => ?_⟩
    · rw [sb.2 b (fun z => hSf (z ▸ hb))]; exact eo
    · refine hR s2 L2 es2 ep2 t2 (Moved.trans W.gtrans ((m.mono into).then_heap (Nat.le_add_right _ _) fun b o hb eo => ?_) m2) F3 h3 g3
      rw [sb.2 b (fun z => hb (by rw [z]; exact List.mem_cons_self))]; exact eo
end
section
variable {prog : Program} {w : World} {A : Around} {E : Value → Shared → Prop} {s : Shared}
theorem kset_new {hp : Heap} {a : Addr} (e : hp.get? a = some (setO w)) : KSet prog w hp a [] #[] 0 (.fresh 0 0 (!w.params.followText "set-order")) :=
  ⟨⟨_, e, ⟨rfl, rfl, rfl⟩, rfl⟩, rfl, ⟨List.Pairwise.nil, rfl, rfl, .inl rfl, (fun _ z => (nomatch z)), (fun i h j z => by simp at z)⟩, List.nodup_nil, (fun _ z => (nomatch z)), by
    show _ ∨ (!w.params.followText "set-order") = true
    cases w.params.followText "set-order"
    · exact .inr rfl
    · exact .inl rfl, by show 0 * 5 < 7 * 3; decide, by decide⟩
theorem call_set_kups {l : Addr} {us : Array Value} {ks : List (Addr × List Key)} {Q : Value → Shared → Prop} (hh : A.handled = none) (hl : s.heap.IsList l us) (hv : us.toList = ks.map fun q => Value.ref q.1) (hk : ∀ q ∈ ks, KX prog w s.heap q.2 q.1) (h4 : ks.length < 64) (hu : A.units + 3 < cLine)
    (h : ∀ (h' : Heap) (tk : Nat) L es ep t, KSet prog w h' s.heap.objs.size L es ep t → HoldsK ks ks.length L → (∀ b o, s.heap.get? b = some o → h'.get? b = some o) → Q (.ref s.heap.objs.size) { s with heap := h', toks := tk }) :
    wpAny (model prog w) A (call (.type "set") [.ref l]) Q E s := by
  obtain ⟨c0, t0, m0⟩ := PySem.F.called_set.mro
  have m1 := PySem.F.called_set.made
  have m2 := PySem.F.called_set.sub
  have m3 := PySem.F.called_set.notType
  have m4 := PySem.F.called_set.canCreate
  have m5 := PySem.F.typeCall_set_1 (.ref l)
  apply wpAny_call
  apply codeAny_of_tree
  show wpAny _ _ (callAny (.type "set") ⟨[.ref l], []⟩) _ _ s
  refine wpAny_pure ⟨Code.quiet_builtin _ (by decide +kernel), ?_⟩
  refine codeAny_builtin PySem.F.entry_type_call ?_
  rw [Around.under_plain (weight_type_call_type "set" [Value.ref l] []) rfl]
  repeat any_goals (first | assumption | wp_step)
  refine codeAny_mono (code_set_led1 (.ref l) (E := E) (Q₁ := fun v s1 => v = .ref s.heap.objs.size ∧ s1 = { s with heap := s.heap.push (setO w) }) ⟨rfl, rfl⟩) fun r s1 hr => ?_
  cases r with
  | error e => exact hr
  | ok fl =>
    cases fl with
    | ret v =>
      obtain ⟨rfl, rfl⟩ := hr
      have gS : (s.heap.push (setO w)).get? s.heap.objs.size = some (setO w) := Heap.get?_push_size _ rfl
      have tS : Shared.TypeIs { s with heap := s.heap.push (setO w) } (.ref s.heap.objs.size) "set" := ⟨_, gS, rfl⟩
      have i1 := PySem.F.called_set.init.lookup
      have i2 := PySem.F.called_set.init.bind (.ref s.heap.objs.size)
      repeat any_goals (first | assumption | wp_step)
      refine codeAny_mono (codeAny_call_builtin (R := wants (fun r s2 => r = .none ∧ ∃ h' tk L es ep t, s2 = { s with heap := h', toks := tk } ∧ KSet prog w h' s.heap.objs.size L es ep t ∧ HoldsK ks ks.length L ∧ ∀ b o, s.heap.get? b = some o → h'.get? b = some o) E)
        PySem.F.called_set.init.plain PySem.F.entry_set_init (check_set_init_1 tS ?_)) fun r2 s2 hr2 => ?_
      · obtain ⟨⟨oc, od, oa, os⟩, g, c1, m, c2⟩ := hl
        simp only at c1 c2
        subst c1 c2
        have g1 : (s.heap.push (setO w)).get? l = some { cls := .type "list", dict := od, data := .seq us m, slots := os } := Heap.get?_push_of_some _ g
        have j1 := PySem.F.sub_list_set
        have j2 := PySem.F.sub_list_frozenset
        have j3 : (Value.type "list" == Value.type "dict") = false := by decide
        have hl1 : (s.heap.push (setO w)).IsList l us := ⟨_, g1, rfl, m, rfl⟩
        unfold Builtin.«set.__init__» noKeywords Builtin.Frozenset.updateFrom
        generalize eI : pyIter = PI
        wp_walk
        subst eI
        refine wpAny_pyIter_list hl1 (wpAny_bind (wpAny_runValue ?_))
        have ll : l < s.heap.objs.size := Heap.lt_size g
        have sz1 : (s.heap.push (setO w)).objs.size = s.heap.objs.size + 1 := Heap.size_push _ _
        have nl : l ≠ (s.heap.push (setO w)).objs.size := by rw [sz1]; exact Nat.ne_of_lt (Nat.lt_succ_of_lt ll)
        have nS : s.heap.objs.size ∉ [(s.heap.push (setO w)).objs.size, l] := fun z => by
          rcases List.mem_cons.mp z with z | z
          · rw [sz1] at z; exact Nat.ne_of_lt (Nat.lt_succ_self _) z
          · exact Nat.ne_of_gt ll (List.mem_singleton.mp z)
        have len : ks.length = us.size := by rw [← Array.length_toList, hv, List.length_map]
        have vals : ∀ (i : Nat) (v : Value), us[i]? = some v → ∃ q, ks[i]? = some q ∧ v = .ref q.1 := fun i v e => by
          rw [← Array.getElem?_toList, hv, List.getElem?_map] at e
          obtain ⟨q, e3, e4⟩ := Option.map_eq_some_iff.mp e
          exact ⟨q, e3, e4.symm⟩
        have noo : ∀ b, s.heap.objs.size ≤ b → s.heap.get? b = none := fun b hb => by
          cases q : s.heap.get? b with
          | none => rfl
          | some o => exact absurd (Heap.lt_size q) (Nat.not_lt.mpr hb)
        refine loop_kups ((Walks.list (show A.in1.in1.in1.handled = none from hh) _ l nl us).toS) s.heap.objs.size nS ks len (by omega) vals hu s.heap hk (noo _ (Nat.le_refl _)) (fun b hb => noo b (by rw [List.mem_singleton.mp hb, sz1]; exact Nat.le_succ _)) (us.size - 0) 0 _ rfl (Nat.zero_le _) ⟨⟨_, Heap.get?_push_size _ rfl, rfl, rfl⟩, hl1.push _⟩ (fun b o e => Heap.get?_push_of_some _ (Heap.get?_push_of_some _ e)) ⟨[], #[], 0, _, kset_new (Heap.get?_push_of_some _ gS), ⟨(fun _ z => (nomatch z)), (fun _ z => by simp at z), Nat.zero_le _⟩⟩ fun s3 L es ep t mv F3 h3 g3 => ?_
        obtain ⟨h', g', d', k', o'⟩ := s3
        obtain rfl : g' = s.gens := mv.gens
        obtain rfl : d' = s.drawn := mv.drawn
        obtain rfl : o' = s.os := mv.os
        exact wpAny_pure (show wpAny _ _ (ret Value.none) _ _ _ from wpAny_pure ⟨rfl, h', k', L, es, ep, t, rfl, F3, len ▸ h3, g3⟩)
      · cases r2 with
        | error e => exact hr2
        | ok fl2 =>
          cases fl2 with
          | ret v2 =>
            obtain ⟨rfl, h', tk, L, es, ep, t, rfl, F3, h3, g3⟩ := hr2
            repeat any_goals (first | assumption | wp_step)
            exact h _ _ _ _ _ _ F3 h3 g3
          | _ => exact hr2.elim
    | _ => exact hr.elim
end

end
section
open PyProof.Rows.H
open PySem.W (EachIs alike alikeAll keyToks keyToksAll dataLt dataKind SortsAt dataType)
/-! ### sorted(set(l)), l a list of steps: a word, a name, a number -/
def kMv : Key → Mv
  | .inl i => .int i
  | .inr x => .str x
def kPd : Key → PyData
  | .inl i => .int i
  | .inr x => .str x
def rowN (k : List Key) : Mv × PyData := (.tup (k.map kMv), .tuple (k.map kPd))
noncomputable def sortN (ks : List (List Key)) : List Mv := (isort leD (ks.map rowN)).map (·.1)
theorem toksN_inj : ∀ {a b : List Key}, keyToksAll (a.map kPd) = keyToksAll (b.map kPd) → a = b
  | [], [], _ => rfl
  | [], y :: _, h => by cases y <;> simp [kPd, keyToksAll, keyToks] at h
  | x :: _, [], h => by cases x <;> simp [kPd, keyToksAll, keyToks] at h
  | x :: a, y :: b, h => by
    cases x <;> cases y <;> simp only [kPd, List.map_cons, keyToksAll, keyToks, List.cons_append, List.nil_append, List.cons.injEq, Sum.inr.injEq, Sum.inl.injEq, true_and, reduceCtorEq, false_and] at h
    · rw [h.1, toksN_inj h.2]
    · rw [cps_inj h.1, toksN_inj h.2]
theorem rowN_tri {a b : List Key} (h1 : leD (rowN a) (rowN b) = true) (h2 : leD (rowN b) (rowN a) = true) : a = b := by
  have e1 : dLt (.tuple (b.map kPd)) (.tuple (a.map kPd)) = false := by simpa [leD, rowN] using h1
  have e2 : dLt (.tuple (a.map kPd)) (.tuple (b.map kPd)) = false := by simpa [leD, rowN] using h2
  have e := tks_tri (a := keyToks (.tuple (a.map kPd))) (b := keyToks (.tuple (b.map kPd))) e2 e1
  simp only [keyToks] at e
  exact toksN_inj e
theorem sortN_perm {k1 k2 : List (List Key)} (h : k1.Perm k2) : sortN k1 = sortN k2 := by
  unfold sortN
  have e : isort leD (k1.map rowN) = isort leD (k2.map rowN) := by
    refine List.Perm.eq_of_pairwise (le := fun a b => leD a b = true) (fun a b ha hb h1 h2 => ?_) (isort_pw leD_total _) (isort_pw leD_total _) ((isort_perm leD_total _).trans ((h.map rowN).trans (isort_perm leD_total _).symm))
    obtain ⟨x, _, rfl⟩ := List.mem_map.mp ((isort_perm leD_total _).mem_iff.mp ha)
    obtain ⟨y, _, rfl⟩ := List.mem_map.mp ((isort_perm leD_total _).mem_iff.mp hb)
    rw [rowN_tri h1 h2]
  rw [e]
theorem sortN_len (ks : List (List Key)) : (sortN ks).length = ks.length := by
  unfold sortN
  rw [List.length_map, (isort_perm leD_total _).length_eq, List.length_map]
noncomputable def ddN (l : List (List Key)) : List (List Key) := l.foldr (fun k acc => @ite _ (k ∈ acc) (Classical.propDecidable _) acc (k :: acc)) []
theorem ddN_mem : ∀ {l : List (List Key)} {k : List Key}, k ∈ ddN l ↔ k ∈ l
  | [], k => Iff.rfl
  | x :: l, k => by
    show k ∈ (@ite _ (x ∈ ddN l) (Classical.propDecidable _) (ddN l) (x :: ddN l)) ↔ _
    have ih := @ddN_mem l
    split
    · rename_i h
      rw [ih, List.mem_cons]
      exact ⟨.inr, fun z => z.elim (fun e => by rw [e]; exact ih.mp h) id⟩
    · rw [List.mem_cons, List.mem_cons, ih]
theorem ddN_nd : ∀ (l : List (List Key)), (ddN l).Nodup
  | [] => List.nodup_nil
  | x :: l => by
    show (@ite _ (x ∈ ddN l) (Classical.propDecidable _) (ddN l) (x :: ddN l)).Nodup
    split
    · exact ddN_nd l
    · rename_i h; exact List.nodup_cons.mpr ⟨h, ddN_nd l⟩
section
variable {X : Cx} {pins : List (Addr × Obj)} {σ : L2.St} {H : Hp} {s : Shared} {G : Mg} {p : List Addr}
theorem kV_Mv : ∀ k : Key, Den G p H (kMv k) (kV k)
  | .inl i => .int i
  | .inr x => .str x
theorem kx_of {b : Addr} {k : List Key} (I : Inv X pins σ H s) (h : SqT X.K H b (k.map kV)) : KX X.prog X.w s.heap k b := by
  obtain ⟨its, r, ⟨o, e1, e2, n, e3⟩, _⟩ := I.tuple h
  exact ⟨o, its.toArray, n, e1, e2, e3, by simpa using items_are r⟩
end

end
section
open PyProof.Rows.H
open PySem.W (EachIs alike alikeAll keyToks keyToksAll dataLt dataKind SortsAt dataType)
section
variable {X : Cx} {pins : List (Addr × Obj)} {σ : L2.St} {H : Hp} {s : Shared} {G : Mg} {p : List Addr}
theorem depthN_key (k : List Key) : (rowN k).2.depth ≤ 24 := by
  have all : ∀ l : List Key, PyData.depthAll (l.map kPd) ≤ 8 := by
    intro l
    induction l with
    | nil => simp [PyData.depthAll]
    | cons x l ih => cases x <;> (simp [PyData.depthAll, PyData.depth, kPd]; omega)
  have := all k
  simp only [rowN, PyData.depth]
  omega
theorem den_kups : ∀ (k : List Key), DenL G p H (k.map kMv) (k.map kV)
  | [] => .nil
  | x :: k => .cons (kV_Mv x) (den_kups k)
theorem dp_kup {K : PySem.W.Frag} : ∀ k : Key, Dp K H (kV k) (kPd k)
  | .inl i => .int i
  | .inr x => .str x
theorem dp_kups {K : PySem.W.Frag} : ∀ (k : List Key), DpAll K H (k.map kV) (k.map kPd)
  | [] => .nil
  | x :: k => .cons (dp_kup x) (dp_kups k)
theorem denN_rows : ∀ (L : List (Addr × List Key)), (∀ q ∈ L, SqT G.K H q.1 (q.2.map kV)) → DenL G p H (L.map fun q => (rowN q.2).1) (L.map fun q => V.ref q.1)
  | [], _ => .nil
  | q :: L, h => .cons (.tup (h q (List.mem_cons_self ..)) (den_kups q.2)) (denN_rows L fun r hr => h r (List.mem_cons_of_mem _ hr))
theorem dpN_rows {K : PySem.W.Frag} : ∀ (L : List (Addr × List Key)), (∀ q ∈ L, SqT K H q.1 (q.2.map kV)) → DpAll K H (L.map fun q => V.ref q.1) (L.map fun q => (rowN q.2).2)
  | [], _ => .nil
  | q :: L, h => .cons (.tup (h q (List.mem_cons_self ..)) (dp_kups q.2)) (dpN_rows L fun r hr => h r (List.mem_cons_of_mem _ hr))
theorem valsN_rows : ∀ (L : List (Addr × List Key)), Vals (L.map fun q => V.ref q.1) (L.map fun q => Value.ref q.1)
  | [] => .nil
  | _ :: L => .cons rfl (valsN_rows L)
theorem zipN_rows : ∀ (L : List (Addr × List Key)), (L.map fun q => (rowN q.2).1).zip (L.map fun q => (rowN q.2).2) = (L.map (·.2)).map rowN
  | [] => rfl
  | q :: L => by rw [List.map_cons, List.map_cons, List.zip_cons_cons, zipN_rows L]; rfl
end

end
section
section
variable {X : Cx} {G : Mg}
end

end
section
/-! ### sets of texts, fewer than 64 of them: one more text -/
theorem map_perm {α β : Type} {f : α → β} {l : List β} {L : List α} (h : l.Perm (L.map f)) : ∃ L' : List α, l = L'.map f ∧ L'.Perm L := by
  generalize e : L.map f = b at h
  induction h generalizing L with
  | nil => exact ⟨[], rfl, by rw [List.map_eq_nil_iff.mp e]⟩
  | cons x _ ih =>
    obtain ⟨y, L0, rfl, rfl, e2⟩ := List.map_eq_cons_iff.mp e
    obtain ⟨L', rfl, p⟩ := ih e2
    exact ⟨y :: L', rfl, p.cons y⟩
  | swap x y l =>
    obtain ⟨u, L0, rfl, rfl, e2⟩ := List.map_eq_cons_iff.mp e
    obtain ⟨v, L1, rfl, rfl, e3⟩ := List.map_eq_cons_iff.mp e2
    exact ⟨v :: u :: L1, by rw [List.map_cons, List.map_cons, e3], .swap ..⟩
  | trans _ _ ih1 ih2 =>
    obtain ⟨L1, rfl, p1⟩ := ih2 e
    obtain ⟨L2, rfl, p2⟩ := ih1 rfl
    exact ⟨L2, rfl, p2.trans p1⟩
abbrev tE (P : Program) (w : World) (q : Str × Tok) : Int × Value := ((PySem.strKind P w).hash q.1, Value.str q.1 q.2)
structure TSet (P : Program) (w : World) (hp : Heap) (a : Addr) (L : List (Str × Tok)) (es : Array (Int × Value)) (ep : Nat) (t : SetTable) : Prop where
  at' : ∃ o, hp.get? a = some o ∧ o.ExactSet ∧ o.data = .set es ep t
  row : es.toList = L.map (tE P w)
  fit : t.fits es.size = true
  once : (L.map (·.1)).Nodup
  ris : Ris t.place.toList
  led : w.params.followText "set-order" = true ∨ t.led = true
  few : L.length < 64
section
variable {P : Program} {w : World} {A : Around} {E : Value → Shared → Prop} {s : Shared} {a : Addr} {L : List (Str × Tok)} {es : Array (Int × Value)} {ep : Nat} {t : SetTable}
theorem TSet.held {hp hp' : Heap} (F : TSet P w hp a L es ep t) (g : ∀ o, hp.get? a = some o → hp'.get? a = some o) : TSet P w hp' a L es ep t :=
  let ⟨o, e, r⟩ := F.at'
  ⟨⟨o, g o e, r⟩, F.row, F.fit, F.once, F.ris, F.led, F.few⟩
theorem TSet.size {hp : Heap} (F : TSet P w hp a L es ep t) : es.size = L.length := by rw [← Array.length_toList, F.row, List.length_map]
theorem tE_is (x : Str) (q : Str × Tok) : (PySem.strKind P w).is x (tE P w q).2 = decide (q.1 = x) := by
  show (Value.isStrOf x (Value.str q.1 q.2)) = _
  unfold Value.isStrOf
  by_cases c : q.1 = x
  · simp [c]
  · simp [c]
theorem tE_els (L : List (Str × Tok)) : ElemsOf (PySem.strKind P w) (L.map (tE P w)) := fun e he => by
  obtain ⟨q, _, rfl⟩ := List.mem_map.mp he
  exact ⟨⟨q.1, by rw [tE_is]; simp, rfl⟩, rfl⟩
theorem tfind_some {x : Str} {j : Nat} (h : (L.map (tE P w)).findIdx? (fun e => (PySem.strKind P w).is x e.2) = some j) : x ∈ L.map (·.1) := by
  obtain ⟨hj, pj, _⟩ := List.findIdx?_eq_some_iff_getElem.mp h
  rw [List.getElem_map, tE_is] at pj
  rw [← of_decide_eq_true pj]
  exact List.mem_map_of_mem (List.getElem_mem _)
theorem tfind_none {x : Str} (h : (L.map (tE P w)).findIdx? (fun e => (PySem.strKind P w).is x e.2) = none) : x ∉ L.map (·.1) := fun z => by
  obtain ⟨q, hq, e⟩ := List.mem_map.mp z
  have c := List.findIdx?_eq_none_iff.mp h _ (List.mem_map_of_mem (f := tE P w) hq)
  rw [tE_is] at c
  simp [e] at c
theorem tset_of {h : Heap} {o : Obj} {L1 : List (Str × Tok)} {es1 : Array (Int × Value)} {ep1 : Nat} {t1 : SetTable} (e1 : h.get? a = some o) (e2 : o.ExactSet) (e3 : o.data = .set es1 ep1 t1) (row : es1.toList.Perm (L1.map (tE P w))) (fit : t1.fits es1.size = true) (once : (L1.map (·.1)).Nodup)
    (ris : Ris t1.place.toList) (led : w.params.followText "set-order" = true ∨ t1.led = true) (few : L1.length < 64) : ∃ L2, TSet P w h a L2 es1 ep1 t1 ∧ L2.Perm L1 := by
  obtain ⟨L2, r, p⟩ := map_perm row
  exact ⟨L2, ⟨⟨o, e1, e2, e3⟩, r, fit, (p.map (·.1)).nodup_iff.mpr once, ris, led, by rw [p.length_eq]; exact few⟩, p⟩
/-- the rest of an addition: the new table stored, laid anew if it is too full -/
theorem ttail {g : Bool → Sem Unit} (gq : ∀ (c : Bool) (s1 : Shared) (Z : Unit → Shared → Prop), Z () s1 → wpAny (model P w) A (g c) Z E s1) {o : Obj} {L1 : List (Str × Tok)} {es1 : Array (Int × Value)} {t1 : SetTable} {dm : Bool} {R : Option Bool → Shared → Prop} (e1 : s.heap.get? a = some o) (e2 : o.ExactSet) (e3 : o.data = .set es ep t) (row : es1.toList.Perm (L1.map (tE P w))) (fit : t1.fits es1.size = true) (once : (L1.map (·.1)).Nodup)
    (ris : Ris t1.place.toList) (led : w.params.followText "set-order" = true ∨ t1.led = true) (few : L1.length < 64)
    (k : ∀ h' L' es' ep' t', Heap.SameBut a s.heap h' → TSet P w h' a L' es' ep' t' → L'.Perm L1 → R (some true) { s with heap := h' }) :
    wpAny (model P w) A (do
      storeSet a es1 t1
      if (!dm && t1.tooFull) = true then do
        g (relayAll t1 es1 (SetTable.grown es1.size)).2.2
        storeSet a (relayAll t1 es1 (SetTable.grown es1.size)).1 (relayAll t1 es1 (SetTable.grown es1.size)).2.1
        pure (some true)
      else pure (some true)) R E s := by
  have n1 : es1.size = L1.length := by rw [← Array.length_toList, row.length_eq, List.length_map]
  have lt : es1.size ≤ sizeLine := by rw [n1, sizeLine_eq]; omega
  refine wpAny_bind (wpAny_storeSet_of e1 e3 ?_ lt)
  have at1 := store_at (es' := es1) (t' := t1) e1 e3
  have sb1 := Heap.SameBut.update s.heap a (Obj.putSet es1 t1)
  generalize s.heap.update a (Obj.putSet es1 t1) = h1 at at1 sb1 ⊢
  by_cases c : (!dm && t1.tooFull) = true
  · rw [if_pos c]
    have pm := relayAll_perm t1 es1 (SetTable.grown es1.size)
    have ft := relayAll_fits t1 es1 (SetTable.grown es1.size)
    have rs := relayAll_ris t1 es1 (SetTable.grown es1.size)
    have ld := relayAll_led t1 es1 (SetTable.grown es1.size)
    generalize relayAll t1 es1 (SetTable.grown es1.size) = Z at pm ft rs ld ⊢
    obtain ⟨es2, t2, gave⟩ := Z
    dsimp only at pm ft rs ld ⊢
    have n2 : es2.size = es1.size := by rw [← Array.length_toList, pm.length_eq, Array.length_toList]
    refine wpAny_bind (gq _ _ _ ?_)
    refine wpAny_bind (wpAny_storeSet_of at1 rfl ?_ (by rw [n2]; exact lt))
    have at2 := store_at (es' := es2) (t' := t2) at1 rfl
    have sb2 := Heap.SameBut.update h1 a (Obj.putSet es2 t2)
    obtain ⟨L2, F2, p2⟩ := tset_of (P := P) (w := w) at2 ⟨e2.1, e2.2.1, e2.2.2⟩ rfl (pm.trans row) ft once rs (by rw [ld]; exact led) few
    exact wpAny_pure (k _ L2 _ _ _ (sb1.trans sb2) F2 p2)
  · rw [if_neg c]
    obtain ⟨L2, F2, p2⟩ := tset_of (P := P) (w := w) at1 ⟨e2.1, e2.2.1, e2.2.2⟩ rfl row fit once ris led few
    exact wpAny_pure (k _ L2 _ _ _ sb1 F2 p2)
theorem tadd {x : Str} {tk : Tok} {Q : Bool → Shared → Prop} (F : TSet P w s.heap a L es ep t) (more : L.length + 1 < 64)
    (hQ : ∀ b h' L' es' ep' t', Heap.SameBut a s.heap h' → TSet P w h' a L' es' ep' t' → (x ∈ L.map (·.1) → L' = L) → (x ∉ L.map (·.1) → L'.Perm ((x, tk) :: L)) → Q b { s with heap := h' }) :
    wpAny (model P w) A (setAddHashed a (.str x tk) ((PySem.strKind P w).hash x)) Q E s := by
  obtain ⟨o, e1, e2, e3⟩ := F.at'
  have els : ElemsOf (PySem.strKind P w) es.toList := by rw [F.row]; exact tE_els L
  have ny : es.size < scanBound := by rw [F.size]; have := F.few; unfold scanBound; omega
  unfold setAddHashed setAddHashedIn
  refine wpAny_holding (wpAny_bind (wpAny_setState_of e1 e3 F.fit ?_))
  dsimp only
  rw [byScan_of (x := Value.str x tk) rfl ny els, if_pos rfl]
  unfold setAddByScan
  refine wpAny_bind (wpAny_bind (wpAny_rule (wpAny_bind (wpAny_setScan_of (strKind_is P w x tk) e1 e3 F.fit els ?_))))
  rw [F.row]
  cases hf : (L.map (tE P w)).findIdx? (fun e => (PySem.strKind P w).is x e.2) with
  | some j =>
    have hx := tfind_some hf
    exact wpAny_pure (wpAny_pure (hQ false s.heap L es ep t (Heap.SameBut.refl ..) F (fun _ => rfl) fun z => absurd hx z))
  | none =>
    have hx := tfind_none hf
    dsimp only
    have pm := layNew_perm t es ((PySem.strKind P w).hash x) (.str x tk)
    have ft := layNew_fits t es ((PySem.strKind P w).hash x) (.str x tk)
    have rs := layNew_ris t es ((PySem.strKind P w).hash x) (.str x tk) F.ris
    have ld := layNew_led t es ((PySem.strKind P w).hash x) (.str x tk)
    generalize layNew t es ((PySem.strKind P w).hash x) (.str x tk) = Z at pm ft rs ld ⊢
    obtain ⟨es1, t1, dm, gave⟩ := Z
    dsimp only at pm ft rs ld ⊢
    have row1 : es1.toList.Perm (((x, tk) :: L).map (tE P w)) := by
      refine pm.trans ?_
      rw [Array.toList_push, F.row]
      exact List.perm_append_comm
    have once1 : (((x, tk) :: L).map (·.1)).Nodup := List.nodup_cons.mpr ⟨hx, F.once⟩
    have led1 : w.params.followText "set-order" = true ∨ t1.led = true := by rw [ld]; exact F.led
    have fin : ∀ h' L' es' ep' t', Heap.SameBut a s.heap h' → TSet P w h' a L' es' ep' t' → L'.Perm ((x, tk) :: L) → Q true { s with heap := h' } := fun h' L' es' ep' t' sb F' p => hQ true h' L' es' ep' t' sb F' (fun z => absurd z hx) fun _ => p
    have gw : ∀ (c : Bool) {s1 : Shared} {Z : Unit → Shared → Prop}, Z () s1 → wpAny (model P w) A (match c with | true => rule "set.scan.the-table-gave-way" | false => pure ()) Z E s1 := fun c s1 Z q => by
      cases c
      · exact wpAny_pure q
      · exact wpAny_rule q
    refine wpAny_bind (gw _ ?_)
    by_cases pl : t1.plain = true
    · rw [if_pos pl]
      refine wpAny_bind ?_
      rw [hashByValue_scannable 8 (x := Value.str x tk) rfl]
      refine wpAny_pure ?_
      refine ttail (L1 := (x, tk) :: L) (fun c s1 Z q => gw c q) e1 e2 e3 row1 ?_ once1 ?_ ?_ more fun h' L' es' ep' t' sb F' p => wpAny_pure (fin h' L' es' ep' t' sb F' p)
      · split
        · exact ft
        · exact SetTable.fits_plain_off ft
      · split <;> exact rs
      · split <;> exact led1
    · rw [if_neg pl]
      refine wpAny_bind (wpAny_pure ?_)
      simp only [↓reduceIte]
      exact ttail (L1 := (x, tk) :: L) (fun c s1 Z q => gw c q) e1 e2 e3 row1 ft once1 rs led1 more fun h' L' es' ep' t' sb F' p => wpAny_pure (fin h' L' es' ep' t' sb F' p)
end

end
section
/-! ### set(l): a list or a tuple of fewer than 64 texts; a tuple of fewer than 64 tuples -/
structure HoldsT (ks : List (Str × Tok)) (i : Nat) (L : List (Str × Tok)) : Prop where
  sub : ∀ q ∈ L, q ∈ ks
  all : ∀ q ∈ ks.take i, q.1 ∈ L.map (·.1)
  few : L.length ≤ i
theorem HoldsT.next {ks L L' : List (Str × Tok)} {i : Nat} {q : Str × Tok} (h : HoldsT ks i L) (e : ks[i]? = some q) (c1 : q.1 ∈ L.map (·.1) → L' = L) (c2 : q.1 ∉ L.map (·.1) → L'.Perm (q :: L)) : HoldsT ks (i + 1) L' := by
  have tk : ks.take (i + 1) = ks.take i ++ [q] := by rw [List.take_add_one, e]; rfl
  have qm := List.mem_of_getElem? e
  by_cases c : q.1 ∈ L.map (·.1)
  · rw [c1 c]
    refine ⟨h.sub, fun p hp => ?_, Nat.le_succ_of_le h.few⟩
    rw [tk, List.mem_append, List.mem_singleton] at hp
    rcases hp with hp | rfl
    · exact h.all p hp
    · exact c
  · have pm := c2 c
    refine ⟨fun p hp => ?_, fun p hp => ?_, ?_⟩
    · rcases List.mem_cons.mp (pm.mem_iff.mp hp) with rfl | hp
      · exact qm
      · exact h.sub p hp
    · refine (pm.map (·.1)).mem_iff.mpr ?_
      rw [tk, List.mem_append, List.mem_singleton] at hp
      rw [List.map_cons, List.mem_cons]
      rcases hp with hp | rfl
      · exact .inr (h.all p hp)
      · exact .inl rfl
    · rw [pm.length_eq, List.length_cons]
      exact Nat.succ_le_succ h.few
section
variable {prog : Program} {w : World} {A : Around} {R : Result → Shared → Prop} {I : Addr} {fp wr : List Addr} {G : Array GenState → Array GenState → Prop} {n : Nat} {P : Nat → Value → Prop} {St : Nat → Shared → Prop}
theorem loop_txQ (W : WalksS prog w A.in1 I fp wr G n P St) (S : Addr) (hSf : S ∉ fp) (ks : List (Str × Tok)) (hn : ks.length = n) (h4 : n < 64) (hval : ∀ i v, P i v → ∃ q, ks[i]? = some q ∧ v = .str q.1 q.2) (h0 : Heap) (nS : h0.get? S = none) (nw0 : ∀ b ∈ wr, h0.get? b = none) (k : Nat) :
    ∀ (i : Nat) (s : Shared), n - i = k → i ≤ n → St i s → (∀ b o, h0.get? b = some o → s.heap.get? b = some o) → (∃ L es ep t, TSet prog w s.heap S L es ep t ∧ HoldsT ks i L) →
      (∀ s' L es ep t, Moved (S :: wr) G s s' → TSet prog w s'.heap S L es ep t → HoldsT ks n L → (∀ b o, h0.get? b = some o → s'.heap.get? b = some o) → R (.ok (.ret .none)) s') → codeAny (model prog w) A (.builtin "set.update.loop" ⟨[.ref S, .ref I], []⟩) R s := by
  have nw : S ∉ wr := fun z => hSf (W.sub _ z)
  have into : ∀ b ∈ wr, b ∈ S :: wr := fun b z => List.mem_cons_of_mem _ z
  have stay : ∀ {s s' : Shared}, Moved wr G s s' → (∀ b o, h0.get? b = some o → s.heap.get? b = some o) → ∀ b o, h0.get? b = some o → s'.heap.get? b = some o := fun m g b o e => m.heap b o (fun z => by rw [nw0 b z] at e; cases e) (g b o e)
  induction k with
  | zero =>
    intro i s hk0 hi st g0 hF hR
    obtain ⟨L, es, ep, t, F, h⟩ := hF
    have e : i = n := by omega
    refine codeAny_builtin PyProof.Rows.F.entry_set_update_loop ?_
    rw [Around.under_plainId PyProof.Rows.F.plain_set_update_loop]
    refine wpAny_bind (m := pyNext (.ref I)) (W.done s _ _ (e ▸ st) fun s' m => ?_)
    exact wpAny_pure (hR s' L es ep t (m.mono into) (F.held fun o eo => m.heap S o nw eo) (e ▸ h) (stay m g0))
  | succ k ih =>
    intro i s hk0 hi st g0 hF hR
    obtain ⟨L, es, ep, t, F, h⟩ := hF
    have lt : i < n := by omega
    refine codeAny_builtin PyProof.Rows.F.entry_set_update_loop ?_
    rw [Around.under_plainId PyProof.Rows.F.plain_set_update_loop]
    refine wpAny_bind (m := pyNext (.ref I)) (W.item i s _ _ lt st fun v s' hP st' m => ?_)
    obtain ⟨q, hq, rfl⟩ := hval i v hP
    have g1 := stay m g0
    refine wpAny_bind (m := holding [Value.str q.1 q.2] (setAdd S (.str q.1 q.2))) (wpAny_holding ?_)
    unfold setAdd
    refine wpAny_holding (wpAny_bind ((PySem.strKind prog w).pyHash (strKind_is prog w q.1 q.2) ?_))
    have F' := F.held fun o eo => m.heap S o nw eo
    refine tadd (s := { s' with toks := s'.toks + 1 }) F' (by have := h.few; omega) fun b h' L' es' ep' t' sb F2 c1 c2 => ?_
    have g2 : ∀ b o, h0.get? b = some o → h'.get? b = some o := fun b o e => by
      rw [sb.2 b fun z => by rw [z, nS] at e; cases e]
      exact g1 b o e
    refine wpAny_pure ⟨plainId_quiet PyProof.Rows.F.plain_set_update_loop _, ih (i + 1) _ (by omega) lt (W.frame _ s' _ _ st' (Nat.le_add_right _ _) fun b hb o eo => ?_) g2 ⟨L', es', ep', t', F2, h.next hq c1 c2⟩ fun s2 L2 es2 ep2 t2 m2 F3 h3 g3 => ?_⟩
    · rw [sb.2 b (fun z => hSf (z ▸ hb))]; exact eo
    · refine hR s2 L2 es2 ep2 t2 (Moved.trans W.gtrans ((m.mono into).then_heap (Nat.le_add_right _ _) fun b o hb eo => ?_) m2) F3 h3 g3
      rw [sb.2 b (fun z => hb (by rw [z]; exact List.mem_cons_self))]; exact eo
end
section
variable {prog : Program} {w : World} {A : Around} {E : Value → Shared → Prop} {s : Shared}
theorem tset_new {hp : Heap} {a : Addr} (e : hp.get? a = some (setO w)) : TSet prog w hp a [] #[] 0 (.fresh 0 0 (!w.params.followText "set-order")) :=
  ⟨⟨_, e, ⟨rfl, rfl, rfl⟩, rfl⟩, rfl, by rfl, List.nodup_nil, List.Pairwise.nil, by
    show _ ∨ (!w.params.followText "set-order") = true
    cases w.params.followText "set-order"
    · exact .inr rfl
    · exact .inl rfl, by decide⟩
theorem call_set_kupsT {l : Addr} {us : Array Value} {ks : List (Addr × List Key)} {Q : Value → Shared → Prop} (hh : A.handled = none) (hl : s.heap.IsTuple l us) (hv : us.toList = ks.map fun q => Value.ref q.1) (hk : ∀ q ∈ ks, KX prog w s.heap q.2 q.1) (h4 : ks.length < 64) (hu : A.units + 3 < cLine)
    (h : ∀ (h' : Heap) (tk : Nat) L es ep t, KSet prog w h' s.heap.objs.size L es ep t → HoldsK ks ks.length L → (∀ b o, s.heap.get? b = some o → h'.get? b = some o) → Q (.ref s.heap.objs.size) { s with heap := h', toks := tk }) :
    wpAny (model prog w) A (call (.type "set") [.ref l]) Q E s := by
  obtain ⟨c0, t0, m0⟩ := PySem.F.called_set.mro
  have m1 := PySem.F.called_set.made
  have m2 := PySem.F.called_set.sub
  have m3 := PySem.F.called_set.notType
  have m4 := PySem.F.called_set.canCreate
  have m5 := PySem.F.typeCall_set_1 (.ref l)
  apply wpAny_call
  apply codeAny_of_tree
  show wpAny _ _ (callAny (.type "set") ⟨[.ref l], []⟩) _ _ s
  refine wpAny_pure ⟨Code.quiet_builtin _ (by decide +kernel), ?_⟩
  refine codeAny_builtin PySem.F.entry_type_call ?_
  rw [Around.under_plain (weight_type_call_type "set" [Value.ref l] []) rfl]
  repeat any_goals (first | assumption | wp_step)
  refine codeAny_mono (code_set_led1 (.ref l) (E := E) (Q₁ := fun v s1 => v = .ref s.heap.objs.size ∧ s1 = { s with heap := s.heap.push (setO w) }) ⟨rfl, rfl⟩) fun r s1 hr => ?_
  cases r with
  | error e => exact hr
  | ok fl =>
    cases fl with
    | ret v =>
      obtain ⟨rfl, rfl⟩ := hr
      have gS : (s.heap.push (setO w)).get? s.heap.objs.size = some (setO w) := Heap.get?_push_size _ rfl
      have tS : Shared.TypeIs { s with heap := s.heap.push (setO w) } (.ref s.heap.objs.size) "set" := ⟨_, gS, rfl⟩
      have i1 := PySem.F.called_set.init.lookup
      have i2 := PySem.F.called_set.init.bind (.ref s.heap.objs.size)
      repeat any_goals (first | assumption | wp_step)
      refine codeAny_mono (codeAny_call_builtin (R := wants (fun r s2 => r = .none ∧ ∃ h' tk L es ep t, s2 = { s with heap := h', toks := tk } ∧ KSet prog w h' s.heap.objs.size L es ep t ∧ HoldsK ks ks.length L ∧ ∀ b o, s.heap.get? b = some o → h'.get? b = some o) E)
        PySem.F.called_set.init.plain PySem.F.entry_set_init (check_set_init_1 tS ?_)) fun r2 s2 hr2 => ?_
      · obtain ⟨⟨oc, od, oa, os⟩, g, c1, m, c2⟩ := hl
        simp only at c1 c2
        subst c1 c2
        have g1 : (s.heap.push (setO w)).get? l = some { cls := .type "tuple", dict := od, data := .seq us m, slots := os } := Heap.get?_push_of_some _ g
        have j1 := PySem.F.sub_tuple_set
        have j2 := PySem.F.sub_tuple_frozenset
        have j3 : (Value.type "tuple" == Value.type "dict") = false := by decide
        have hl1 : (s.heap.push (setO w)).IsTuple l us := ⟨_, g1, rfl, m, rfl⟩
        unfold Builtin.«set.__init__» noKeywords Builtin.Frozenset.updateFrom
        generalize eI : pyIter = PI
        wp_walk
        subst eI
        refine wpAny_pyIter_tuple hl1 (wpAny_bind (wpAny_runValue ?_))
        have ll : l < s.heap.objs.size := Heap.lt_size g
        have sz1 : (s.heap.push (setO w)).objs.size = s.heap.objs.size + 1 := Heap.size_push _ _
        have nl : l ≠ (s.heap.push (setO w)).objs.size := by rw [sz1]; exact Nat.ne_of_lt (Nat.lt_succ_of_lt ll)
        have nS : s.heap.objs.size ∉ [(s.heap.push (setO w)).objs.size, l] := fun z => by
          rcases List.mem_cons.mp z with z | z
          · rw [sz1] at z; exact Nat.ne_of_lt (Nat.lt_succ_self _) z
          · exact Nat.ne_of_gt ll (List.mem_singleton.mp z)
        have len : ks.length = us.size := by rw [← Array.length_toList, hv, List.length_map]
        have vals : ∀ (i : Nat) (v : Value), us[i]? = some v → ∃ q, ks[i]? = some q ∧ v = .ref q.1 := fun i v e => by
          rw [← Array.getElem?_toList, hv, List.getElem?_map] at e
          obtain ⟨q, e3, e4⟩ := Option.map_eq_some_iff.mp e
          exact ⟨q, e3, e4.symm⟩
        have noo : ∀ b, s.heap.objs.size ≤ b → s.heap.get? b = none := fun b hb => by
          cases q : s.heap.get? b with
          | none => rfl
          | some o => exact absurd (Heap.lt_size q) (Nat.not_lt.mpr hb)
        refine loop_kups ((Walks.tuple (show A.in1.in1.in1.handled = none from hh) _ l nl us).toS) s.heap.objs.size nS ks len (by omega) vals hu s.heap hk (noo _ (Nat.le_refl _)) (fun b hb => noo b (by rw [List.mem_singleton.mp hb, sz1]; exact Nat.le_succ _)) (us.size - 0) 0 _ rfl (Nat.zero_le _) ⟨⟨_, Heap.get?_push_size _ rfl, rfl, rfl⟩, hl1.push _⟩ (fun b o e => Heap.get?_push_of_some _ (Heap.get?_push_of_some _ e)) ⟨[], #[], 0, _, kset_new (Heap.get?_push_of_some _ gS), ⟨(fun _ z => (nomatch z)), (fun _ z => by simp at z), Nat.zero_le _⟩⟩ fun s3 L es ep t mv F3 h3 g3 => ?_
        obtain ⟨h', g', d', k', o'⟩ := s3
        obtain rfl : g' = s.gens := mv.gens
        obtain rfl : d' = s.drawn := mv.drawn
        obtain rfl : o' = s.os := mv.os
        exact wpAny_pure (show wpAny _ _ (ret Value.none) _ _ _ from wpAny_pure ⟨rfl, h', k', L, es, ep, t, rfl, F3, len ▸ h3, g3⟩)
      · cases r2 with
        | error e => exact hr2
        | ok fl2 =>
          cases fl2 with
          | ret v2 =>
            obtain ⟨rfl, h', tk, L, es, ep, t, rfl, F3, h3, g3⟩ := hr2
            repeat any_goals (first | assumption | wp_step)
            exact h _ _ _ _ _ _ F3 h3 g3
          | _ => exact hr2.elim
    | _ => exact hr.elim
theorem call_set_txts {l : Addr} {us : Array Value} {ks : List (Str × Tok)} {Q : Value → Shared → Prop} (hh : A.handled = none) (hl : s.heap.IsList l us) (hv : us.toList = ks.map fun q => Value.str q.1 q.2) (h4 : ks.length < 64)
    (h : ∀ (h' : Heap) (tk : Nat) L es ep t, TSet prog w h' s.heap.objs.size L es ep t → HoldsT ks ks.length L → (∀ b o, s.heap.get? b = some o → h'.get? b = some o) → Q (.ref s.heap.objs.size) { s with heap := h', toks := tk }) :
    wpAny (model prog w) A (call (.type "set") [.ref l]) Q E s := by
  obtain ⟨c0, t0, m0⟩ := PySem.F.called_set.mro
  have m1 := PySem.F.called_set.made
  have m2 := PySem.F.called_set.sub
  have m3 := PySem.F.called_set.notType
  have m4 := PySem.F.called_set.canCreate
  have m5 := PySem.F.typeCall_set_1 (.ref l)
  apply wpAny_call
  apply codeAny_of_tree
  show wpAny _ _ (callAny (.type "set") ⟨[.ref l], []⟩) _ _ s
  refine wpAny_pure ⟨Code.quiet_builtin _ (by decide +kernel), ?_⟩
  refine codeAny_builtin PySem.F.entry_type_call ?_
  rw [Around.under_plain (weight_type_call_type "set" [Value.ref l] []) rfl]
  repeat any_goals (first | assumption | wp_step)
  refine codeAny_mono (code_set_led1 (.ref l) (E := E) (Q₁ := fun v s1 => v = .ref s.heap.objs.size ∧ s1 = { s with heap := s.heap.push (setO w) }) ⟨rfl, rfl⟩) fun r s1 hr => ?_
  cases r with
  | error e => exact hr
  | ok fl =>
    cases fl with
    | ret v =>
      obtain ⟨rfl, rfl⟩ := hr
      have gS : (s.heap.push (setO w)).get? s.heap.objs.size = some (setO w) := Heap.get?_push_size _ rfl
      have tS : Shared.TypeIs { s with heap := s.heap.push (setO w) } (.ref s.heap.objs.size) "set" := ⟨_, gS, rfl⟩
      have i1 := PySem.F.called_set.init.lookup
      have i2 := PySem.F.called_set.init.bind (.ref s.heap.objs.size)
      repeat any_goals (first | assumption | wp_step)
      refine codeAny_mono (codeAny_call_builtin (R := wants (fun r s2 => r = .none ∧ ∃ h' tk L es ep t, s2 = { s with heap := h', toks := tk } ∧ TSet prog w h' s.heap.objs.size L es ep t ∧ HoldsT ks ks.length L ∧ ∀ b o, s.heap.get? b = some o → h'.get? b = some o) E)
        PySem.F.called_set.init.plain PySem.F.entry_set_init (check_set_init_1 tS ?_)) fun r2 s2 hr2 => ?_
      · obtain ⟨⟨oc, od, oa, os⟩, g, c1, m, c2⟩ := hl
        simp only at c1 c2
        subst c1 c2
        have g1 : (s.heap.push (setO w)).get? l = some { cls := .type "list", dict := od, data := .seq us m, slots := os } := Heap.get?_push_of_some _ g
        have j1 := PySem.F.sub_list_set
        have j2 := PySem.F.sub_list_frozenset
        have j3 : (Value.type "list" == Value.type "dict") = false := by decide
        have hl1 : (s.heap.push (setO w)).IsList l us := ⟨_, g1, rfl, m, rfl⟩
        unfold Builtin.«set.__init__» noKeywords Builtin.Frozenset.updateFrom
        generalize eI : pyIter = PI
        wp_walk
        subst eI
        refine wpAny_pyIter_list hl1 (wpAny_bind (wpAny_runValue ?_))
        have ll : l < s.heap.objs.size := Heap.lt_size g
        have sz1 : (s.heap.push (setO w)).objs.size = s.heap.objs.size + 1 := Heap.size_push _ _
        have nl : l ≠ (s.heap.push (setO w)).objs.size := by rw [sz1]; exact Nat.ne_of_lt (Nat.lt_succ_of_lt ll)
        have nS : s.heap.objs.size ∉ [(s.heap.push (setO w)).objs.size, l] := fun z => by
          rcases List.mem_cons.mp z with z | z
          · rw [sz1] at z; exact Nat.ne_of_lt (Nat.lt_succ_self _) z
          · exact Nat.ne_of_gt ll (List.mem_singleton.mp z)
        have len : ks.length = us.size := by rw [← Array.length_toList, hv, List.length_map]
        have vals : ∀ (i : Nat) (v : Value), us[i]? = some v → ∃ q, ks[i]? = some q ∧ v = .str q.1 q.2 := fun i v e => by
          rw [← Array.getElem?_toList, hv, List.getElem?_map] at e
          obtain ⟨q, e3, e4⟩ := Option.map_eq_some_iff.mp e
          exact ⟨q, e3, e4.symm⟩
        have noo : ∀ b, s.heap.objs.size ≤ b → s.heap.get? b = none := fun b hb => by
          cases q : s.heap.get? b with
          | none => rfl
          | some o => exact absurd (Heap.lt_size q) (Nat.not_lt.mpr hb)
        refine loop_txQ ((Walks.list (show A.in1.in1.in1.handled = none from hh) _ l nl us).toS) s.heap.objs.size nS ks len (by omega) vals s.heap (noo _ (Nat.le_refl _)) (fun b hb => noo b (by rw [List.mem_singleton.mp hb, sz1]; exact Nat.le_succ _)) (us.size - 0) 0 _ rfl (Nat.zero_le _) ⟨⟨_, Heap.get?_push_size _ rfl, rfl, rfl⟩, hl1.push _⟩ (fun b o e => Heap.get?_push_of_some _ (Heap.get?_push_of_some _ e)) ⟨[], #[], 0, _, tset_new (Heap.get?_push_of_some _ gS), ⟨(fun _ z => (nomatch z)), (fun _ z => by simp at z), Nat.zero_le _⟩⟩ fun s3 L es ep t mv F3 h3 g3 => ?_
        obtain ⟨h', g', d', k', o'⟩ := s3
        obtain rfl : g' = s.gens := mv.gens
        obtain rfl : d' = s.drawn := mv.drawn
        obtain rfl : o' = s.os := mv.os
        exact wpAny_pure (show wpAny _ _ (ret Value.none) _ _ _ from wpAny_pure ⟨rfl, h', k', L, es, ep, t, rfl, F3, len ▸ h3, g3⟩)
      · cases r2 with
        | error e => exact hr2
        | ok fl2 =>
          cases fl2 with
          | ret v2 =>
            obtain ⟨rfl, h', tk, L, es, ep, t, rfl, F3, h3, g3⟩ := hr2
            repeat any_goals (first | assumption | wp_step)
            exact h _ _ _ _ _ _ F3 h3 g3
          | _ => exact hr2.elim
    | _ => exact hr.elim
theorem call_set_txtsT {l : Addr} {us : Array Value} {ks : List (Str × Tok)} {Q : Value → Shared → Prop} (hh : A.handled = none) (hl : s.heap.IsTuple l us) (hv : us.toList = ks.map fun q => Value.str q.1 q.2) (h4 : ks.length < 64)
    (h : ∀ (h' : Heap) (tk : Nat) L es ep t, TSet prog w h' s.heap.objs.size L es ep t → HoldsT ks ks.length L → (∀ b o, s.heap.get? b = some o → h'.get? b = some o) → Q (.ref s.heap.objs.size) { s with heap := h', toks := tk }) :
    wpAny (model prog w) A (call (.type "set") [.ref l]) Q E s := by
  obtain ⟨c0, t0, m0⟩ := PySem.F.called_set.mro
  have m1 := PySem.F.called_set.made
  have m2 := PySem.F.called_set.sub
  have m3 := PySem.F.called_set.notType
  have m4 := PySem.F.called_set.canCreate
  have m5 := PySem.F.typeCall_set_1 (.ref l)
  apply wpAny_call
  apply codeAny_of_tree
  show wpAny _ _ (callAny (.type "set") ⟨[.ref l], []⟩) _ _ s
  refine wpAny_pure ⟨Code.quiet_builtin _ (by decide +kernel), ?_⟩
  refine codeAny_builtin PySem.F.entry_type_call ?_
  rw [Around.under_plain (weight_type_call_type "set" [Value.ref l] []) rfl]
  repeat any_goals (first | assumption | wp_step)
  refine codeAny_mono (code_set_led1 (.ref l) (E := E) (Q₁ := fun v s1 => v = .ref s.heap.objs.size ∧ s1 = { s with heap := s.heap.push (setO w) }) ⟨rfl, rfl⟩) fun r s1 hr => ?_
  cases r with
  | error e => exact hr
  | ok fl =>
    cases fl with
    | ret v =>
      obtain ⟨rfl, rfl⟩ := hr
      have gS : (s.heap.push (setO w)).get? s.heap.objs.size = some (setO w) := Heap.get?_push_size _ rfl
      have tS : Shared.TypeIs { s with heap := s.heap.push (setO w) } (.ref s.heap.objs.size) "set" := ⟨_, gS, rfl⟩
      have i1 := PySem.F.called_set.init.lookup
      have i2 := PySem.F.called_set.init.bind (.ref s.heap.objs.size)
      repeat any_goals (first | assumption | wp_step)
      refine codeAny_mono (codeAny_call_builtin (R := wants (fun r s2 => r = .none ∧ ∃ h' tk L es ep t, s2 = { s with heap := h', toks := tk } ∧ TSet prog w h' s.heap.objs.size L es ep t ∧ HoldsT ks ks.length L ∧ ∀ b o, s.heap.get? b = some o → h'.get? b = some o) E)
        PySem.F.called_set.init.plain PySem.F.entry_set_init (check_set_init_1 tS ?_)) fun r2 s2 hr2 => ?_
      · obtain ⟨⟨oc, od, oa, os⟩, g, c1, m, c2⟩ := hl
        simp only at c1 c2
        subst c1 c2
        have g1 : (s.heap.push (setO w)).get? l = some { cls := .type "tuple", dict := od, data := .seq us m, slots := os } := Heap.get?_push_of_some _ g
        have j1 := PySem.F.sub_tuple_set
        have j2 := PySem.F.sub_tuple_frozenset
        have j3 : (Value.type "tuple" == Value.type "dict") = false := by decide
        have hl1 : (s.heap.push (setO w)).IsTuple l us := ⟨_, g1, rfl, m, rfl⟩
        unfold Builtin.«set.__init__» noKeywords Builtin.Frozenset.updateFrom
        generalize eI : pyIter = PI
        wp_walk
        subst eI
        refine wpAny_pyIter_tuple hl1 (wpAny_bind (wpAny_runValue ?_))
        have ll : l < s.heap.objs.size := Heap.lt_size g
        have sz1 : (s.heap.push (setO w)).objs.size = s.heap.objs.size + 1 := Heap.size_push _ _
        have nl : l ≠ (s.heap.push (setO w)).objs.size := by rw [sz1]; exact Nat.ne_of_lt (Nat.lt_succ_of_lt ll)
        have nS : s.heap.objs.size ∉ [(s.heap.push (setO w)).objs.size, l] := fun z => by
          rcases List.mem_cons.mp z with z | z
          · rw [sz1] at z; exact Nat.ne_of_lt (Nat.lt_succ_self _) z
          · exact Nat.ne_of_gt ll (List.mem_singleton.mp z)
        have len : ks.length = us.size := by rw [← Array.length_toList, hv, List.length_map]
        have vals : ∀ (i : Nat) (v : Value), us[i]? = some v → ∃ q, ks[i]? = some q ∧ v = .str q.1 q.2 := fun i v e => by
          rw [← Array.getElem?_toList, hv, List.getElem?_map] at e
          obtain ⟨q, e3, e4⟩ := Option.map_eq_some_iff.mp e
          exact ⟨q, e3, e4.symm⟩
        have noo : ∀ b, s.heap.objs.size ≤ b → s.heap.get? b = none := fun b hb => by
          cases q : s.heap.get? b with
          | none => rfl
          | some o => exact absurd (Heap.lt_size q) (Nat.not_lt.mpr hb)
        refine loop_txQ ((Walks.tuple (show A.in1.in1.in1.handled = none from hh) _ l nl us).toS) s.heap.objs.size nS ks len (by omega) vals s.heap (noo _ (Nat.le_refl _)) (fun b hb => noo b (by rw [List.mem_singleton.mp hb, sz1]; exact Nat.le_succ _)) (us.size - 0) 0 _ rfl (Nat.zero_le _) ⟨⟨_, Heap.get?_push_size _ rfl, rfl, rfl⟩, hl1.push _⟩ (fun b o e => Heap.get?_push_of_some _ (Heap.get?_push_of_some _ e)) ⟨[], #[], 0, _, tset_new (Heap.get?_push_of_some _ gS), ⟨(fun _ z => (nomatch z)), (fun _ z => by simp at z), Nat.zero_le _⟩⟩ fun s3 L es ep t mv F3 h3 g3 => ?_
        obtain ⟨h', g', d', k', o'⟩ := s3
        obtain rfl : g' = s.gens := mv.gens
        obtain rfl : d' = s.drawn := mv.drawn
        obtain rfl : o' = s.os := mv.os
        exact wpAny_pure (show wpAny _ _ (ret Value.none) _ _ _ from wpAny_pure ⟨rfl, h', k', L, es, ep, t, rfl, F3, len ▸ h3, g3⟩)
      · cases r2 with
        | error e => exact hr2
        | ok fl2 =>
          cases fl2 with
          | ret v2 =>
            obtain ⟨rfl, h', tk, L, es, ep, t, rfl, F3, h3, g3⟩ := hr2
            repeat any_goals (first | assumption | wp_step)
            exact h _ _ _ _ _ _ F3 h3 g3
          | _ => exact hr2.elim
    | _ => exact hr.elim
end

end
section
open PyProof.Rows.H
open PySem.W (EachIs alike alikeAll keyToks keyToksAll dataLt dataKind SortsAt dataType AllAlike Sortable)
/-! ### sorted(s) of a set of data, told by what is in it; len(set(l)), sorted(set(l)) for lists and tuples of texts or of pairs of texts -/
section
variable {X : Cx} {pins : List (Addr × Obj)} {σ : L2.St} {H : Hp} {s : Shared} {G : Mg} {p : List Addr}
theorem srt_raw {a : Addr} {o : Obj} {es : Array (Int × Value)} {ep : Nat} {t : SetTable} {ms ms' : Ms} {w : Mv} {R : List Mv} {Q : VK} (hc : X.calm = true) (hu : X.A.units + 64 < cLine) (hK : X.K = G.K) (I : Inv X pins σ H s) (S : Sim G p ms H)
    (e1 : s.heap.get? a = some o) (e2 : o.ExactSet) (e3 : o.data = .set es ep t) (fit : t.fits es.size = true) (few : es.size < 64) (ris : Ris t.place.toList) (led : X.w.params.followText "set-order" = true ∨ t.led = true)
    (rows : ∀ out : List Value, out.Perm (es.toList.map (·.2)) → ∃ ws vs ds, DenL G p H ws vs ∧ DpAll X.K H vs ds ∧ Vals vs out ∧ (∀ d ∈ ds, d.depth ≤ 24) ∧ ((AllAlike ds ∧ Sortable ds) ∨ LzAll ds) ∧ (isort leD (ws.zip ds)).map (·.1) = R)
    (q4 : newO (.lst R) ms = some (w, ms')) (k : After G p H w ms' Q) : wpAny (model X.prog X.w) X.A (call (.builtin "sorted") [.ref a]) (EP X pins σ Q) X.xe s := by
  refine Calls.call_function_entry kind_sorted plain_sorted entry_sorted (args_sorted1 _) ?_
  unfold Builtin.«sorted»
  refine wpAny_bind (m := checkCount "sorted" 1 1 _) (wpAny_pure ?_)
  refine wpAny_bind (collect_set (A := X.A.in1) (I.ok.hd hc) ⟨o, e1, e2.1, e3⟩ fit (by unfold scanBound; omega) ris led fun s1 out k1 hz g1 o1 pm => ?_)
  obtain ⟨ws, vs, ds, d1, d2, d3, d4, d5, rfl⟩ := rows out pm
  have ln : out.length < 64 := by rw [pm.length_eq, List.length_map, Array.length_toList]; exact few
  have hL : out.length ≤ sizeLine := by rw [sizeLine_eq]; omega
  obtain ⟨as, ra⟩ := Dp.readsAll I _ _ _ d2 d3
  refine wpAny_bind (wpAny_newList ?_ hL)
  have hob : (s1.heap.push (seqObj "list" out.toArray 0)).get? s1.heap.objs.size = some (seqObj "list" out.toArray 0) := Heap.get?_push_size _ rfl
  have k2 : ∀ b ob, s.heap.get? b = some ob → b ≠ s1.heap.objs.size ∧ (s1.heap.push (seqObj "list" out.toArray 0)).get? b = some ob := fun b ob e => ⟨Nat.ne_of_lt (Heap.lt_size (k1 b ob e)), Heap.get?_push_of_some _ (k1 b ob e)⟩
  show wpAny _ _ (holding [Value.ref s1.heap.objs.size] _ >>= _) _ _ { s1 with heap := s1.heap.push (seqObj "list" out.toArray 0) }
  generalize s1.heap.push (seqObj "list" out.toArray 0) = h2 at hob k2 ⊢
  have keepS : ∀ b ob, s.heap.get? b = some ob → (PySem.W.sortingHeap h2 s1.heap.objs.size out).get? b = some ob := fun b ob e => PySem.W.sortingHeap_old (k2 b ob e).1 (k2 b ob e).2
  have ra' : ReadsAll (PySem.W.sortingHeap h2 s1.heap.objs.size out) out ds as := PyProof.Rows.ReadsAll.keeps keepS ra
  have dep : ∀ d ∈ ds, X.A.in1.in1.units + d.depth < cLine := fun d hd => by
    have := d4 d hd
    rw [Around.in1_units, Around.in1_units]; omega
  have srt : SortsAt X.prog X.w X.A.in1.in1 { s1 with heap := PySem.W.sortingHeap h2 s1.heap.objs.size out } (dataKind (PySem.W.sortingHeap h2 s1.heap.objs.size out) ds) out := by
    rcases d5 with ⟨d5, d6⟩ | d5
    · exact SortsAt.data (s := { s1 with heap := PySem.W.sortingHeap h2 s1.heap.objs.size out }) (readsAll_each ra') d5 d6 dep
    · exact sorts_lz (readsAll_each ra') d5 dep
  refine wpAny_bind (wpAny_holding (wpAny_call_entry PyProof.Rows.slot_list_sort ⟨_, hob, rfl⟩ PyProof.Rows.entry_list_sort (PySem.W.list_sort_vals (s := { s1 with heap := h2 }) hob srt hL ⟨.none, rfl, ?_⟩) (PyProof.Rows.args_list_sort _)))
  obtain ⟨ep', hat⟩ := PyProof.Rows.sortedHeap_at (out := (PySem.W.sortVals (dataKind (PySem.W.sortingHeap h2 s1.heap.objs.size out) ds) false out out).toArray) hob
  obtain ⟨zs, z1, z2⟩ := data_sorted d1 d3 ra'
  have hl2 : zs.length ≤ sizeLine := by rw [z1.length, PySem.W.sortVals_length false rfl]; exact hL
  have kF : ∀ b ob, s.heap.get? b = some ob → (PyProof.Rows.sortedHeap h2 s1.heap.objs.size out (PySem.W.sortVals (dataKind (PySem.W.sortingHeap h2 s1.heap.objs.size out) ds) false out out).toArray).get? b = some ob := fun b ob e => by
    rw [PyProof.Rows.sortedHeap_old (k2 b ob e).1 (Heap.lt_size (k2 b ob e).2)]; exact (k2 b ob e).2
  have nn : H s1.heap.objs.size = none := I.hok.fresh hz
  refine wpAny_pure ⟨_, rfl, .ref s1.heap.objs.size, upd H s1.heap.objs.size (.lst zs), ?_, rfl, newO_fresh S q4 k nn ⟨zs, rfl, z2, hl2⟩⟩
  exact I.call' (ch := []) o1 (Un.laid kF hz nn) (I.hok.laid kF hz ⟨hl2, _, ep', z1, hat⟩) (by show AllBare s1.gens; rw [g1]; exact I.bare) (fun _ z => nomatch z)
/-! ### texts -/
def rowT (x : Str) : Mv × PyData := (.str x, .str x)
noncomputable def sortT (ks : List Str) : List Mv := (isort leD (ks.map rowT)).map (·.1)
theorem rowT_tri {a b : Str} (h1 : leD (rowT a) (rowT b) = true) (h2 : leD (rowT b) (rowT a) = true) : a = b := by
  have e1 : dLt (.str b) (.str a) = false := by simpa [leD, rowT] using h1
  have e2 : dLt (.str a) (.str b) = false := by simpa [leD, rowT] using h2
  have e := tks_tri (a := keyToks (.str a)) (b := keyToks (.str b)) e2 e1
  have f := toks_inj (a := [a]) (b := [b]) (by simpa [keyToks, keyToksAll] using e)
  simpa using f
theorem sortT_perm {k1 k2 : List Str} (h : k1.Perm k2) : sortT k1 = sortT k2 := by
  unfold sortT
  have e : isort leD (k1.map rowT) = isort leD (k2.map rowT) := by
    refine List.Perm.eq_of_pairwise (le := fun a b => leD a b = true) (fun a b ha hb h1 h2 => ?_) (isort_pw leD_total _) (isort_pw leD_total _) ((isort_perm leD_total _).trans ((h.map rowT).trans (isort_perm leD_total _).symm))
    obtain ⟨x, _, rfl⟩ := List.mem_map.mp ((isort_perm leD_total _).mem_iff.mp ha)
    obtain ⟨y, _, rfl⟩ := List.mem_map.mp ((isort_perm leD_total _).mem_iff.mp hb)
    rw [rowT_tri h1 h2]
  rw [e]
theorem sortT_len (ks : List Str) : (sortT ks).length = ks.length := by
  unfold sortT
  rw [List.length_map, (isort_perm leD_total _).length_eq, List.length_map]
theorem denT_rows : ∀ (L : List (Str × Tok)), DenL G p H (L.map fun q => (rowT q.1).1) (L.map fun q => V.str q.1)
  | [] => .nil
  | q :: L => .cons (.str q.1) (denT_rows L)
theorem dpT_rows {K : PySem.W.Frag} : ∀ (L : List (Str × Tok)), DpAll K H (L.map fun q => V.str q.1) (L.map fun q => (rowT q.1).2)
  | [] => .nil
  | q :: L => .cons (.str q.1) (dpT_rows L)
theorem valsT_rows : ∀ (L : List (Str × Tok)), Vals (L.map fun q => V.str q.1) (L.map fun q => Value.str q.1 q.2)
  | [] => .nil
  | q :: L => .cons ⟨q.2, rfl⟩ (valsT_rows L)
theorem zipT_rows : ∀ (L : List (Str × Tok)), (L.map fun q => (rowT q.1).1).zip (L.map fun q => (rowT q.1).2) = (L.map (·.1)).map rowT
  | [] => rfl
  | q :: L => by rw [List.map_cons, List.map_cons, List.zip_cons_cons, zipT_rows L]; rfl
theorem alikeT (L : List (Str × Tok)) : AllAlike (L.map fun q => (rowT q.1).2) ∧ Sortable (L.map fun q => (rowT q.1).2) := by
  refine ⟨fun d hd d' hd' => ?_, .inr fun d hd => ?_⟩
  · obtain ⟨q, _, rfl⟩ := List.mem_map.mp hd
    obtain ⟨q', _, rfl⟩ := List.mem_map.mp hd'
    rfl
  · obtain ⟨q, _, rfl⟩ := List.mem_map.mp hd
    exact ⟨(fun z => nomatch z), fun _ z => nomatch z⟩
end

end
section
open PyProof.Rows.H
open PySem.W (EachIs alike alikeAll keyToks keyToksAll dataLt dataKind SortsAt dataType AllAlike Sortable)
/-! ### len(set(x)), sorted(set(x)): x a list or a tuple of texts, or of pairs of texts -/
def prK (k : List Str) : List Key := k.map Sum.inr
noncomputable def dedX (ws : List Mv) : Option (List Mv) := match strsOf ws with
  | some ys => some (sortT (ddS ys))
  | none => (keysOf ws).om fun ks => sortN (ddN (ks.map prK))
noncomputable def seqOf (w : Mv) (s : Ms) : Option (List Mv) := match w with
  | .tup ws => some ws
  | _ => lstOf w s
noncomputable def dedY (w : Mv) (s : Ms) : Option (List Mv) := (seqOf w s).ob fun ws => cond (Nat.ble ws.length 63) (dedX ws) none
noncomputable def mlenX (A : Fe) : Fe := fun r s => (A r s).ob fun x => (dedY x.1 x.2).ob fun ds => some (.int (ds.length : Nat), x.2)
noncomputable def msrtX (A : Fe) : Fe := fun r s => (A r s).ob fun x => (dedY x.1 x.2).ob fun ds => newO (.lst ds) x.2
section
variable {X : Cx} {pins : List (Addr × Obj)} {σ : L2.St} {H : Hp} {s : Shared} {G : Mg} {p : List Addr}
theorem ddS_nd : ∀ l : List Str, (ddS l).Nodup := by
  intro l
  suffices h : ∀ (n : Nat) (l : List Str), l.length = n → (ddS l).Nodup from h _ l rfl
  intro n
  induction n with
  | zero => intro l e; rw [List.length_eq_zero_iff.mp e]; exact List.nodup_nil
  | succ n ih =>
    intro l e
    rcases List.eq_nil_or_concat l with rfl | ⟨l', x, rfl⟩
    · exact List.nodup_nil
    · have e : (l' ++ [x]).length = n + 1 := by simpa using e
      have i := ih l' (by rw [List.length_append] at e; simpa using e)
      rw [List.concat_eq_append, ddS_snoc]
      split
      · exact i
      · rename_i h
        exact List.nodup_append.mpr ⟨i, by simp, fun a ha b hb z => h (by rw [List.mem_singleton.mp hb] at z; exact z ▸ ha)⟩
/-- what is known of a set that was just made -/
structure Got (X : Cx) (G : Mg) (p : List Addr) (H : Hp) (hp : Heap) (a : Addr) (ds : List Mv) : Prop where
  at' : ∃ o es ep t, hp.get? a = some o ∧ o.ExactSet ∧ o.data = .set es ep t ∧ t.fits es.size = true ∧ es.size = ds.length ∧ es.size < 64 ∧ Ris t.place.toList ∧ (X.w.params.followText "set-order" = true ∨ t.led = true) ∧
    ∀ out : List Value, out.Perm (es.toList.map (·.2)) → ∃ ws vs zs, DenL G p H ws vs ∧ DpAll X.K H vs zs ∧ Vals vs out ∧ (∀ d ∈ zs, d.depth ≤ 24) ∧ ((AllAlike zs ∧ Sortable zs) ∨ LzAll zs) ∧ (isort leD (ws.zip zs)).map (·.1) = ds
theorem got_txt {a : Addr} {L : List (Str × Tok)} {es : Array (Int × Value)} {ep : Nat} {t : SetTable} {ks : List Str} {hp : Heap} (F : TSet X.prog X.w hp a L es ep t) (pm : (L.map (·.1)).Perm ks) : Got X G p H hp a (sortT ks) := by
  obtain ⟨o, e1, e2, e3⟩ := F.at'
  refine ⟨o, es, ep, t, e1, e2, e3, F.fit, ?_, by rw [F.size]; exact F.few, F.ris, F.led, fun out po => ?_⟩
  · rw [F.size, sortT_len, ← pm.length_eq, List.length_map]
  have er : es.toList.map (·.2) = L.map fun q => Value.str q.1 q.2 := by rw [F.row, List.map_map]; rfl
  rw [er] at po
  obtain ⟨L', rfl, pL⟩ := map_perm po
  refine ⟨_, _, _, denT_rows L', dpT_rows L', valsT_rows L', fun d hd => ?_, .inl (alikeT L'), ?_⟩
  · obtain ⟨q, _, rfl⟩ := List.mem_map.mp hd
    simp [rowT, PyData.depth]
  · rw [zipT_rows, ← sortT_perm ((pL.map (·.1)).trans pm)]
    rfl
def Pr2 (k : List Key) : Prop := ∃ x y, k = [.inr x, .inr y]
theorem lz_pr2 {ks : List (List Key)} (h : ∀ k ∈ ks, Pr2 k) : LzAll (ks.map fun k => (rowN k).2) := by
  refine ⟨fun d hd => ?_, fun xs hx ys hy => ?_⟩
  · obtain ⟨k, hk, rfl⟩ := List.mem_map.mp hd
    obtain ⟨x, y, rfl⟩ := h k hk
    exact ⟨_, _, rfl⟩
  · obtain ⟨k, hk, e⟩ := List.mem_map.mp hx
    obtain ⟨k', hk', e'⟩ := List.mem_map.mp hy
    cases e
    cases e'
    obtain ⟨x, y, rfl⟩ := h k hk
    obtain ⟨x2, y2, rfl⟩ := h k' hk'
    simp [lz, kPd, alike]
theorem got_pr {a : Addr} {L : List (Addr × List Key)} {es : Array (Int × Value)} {ep : Nat} {t : SetTable} {ks : List (List Key)} {hp : Heap} (hK : X.K = G.K) (F : KSet X.prog X.w hp a L es ep t) (sq : ∀ q ∈ L, SqT G.K H q.1 (q.2.map kV)) (l2 : ∀ q ∈ L, Pr2 q.2) (pm : (L.map (·.2)).Perm ks) : Got X G p H hp a (sortN ks) := by
  obtain ⟨o, e1, e2, e3⟩ := F.at'
  refine ⟨o, es, ep, t, e1, e2, e3, F.fit, ?_, by rw [F.size]; exact F.few, F.tab.ris, F.led, fun out po => ?_⟩
  · rw [F.size, sortN_len, ← pm.length_eq, List.length_map]
  have er : es.toList.map (·.2) = L.map fun q => Value.ref q.1 := by rw [F.row, List.map_map]; rfl
  rw [er] at po
  obtain ⟨L', rfl, pL⟩ := map_perm po
  have sqL : ∀ q ∈ L', SqT G.K H q.1 (q.2.map kV) := fun q hq => sq q (pL.mem_iff.mp hq)
  refine ⟨_, _, _, denN_rows L' sqL, dpN_rows L' (by rw [hK]; exact sqL), valsN_rows L', fun d hd => ?_, .inr ?_, ?_⟩
  · obtain ⟨q, _, rfl⟩ := List.mem_map.mp hd
    exact depthN_key q.2
  · have z := lz_pr2 (ks := L'.map (·.2)) fun k hk => by
      obtain ⟨q, hq, rfl⟩ := List.mem_map.mp hk
      exact l2 q (pL.mem_iff.mp hq)
    rwa [List.map_map] at z
  · rw [zipN_rows, ← sortN_perm ((pL.map (·.2)).trans pm)]
    rfl
theorem txs_of : ∀ {ys : List Str} {us : List Value}, Vals (ys.map V.str) us → ∃ ks : List (Str × Tok), us = (ks.map fun q => Value.str q.1 q.2) ∧ ks.map (·.1) = ys
  | [], _, r => by cases r; exact ⟨[], rfl, rfl⟩
  | y :: ys, _, r => by
    cases r with
    | cons r1 r2 =>
      obtain ⟨t, rfl⟩ := r1
      obtain ⟨ks, rfl, rfl⟩ := txs_of r2
      exact ⟨(y, t) :: ks, rfl, rfl⟩
theorem hT_perm {ks L : List (Str × Tok)} (h : HoldsT ks ks.length L) (once : (L.map (·.1)).Nodup) : (L.map (·.1)).Perm (ddS (ks.map (·.1))) := by
  refine (List.perm_ext_iff_of_nodup once (ddS_nd _)).mpr fun x => ?_
  rw [ddS_mem]
  constructor
  · intro hx
    obtain ⟨q, hq, rfl⟩ := List.mem_map.mp hx
    exact List.mem_map_of_mem (h.sub q hq)
  · intro hx
    obtain ⟨q, hq, rfl⟩ := List.mem_map.mp hx
    exact h.all q (by rw [List.take_length]; exact hq)
theorem hK_perm {ks L : List (Addr × List Key)} (h : HoldsK ks ks.length L) (once : (L.map (·.2)).Nodup) : (L.map (·.2)).Perm (ddN (ks.map (·.2))) := by
  refine (List.perm_ext_iff_of_nodup once (ddN_nd _)).mpr fun x => ?_
  rw [ddN_mem]
  constructor
  · intro hx
    obtain ⟨q, hq, rfl⟩ := List.mem_map.mp hx
    exact List.mem_map_of_mem (h.sub q hq)
  · intro hx
    obtain ⟨q, hq, rfl⟩ := List.mem_map.mp hx
    exact h.all q (by rw [List.take_length]; exact hq)
theorem pairs_ok : ∀ (ws : List Mv) (vs : List V) (ks : List (List Str)), DenL G p H ws vs → keysOf ws = some ks → ∃ L : List (Addr × List Key), L.map (·.2) = ks.map prK ∧ vs = (L.map fun q => V.ref q.1) ∧ (∀ q ∈ L, SqT G.K H q.1 (q.2.map kV)) ∧ ∀ q ∈ L, Pr2 q.2 := by
  intro ws
  induction ws with
  | nil =>
    intro vs ks l h
    cases l
    cases h
    exact ⟨[], rfl, rfl, (fun _ z => nomatch z), (fun _ z => nomatch z)⟩
  | cons w ws ih =>
    intro vs ks l h
    obtain ⟨x, y, ks', rfl, h2, rfl⟩ := keysOf_cons h
    cases l with
    | cons d l =>
      obtain ⟨L, l1, rfl, l3, l4⟩ := ih _ _ l h2
      obtain ⟨a, vs0, rfl, sq, dl⟩ := d.tup_inv
      have e0 : vs0 = [V.str x, V.str y] := by
        cases dl with
        | cons d1 dl =>
          cases dl with
          | cons d2 dl =>
            cases dl
            cases d1
            cases d2
            rfl
      subst e0
      refine ⟨(a, [.inr x, .inr y]) :: L, by rw [List.map_cons, l1]; rfl, rfl, fun q hq => ?_, fun q hq => ?_⟩
      · rcases List.mem_cons.mp hq with e | hq
        · rw [e]; exact sq
        · exact l3 q hq
      · rcases List.mem_cons.mp hq with e | hq
        · rw [e]; exact ⟨x, y, rfl⟩
        · exact l4 q hq
theorem vals_refs : ∀ {L : List (Addr × List Key)} {us : List Value}, Vals (L.map fun q => V.ref q.1) us → us = L.map fun q => Value.ref q.1
  | [], _, r => by cases r; rfl
  | q :: L, _, r => by cases r with | cons r1 r2 => cases r1; rw [vals_refs r2]; rfl
theorem seqOf_ok {ms : Ms} {w : Mv} {v : V} {ws : List Mv} (S : Sim G p ms H) (d : Den G p H w v) (h : seqOf w ms = some ws) : ∃ l vs, v = .ref l ∧ (SqL G.K H l vs ∨ SqT G.K H l vs) ∧ DenL G p H ws vs := by
  unfold seqOf at h
  split at h
  · cases h
    obtain ⟨l, vs, rfl, sq, dl⟩ := d.tup_inv
    exact ⟨l, vs, rfl, .inr sq, dl⟩
  · obtain ⟨l, vs, rfl, sq, dl⟩ := lstOf_ok S d h
    exact ⟨l, vs, rfl, .inl sq, dl⟩
theorem set_at {l : Addr} {vs : List V} {ws ds : List Mv} {Q : Value → Shared → Prop} (hc : X.calm = true) (hu : X.A.units + 64 < cLine) (hK : X.K = G.K) (I : Inv X pins σ H s) (sq : SqL G.K H l vs ∨ SqT G.K H l vs) (dl : DenL G p H ws vs) (few : ws.length < 64) (h : dedX ws = some ds)
    (k : ∀ h' tk a, (∀ b o, s.heap.get? b = some o → h'.get? b = some o) → Got X G p H h' a ds → Q (.ref a) { s with heap := h', toks := tk }) : wpAny (model X.prog X.w) X.A (call (.type "set") [.ref l]) Q X.xe s := by
  rw [← hK] at sq
  unfold dedX at h
  split at h
  · rename_i ys hy
    cases h
    obtain ⟨rfl, rfl⟩ := strsOf_ok dl hy
    have fin : ∀ {us : Array Value} {its : List Value}, us.toList = its → Vals (ys.map V.str) its → ∃ ks : List (Str × Tok), us.toList = (ks.map fun q => Value.str q.1 q.2) ∧ ks.map (·.1) = ys := fun e r => by
      obtain ⟨ks, e1, e2⟩ := txs_of r
      exact ⟨ks, e.trans e1, e2⟩
    have ny : ys.length < 64 := by simpa using few
    rcases sq with sq | sq
    · obtain ⟨its, rv, pl, _⟩ := I.list sq
      obtain ⟨ks, e1, rfl⟩ := fin (us := its.toArray) (by simp) rv
      exact call_set_txts (ks := ks) (I.ok.hd hc) pl.isList e1 (by simpa using ny) fun h' tk L es ep t F hh kp => k h' tk _ kp (got_txt F (hT_perm hh F.once))
    · obtain ⟨its, rv, pl, _⟩ := I.tuple sq
      obtain ⟨ks, e1, rfl⟩ := fin (us := its.toArray) (by simp) rv
      exact call_set_txtsT (ks := ks) (I.ok.hd hc) pl e1 (by simpa using ny) fun h' tk L es ep t F hh kp => k h' tk _ kp (got_txt F (hT_perm hh F.once))
  · obtain ⟨ks, hk, rfl⟩ := omap_some.mp h
    obtain ⟨L, l1, rfl, l3, l4⟩ := pairs_ok _ _ _ dl hk
    have nL : L.length < 64 := by rw [← show (L.map fun q => V.ref q.1).length = L.length by simp, ← dl.length]; exact few
    have kx : ∀ q ∈ L, KX X.prog X.w s.heap q.2 q.1 := fun q hq => kx_of I (by rw [hK]; exact l3 q hq)
    have fin : ∀ {h' : Heap} {L' es ep t}, KSet X.prog X.w h' s.heap.objs.size L' es ep t → HoldsK L L.length L' → Got X G p H h' s.heap.objs.size (sortN (ddN (ks.map prK))) := fun F hh => by
      refine got_pr hK F (fun q hq => l3 q (hh.sub q hq)) (fun q hq => l4 q (hh.sub q hq)) ?_
      rw [← l1]
      exact hK_perm hh F.once
    rcases sq with sq | sq
    · obtain ⟨its, rv, pl, _⟩ := I.list sq
      exact call_set_kups (ks := L) (I.ok.hd hc) pl.isList (by simpa using vals_refs rv) kx nL (by omega) fun h' tk L' es ep t F hh kp => k h' tk _ kp (fin F hh)
    · obtain ⟨its, rv, pl, _⟩ := I.tuple sq
      exact call_set_kupsT (ks := L) (I.ok.hd hc) pl (by simpa using vals_refs rv) kx nL (by omega) fun h' tk L' es ep t F hh kp => k h' tk _ kp (fin F hh)
end

end
section
open PyProof.Rows.H
section
variable {X : Cx} {G : Mg} {a : Expr}
theorem dedY_eq {w : Mv} {ms : Ms} {ds : List Mv} (h : dedY w ms = some ds) : ∃ ws, seqOf w ms = some ws ∧ ws.length < 64 ∧ dedX ws = some ds := by
  obtain ⟨ws, h1, h2⟩ := ob_some.mp h
  cases e : Nat.ble ws.length 63 with
  | false => rw [e] at h2; cases h2
  | true => rw [e] at h2; exact ⟨ws, h1, Nat.lt_succ_of_le (Nat.le_of_ble_eq_true e), h2⟩
theorem pm_lenX {A : Fe} {p p2 q pos : Pos} (hc : X.calm = true) (hu : X.A.units + 64 < cLine) (hg : Gl X "len") (hm : X.mg "len" = none) (hg2 : Gl X "set") (hm2 : X.mg "set" = none) (ha : PE X a (tI G A)) (na : starEach [a] X.env = (false, eval a X.env) :: starEach [] X.env := by rfl) (hK : X.K = G.K := by rfl) :
    PE X (.Call (.Name "len" p) [.Call (.Name "set" p2) [a] [] q] [] pos) (tI G (mlenX A)) := by
  refine ⟨fun pins s σ H Q I ⟨p0, ms, r, w, ms', S, Er, q0, kk⟩ => ?_⟩
  obtain ⟨⟨xv, s1⟩, q1, q2⟩ := ob_some.mp q0
  obtain ⟨ds, q3, q4⟩ := ob_some.mp q2
  obtain ⟨ws, q5, q6, q7⟩ := dedY_eq q3
  cases q4
  refine Call_ (ld_blt I hg hm boot_len (PyProof.Rows.callWith_builtin1 (PyProof.Rows.args_cons (Call_ (ld_blt I hg2 hm2 boot_set ?_)) rfl) rfl rfl))
  refine PyProof.Rows.callWith_type1 (PyProof.Rows.args_cons (thn (ha.run pins s σ H (fun v1 H1 => ∃ p1, Sim G p1 s1 H1 ∧ Fra p0 H p1 H1 ∧ Den G p1 H1 xv v1) I ⟨p0, ms, r, xv, s1, S, Er, q1, fun p1 v1 H1 S1 f1 d1 => ⟨p1, S1, f1, d1⟩⟩) fun u t1 ⟨vx, H1, I1, rx, p1, S1, f1, d1⟩ => PyProof.Rows.args_nil ?_) na) na rfl
  obtain ⟨l, vs, rfl, sq, lx⟩ := seqOf_ok S1 d1 q5
  cases rx
  refine set_at hc hu hK I1 sq lx q6 q7 fun h' tk b kp ⟨o, es, ep, t, ho, hex, hd, hf, hn, _⟩ => ?_
  have I2 : Inv X pins σ H1 { t1 with heap := h', toks := tk } := I1.kept kp
  refine PyProof.Rows.args_nil (call_len_set ho hex hd hf (by omega) ⟨.int (ds.length : Nat), H1, I2.tok _, ⟨_, by rw [hn]⟩, kk p1 _ H1 S1 f1 (.int _)⟩)
theorem pm_srtX {A : Fe} {p p2 q pos : Pos} (hc : X.calm = true) (hu : X.A.units + 64 < cLine) (hg : Gl X "sorted") (hm : X.mg "sorted" = none) (hg2 : Gl X "set") (hm2 : X.mg "set" = none) (ha : PE X a (tI G A)) (na : starEach [a] X.env = (false, eval a X.env) :: starEach [] X.env := by rfl) (hK : X.K = G.K := by rfl) :
    PE X (.Call (.Name "sorted" p) [.Call (.Name "set" p2) [a] [] q] [] pos) (tI G (msrtX A)) := by
  refine ⟨fun pins s σ H Q I ⟨p0, ms, r, w, ms', S, Er, q0, kk⟩ => ?_⟩
  obtain ⟨⟨xv, s1⟩, q1, q2⟩ := ob_some.mp q0
  obtain ⟨ds, q3, q4⟩ := ob_some.mp q2
  obtain ⟨ws, q5, q6, q7⟩ := dedY_eq q3
  refine Call_ (ld_blt I hg hm (show bootBuiltins (Str.ofString "sorted") = some (.builtin "sorted") by decide +kernel) (PyProof.Rows.callWith_builtin1 (PyProof.Rows.args_cons (Call_ (ld_blt I hg2 hm2 boot_set ?_)) rfl) rfl rfl))
  refine PyProof.Rows.callWith_type1 (PyProof.Rows.args_cons (thn (ha.run pins s σ H (fun v1 H1 => ∃ p1, Sim G p1 s1 H1 ∧ Fra p0 H p1 H1 ∧ Den G p1 H1 xv v1) I ⟨p0, ms, r, xv, s1, S, Er, q1, fun p1 v1 H1 S1 f1 d1 => ⟨p1, S1, f1, d1⟩⟩) fun u t1 ⟨vx, H1, I1, rx, p1, S1, f1, d1⟩ => PyProof.Rows.args_nil ?_) na) na rfl
  obtain ⟨l, vs, rfl, sq, lx⟩ := seqOf_ok S1 d1 q5
  cases rx
  refine set_at hc hu hK I1 sq lx q6 q7 fun h' tk b kp ⟨o, es, ep, t, ho, hex, hd, hf, hn, n64, ris, led, rows⟩ => ?_
  have I2 : Inv X pins σ H1 { t1 with heap := h', toks := tk } := I1.kept kp
  refine PyProof.Rows.args_nil (srt_raw hc hu hK I2 S1 ho hex hd hf n64 ris led rows q4 ?_)
  exact fun p' v H' S' f' d' => kk p' v H' S' (f1.trans f') d'
end

end
section
/-! ### x < y of tuples; repr of any data; x is a truth, whatever x is -/
section
variable {X : Cx} {G : Mg}
theorem op_ltD (hu : X.A.units + 64 < cLine) : OpR X (compareOp .Lt) (fun x y H Q => ∃ d e k, Dp X.K H x d ∧ Dp X.K H y e ∧ d.canLay0 = true ∧ e.canLay0 = true ∧ d.depth ≤ 24 ∧ cmpD 24 d e = some k ∧ Q (.bl k) H) := by
  intro pins s σ H x y v u Q I rx ry h
  obtain ⟨d, e, k, hd, he, ld, le, dd, hc, q⟩ := h
  obtain ⟨as, r1⟩ := Dp.reads I d x v hd rx
  obtain ⟨bs, r2⟩ := Dp.reads I e y u he ry
  exact cmpD_ok 24 X.A s d e v u as bs k r1 r2 ld le (by omega) hc X.prog X.w _ _ ⟨.bl _, H, I, rfl, q⟩
noncomputable def ltDW (a b : Mv) (s : Ms) : Option (Mv × Ms) := (toD 24 s a).ob fun d => (toD 24 s b).ob fun e => (cmpD 24 d e).om fun k => (.bl k, s)
theorem om_ltD (hu : X.A.units + 64 < cLine) (hK : X.K = G.K := by rfl) : OpR X (compareOp .Lt) (q2R G ltDW) := opr_imp (op_ltD hu) fun x y H Q ⟨p, s, a, b, w, s', S, da, db, q, k⟩ => by
  obtain ⟨d, h1, h2⟩ := ob_some.mp q
  obtain ⟨e, h3, h4⟩ := ob_some.mp h2
  obtain ⟨c, h5, h6⟩ := omap_some.mp h4
  cases h6
  have o1 := toD_ok S 24 _ _ _ da h1
  have o2 := toD_ok S 24 _ _ _ db h3
  exact ⟨d, e, c, by rw [hK]; exact o1.dp, by rw [hK]; exact o2.dp, o1.lay, o2.lay, o1.dep, h5, k p _ H S Fra.refl (.bl _)⟩
/-! ### is True, is False -/
def flatM : Mv → Bool
  | .bl _ | .int _ | .str _ | .non | .tup _ | .ref _ => true
  | _ => false
noncomputable def isXW (neg : Bool) (a b : Mv) (s : Ms) : Option (Mv × Ms) := match b with
  | .bl y => match a with
    | .bl x => some (.bl (neg != decide (x = y)), s)
    | _ => cond (flatM a) (some (.bl neg, s)) none
  | _ => none
theorem is_any {a : Mv} {x : V} {y : Bool} {p : List Addr} {H : Hp} {u : Value} (d : Den G p H a x) (rx : RelV x u) (fl : flatM a = true) : plainIs u (.bool y) = true ∧ ((∃ z, a = .bl z ∧ u = .bool z) ∨ ((∀ z, a ≠ .bl z) ∧ u ≠ .bool y)) := by
  cases d with
  | bl z => cases rx; exact ⟨rfl, .inl ⟨z, rfl, rfl⟩⟩
  | int i => obtain ⟨t, rfl⟩ := rx; exact ⟨rfl, .inr ⟨(fun _ z => nomatch z), fun z => nomatch z⟩⟩
  | str i => obtain ⟨t, rfl⟩ := rx; exact ⟨rfl, .inr ⟨(fun _ z => nomatch z), fun z => nomatch z⟩⟩
  | non => cases rx; exact ⟨rfl, .inr ⟨(fun _ z => nomatch z), fun z => nomatch z⟩⟩
  | tup => cases rx; exact ⟨rfl, .inr ⟨(fun _ z => nomatch z), fun z => nomatch z⟩⟩
  | ref => cases rx; exact ⟨rfl, .inr ⟨(fun _ z => nomatch z), fun z => nomatch z⟩⟩
  | _ => cases fl
theorem isX_ok {neg : Bool} {a b : Mv} {s s' : Ms} {w : Mv} (h : isXW neg a b s = some (w, s')) : ∃ y, b = .bl y ∧ flatM a = true ∧ s' = s ∧ ((∃ x, a = .bl x ∧ w = .bl (neg != decide (x = y))) ∨ ((∀ x, a ≠ .bl x) ∧ w = .bl neg)) := by
  unfold isXW at h
  cases b with
  | bl y =>
    refine ⟨y, rfl, ?_⟩
    cases a with
    | bl x => cases h; exact ⟨rfl, rfl, .inl ⟨x, rfl, rfl⟩⟩
    | int _ => cases h; exact ⟨rfl, rfl, .inr ⟨(fun _ z => nomatch z), rfl⟩⟩
    | str _ => cases h; exact ⟨rfl, rfl, .inr ⟨(fun _ z => nomatch z), rfl⟩⟩
    | non => cases h; exact ⟨rfl, rfl, .inr ⟨(fun _ z => nomatch z), rfl⟩⟩
    | tup _ => cases h; exact ⟨rfl, rfl, .inr ⟨(fun _ z => nomatch z), rfl⟩⟩
    | ref _ => cases h; exact ⟨rfl, rfl, .inr ⟨(fun _ z => nomatch z), rfl⟩⟩
    | _ => cases h
  | _ => cases h
theorem om_isX : OpR X (compareOp .Is) (q2R G (isXW false)) := by
  intro pins st σ H x y v u Q I rx ry ⟨p, s, a, b, w, s', S, da, db, q, k⟩
  obtain ⟨yb, rfl, fl, rfl, h⟩ := isX_ok q
  cases db
  cases (show u = Value.bool yb from ry)
  obtain ⟨pl, hh⟩ := is_any (y := yb) da rx fl
  rcases h with ⟨xb, rfl, rfl⟩ | ⟨no, rfl⟩
  · rcases hh with ⟨z, e, rfl⟩ | ⟨no, _⟩
    · cases e
      have z := k p _ H S Fra.refl (.bl _)
      by_cases e : xb = yb
      · subst e
        exact wpAny_is_self rfl ⟨.bl true, H, I, rfl, by simpa using z⟩
      · exact wpAny_is_other rfl (fun z => e (Value.bool.inj z)) ⟨.bl false, H, I, rfl, by simpa [e] using z⟩
    · exact absurd rfl (no _)
  · rcases hh with ⟨z, e, _⟩ | ⟨_, ne⟩
    · exact absurd e (no _)
    · exact wpAny_is_other pl ne ⟨.bl false, H, I, rfl, k p _ H S Fra.refl (.bl _)⟩
/-! ### repr -/
noncomputable def reprX : Fn := fun ws s => match ws with
  | [.non] => some (.str (Str.ofString "None"), s)
  | [.bl b] => some (.str (if b then Str.ofString "True" else Str.ofString "False"), s)
  | [.int i] => cond (Nat.blt i.natAbs (2 ^ 64)) (some (.str (Str.ofString (toString i)), s)) none
  | [.str x] => cond (Nat.ble (reprText x).length 16777216) (some (.str (reprText x), s)) none
  | _ => reprW ws s
theorem cm_reprX (gd : X.A.guards = some []) (hu : X.A.units + 64 < cLine) (hK : X.K = G.K := by rfl) : CallR X (.builtin "repr") (rF G reprX) := by
  intro pins st σ H xs us Q I r h
  obtain ⟨p, ms, ws, w, ms', S, l, q, k⟩ := h
  have old : reprX ws ms = reprW ws ms → wpAny (model X.prog X.w) X.A (call (.builtin "repr") us) (EP X pins σ Q) X.xe st := fun e => cm_repr (G := G) gd hu hK pins st σ H xs us Q I r ⟨p, ms, ws, w, ms', S, l, by rw [← e]; exact q, k⟩
  cases l with
  | nil => exact old rfl
  | cons d l =>
    cases l with
    | cons d2 l => refine old ?_; cases d <;> rfl
    | nil =>
      cases r with
      | cons r1 r2 =>
        cases r2
        cases d with
        | non => cases r1; cases q; exact PySem.P.repr_of_none ⟨.str _, H, I.tok _, ⟨_, rfl⟩, k p _ H S Fra.refl (.str _)⟩
        | bl b => cases r1; cases q; exact PySem.P.repr_of_bool ⟨.str _, H, I.tok _, ⟨_, rfl⟩, k p _ H S Fra.refl (.str _)⟩
        | int i =>
          obtain ⟨t, rfl⟩ := r1
          have q : cond (Nat.blt i.natAbs (2 ^ 64)) (some (Mv.str (Str.ofString (toString i)), ms)) none = some (w, ms') := q
          cases e : Nat.blt i.natAbs (2 ^ 64) with
          | false => rw [e] at q; cases q
          | true =>
            rw [e] at q; cases q
            have lt : i.natAbs < 2 ^ 64 := Nat.le_of_ble_eq_true e
            refine PySem.P.repr_of_int ?_ ⟨.str _, H, I.tok _, ⟨_, rfl⟩, k p _ H S Fra.refl (.str _)⟩
            by_cases z : i.natAbs = 0
            · rw [z]; decide
            · exact Nat.lt_trans ((Nat.log2_lt z).mpr lt) (by decide)
        | str x =>
          obtain ⟨t, rfl⟩ := r1
          have q : cond (Nat.ble (reprText x).length 16777216) (some (Mv.str (reprText x), ms)) none = some (w, ms') := q
          cases e : Nat.ble (reprText x).length 16777216 with
          | false => rw [e] at q; cases q
          | true =>
            rw [e] at q; cases q
            exact PySem.P.repr_of_str ⟨.str _, H, I.tok _, ⟨_, rfl⟩, k p _ H S Fra.refl (.str _)⟩ (by rw [sz_eq]; exact Nat.le_of_ble_eq_true e)
        | _ => exact old rfl
end
/-- a sign is not in a text -/
noncomputable def sgNin (x y : Mv) (s : Ms) : Option (Mv × Ms) := match x, y with
  | .str a, .str z => match a.cps.toList with
    | [c] => some (.bl (!z.cps.toList.any fun d => Nat.beq d c), s)
    | _ => none
  | _, _ => none
section
variable {X : Cx} {G : Mg}
theorem om_sgNin : OpR X (compareOp .NotIn) (q2R G sgNin) := opr_imp op_notIn_sign fun x y H Q ⟨p, s, a, b, w, s', S, da, db, q, k⟩ => by
  cases a with
  | str a =>
   cases b with
   | str z =>
    cases da
    cases db
    simp only [sgNin] at q
    split at q
    · rename_i c ec
      cases q
      obtain ⟨cps⟩ := a
      have e : cps = #[c] := by cases cps; simp_all
      subst e
      exact ⟨c, z, rfl, rfl, by rw [← any_beq]; exact k p _ H S Fra.refl (.bl _)⟩
    · cases q
   | _ => cases q
  | _ => cases q
end

end
section
/-! ### 'x' * k, also with k below one -/
noncomputable def smzW (a b : Mv) (s : Ms) : Option (Mv × Ms) := match a, b with
  | .str x, .int k => cond (decide (-1000 ≤ k) && decide (k < 1)) (some (.str Str.empty, s)) (smulW (.str x) (.int k) s)
  | _, _ => none
section
variable {X : Cx} {G : Mg} {p : List Addr} {H : Hp}
theorem om_smz : OpR X (binaryOp .Mult) (q2R G smzW) := by
  intro pins s σ H x y v u Q I rx ry h
  obtain ⟨p, ms, a, b, w, ms', S, da, db, q, k⟩ := h
  unfold smzW at q
  split at q
  · rename_i z j
    cases ec : (decide (-1000 ≤ j) && decide (j < 1)) with
    | true =>
      rw [ec] at q
      cases q
      obtain ⟨c1, c2⟩ := Bool.and_eq_true_iff.mp ec
      have c1 := of_decide_eq_true c1
      have c2 := of_decide_eq_true c2
      cases da
      cases db
      obtain ⟨t, rfl⟩ := rx
      obtain ⟨t', rfl⟩ := ry
      exact PySem.P.mul_str_none (by omega) (by omega) ⟨.str _, H, I.tok _, ⟨_, rfl⟩, k p _ H S Fra.refl (.str _)⟩
    | false =>
      rw [ec] at q
      exact om_smul pins s σ H x y v u Q I rx ry ⟨p, ms, _, _, w, ms', S, da, db, q, k⟩
  · cases q
end

end
section
/-! ### the law's draws, as numbers -/
def drawF (k a c n : Int) : Int × Int × Int :=
  if 0 < a then (a % k, a / k, n) else
    ((((((c + 52021 * (n + 1)) * (38039 + (n + 1)) % 2147483647 + (n + 1) + c / 1000003) * ((c + 52021 * (n + 1)) * (38039 + (n + 1)) % 2147483647 % 40009 + 11)) % 2147483629) * 52021 + (c + 52021 * (n + 1)) * (38039 + (n + 1)) % 2147483647) % 2147483587 / 64 % k, a, n + 1)
theorem drawF_in : DrIn drawF := by
  intro a c n k ok hk
  unfold drawF
  by_cases h : 0 < a
  · rw [if_pos h]
    exact ⟨Int.emod_nonneg _ (by omega), Int.emod_lt_of_pos _ (by omega), Int.ediv_nonneg ok.a0 (by omega), ok.c0, ok.c1, ok.n0⟩
  · rw [if_neg h]
    have := ok.n0
    exact ⟨Int.emod_nonneg _ (by omega), Int.emod_lt_of_pos _ (by omega), ok.a0, ok.c0, ok.c1, by show (0 : Int) ≤ n + 1; omega⟩

/-! ### the program of the law, by places -/
/-! ### texts -/
def x_main : Str := ⟨#[109, 97, 105, 110]⟩
theorem e_x_main : (Str.ofString "main" : Str) = x_main := by decide +kernel
def x_ : Str := ⟨#[]⟩
theorem e_x_ : (Str.ofString "" : Str) = x_ := by decide +kernel
def x_a : Str := ⟨#[97]⟩
theorem e_x_a : (Str.ofString "a" : Str) = x_a := by decide +kernel
def x_z : Str := ⟨#[122]⟩
theorem e_x_z : (Str.ofString "z" : Str) = x_z := by decide +kernel
def x_b : Str := ⟨#[98]⟩
theorem e_x_b : (Str.ofString "b" : Str) = x_b := by decide +kernel
def x_y : Str := ⟨#[121]⟩
theorem e_x_y : (Str.ofString "y" : Str) = x_y := by decide +kernel
def x_local : Str := ⟨#[108, 111, 99, 97, 108]⟩
theorem e_x_local : (Str.ofString "local" : Str) = x_local := by decide +kernel
def xh_6162636465666768696a6b6c6d6e6f707172737475767778797a : Str := ⟨#[97, 98, 99, 100, 101, 102, 103, 104, 105, 106, 107, 108, 109, 110, 111, 112, 113, 114, 115, 116, 117, 118, 119, 120, 121, 122]⟩
theorem e_xh_6162636465666768696a6b6c6d6e6f707172737475767778797a : (Str.ofString "abcdefghijklmnopqrstuvwxyz" : Str) = xh_6162636465666768696a6b6c6d6e6f707172737475767778797a := by decide +kernel
def x_q : Str := ⟨#[113]⟩
theorem e_x_q : (Str.ofString "q" : Str) = x_q := by decide +kernel
def x_open : Str := ⟨#[111, 112, 101, 110]⟩
theorem e_x_open : (Str.ofString "open" : Str) = x_open := by decide +kernel
def x_zlib : Str := ⟨#[122, 108, 105, 98]⟩
theorem e_x_zlib : (Str.ofString "zlib" : Str) = x_zlib := by decide +kernel
def x_deep : Str := ⟨#[100, 101, 101, 112]⟩
theorem e_x_deep : (Str.ofString "deep" : Str) = x_deep := by decide +kernel
def x_cxx : Str := ⟨#[99, 120, 120]⟩
theorem e_x_cxx : (Str.ofString "cxx" : Str) = x_cxx := by decide +kernel
def x_ring : Str := ⟨#[114, 105, 110, 103]⟩
theorem e_x_ring : (Str.ofString "ring" : Str) = x_ring := by decide +kernel
def x_pa : Str := ⟨#[112, 97]⟩
theorem e_x_pa : (Str.ofString "pa" : Str) = x_pa := by decide +kernel
def x_h : Str := ⟨#[104]⟩
theorem e_x_h : (Str.ofString "h" : Str) = x_h := by decide +kernel
def x_g : Str := ⟨#[103]⟩
theorem e_x_g : (Str.ofString "g" : Str) = x_g := by decide +kernel
def x_f : Str := ⟨#[102]⟩
theorem e_x_f : (Str.ofString "f" : Str) = x_f := by decide +kernel
def x_global : Str := ⟨#[103, 108, 111, 98, 97, 108]⟩
theorem e_x_global : (Str.ofString "global" : Str) = x_global := by decide +kernel
def x_deepest : Str := ⟨#[100, 101, 101, 112, 101, 115, 116]⟩
theorem e_x_deepest : (Str.ofString "deepest" : Str) = x_deepest := by decide +kernel
def x_f1 : Str := ⟨#[102, 49]⟩
theorem e_x_f1 : (Str.ofString "f1" : Str) = x_f1 := by decide +kernel
def xh_612062 : Str := ⟨#[97, 32, 98]⟩
theorem e_xh_612062 : (Str.ofString "a b" : Str) = xh_612062 := by decide +kernel
def x_abcdefghi : Str := ⟨#[97, 98, 99, 100, 101, 102, 103, 104, 105]⟩
theorem e_x_abcdefghi : (Str.ofString "abcdefghi" : Str) = x_abcdefghi := by decide +kernel
def x_Zz : Str := ⟨#[90, 122]⟩
theorem e_x_Zz : (Str.ofString "Zz" : Str) = x_Zz := by decide +kernel
/-! ### what the top leaves: the facts that are asked of it -/
def fnames : List Str := []
def GG (P : Program) (w : World) (K : PySem.W.Frag) : Mg where
  P := P
  w := w
  K := K
  cad := fun c => He.ga K (([] : List Str).getD c "")
  nf := 0
  nm := fun k => fnames.getD k ""
  dr := drawF
  tad := fun t => (He.cT K (tf.getD t ("", none))).2
  inj := fun i j hi hj h => by
    have nd : fnames.Nodup := by decide +kernel
    have e1 : fnames[i]? = some (fnames.getD i "") := by rw [List.getD_eq_getElem?_getD, List.getElem?_eq_getElem (show i < fnames.length from hi)]; rfl
    have e2 : fnames[j]? = some (fnames.getD j "") := by rw [List.getD_eq_getElem?_getD, List.getElem?_eq_getElem (show j < fnames.length from hj)]; rfl
    exact nodup_at nd e1 (by rw [h]; exact e2)
structure Tx (K : PySem.W.Frag) (mg : Str → Option Value) (base : Heap) where
  fd : Nat → FuncData
  df : ∀ (i : Nat) (d : He.DefD), fn[i]? = some d → FunD K d.name d.qual d.params d.body d.scope (d.dvs K) (d.kws K) (He.fAd K d.at_) (fd i)
  gl : ∀ x, x ∈ glos → mg x = some (.ref (He.ga K x))
  fr : ∀ x, x ∈ frees → mg x = none
  fc : ∀ f, f ∈ fa → f.ok K = true
  gi : ∀ (x : Str) (i : Int), He.Fa.int x i ∈ fa → ∃ t, mg x = some (.int i t)
  gs : ∀ (x z : Str), He.Fa.str x z ∈ fa → ∃ t, mg x = some (.str z t)
  ex : exB K = true
  tb : ∀ p ∈ tf.map (He.cT K), LamX.TabB base mg p.1 p.2
section
variable {P : Program} {w : World} {K : PySem.W.Frag} {mg : Str → Option Value} {base : Heap}
theorem Tx.kp (T : Tx K mg base) (i : Nat) {d : He.DefD} (h : fn[i]? = some d) : PySem.W.keepIn K (.ref (He.fAd K d.at_)) = true := (T.df i d h).kp
theorem Tx.cl (T : Tx K mg base) (x : Str) (h : He.Fa.cls x ∈ fa) : Cls K (He.ga K x) := He.cls_ok (T.fc _ h)
theorem Tx.na (T : Tx K mg base) (x f : Str) (h : He.Fa.noat x f ∈ fa) : NoAttr K (He.ga K x) f := He.noat_ok (T.fc _ h)
def tw_MODES : List Mv := [.str x_global, .str x_local, .str x_deep]
theorem Tx.tp_MODES (T : Tx K mg base) (H : Hp) : SqT K H (He.ga K "MODES") [.str (Str.ofString "global"), .str (Str.ofString "local"), .str (Str.ofString "deep")] := He.tupB_ok (vs := [.str "global", .str "local", .str "deep"]) (Bool.and_eq_true_iff.mp T.ex).1 H
theorem tl_MODES {p : List Addr} {H : Hp} : DenL (GG P w K) p H tw_MODES [.str (Str.ofString "global"), .str (Str.ofString "local"), .str (Str.ofString "deep")] := .cons (by rw [e_x_global]; exact .str _) (.cons (by rw [e_x_local]; exact .str _) (.cons (by rw [e_x_deep]; exact .str _) (.nil)))
end
/-! ### the mirror, def by def, and what each def keeps -/
section
variable {P : Program} {w : World} {K : PySem.W.Frag} {mg : Str → Option Value} {base : Heap}
theorem sc__law_cell_at : FnScope ["_law_script", "_law_gate"] ["_law_script", "_law_gate"] (defScope s__law_cell_at) := ⟨rfl, rfl, rfl, by decide +kernel, rfl, by decide +kernel, by decide +kernel⟩
theorem b__law_cell_at (T : Tx K mg base) : Binds K (T.fd 2) ["_law_script", "_law_gate"] [] := FunD.bindsN (T.df 2 dd__law_cell_at rfl) fun _ _ _ _ _ _ us hl => match us, hl with | [_, _], _ => rfl
def bd__law_cell_at : Fs :=
  sret (mif (mtB (mop2 ltW (mvar 1) (mcall lenW (mcons (mvar 0) (mnil))))) (mop2 ixA (mvar 0) (mvar 1)) (mcon (.int 0)))
def m__law_cell_at : Fn := fnM 2 2 bd__law_cell_at
theorem ok__law_cell_at (T : Tx K mg base) : FnOk P w K mg base CX0 1 (He.ga K "_law_cell_at") (T.fd 2) ["_law_script", "_law_gate"] (spM (GG P w K) m__law_cell_at) :=
  fn_okD (B := bd__law_cell_at) (T.df 2 dd__law_cell_at rfl) sc__law_cell_at (hb := fun cdv A outer s H E hr => sm_one (sm_ret (pm_if (pm_tcmp (om_lt) (pm_var (pv 1)) (pm_cB cm_len (by rfl) (T.fr "len" (by simp [frees])) bb_len (pm_cons (pm_var (pv 0)) (pm_nil))) (nomark _)) (pm_ixA hr.units (pm_var (pv 0)) (pm_var (pv 1))) (pm_int))))
theorem sc__law_box : FnScope ["_law_script", "_law_gate", "_law_cell"] ["_law_script", "_law_gate"] (defScope s__law_box) := ⟨rfl, rfl, rfl, by decide +kernel, rfl, by decide +kernel, by decide +kernel⟩
theorem b__law_box (T : Tx K mg base) : Binds K (T.fd 1) ["_law_script", "_law_gate"] [] := FunD.bindsN (T.df 1 dd__law_box rfl) fun _ _ _ _ _ _ us hl => match us, hl with | [_, _], _ => rfl
def bd__law_box : Fs :=
  sseq (sset 2 (mcall m__law_cell_at (mcons (mvar 0) (mcons (mvar 1) (mnil)))))
  (sret (mlst (mcons (mop2 mulW (mcall absW (mcons (mvar 2) (mnil))) (mcall intW (mcons (mop2 geW (mcall absW (mcons (mvar 2) (mnil))) (mop2 powW (mcon (.int 10)) (mcon (.int 18)))) (mnil)))) (mcons (mop2 addW (mop2 addW (mop2 modW (mcall intW (mcons (mvar 2) (mnil))) (mcon (.int 2305843009213693951))) (mop2 mulW (mcon (.int 41011)) (mvar 1))) (mcon (.int 19))) (mcons (mcon (.int 0)) (mnil))))))
def m__law_box : Fn := fnM 2 3 bd__law_box
theorem ok__law_box (T : Tx K mg base) : FnOk P w K mg base CX0 2 (He.ga K "_law_box") (T.fd 1) ["_law_script", "_law_gate"] (spM (GG P w K) m__law_box) :=
  fn_okD (B := bd__law_box) (T.df 1 dd__law_box rfl) sc__law_box (hb := fun cdv A outer s H E hr => sm_cons (sm_set (ps_set (i := 2) sc__law_box.nd rfl (Or.inl rfl) (pm_call (ok__law_cell_at T) (hr.mono (by decide)) (by rfl) (T.gl "_law_cell_at" (by simp [glos])) (T.kp 2 rfl) (b__law_cell_at T) pass0 (pm_cons (pm_var (pv 0)) (pm_cons (pm_var (pv 1)) (pm_nil))))))
    (sm_one (sm_ret (pm_lst (pm_cons (pm_bin om_mul (pm_cB cm_abs (by rfl) (T.fr "abs" (by simp [frees])) bb_abs (pm_cons (pm_var (pv 2)) (pm_nil))) (pm_cT cm_int (by rfl) (T.fr "int" (by simp [frees])) bb_int (pm_cons (pm_cmp (om_ge) (pm_cB cm_abs (by rfl) (T.fr "abs" (by simp [frees])) bb_abs (pm_cons (pm_var (pv 2)) (pm_nil))) (pm_bin om_pow (pm_int) (pm_int)) (nomark _)) (pm_nil)))) (pm_cons (pm_bin om_add (pm_bin om_add (pm_bin om_mod (pm_cT cm_int (by rfl) (T.fr "int" (by simp [frees])) bb_int (pm_cons (pm_var (pv 2)) (pm_nil))) (pm_int)) (pm_bin om_mul (pm_int) (pm_var (pv 1)))) (pm_int)) (pm_cons (pm_int) (pm_nil))))))))
def N_is_name : List Str := ["thing", "sign"]
theorem sc_is_name : FnScope ["thing", "sign"] ["thing"] (defScope s_is_name) := ⟨rfl, rfl, rfl, by decide +kernel, rfl, by decide +kernel, by decide +kernel⟩
theorem b_is_name (T : Tx K mg base) : Binds K (T.fd 6) ["thing"] [] := FunD.bindsN (T.df 6 dd_is_name rfl) fun _ _ _ _ _ _ us hl => match us, hl with | [_], _ => rfl
def bd_is_name : Fs :=
  sseq (sif (mor (mnot (mtst (mcall isiW (mcons (mvar 0) (mcons (mcon (.ty .str)) mnil))))) (mnot (mtB (mchain ltW leW (mcon (.int 0)) (mcall lenW (mcons (mvar 0) (mnil))) (mcon (.int 8)))))) (sret (mcon (.bl false))) (snx))
  (sret (mcall allW (mcons (mlc (miX (mvar 0)) (.nm 1) (myes) (mop2 sgIn (mvar 1) (mcon (.str xh_6162636465666768696a6b6c6d6e6f707172737475767778797a))) [1]) (mnil))))
def m_is_name : Fn := fnM 1 2 bd_is_name
theorem ok_is_name (T : Tx K mg base) : FnOk P w K mg base CX0 1 (He.ga K "is_name") (T.fd 6) ["thing"] (spM (GG P w K) m_is_name) :=
  fn_okD (B := bd_is_name) (T.df 6 dd_is_name rfl) sc_is_name (hb := fun cdv A outer s H E hr => sm_cons (sm_if (PW.pt (pm_wor (pm_tnot (pm_tst (pm_cB cm_isi (by rfl) (T.fr "isinstance" (by simp [frees])) bb_isinstance (pm_cons (pm_var (pv 0)) (pm_cons (pm_con (v := .ty "str") (pe_bltn (by rfl) (T.fr "str" (by simp [frees])) bb_str rfl) (fun _ _ _ _ => .ty .str)) pm_nil))))) (pm_wor1 (pm_tnot (pm_tchain (om_lt) (om_le) (pm_int) (pm_cB cm_len (by rfl) (T.fr "len" (by simp [frees])) bb_len (pm_cons (pm_var (pv 0)) (pm_nil))) (pm_gint (T.gi "MOST_LETTERS" 8 (by simp [fa])) (by rfl))))))) (sm_one (sm_ret (pm_bl))) (sm_nil))
    (sm_one (sm_ret (pm_cB cm_all (by rfl) (T.fr "all" (by simp [frees])) bb_all (pm_cons (pm_lc (own := [("sign", 1)]) rfl sc_is_name.nd (im_txt (pm_var (pv 0))) (blkOk_by (own := [("sign", 1)]) (N := N_is_name) (sc := defScope s_is_name) (by decide +kernel)) (fun _ _ _ _ _ => gm_name (pg_name (i := 1) sc_is_name.nd rfl (Or.inl rfl))) (fun _ _ _ _ _ => tm_nil) (fun _ _ _ _ _ => pm_cmp (om_sgIn) (pm_var (pv 1)) (pm_gstr (T.gs "LETTERS" "abcdefghijklmnopqrstuvwxyz" (by simp [fa])) e_xh_6162636465666768696a6b6c6d6e6f707172737475767778797a (by rfl)) (by rfl))) (pm_nil))))))
def N_are_names : List Str := ["thing", "name"]
theorem sc_are_names : FnScope ["thing", "name"] ["thing"] (defScope s_are_names) := ⟨rfl, rfl, rfl, by decide +kernel, rfl, by decide +kernel, by decide +kernel⟩
theorem b_are_names (T : Tx K mg base) : Binds K (T.fd 7) ["thing"] [] := FunD.bindsN (T.df 7 dd_are_names rfl) fun _ _ _ _ _ _ us hl => match us, hl with | [_], _ => rfl
def bd_are_names : Fs :=
  sseq (sif (mor (mnot (mtst (mcall isiW (mcons (mvar 0) (mcons (mcon (.ty .tuple)) mnil))))) (mnot (mtst (mcall allW (mcons (mlc (miS (mvar 0)) (.nm 1) (myes) (mcall m_is_name (mcons (mvar 1) (mnil))) [1]) (mnil)))))) (sret (mcon (.bl false))) (snx))
  (sret (mop2 eqW (mlenS (mvar 0)) (mcall lenW (mcons (mvar 0) (mnil)))))
def m_are_names : Fn := fnM 1 2 bd_are_names
theorem ok_are_names (T : Tx K mg base) : FnOk P w K mg base CX0 2 (He.ga K "are_names") (T.fd 7) ["thing"] (spM (GG P w K) m_are_names) :=
  fn_okD (B := bd_are_names) (T.df 7 dd_are_names rfl) sc_are_names (hb := fun cdv A outer s H E hr => sm_cons (sm_if (PW.pt (pm_wor (pm_tnot (pm_tst (pm_cB cm_isi (by rfl) (T.fr "isinstance" (by simp [frees])) bb_isinstance (pm_cons (pm_var (pv 0)) (pm_cons (pm_con (v := .ty "tuple") (pe_bltn (by rfl) (T.fr "tuple" (by simp [frees])) bb_tuple rfl) (fun _ _ _ _ => .ty .tuple)) pm_nil))))) (pm_wor1 (pm_tnot (pm_tst (pm_cB cm_all (by rfl) (T.fr "all" (by simp [frees])) bb_all (pm_cons (pm_lc (own := [("name", 1)]) rfl sc_are_names.nd (im_seq (pm_var (pv 0))) (blkOk_by (own := [("name", 1)]) (N := N_are_names) (sc := defScope s_are_names) (by decide +kernel)) (fun _ _ _ _ _ => gm_name (pg_name (i := 1) sc_are_names.nd rfl (Or.inl rfl))) (fun _ _ _ _ _ => tm_nil) (fun _ _ _ _ _ => pm_call (ok_is_name T) (hr.mono (by decide)) (by rfl) (T.gl "is_name" (by simp [glos])) (T.kp 6 rfl) (b_is_name T) pass0 (pm_cons (pm_var (pv 1)) (pm_nil)))) (pm_nil)))))))) (sm_one (sm_ret (pm_bl))) (sm_nil))
    (sm_one (sm_ret (pm_cmp (om_eq hr.units) (pm_lenS rfl (by rfl) (T.fr "len" (by simp [frees])) (by rfl) (T.fr "set" (by simp [frees])) (pm_var (pv 0))) (pm_cB cm_len (by rfl) (T.fr "len" (by simp [frees])) bb_len (pm_cons (pm_var (pv 0)) (pm_nil))) (nomark _)))))
theorem sc_is_version : FnScope ["thing"] ["thing"] (defScope s_is_version) := ⟨rfl, rfl, rfl, by decide +kernel, rfl, by decide +kernel, by decide +kernel⟩
theorem b_is_version (T : Tx K mg base) : Binds K (T.fd 9) ["thing"] [] := FunD.bindsN (T.df 9 dd_is_version rfl) fun _ _ _ _ _ _ us hl => match us, hl with | [_], _ => rfl
def bd_is_version : Fs :=
  sret (morV (mcall m_is_name (mcons (mvar 0) (mnil))) (mandV (mcall isiW (mcons (mvar 0) (mcons (mcon (.ty .str)) mnil))) (mop2 eqW (mvar 0) (mcon (.str x_)))))
def m_is_version : Fn := fnM 1 1 bd_is_version
theorem ok_is_version (T : Tx K mg base) : FnOk P w K mg base CX0 2 (He.ga K "is_version") (T.fd 9) ["thing"] (spM (GG P w K) m_is_version) :=
  fn_okD (B := bd_is_version) (T.df 9 dd_is_version rfl) sc_is_version (hb := fun cdv A outer s H E hr => sm_one (sm_ret (pm_or (pm_call (ok_is_name T) (hr.mono (by decide)) (by rfl) (T.gl "is_name" (by simp [glos])) (T.kp 6 rfl) (b_is_name T) pass0 (pm_cons (pm_var (pv 0)) (pm_nil))) (pm_one (pm_and (pm_cB cm_isi (by rfl) (T.fr "isinstance" (by simp [frees])) bb_isinstance (pm_cons (pm_var (pv 0)) (pm_cons (pm_con (v := .ty "str") (pe_bltn (by rfl) (T.fr "str" (by simp [frees])) bb_str rfl) (fun _ _ _ _ => .ty .str)) pm_nil))) (pm_one (pm_cmp (om_eq hr.units) (pm_var (pv 0)) (pm_str e_x_) (nomark _))))))))
def N_are_definitions : List Str := ["thing", "row", "one", "other"]
theorem sc_are_definitions : FnScope ["thing", "row", "one", "other"] ["thing"] (defScope s_are_definitions) := ⟨rfl, rfl, rfl, by decide +kernel, rfl, by decide +kernel, by decide +kernel⟩
theorem b_are_definitions (T : Tx K mg base) : Binds K (T.fd 8) ["thing"] [] := FunD.bindsN (T.df 8 dd_are_definitions rfl) fun _ _ _ _ _ _ us hl => match us, hl with | [_], _ => rfl
def bd_are_definitions : Fs :=
  sseq (sif (mnot (mtst (mcall isiW (mcons (mvar 0) (mcons (mcon (.ty .tuple)) mnil))))) (sret (mcon (.bl false))) (snx))
  (sseq (sfor (miS (mvar 0)) (.nm 1) (sif (mor (mnot (mtst (mcall isiW (mcons (mvar 1) (mcons (mcon (.ty .tuple)) mnil))))) (mor (mtB (mop2 neW (mcall lenW (mcons (mvar 1) (mnil))) (mcon (.int 2)))) (mor (mnot (mtst (mcall m_is_name (mcons (mop2 ixA (mvar 1) (mcon (.int 0))) (mnil))))) (mnot (mtst (mcall m_is_version (mcons (mop2 ixA (mvar 1) (mcon (.int 1))) (mnil)))))))) (sret (mcon (.bl false))) (snx)))
  (sret (mcall allW (mcons (mlc (miZ (mcons (mvar 0) (mcons (mslice (mvar 0) (osome (mcon (.int 1))) (onone)) (mnil)))) (.tp [2, 3]) (myes) (mop2 ltDW (mvar 2) (mvar 3)) [2, 3]) (mnil)))))
def m_are_definitions : Fn := fnM 1 4 bd_are_definitions
theorem ok_are_definitions (T : Tx K mg base) : FnOk P w K mg base CX0 3 (He.ga K "are_definitions") (T.fd 8) ["thing"] (spM (GG P w K) m_are_definitions) :=
  fn_okD (B := bd_are_definitions) (T.df 8 dd_are_definitions rfl) sc_are_definitions (hb := fun cdv A outer s H E hr => sm_cons (sm_if (pm_tnot (pm_tst (pm_cB cm_isi (by rfl) (T.fr "isinstance" (by simp [frees])) bb_isinstance (pm_cons (pm_var (pv 0)) (pm_cons (pm_con (v := .ty "tuple") (pe_bltn (by rfl) (T.fr "tuple" (by simp [frees])) bb_tuple rfl) (fun _ _ _ _ => .ty .tuple)) pm_nil))))) (sm_one (sm_ret (pm_bl))) (sm_nil))
    (sm_cons (sm_for' PassesOwn.never rfl (im_seq (pm_var (pv 0))) (gm_name (pg_name (i := 1) sc_are_definitions.nd rfl (Or.inl rfl))) (sm_one (sm_if (PW.pt (pm_wor (pm_tnot (pm_tst (pm_cB cm_isi (by rfl) (T.fr "isinstance" (by simp [frees])) bb_isinstance (pm_cons (pm_var (pv 1)) (pm_cons (pm_con (v := .ty "tuple") (pe_bltn (by rfl) (T.fr "tuple" (by simp [frees])) bb_tuple rfl) (fun _ _ _ _ => .ty .tuple)) pm_nil))))) (pm_wor (pm_tcmp (om_ne hr.units) (pm_cB cm_len (by rfl) (T.fr "len" (by simp [frees])) bb_len (pm_cons (pm_var (pv 1)) (pm_nil))) (pm_int) (nomark _)) (pm_wor (pm_tnot (pm_tst (pm_call (ok_is_name T) (hr.mono (by decide)) (by rfl) (T.gl "is_name" (by simp [glos])) (T.kp 6 rfl) (b_is_name T) pass0 (pm_cons (pm_ixA hr.units (pm_var (pv 1)) (pm_int)) (pm_nil))))) (pm_wor1 (pm_tnot (pm_tst (pm_call (ok_is_version T) (hr.mono (by decide)) (by rfl) (T.gl "is_version" (by simp [glos])) (T.kp 9 rfl) (b_is_version T) pass0 (pm_cons (pm_ixA hr.units (pm_var (pv 1)) (pm_int)) (pm_nil)))))))))) (sm_one (sm_ret (pm_bl))) (sm_nil))))
    (sm_one (sm_ret (pm_cB cm_all (by rfl) (T.fr "all" (by simp [frees])) bb_all (pm_cons (pm_lc (own := [("one", 2), ("other", 3)]) rfl sc_are_definitions.nd (im_zip (by rfl) (T.fr "zip" (by simp [frees])) (pm_cons (pm_var (pv 0)) (pm_cons (pm_slice (pm_var (pv 0)) (om_some (pm_int)) (om_none)) (pm_nil)))) (blkOk_by (own := [("one", 2), ("other", 3)]) (N := N_are_definitions) (sc := defScope s_are_definitions) (by decide +kernel)) (fun _ _ _ _ _ => gm_tup rfl (gm_cons (pg_name (i := 2) sc_are_definitions.nd rfl (Or.inl rfl)) (gm_cons (pg_name (i := 3) sc_are_definitions.nd rfl (Or.inl rfl)) (gm_nil)))) (fun _ _ _ _ _ => tm_nil) (fun _ _ _ _ _ => pm_cmp (om_ltD hr.units) (pm_var (pv 2)) (pm_var (pv 3)) (nomark _))) (pm_nil)))))))
def N_are_uses : List Str := ["thing", "row"]
theorem sc_are_uses : FnScope ["thing", "row"] ["thing"] (defScope s_are_uses) := ⟨rfl, rfl, rfl, by decide +kernel, rfl, by decide +kernel, by decide +kernel⟩
theorem b_are_uses (T : Tx K mg base) : Binds K (T.fd 10) ["thing"] [] := FunD.bindsN (T.df 10 dd_are_uses rfl) fun _ _ _ _ _ _ us hl => match us, hl with | [_], _ => rfl
def bd_are_uses : Fs :=
  sseq (sif (mor (mnot (mtst (mcall isiW (mcons (mvar 0) (mcons (mcon (.ty .tuple)) mnil))))) (mnot (mtst (mcall allW (mcons (mlc (miS (mvar 0)) (.nm 1) (myes) (mandV (mcall isiW (mcons (mvar 1) (mcons (mcon (.ty .tuple)) mnil))) (mop2 eqW (mcall lenW (mcons (mvar 1) (mnil))) (mcon (.int 3)))) [1]) (mnil)))))) (sret (mcon (.bl false))) (snx))
  (sseq (sif (mnot (mtst (mcall allW (mcons (mlc (miS (mvar 0)) (.nm 1) (myes) (mcall isiW (mcons (mop2 ixA (mvar 1) (mcon (.int 2))) (mcons (mcon (.ty .bool)) mnil))) [1]) (mnil))))) (sret (mcon (.bl false))) (snx))
  (sret (mcall m_are_definitions (mcons (mcall tupleW (mcons (mlc (miS (mvar 0)) (.nm 1) (myes) (mslice (mvar 1) (onone) (osome (mcon (.int 2)))) [1]) (mnil))) (mnil)))))
def m_are_uses : Fn := fnM 1 2 bd_are_uses
theorem ok_are_uses (T : Tx K mg base) : FnOk P w K mg base CX0 4 (He.ga K "are_uses") (T.fd 10) ["thing"] (spM (GG P w K) m_are_uses) :=
  fn_okD (B := bd_are_uses) (T.df 10 dd_are_uses rfl) sc_are_uses (hb := fun cdv A outer s H E hr => sm_cons (sm_if (PW.pt (pm_wor (pm_tnot (pm_tst (pm_cB cm_isi (by rfl) (T.fr "isinstance" (by simp [frees])) bb_isinstance (pm_cons (pm_var (pv 0)) (pm_cons (pm_con (v := .ty "tuple") (pe_bltn (by rfl) (T.fr "tuple" (by simp [frees])) bb_tuple rfl) (fun _ _ _ _ => .ty .tuple)) pm_nil))))) (pm_wor1 (pm_tnot (pm_tst (pm_cB cm_all (by rfl) (T.fr "all" (by simp [frees])) bb_all (pm_cons (pm_lc (own := [("row", 1)]) rfl sc_are_uses.nd (im_seq (pm_var (pv 0))) (blkOk_by (own := [("row", 1)]) (N := N_are_uses) (sc := defScope s_are_uses) (by decide +kernel)) (fun _ _ _ _ _ => gm_name (pg_name (i := 1) sc_are_uses.nd rfl (Or.inl rfl))) (fun _ _ _ _ _ => tm_nil) (fun _ _ _ _ _ => pm_and (pm_cB cm_isi (by rfl) (T.fr "isinstance" (by simp [frees])) bb_isinstance (pm_cons (pm_var (pv 1)) (pm_cons (pm_con (v := .ty "tuple") (pe_bltn (by rfl) (T.fr "tuple" (by simp [frees])) bb_tuple rfl) (fun _ _ _ _ => .ty .tuple)) pm_nil))) (pm_one (pm_cmp (om_eq hr.units) (pm_cB cm_len (by rfl) (T.fr "len" (by simp [frees])) bb_len (pm_cons (pm_var (pv 1)) (pm_nil))) (pm_int) (nomark _))))) (pm_nil)))))))) (sm_one (sm_ret (pm_bl))) (sm_nil))
    (sm_cons (sm_if (pm_tnot (pm_tst (pm_cB cm_all (by rfl) (T.fr "all" (by simp [frees])) bb_all (pm_cons (pm_lc (own := [("row", 1)]) rfl sc_are_uses.nd (im_seq (pm_var (pv 0))) (blkOk_by (own := [("row", 1)]) (N := N_are_uses) (sc := defScope s_are_uses) (by decide +kernel)) (fun _ _ _ _ _ => gm_name (pg_name (i := 1) sc_are_uses.nd rfl (Or.inl rfl))) (fun _ _ _ _ _ => tm_nil) (fun _ _ _ _ _ => pm_cB cm_isi (by rfl) (T.fr "isinstance" (by simp [frees])) bb_isinstance (pm_cons (pm_ixA hr.units (pm_var (pv 1)) (pm_int)) (pm_cons (pm_con (v := .ty "bool") (pe_bltn (by rfl) (T.fr "bool" (by simp [frees])) bb_bool rfl) (fun _ _ _ _ => .ty .bool)) pm_nil)))) (pm_nil))))) (sm_one (sm_ret (pm_bl))) (sm_nil))
    (sm_one (sm_ret (pm_call (ok_are_definitions T) (hr.mono (by decide)) (by rfl) (T.gl "are_definitions" (by simp [glos])) (T.kp 8 rfl) (b_are_definitions T) pass0 (pm_cons (pm_cT cm_tuple (by rfl) (T.fr "tuple" (by simp [frees])) bb_tuple (pm_cons (pm_lc (own := [("row", 1)]) rfl sc_are_uses.nd (im_seq (pm_var (pv 0))) (blkOk_by (own := [("row", 1)]) (N := N_are_uses) (sc := defScope s_are_uses) (by decide +kernel)) (fun _ _ _ _ _ => gm_name (pg_name (i := 1) sc_are_uses.nd rfl (Or.inl rfl))) (fun _ _ _ _ _ => tm_nil) (fun _ _ _ _ _ => pm_slice (pm_var (pv 1)) (om_none) (om_some (pm_int)))) (pm_nil))) (pm_nil)))))))
theorem sc_is_lib : FnScope ["thing"] ["thing"] (defScope s_is_lib) := ⟨rfl, rfl, rfl, by decide +kernel, rfl, by decide +kernel, by decide +kernel⟩
theorem b_is_lib (T : Tx K mg base) : Binds K (T.fd 5) ["thing"] [] := FunD.bindsN (T.df 5 dd_is_lib rfl) fun _ _ _ _ _ _ us hl => match us, hl with | [_], _ => rfl
def bd_is_lib : Fs :=
  sseq (sif (mor (mnot (mtst (mcall isiW (mcons (mvar 0) (mcons (mcon (.ty .tuple)) mnil))))) (mor (mtB (mop2 neW (mcall lenW (mcons (mvar 0) (mnil))) (mcon (.int 4)))) (mnot (mtst (mcall m_is_name (mcons (mop2 ixA (mvar 0) (mcon (.int 0))) (mnil))))))) (sret (mcon (.bl false))) (snx))
  (sseq (sif (mor (mnot (mtst (mcall m_are_names (mcons (mop2 ixA (mvar 0) (mcon (.int 1))) (mnil))))) (mtB (mop2 inA (mop2 ixA (mvar 0) (mcon (.int 0))) (mop2 ixA (mvar 0) (mcon (.int 1)))))) (sret (mcon (.bl false))) (snx))
  (sret (mandV (mcall m_are_definitions (mcons (mop2 ixA (mvar 0) (mcon (.int 2))) (mnil))) (mcall m_are_uses (mcons (mop2 ixA (mvar 0) (mcon (.int 3))) (mnil))))))
def m_is_lib : Fn := fnM 1 1 bd_is_lib
theorem ok_is_lib (T : Tx K mg base) : FnOk P w K mg base CX0 5 (He.ga K "is_lib") (T.fd 5) ["thing"] (spM (GG P w K) m_is_lib) :=
  fn_okD (B := bd_is_lib) (T.df 5 dd_is_lib rfl) sc_is_lib (hb := fun cdv A outer s H E hr => sm_cons (sm_if (PW.pt (pm_wor (pm_tnot (pm_tst (pm_cB cm_isi (by rfl) (T.fr "isinstance" (by simp [frees])) bb_isinstance (pm_cons (pm_var (pv 0)) (pm_cons (pm_con (v := .ty "tuple") (pe_bltn (by rfl) (T.fr "tuple" (by simp [frees])) bb_tuple rfl) (fun _ _ _ _ => .ty .tuple)) pm_nil))))) (pm_wor (pm_tcmp (om_ne hr.units) (pm_cB cm_len (by rfl) (T.fr "len" (by simp [frees])) bb_len (pm_cons (pm_var (pv 0)) (pm_nil))) (pm_int) (nomark _)) (pm_wor1 (pm_tnot (pm_tst (pm_call (ok_is_name T) (hr.mono (by decide)) (by rfl) (T.gl "is_name" (by simp [glos])) (T.kp 6 rfl) (b_is_name T) pass0 (pm_cons (pm_ixA hr.units (pm_var (pv 0)) (pm_int)) (pm_nil))))))))) (sm_one (sm_ret (pm_bl))) (sm_nil))
    (sm_cons (sm_if (PW.pt (pm_wor (pm_tnot (pm_tst (pm_call (ok_are_names T) (hr.mono (by decide)) (by rfl) (T.gl "are_names" (by simp [glos])) (T.kp 7 rfl) (b_are_names T) pass0 (pm_cons (pm_ixA hr.units (pm_var (pv 0)) (pm_int)) (pm_nil))))) (pm_wor1 (pm_tcmp (om_inA (u65 hr)) (pm_ixA hr.units (pm_var (pv 0)) (pm_int)) (pm_ixA hr.units (pm_var (pv 0)) (pm_int)) (by rfl))))) (sm_one (sm_ret (pm_bl))) (sm_nil))
    (sm_one (sm_ret (pm_and (pm_call (ok_are_definitions T) (hr.mono (by decide)) (by rfl) (T.gl "are_definitions" (by simp [glos])) (T.kp 8 rfl) (b_are_definitions T) pass0 (pm_cons (pm_ixA hr.units (pm_var (pv 0)) (pm_int)) (pm_nil))) (pm_one (pm_call (ok_are_uses T) (hr.mono (by decide)) (by rfl) (T.gl "are_uses" (by simp [glos])) (T.kp 10 rfl) (b_are_uses T) pass0 (pm_cons (pm_ixA hr.units (pm_var (pv 0)) (pm_int)) (pm_nil)))))))))
theorem sc_is_door : FnScope ["thing", "names"] ["thing", "names"] (defScope s_is_door) := ⟨rfl, rfl, rfl, by decide +kernel, rfl, by decide +kernel, by decide +kernel⟩
theorem b_is_door (T : Tx K mg base) : Binds K (T.fd 11) ["thing", "names"] [] := FunD.bindsN (T.df 11 dd_is_door rfl) fun _ _ _ _ _ _ us hl => match us, hl with | [_, _], _ => rfl
def bd_is_door : Fs :=
  sseq (sif (mor (mnot (mtst (mcall isiW (mcons (mvar 0) (mcons (mcon (.ty .tuple)) mnil))))) (mor (mtB (mop2 neW (mcall lenW (mcons (mvar 0) (mnil))) (mcon (.int 2)))) (mor (mnot (mtst (mcall m_is_name (mcons (mop2 ixA (mvar 0) (mcon (.int 0))) (mnil))))) (mtB (mop2 ninA (mop2 ixA (mvar 0) (mcon (.int 0))) (mvar 1)))))) (sret (mcon (.bl false))) (snx))
  (sret (mandV (mcall isiW (mcons (mop2 ixA (mvar 0) (mcon (.int 1))) (mcons (mcon (.ty .str)) mnil))) (mop2 inA (mop2 ixA (mvar 0) (mcon (.int 1))) (mcon (.tup tw_MODES)))))
def m_is_door : Fn := fnM 2 2 bd_is_door
theorem ok_is_door (T : Tx K mg base) : FnOk P w K mg base CX0 2 (He.ga K "is_door") (T.fd 11) ["thing", "names"] (spM (GG P w K) m_is_door) :=
  fn_okD (B := bd_is_door) (T.df 11 dd_is_door rfl) sc_is_door (hb := fun cdv A outer s H E hr => sm_cons (sm_if (PW.pt (pm_wor (pm_tnot (pm_tst (pm_cB cm_isi (by rfl) (T.fr "isinstance" (by simp [frees])) bb_isinstance (pm_cons (pm_var (pv 0)) (pm_cons (pm_con (v := .ty "tuple") (pe_bltn (by rfl) (T.fr "tuple" (by simp [frees])) bb_tuple rfl) (fun _ _ _ _ => .ty .tuple)) pm_nil))))) (pm_wor (pm_tcmp (om_ne hr.units) (pm_cB cm_len (by rfl) (T.fr "len" (by simp [frees])) bb_len (pm_cons (pm_var (pv 0)) (pm_nil))) (pm_int) (nomark _)) (pm_wor (pm_tnot (pm_tst (pm_call (ok_is_name T) (hr.mono (by decide)) (by rfl) (T.gl "is_name" (by simp [glos])) (T.kp 6 rfl) (b_is_name T) pass0 (pm_cons (pm_ixA hr.units (pm_var (pv 0)) (pm_int)) (pm_nil))))) (pm_wor1 (pm_tcmp (om_ninA (u65 hr)) (pm_ixA hr.units (pm_var (pv 0)) (pm_int)) (pm_var (pv 1)) (by rfl))))))) (sm_one (sm_ret (pm_bl))) (sm_nil))
    (sm_one (sm_ret (pm_and (pm_cB cm_isi (by rfl) (T.fr "isinstance" (by simp [frees])) bb_isinstance (pm_cons (pm_ixA hr.units (pm_var (pv 0)) (pm_int)) (pm_cons (pm_con (v := .ty "str") (pe_bltn (by rfl) (T.fr "str" (by simp [frees])) bb_str rfl) (fun _ _ _ _ => .ty .str)) pm_nil))) (pm_one (pm_cmp (om_inA (u65 hr)) (pm_ixA hr.units (pm_var (pv 0)) (pm_int)) (pm_gtup (T.gl "MODES" (by simp [glos])) T.tp_MODES (fun _ _ => tl_MODES) (by rfl)) (by rfl)))))))
def N_is_program : List Str := ["thing", "names", "lib", "name", "door"]
theorem sc_is_program : FnScope ["thing", "names", "lib", "name", "door"] ["thing"] (defScope s_is_program) := ⟨rfl, rfl, rfl, by decide +kernel, rfl, by decide +kernel, by decide +kernel⟩
theorem kb_is_program_0 (T : Tx K mg base) : KBinds K (T.fd 4) ["thing"] ["thing"] (gKw [0]) (gKw [0]) := kb_of (T.df 4 dd_is_program rfl) (by simp) fun _ _ _ _ _ _ ws hl => match ws, hl with | _ :: _, _ => rfl | [], hl => absurd hl (by simp [kpick])
theorem b_is_program (T : Tx K mg base) : Binds K (T.fd 4) ["thing"] [] := FunD.bindsN (T.df 4 dd_is_program rfl) fun _ _ _ _ _ _ us hl => match us, hl with | [_], _ => rfl
def bd_is_program : Fs :=
  sseq (sif (mor (mnot (mtst (mcall isiW (mcons (mvar 0) (mcons (mcon (.ty .tuple)) mnil))))) (mor (mtB (mop2 neW (mcall lenW (mcons (mvar 0) (mnil))) (mcon (.int 3)))) (mor (mnot (mtst (mcall isiW (mcons (mop2 ixA (mvar 0) (mcon (.int 0))) (mcons (mcon (.ty .tuple)) mnil))))) (mtB (mop2 eqW (mcall lenW (mcons (mop2 ixA (mvar 0) (mcon (.int 0))) (mnil))) (mcon (.int 0))))))) (sret (mcon (.bl false))) (snx))
  (sseq (sif (mnot (mtst (mcall allW (mcons (mlc (miS (mop2 ixA (mvar 0) (mcon (.int 0)))) (.nm 2) (myes) (mcall m_is_lib (mcons (mvar 2) (mnil))) [2]) (mnil))))) (sret (mcon (.bl false))) (snx))
  (sseq (sset 1 (mlc (miS (mop2 ixA (mvar 0) (mcon (.int 0)))) (.nm 2) (myes) (mop2 ixA (mvar 2) (mcon (.int 0))) [2]))
  (sseq (sif (mor (mtB (mop2 neW (mlenX (mvar 1)) (mcall lenW (mcons (mvar 1) (mnil))))) (mor (mnot (mtst (mcall m_are_names (mcons (mop2 ixA (mvar 0) (mcon (.int 1))) (mnil))))) (mnot (mtst (mcall isiW (mcons (mop2 ixA (mvar 0) (mcon (.int 2))) (mcons (mcon (.ty .tuple)) mnil))))))) (sret (mcon (.bl false))) (snx))
  (sseq (sif (mnot (mtst (mcall allW (mcons (mlc2 (miS (mop2 ixA (mvar 0) (mcon (.int 0)))) (.nm 2) (myes) (miS (mop2 ixA (mvar 2) (mcon (.int 1)))) (.nm 3) (myes) (mop2 inA (mvar 3) (mslice (mvar 1) (osome (mcon (.int 1))) (onone))) [2, 3] [3]) (mnil))))) (sret (mcon (.bl false))) (snx))
  (sseq (sif (mor (mnot (mtst (mcall allW (mcons (mlc (miS (mop2 ixA (mvar 0) (mcon (.int 1)))) (.nm 3) (myes) (mop2 inA (mvar 3) (mslice (mvar 1) (osome (mcon (.int 1))) (onone))) [3]) (mnil))))) (mnot (mtst (mcall allW (mcons (mlc (miS (mop2 ixA (mvar 0) (mcon (.int 2)))) (.nm 4) (myes) (mcall m_is_door (mcons (mvar 4) (mcons (mslice (mvar 1) (osome (mcon (.int 1))) (onone)) (mnil)))) [4]) (mnil)))))) (sret (mcon (.bl false))) (snx))
  (sret (mop2 eqW (mlenX (mop2 ixA (mvar 0) (mcon (.int 2)))) (mcall lenW (mcons (mop2 ixA (mvar 0) (mcon (.int 2))) (mnil))))))))))
def m_is_program : Fn := fnM 1 5 bd_is_program
theorem ok_is_program (T : Tx K mg base) : FnOk P w K mg base CX0 6 (He.ga K "is_program") (T.fd 4) ["thing"] (spM (GG P w K) m_is_program) :=
  fn_okD (B := bd_is_program) (T.df 4 dd_is_program rfl) sc_is_program (hb := fun cdv A outer s H E hr => sm_cons (sm_if (PW.pt (pm_wor (pm_tnot (pm_tst (pm_cB cm_isi (by rfl) (T.fr "isinstance" (by simp [frees])) bb_isinstance (pm_cons (pm_var (pv 0)) (pm_cons (pm_con (v := .ty "tuple") (pe_bltn (by rfl) (T.fr "tuple" (by simp [frees])) bb_tuple rfl) (fun _ _ _ _ => .ty .tuple)) pm_nil))))) (pm_wor (pm_tcmp (om_ne hr.units) (pm_cB cm_len (by rfl) (T.fr "len" (by simp [frees])) bb_len (pm_cons (pm_var (pv 0)) (pm_nil))) (pm_int) (nomark _)) (pm_wor (pm_tnot (pm_tst (pm_cB cm_isi (by rfl) (T.fr "isinstance" (by simp [frees])) bb_isinstance (pm_cons (pm_ixA hr.units (pm_var (pv 0)) (pm_int)) (pm_cons (pm_con (v := .ty "tuple") (pe_bltn (by rfl) (T.fr "tuple" (by simp [frees])) bb_tuple rfl) (fun _ _ _ _ => .ty .tuple)) pm_nil))))) (pm_wor1 (pm_tcmp (om_eq hr.units) (pm_cB cm_len (by rfl) (T.fr "len" (by simp [frees])) bb_len (pm_cons (pm_ixA hr.units (pm_var (pv 0)) (pm_int)) (pm_nil))) (pm_int) (nomark _))))))) (sm_one (sm_ret (pm_bl))) (sm_nil))
    (sm_cons (sm_if (pm_tnot (pm_tst (pm_cB cm_all (by rfl) (T.fr "all" (by simp [frees])) bb_all (pm_cons (pm_lc (own := [("lib", 2)]) rfl sc_is_program.nd (im_seq (pm_ixA hr.units (pm_var (pv 0)) (pm_int))) (blkOk_by (own := [("lib", 2)]) (N := N_is_program) (sc := defScope s_is_program) (by decide +kernel)) (fun _ _ _ _ _ => gm_name (pg_name (i := 2) sc_is_program.nd rfl (Or.inl rfl))) (fun _ _ _ _ _ => tm_nil) (fun _ _ _ _ _ => pm_call (ok_is_lib T) (hr.mono (by decide)) (by rfl) (T.gl "is_lib" (by simp [glos])) (T.kp 5 rfl) (b_is_lib T) pass0 (pm_cons (pm_var (pv 2)) (pm_nil)))) (pm_nil))))) (sm_one (sm_ret (pm_bl))) (sm_nil))
    (sm_cons (sm_set (ps_set (i := 1) sc_is_program.nd rfl (Or.inr rfl) (pm_lc (own := [("lib", 2)]) rfl sc_is_program.nd (im_seq (pm_ixA hr.units (pm_var (pv 0)) (pm_int))) (blkOk_by (own := [("lib", 2)]) (N := N_is_program) (sc := defScope s_is_program) (by decide +kernel)) (fun _ _ _ _ _ => gm_name (pg_name (i := 2) sc_is_program.nd rfl (Or.inl rfl))) (fun _ _ _ _ _ => tm_nil) (fun _ _ _ _ _ => pm_ixA hr.units (pm_var (pv 2)) (pm_int)))))
    (sm_cons (sm_if (PW.pt (pm_wor (pm_tcmp (om_ne hr.units) (pm_lenX rfl hr.units (by rfl) (T.fr "len" (by simp [frees])) (by rfl) (T.fr "set" (by simp [frees])) (pm_var (pv 1))) (pm_cB cm_len (by rfl) (T.fr "len" (by simp [frees])) bb_len (pm_cons (pm_var (pv 1)) (pm_nil))) (nomark _)) (pm_wor (pm_tnot (pm_tst (pm_call (ok_are_names T) (hr.mono (by decide)) (by rfl) (T.gl "are_names" (by simp [glos])) (T.kp 7 rfl) (b_are_names T) pass0 (pm_cons (pm_ixA hr.units (pm_var (pv 0)) (pm_int)) (pm_nil))))) (pm_wor1 (pm_tnot (pm_tst (pm_cB cm_isi (by rfl) (T.fr "isinstance" (by simp [frees])) bb_isinstance (pm_cons (pm_ixA hr.units (pm_var (pv 0)) (pm_int)) (pm_cons (pm_con (v := .ty "tuple") (pe_bltn (by rfl) (T.fr "tuple" (by simp [frees])) bb_tuple rfl) (fun _ _ _ _ => .ty .tuple)) pm_nil))))))))) (sm_one (sm_ret (pm_bl))) (sm_nil))
    (sm_cons (sm_if (pm_tnot (pm_tst (pm_cB cm_all (by rfl) (T.fr "all" (by simp [frees])) bb_all (pm_cons (pm_lc2 (own := [("lib", 2), ("name", 3)]) (vs1 := [3]) rfl sc_is_program.nd (im_seq (pm_ixA hr.units (pm_var (pv 0)) (pm_int))) (blkOk_by (own := [("lib", 2), ("name", 3)]) (N := N_is_program) (sc := defScope s_is_program) (by decide +kernel)) (fun _ _ _ _ _ => gm_name (pg_name (i := 2) sc_is_program.nd rfl (Or.inl rfl))) (fun _ _ _ _ _ => tm_nil) (fun _ _ _ _ _ => im_seq (pm_ixA hr.units (pm_var (pv 2)) (pm_int))) (fun _ _ _ _ _ => gm_name (pg_name (i := 3) sc_is_program.nd rfl (Or.inl rfl))) (fun _ _ _ _ _ => tm_nil) (fun _ _ _ _ _ => pm_cmp (om_inA (u65 hr)) (pm_var (pv 3)) (pm_slice (pm_var (pv 1)) (om_some (pm_int)) (om_none)) (by rfl))) (pm_nil))))) (sm_one (sm_ret (pm_bl))) (sm_nil))
    (sm_cons (sm_if (PW.pt (pm_wor (pm_tnot (pm_tst (pm_cB cm_all (by rfl) (T.fr "all" (by simp [frees])) bb_all (pm_cons (pm_lc (own := [("name", 3)]) rfl sc_is_program.nd (im_seq (pm_ixA hr.units (pm_var (pv 0)) (pm_int))) (blkOk_by (own := [("name", 3)]) (N := N_is_program) (sc := defScope s_is_program) (by decide +kernel)) (fun _ _ _ _ _ => gm_name (pg_name (i := 3) sc_is_program.nd rfl (Or.inl rfl))) (fun _ _ _ _ _ => tm_nil) (fun _ _ _ _ _ => pm_cmp (om_inA (u65 hr)) (pm_var (pv 3)) (pm_slice (pm_var (pv 1)) (om_some (pm_int)) (om_none)) (by rfl))) (pm_nil))))) (pm_wor1 (pm_tnot (pm_tst (pm_cB cm_all (by rfl) (T.fr "all" (by simp [frees])) bb_all (pm_cons (pm_lc (own := [("door", 4)]) rfl sc_is_program.nd (im_seq (pm_ixA hr.units (pm_var (pv 0)) (pm_int))) (blkOk_by (own := [("door", 4)]) (N := N_is_program) (sc := defScope s_is_program) (by decide +kernel)) (fun _ _ _ _ _ => gm_name (pg_name (i := 4) sc_is_program.nd rfl (Or.inl rfl))) (fun _ _ _ _ _ => tm_nil) (fun _ _ _ _ _ => pm_call (ok_is_door T) (hr.mono (by decide)) (by rfl) (T.gl "is_door" (by simp [glos])) (T.kp 11 rfl) (b_is_door T) pass0 (pm_cons (pm_var (pv 4)) (pm_cons (pm_slice (pm_var (pv 1)) (om_some (pm_int)) (om_none)) (pm_nil))))) (pm_nil)))))))) (sm_one (sm_ret (pm_bl))) (sm_nil))
    (sm_one (sm_ret (pm_cmp (om_eq hr.units) (pm_lenX rfl hr.units (by rfl) (T.fr "len" (by simp [frees])) (by rfl) (T.fr "set" (by simp [frees])) (pm_ixA hr.units (pm_var (pv 0)) (pm_int))) (pm_cB cm_len (by rfl) (T.fr "len" (by simp [frees])) bb_len (pm_cons (pm_ixA hr.units (pm_var (pv 0)) (pm_int)) (pm_nil))) (nomark _))))))))))
theorem sc__law_take : FnScope ["_law_box_here", "_law_many", "_law_found", "_law_once", "_law_odd_here", "_law_twice"] ["_law_box_here", "_law_many"] (defScope s__law_take) := ⟨rfl, rfl, rfl, by decide +kernel, rfl, by decide +kernel, by decide +kernel⟩
theorem b__law_take (T : Tx K mg base) : Binds K (T.fd 14) ["_law_box_here", "_law_many"] [] := FunD.bindsN (T.df 14 dd__law_take rfl) fun _ _ _ _ _ _ us hl => match us, hl with | [_, _], _ => rfl
def bd__law_take : Fs :=
  sseq (sif (mtB (mop2 gtW (mop2 ixA (mvar 0) (mcon (.int 0))) (mcon (.int 0)))) (sseq (sset 2 (mop2 modW (mcall intW (mcons (mop2 ixA (mvar 0) (mcon (.int 0))) (mnil))) (mvar 1)))
  (sseq (ssubA (mvar 0) (mcon (.int 0)) (mop2 divW (mop2 ixA (mvar 0) (mcon (.int 0))) (mvar 1)))
  (sret (mvar 2)))) (snx))
  (sseq (ssubA (mvar 0) (mcon (.int 2)) (mop2 addW (mop2 ixA (mvar 0) (mcon (.int 2))) (mcon (.int 1))))
  (sseq (sset 3 (mop2 modW (mcall intW (mcons (mop2 mulW (mop2 addW (mop2 ixA (mvar 0) (mcon (.int 1))) (mop2 mulW (mcon (.int 52021)) (mop2 ixA (mvar 0) (mcon (.int 2))))) (mop2 addW (mcon (.int 38039)) (mop2 ixA (mvar 0) (mcon (.int 2))))) (mnil))) (mcon (.int 2147483647))))
  (sseq (sset 4 (mop2 addW (mop2 modW (mcall intW (mcons (mvar 3) (mnil))) (mcon (.int 40009))) (mcon (.int 11))))
  (sseq (sset 5 (mop2 modW (mcall intW (mcons (mop2 mulW (mop2 addW (mop2 addW (mvar 3) (mop2 ixA (mvar 0) (mcon (.int 2)))) (mop2 divW (mop2 ixA (mvar 0) (mcon (.int 1))) (mcon (.int 1000003)))) (mvar 4)) (mnil))) (mcon (.int 2147483629))))
  (sret (mop2 modW (mcall intW (mcons (mop2 divW (mop2 modW (mcall intW (mcons (mop2 addW (mop2 mulW (mvar 5) (mcon (.int 52021))) (mvar 3)) (mnil))) (mcon (.int 2147483587))) (mcon (.int 64))) (mnil))) (mvar 1)))))))
def m__law_take : Fn := fnM 2 6 bd__law_take
theorem ok__law_take (T : Tx K mg base) : FnOk P w K mg base CX0 1 (He.ga K "_law_take") (T.fd 14) ["_law_box_here", "_law_many"] (spM (GG P w K) m__law_take) :=
  fn_okD (B := bd__law_take) (T.df 14 dd__law_take rfl) sc__law_take (hb := fun cdv A outer s H E hr => sm_cons (sm_if (pm_tcmp (om_gt) (pm_ixA hr.units (pm_var (pv 0)) (pm_int)) (pm_int) (nomark _)) (sm_cons (sm_set (ps_set (i := 2) sc__law_take.nd rfl (Or.inl rfl) (pm_bin om_mod (pm_cT cm_int (by rfl) (T.fr "int" (by simp [frees])) bb_int (pm_cons (pm_ixA hr.units (pm_var (pv 0)) (pm_int)) (pm_nil))) (pm_var (pv 1)))))
    (sm_cons (sm_subA (ps_asg (pm_bin om_div (pm_ixA hr.units (pm_var (pv 0)) (pm_int)) (pm_var (pv 1))) (pg_sub (pm_var (pv 0)) (pm_int) (set_any hr.units rfl))))
    (sm_one (sm_ret (pm_var (pv 2)))))) (sm_nil))
    (sm_cons (sm_subA (ps_asg (pm_bin om_add (pm_ixA hr.units (pm_var (pv 0)) (pm_int)) (pm_int)) (pg_sub (pm_var (pv 0)) (pm_int) (set_any hr.units rfl))))
    (sm_cons (sm_set (ps_set (i := 3) sc__law_take.nd rfl (Or.inl rfl) (pm_bin om_mod (pm_cT cm_int (by rfl) (T.fr "int" (by simp [frees])) bb_int (pm_cons (pm_bin om_mul (pm_bin om_add (pm_ixA hr.units (pm_var (pv 0)) (pm_int)) (pm_bin om_mul (pm_int) (pm_ixA hr.units (pm_var (pv 0)) (pm_int)))) (pm_bin om_add (pm_int) (pm_ixA hr.units (pm_var (pv 0)) (pm_int)))) (pm_nil))) (pm_int))))
    (sm_cons (sm_set (ps_set (i := 4) sc__law_take.nd rfl (Or.inl rfl) (pm_bin om_add (pm_bin om_mod (pm_cT cm_int (by rfl) (T.fr "int" (by simp [frees])) bb_int (pm_cons (pm_var (pv 3)) (pm_nil))) (pm_int)) (pm_int))))
    (sm_cons (sm_set (ps_set (i := 5) sc__law_take.nd rfl (Or.inl rfl) (pm_bin om_mod (pm_cT cm_int (by rfl) (T.fr "int" (by simp [frees])) bb_int (pm_cons (pm_bin om_mul (pm_bin om_add (pm_bin om_add (pm_var (pv 3)) (pm_ixA hr.units (pm_var (pv 0)) (pm_int))) (pm_bin om_div (pm_ixA hr.units (pm_var (pv 0)) (pm_int)) (pm_int))) (pm_var (pv 4))) (pm_nil))) (pm_int))))
    (sm_one (sm_ret (pm_bin om_mod (pm_cT cm_int (by rfl) (T.fr "int" (by simp [frees])) bb_int (pm_cons (pm_bin om_div (pm_bin om_mod (pm_cT cm_int (by rfl) (T.fr "int" (by simp [frees])) bb_int (pm_cons (pm_bin om_add (pm_bin om_mul (pm_var (pv 5)) (pm_int)) (pm_var (pv 3))) (pm_nil))) (pm_int)) (pm_int)) (pm_nil))) (pm_var (pv 1))))))))))
theorem sc__law_names : FnScope ["_law_box_here", "_law_many", "_law_pool", "_law_found", "_law_time"] ["_law_box_here", "_law_many"] (defScope s__law_names) := ⟨rfl, rfl, rfl, by decide +kernel, rfl, by decide +kernel, by decide +kernel⟩
theorem b__law_names (T : Tx K mg base) : Binds K (T.fd 13) ["_law_box_here", "_law_many"] [] := FunD.bindsN (T.df 13 dd__law_names rfl) fun _ _ _ _ _ _ us hl => match us, hl with | [_, _], _ => rfl
def bd__law_names : Fs :=
  sseq (spar 2 3 (mcons (mlst (mcons (mcon (.str x_pa)) (mcons (mcon (.str x_b)) (mcons (mcon (.str x_ring)) (mcons (mcon (.str x_cxx)) (mcons (mcon (.str x_deep)) (mcons (mcon (.str x_a)) (mcons (mcon (.str x_zlib)) (mcons (mcon (.str x_open)) (mcons (mcon (.str x_q)) (mcons (mcon (.str x_local)) (mnil)))))))))))) (mcons (mlst (mnil)) (mnil))))
  (sseq (sfor (miR1 (mcons (mvar 1) (mnil))) (.nm 4) (sexp (mbmL appW (mvar 3) (mcons (mbmL popW (mvar 2) (mcons (mcall m__law_take (mcons (mvar 0) (mcons (mcall lenW (mcons (mvar 2) (mnil))) (mnil)))) (mnil))) (mnil)))))
  (sret (mvar 3)))
def m__law_names : Fn := fnM 2 5 bd__law_names
theorem ok__law_names (T : Tx K mg base) : FnOk P w K mg base CX0 2 (He.ga K "_law_names") (T.fd 13) ["_law_box_here", "_law_many"] (spM (GG P w K) m__law_names) :=
  fn_okD (B := bd__law_names) (T.df 13 dd__law_names rfl) sc__law_names (hb := fun cdv A outer s H E hr => sm_cons (sm_par (ps_par (i := 2) (j := 3) rfl sc__law_names.nd rfl rfl (by decide) rfl rfl (pm_cons (pm_lst (pm_cons (pm_str e_x_pa) (pm_cons (pm_str e_x_b) (pm_cons (pm_str e_x_ring) (pm_cons (pm_str e_x_cxx) (pm_cons (pm_str e_x_deep) (pm_cons (pm_str e_x_a) (pm_cons (pm_str e_x_zlib) (pm_cons (pm_str e_x_open) (pm_cons (pm_str e_x_q) (pm_cons (pm_str e_x_local) (pm_nil)))))))))))) (pm_cons (pm_lst (pm_nil)) (pm_nil))) (by rfl)))
    (sm_cons (sm_for' PassesOwn.never rfl (im_range1 (by rfl) (T.fr "range" (by simp [frees])) (pm_cons (pm_var (pv 1)) (pm_nil))) (gm_name (pg_name (i := 4) sc__law_names.nd rfl (Or.inl rfl))) (sm_one (sm_exp (pm_bmL lm_app (pe_bm PySem.F.plainAttrs_list PySem.F.slot_list_append PySem.F.type_list_append mt_append (pm_var (pv 3)) (pm_cons (pm_bmL lm_pop (pe_bm PySem.F.plainAttrs_list PySem.F.slot_list_pop PySem.F.type_list_pop mt_popAt (pm_var (pv 2)) (pm_cons (pm_call (ok__law_take T) (hr.mono (by decide)) (by rfl) (T.gl "_law_take" (by simp [glos])) (T.kp 14 rfl) (b__law_take T) pass0 (pm_cons (pm_var (pv 0)) (pm_cons (pm_cB cm_len (by rfl) (T.fr "len" (by simp [frees])) bb_len (pm_cons (pm_var (pv 2)) (pm_nil))) (pm_nil)))) (pm_nil)))) (pm_nil)))))))
    (sm_one (sm_ret (pm_var (pv 3))))))
theorem sc__law_some : FnScope ["_law_box_here", "_law_some_here", "_law_most", "_law_left", "_law_found", "_law_time"] ["_law_box_here", "_law_some_here", "_law_most"] (defScope s__law_some) := ⟨rfl, rfl, rfl, by decide +kernel, rfl, by decide +kernel, by decide +kernel⟩
theorem b__law_some (T : Tx K mg base) : Binds K (T.fd 16) ["_law_box_here", "_law_some_here", "_law_most"] [] := FunD.bindsN (T.df 16 dd__law_some rfl) fun _ _ _ _ _ _ us hl => match us, hl with | [_, _, _], _ => rfl
def bd__law_some : Fs :=
  sseq (spar 3 4 (mcons (mcall listW (mcons (mvar 1) (mnil))) (mcons (mlst (mnil)) (mnil))))
  (sseq (sfor (miR1 (mcons (mcall m__law_take (mcons (mvar 0) (mcons (mop2 addW (mvar 2) (mcon (.int 1))) (mnil)))) (mnil))) (.nm 5) (sif (mtB (mop2 neW (mvar 3) (mlst (mnil)))) (sexp (mbmL appW (mvar 4) (mcons (mbmL popW (mvar 3) (mcons (mcall m__law_take (mcons (mvar 0) (mcons (mcall lenW (mcons (mvar 3) (mnil))) (mnil)))) (mnil))) (mnil)))) (snx)))
  (sret (mvar 4)))
def m__law_some : Fn := fnM 3 6 bd__law_some
theorem ok__law_some (T : Tx K mg base) : FnOk P w K mg base CX0 2 (He.ga K "_law_some") (T.fd 16) ["_law_box_here", "_law_some_here", "_law_most"] (spM (GG P w K) m__law_some) :=
  fn_okD (B := bd__law_some) (T.df 16 dd__law_some rfl) sc__law_some (hb := fun cdv A outer s H E hr => sm_cons (sm_par (ps_par (i := 3) (j := 4) rfl sc__law_some.nd rfl rfl (by decide) rfl rfl (pm_cons (pm_cT cm_list (by rfl) (T.fr "list" (by simp [frees])) bb_list (pm_cons (pm_var (pv 1)) (pm_nil))) (pm_cons (pm_lst (pm_nil)) (pm_nil))) (by rfl)))
    (sm_cons (sm_for' PassesOwn.never rfl (im_range1 (by rfl) (T.fr "range" (by simp [frees])) (pm_cons (pm_call (ok__law_take T) (hr.mono (by decide)) (by rfl) (T.gl "_law_take" (by simp [glos])) (T.kp 14 rfl) (b__law_take T) pass0 (pm_cons (pm_var (pv 0)) (pm_cons (pm_bin om_add (pm_var (pv 2)) (pm_int)) (pm_nil)))) (pm_nil))) (gm_name (pg_name (i := 5) sc__law_some.nd rfl (Or.inl rfl))) (sm_one (sm_if (pm_tcmp (om_ne hr.units) (pm_var (pv 3)) (pm_lst (pm_nil)) (nomark _)) (sm_one (sm_exp (pm_bmL lm_app (pe_bm PySem.F.plainAttrs_list PySem.F.slot_list_append PySem.F.type_list_append mt_append (pm_var (pv 4)) (pm_cons (pm_bmL lm_pop (pe_bm PySem.F.plainAttrs_list PySem.F.slot_list_pop PySem.F.type_list_pop mt_popAt (pm_var (pv 3)) (pm_cons (pm_call (ok__law_take T) (hr.mono (by decide)) (by rfl) (T.gl "_law_take" (by simp [glos])) (T.kp 14 rfl) (b__law_take T) pass0 (pm_cons (pm_var (pv 0)) (pm_cons (pm_cB cm_len (by rfl) (T.fr "len" (by simp [frees])) bb_len (pm_cons (pm_var (pv 3)) (pm_nil))) (pm_nil)))) (pm_nil)))) (pm_nil)))))) (sm_nil))))
    (sm_one (sm_ret (pm_var (pv 4))))))
theorem sc__law_pick : FnScope ["_law_box_here", "_law_some_here"] ["_law_box_here", "_law_some_here"] (defScope s__law_pick) := ⟨rfl, rfl, rfl, by decide +kernel, rfl, by decide +kernel, by decide +kernel⟩
theorem b__law_pick (T : Tx K mg base) : Binds K (T.fd 18) ["_law_box_here", "_law_some_here"] [] := FunD.bindsN (T.df 18 dd__law_pick rfl) fun _ _ _ _ _ _ us hl => match us, hl with | [_, _], _ => rfl
def bd__law_pick : Fs :=
  sret (mop2 ixA (mvar 1) (mcall m__law_take (mcons (mvar 0) (mcons (mcall lenW (mcons (mvar 1) (mnil))) (mnil)))))
def m__law_pick : Fn := fnM 2 2 bd__law_pick
theorem ok__law_pick (T : Tx K mg base) : FnOk P w K mg base CX0 2 (He.ga K "_law_pick") (T.fd 18) ["_law_box_here", "_law_some_here"] (spM (GG P w K) m__law_pick) :=
  fn_okD (B := bd__law_pick) (T.df 18 dd__law_pick rfl) sc__law_pick (hb := fun cdv A outer s H E hr => sm_one (sm_ret (pm_ixA hr.units (pm_var (pv 1)) (pm_call (ok__law_take T) (hr.mono (by decide)) (by rfl) (T.gl "_law_take" (by simp [glos])) (T.kp 14 rfl) (b__law_take T) pass0 (pm_cons (pm_var (pv 0)) (pm_cons (pm_cB cm_len (by rfl) (T.fr "len" (by simp [frees])) bb_len (pm_cons (pm_var (pv 1)) (pm_nil))) (pm_nil)))))))
theorem sc__law_pairs : FnScope ["_law_box_here", "_law_most", "_law_found", "_law_time"] ["_law_box_here", "_law_most"] (defScope s__law_pairs) := ⟨rfl, rfl, rfl, by decide +kernel, rfl, by decide +kernel, by decide +kernel⟩
theorem b__law_pairs (T : Tx K mg base) : Binds K (T.fd 17) ["_law_box_here", "_law_most"] [] := FunD.bindsN (T.df 17 dd__law_pairs rfl) fun _ _ _ _ _ _ us hl => match us, hl with | [_, _], _ => rfl
def bd__law_pairs : Fs :=
  sseq (sset 2 (mlst (mnil)))
  (sseq (sfor (miR1 (mcons (mcall m__law_take (mcons (mvar 0) (mcons (mop2 addW (mvar 1) (mcon (.int 1))) (mnil)))) (mnil))) (.nm 3) (sexp (mbmL appW (mvar 2) (mcons (mtup (mcons (mcall m__law_pick (mcons (mvar 0) (mcons (mlst (mcons (mcon (.str x_f)) (mcons (mcon (.str x_f)) (mcons (mcon (.str x_g)) (mcons (mcon (.str x_h)) (mnil)))))) (mnil)))) (mcons (mcall m__law_pick (mcons (mvar 0) (mcons (mlst (mcons (mcon (.str x_)) (mcons (mcon (.str x_)) (mcons (mcon (.str x_a)) (mcons (mcon (.str x_b)) (mnil)))))) (mnil)))) (mnil)))) (mnil)))))
  (sret (msrtS (mvar 2))))
def m__law_pairs : Fn := fnM 2 4 bd__law_pairs
theorem ok__law_pairs (T : Tx K mg base) : FnOk P w K mg base CX0 3 (He.ga K "_law_pairs") (T.fd 17) ["_law_box_here", "_law_most"] (spM (GG P w K) m__law_pairs) :=
  fn_okD (B := bd__law_pairs) (T.df 17 dd__law_pairs rfl) sc__law_pairs (hb := fun cdv A outer s H E hr => sm_cons (sm_set (ps_set (i := 2) sc__law_pairs.nd rfl (Or.inl rfl) (pm_lst (pm_nil))))
    (sm_cons (sm_for' PassesOwn.never rfl (im_range1 (by rfl) (T.fr "range" (by simp [frees])) (pm_cons (pm_call (ok__law_take T) (hr.mono (by decide)) (by rfl) (T.gl "_law_take" (by simp [glos])) (T.kp 14 rfl) (b__law_take T) pass0 (pm_cons (pm_var (pv 0)) (pm_cons (pm_bin om_add (pm_var (pv 1)) (pm_int)) (pm_nil)))) (pm_nil))) (gm_name (pg_name (i := 3) sc__law_pairs.nd rfl (Or.inl rfl))) (sm_one (sm_exp (pm_bmL lm_app (pe_bm PySem.F.plainAttrs_list PySem.F.slot_list_append PySem.F.type_list_append mt_append (pm_var (pv 2)) (pm_cons (pm_tup (pm_cons (pm_call (ok__law_pick T) (hr.mono (by decide)) (by rfl) (T.gl "_law_pick" (by simp [glos])) (T.kp 18 rfl) (b__law_pick T) pass0 (pm_cons (pm_var (pv 0)) (pm_cons (pm_lst (pm_cons (pm_str e_x_f) (pm_cons (pm_str e_x_f) (pm_cons (pm_str e_x_g) (pm_cons (pm_str e_x_h) (pm_nil)))))) (pm_nil)))) (pm_cons (pm_call (ok__law_pick T) (hr.mono (by decide)) (by rfl) (T.gl "_law_pick" (by simp [glos])) (T.kp 18 rfl) (b__law_pick T) pass0 (pm_cons (pm_var (pv 0)) (pm_cons (pm_lst (pm_cons (pm_str e_x_) (pm_cons (pm_str e_x_) (pm_cons (pm_str e_x_a) (pm_cons (pm_str e_x_b) (pm_nil)))))) (pm_nil)))) (pm_nil)))) (pm_nil)))))))
    (sm_one (sm_ret (pm_srtS rfl hr.units (by rfl) (T.fr "sorted" (by simp [frees])) (by rfl) (T.fr "set" (by simp [frees])) (pm_var (pv 2)))))))
def N__law_lib : List Str := ["_law_box_here", "_law_own", "_law_others", "_law_is_main", "_law_needs", "_law_defs", "_law_uses", "_law_one", "_law_pair"]
theorem sc__law_lib : FnScope ["_law_box_here", "_law_own", "_law_others", "_law_is_main", "_law_needs", "_law_defs", "_law_uses", "_law_one", "_law_pair"] ["_law_box_here", "_law_own", "_law_others", "_law_is_main"] (defScope s__law_lib) := ⟨rfl, rfl, rfl, by decide +kernel, rfl, by decide +kernel, by decide +kernel⟩
theorem b__law_lib (T : Tx K mg base) : Binds K (T.fd 15) ["_law_box_here", "_law_own", "_law_others", "_law_is_main"] [] := FunD.bindsN (T.df 15 dd__law_lib rfl) fun _ _ _ _ _ _ us hl => match us, hl with | [_, _, _, _], _ => rfl
def bd__law_lib : Fs :=
  sseq (sset 4 (mcall tupleW (mcons (mcall m__law_some (mcons (mvar 0) (mcons (mlc (miS (mvar 2)) (.nm 7) (mtB (mop2 neW (mvar 7) (mvar 1))) (mvar 7) [7]) (mcons (mcon (.int 2)) (mnil))))) (mnil))))
  (sseq (sset 5 (mcall tupleW (mcons (mcall m__law_pairs (mcons (mvar 0) (mcons (mif (mtst (mvar 3)) (mcon (.int 1)) (mcon (.int 3))) (mnil)))) (mnil))))
  (sseq (sset 6 (mcall tupleW (mcons (mlc (miS (mcall m__law_pairs (mcons (mvar 0) (mcons (mcon (.int 3)) (mnil))))) (.nm 8) (myes) (mop2 addW (mvar 8) (mtup (mcons (mop2 eqW (mcall m__law_take (mcons (mvar 0) (mcons (mcon (.int 4)) (mnil)))) (mcon (.int 0))) (mnil)))) [8]) (mnil))))
  (sret (mtup (mcons (mvar 1) (mcons (mvar 4) (mcons (mvar 5) (mcons (mvar 6) (mnil)))))))))
def m__law_lib : Fn := fnM 4 9 bd__law_lib
theorem ok__law_lib (T : Tx K mg base) : FnOk P w K mg base CX0 4 (He.ga K "_law_lib") (T.fd 15) ["_law_box_here", "_law_own", "_law_others", "_law_is_main"] (spM (GG P w K) m__law_lib) :=
  fn_okD (B := bd__law_lib) (T.df 15 dd__law_lib rfl) sc__law_lib (hb := fun cdv A outer s H E hr => sm_cons (sm_set (ps_set (i := 4) sc__law_lib.nd rfl (Or.inl rfl) (pm_cT cm_tuple (by rfl) (T.fr "tuple" (by simp [frees])) bb_tuple (pm_cons (pm_call (ok__law_some T) (hr.mono (by decide)) (by rfl) (T.gl "_law_some" (by simp [glos])) (T.kp 16 rfl) (b__law_some T) pass0 (pm_cons (pm_var (pv 0)) (pm_cons (pm_lc (own := [("_law_one", 7)]) rfl sc__law_lib.nd (im_seq (pm_var (pv 2))) (blkOk_by (own := [("_law_one", 7)]) (N := N__law_lib) (sc := defScope s__law_lib) (by decide +kernel)) (fun _ _ _ _ _ => gm_name (pg_name (i := 7) sc__law_lib.nd rfl (Or.inl rfl))) (fun _ _ _ _ _ => tm_one (pm_tcmp (om_ne hr.units) (pm_var (pv 7)) (pm_var (pv 1)) (nomark _))) (fun _ _ _ _ _ => pm_var (pv 7))) (pm_cons (pm_int) (pm_nil))))) (pm_nil)))))
    (sm_cons (sm_set (ps_set (i := 5) sc__law_lib.nd rfl (Or.inl rfl) (pm_cT cm_tuple (by rfl) (T.fr "tuple" (by simp [frees])) bb_tuple (pm_cons (pm_call (ok__law_pairs T) (hr.mono (by decide)) (by rfl) (T.gl "_law_pairs" (by simp [glos])) (T.kp 17 rfl) (b__law_pairs T) pass0 (pm_cons (pm_var (pv 0)) (pm_cons (pm_if (pm_tst (pm_var (pv 3))) (pm_int) (pm_int)) (pm_nil)))) (pm_nil)))))
    (sm_cons (sm_set (ps_set (i := 6) sc__law_lib.nd rfl (Or.inl rfl) (pm_cT cm_tuple (by rfl) (T.fr "tuple" (by simp [frees])) bb_tuple (pm_cons (pm_lc (own := [("_law_pair", 8)]) rfl sc__law_lib.nd (im_seq (pm_call (ok__law_pairs T) (hr.mono (by decide)) (by rfl) (T.gl "_law_pairs" (by simp [glos])) (T.kp 17 rfl) (b__law_pairs T) pass0 (pm_cons (pm_var (pv 0)) (pm_cons (pm_int) (pm_nil))))) (blkOk_by (own := [("_law_pair", 8)]) (N := N__law_lib) (sc := defScope s__law_lib) (by decide +kernel)) (fun _ _ _ _ _ => gm_name (pg_name (i := 8) sc__law_lib.nd rfl (Or.inl rfl))) (fun _ _ _ _ _ => tm_nil) (fun _ _ _ _ _ => pm_bin om_add (pm_var (pv 8)) (pm_tup (pm_cons (pm_cmp (om_eq hr.units) (pm_call (ok__law_take T) (hr.mono (by decide)) (by rfl) (T.gl "_law_take" (by simp [glos])) (T.kp 14 rfl) (b__law_take T) pass0 (pm_cons (pm_var (pv 0)) (pm_cons (pm_int) (pm_nil)))) (pm_int) (nomark _)) (pm_nil))))) (pm_nil)))))
    (sm_one (sm_ret (pm_tup (pm_cons (pm_var (pv 1)) (pm_cons (pm_var (pv 4)) (pm_cons (pm_var (pv 5)) (pm_cons (pm_var (pv 6)) (pm_nil)))))))))))
theorem sc__law_program : FnScope ["_law_box_here", "_law_most", "_law_gates", "_law_folk", "_law_others", "_law_libs", "_law_own", "_law_doors", "_law_time", "_law_door", "_law_early"] ["_law_box_here", "_law_most", "_law_gates"] (defScope s__law_program) := ⟨rfl, rfl, rfl, by decide +kernel, rfl, by decide +kernel, by decide +kernel⟩
theorem b__law_program (T : Tx K mg base) : Binds K (T.fd 12) ["_law_box_here", "_law_most", "_law_gates"] [] := FunD.bindsN (T.df 12 dd__law_program rfl) fun _ _ _ _ _ _ us hl => match us, hl with | [_, _, _], _ => rfl
def bd__law_program : Fs :=
  sseq (sset 3 (mcall m__law_names (mcons (mvar 0) (mcons (mop2 addW (mcon (.int 2)) (mcall m__law_take (mcons (mvar 0) (mcons (mvar 1) (mnil))))) (mnil)))))
  (sseq (spar 4 5 (mcons (mslice (mvar 3) (osome (mcon (.int 1))) (onone)) (mcons (mlst (mnil)) (mnil))))
  (sseq (sfor (miS (mvar 3)) (.nm 6) (sexp (mbmL appW (mvar 5) (mcons (mcall m__law_lib (mcons (mvar 0) (mcons (mvar 6) (mcons (mvar 4) (mcons (mop2 eqW (mvar 6) (mop2 ixA (mvar 3) (mcon (.int 0)))) (mnil)))))) (mnil)))))
  (sseq (sset 7 (mlst (mnil)))
  (sseq (sfor (miR1 (mcons (mop2 addW (mcon (.int 1)) (mcall m__law_take (mcons (mvar 0) (mcons (mvar 2) (mnil))))) (mnil))) (.nm 8) (sseq (sset 9 (mtup (mcons (mcall m__law_pick (mcons (mvar 0) (mcons (mvar 4) (mnil)))) (mcons (mcall m__law_pick (mcons (mvar 0) (mcons (mlst (mcons (mcon (.str x_global)) (mcons (mcon (.str x_local)) (mcons (mcon (.str x_deep)) (mcons (mcon (.str x_global)) (mnil)))))) (mnil)))) (mnil)))))
  (sset 7 (mop2 addW (mvar 7) (mop2 lmulW (mlst (mcons (mvar 9) (mnil))) (mcall intW (mcons (mop2 ninA (mvar 9) (mvar 7)) (mnil))))))))
  (sseq (sset 10 (mif (mtB (mop2 eqW (mcall m__law_take (mcons (mvar 0) (mcons (mcon (.int 2)) (mnil)))) (mcon (.int 0)))) (mcall m__law_some (mcons (mvar 0) (mcons (mvar 4) (mcons (mop2 addW (mcon (.int 1)) (mcall intW (mcons (mop2 eqW (mcall m__law_take (mcons (mvar 0) (mcons (mcon (.int 4)) (mnil)))) (mcon (.int 0))) (mnil)))) (mnil))))) (mlst (mnil))))
  (sret (mtup (mcons (mcall tupleW (mcons (mvar 5) (mnil))) (mcons (mcall tupleW (mcons (mvar 10) (mnil))) (mcons (mcall tupleW (mcons (mvar 7) (mnil))) (mnil)))))))))))
def m__law_program : Fn := fnM 3 11 bd__law_program
theorem ok__law_program (T : Tx K mg base) : FnOk P w K mg base CX0 5 (He.ga K "_law_program") (T.fd 12) ["_law_box_here", "_law_most", "_law_gates"] (spM (GG P w K) m__law_program) :=
  fn_okD (B := bd__law_program) (T.df 12 dd__law_program rfl) sc__law_program (hb := fun cdv A outer s H E hr => sm_cons (sm_set (ps_set (i := 3) sc__law_program.nd rfl (Or.inl rfl) (pm_call (ok__law_names T) (hr.mono (by decide)) (by rfl) (T.gl "_law_names" (by simp [glos])) (T.kp 13 rfl) (b__law_names T) pass0 (pm_cons (pm_var (pv 0)) (pm_cons (pm_bin om_add (pm_int) (pm_call (ok__law_take T) (hr.mono (by decide)) (by rfl) (T.gl "_law_take" (by simp [glos])) (T.kp 14 rfl) (b__law_take T) pass0 (pm_cons (pm_var (pv 0)) (pm_cons (pm_var (pv 1)) (pm_nil))))) (pm_nil))))))
    (sm_cons (sm_par (ps_par (i := 4) (j := 5) rfl sc__law_program.nd rfl rfl (by decide) rfl rfl (pm_cons (pm_slice (pm_var (pv 3)) (om_some (pm_int)) (om_none)) (pm_cons (pm_lst (pm_nil)) (pm_nil))) (by rfl)))
    (sm_cons (sm_for' PassesOwn.never rfl (im_seq (pm_var (pv 3))) (gm_name (pg_name (i := 6) sc__law_program.nd rfl (Or.inl rfl))) (sm_one (sm_exp (pm_bmL lm_app (pe_bm PySem.F.plainAttrs_list PySem.F.slot_list_append PySem.F.type_list_append mt_append (pm_var (pv 5)) (pm_cons (pm_call (ok__law_lib T) (hr.mono (by decide)) (by rfl) (T.gl "_law_lib" (by simp [glos])) (T.kp 15 rfl) (b__law_lib T) pass0 (pm_cons (pm_var (pv 0)) (pm_cons (pm_var (pv 6)) (pm_cons (pm_var (pv 4)) (pm_cons (pm_cmp (om_eq hr.units) (pm_var (pv 6)) (pm_ixA hr.units (pm_var (pv 3)) (pm_int)) (nomark _)) (pm_nil)))))) (pm_nil)))))))
    (sm_cons (sm_set (ps_set (i := 7) sc__law_program.nd rfl (Or.inl rfl) (pm_lst (pm_nil))))
    (sm_cons (sm_for' PassesOwn.never rfl (im_range1 (by rfl) (T.fr "range" (by simp [frees])) (pm_cons (pm_bin om_add (pm_int) (pm_call (ok__law_take T) (hr.mono (by decide)) (by rfl) (T.gl "_law_take" (by simp [glos])) (T.kp 14 rfl) (b__law_take T) pass0 (pm_cons (pm_var (pv 0)) (pm_cons (pm_var (pv 2)) (pm_nil))))) (pm_nil))) (gm_name (pg_name (i := 8) sc__law_program.nd rfl (Or.inl rfl))) (sm_cons (sm_set (ps_set (i := 9) sc__law_program.nd rfl (Or.inl rfl) (pm_tup (pm_cons (pm_call (ok__law_pick T) (hr.mono (by decide)) (by rfl) (T.gl "_law_pick" (by simp [glos])) (T.kp 18 rfl) (b__law_pick T) pass0 (pm_cons (pm_var (pv 0)) (pm_cons (pm_var (pv 4)) (pm_nil)))) (pm_cons (pm_call (ok__law_pick T) (hr.mono (by decide)) (by rfl) (T.gl "_law_pick" (by simp [glos])) (T.kp 18 rfl) (b__law_pick T) pass0 (pm_cons (pm_var (pv 0)) (pm_cons (pm_lst (pm_cons (pm_str e_x_global) (pm_cons (pm_str e_x_local) (pm_cons (pm_str e_x_deep) (pm_cons (pm_str e_x_global) (pm_nil)))))) (pm_nil)))) (pm_nil))))))
    (sm_one (sm_set (ps_set (i := 7) sc__law_program.nd rfl (Or.inl rfl) (pm_bin om_add (pm_var (pv 7)) (pm_bin om_lmul (pm_lst (pm_cons (pm_var (pv 9)) (pm_nil))) (pm_cT cm_int (by rfl) (T.fr "int" (by simp [frees])) bb_int (pm_cons (pm_cmp (om_ninA (u65 hr)) (pm_var (pv 9)) (pm_var (pv 7)) (by rfl)) (pm_nil))))))))))
    (sm_cons (sm_set (ps_set (i := 10) sc__law_program.nd rfl (Or.inl rfl) (pm_if (pm_tcmp (om_eq hr.units) (pm_call (ok__law_take T) (hr.mono (by decide)) (by rfl) (T.gl "_law_take" (by simp [glos])) (T.kp 14 rfl) (b__law_take T) pass0 (pm_cons (pm_var (pv 0)) (pm_cons (pm_int) (pm_nil)))) (pm_int) (nomark _)) (pm_call (ok__law_some T) (hr.mono (by decide)) (by rfl) (T.gl "_law_some" (by simp [glos])) (T.kp 16 rfl) (b__law_some T) pass0 (pm_cons (pm_var (pv 0)) (pm_cons (pm_var (pv 4)) (pm_cons (pm_bin om_add (pm_int) (pm_cT cm_int (by rfl) (T.fr "int" (by simp [frees])) bb_int (pm_cons (pm_cmp (om_eq hr.units) (pm_call (ok__law_take T) (hr.mono (by decide)) (by rfl) (T.gl "_law_take" (by simp [glos])) (T.kp 14 rfl) (b__law_take T) pass0 (pm_cons (pm_var (pv 0)) (pm_cons (pm_int) (pm_nil)))) (pm_int) (nomark _)) (pm_nil)))) (pm_nil))))) (pm_lst (pm_nil)))))
    (sm_one (sm_ret (pm_tup (pm_cons (pm_cT cm_tuple (by rfl) (T.fr "tuple" (by simp [frees])) bb_tuple (pm_cons (pm_var (pv 5)) (pm_nil))) (pm_cons (pm_cT cm_tuple (by rfl) (T.fr "tuple" (by simp [frees])) bb_tuple (pm_cons (pm_var (pv 10)) (pm_nil))) (pm_cons (pm_cT cm_tuple (by rfl) (T.fr "tuple" (by simp [frees])) bb_tuple (pm_cons (pm_var (pv 7)) (pm_nil))) (pm_nil)))))))))))))
theorem sc__law_same : FnScope ["_law_found", "_law_due"] ["_law_found", "_law_due"] (defScope s__law_same) := ⟨rfl, rfl, rfl, by decide +kernel, rfl, by decide +kernel, by decide +kernel⟩
theorem b__law_same (T : Tx K mg base) : Binds K (T.fd 19) ["_law_found", "_law_due"] [] := FunD.bindsN (T.df 19 dd__law_same rfl) fun _ _ _ _ _ _ us hl => match us, hl with | [_, _], _ => rfl
def bd__law_same : Fs :=
  sret (mop2 eqW (mcall reprW (mcons (mvar 0) (mnil))) (mcall reprW (mcons (mvar 1) (mnil))))
def m__law_same : Fn := fnM 2 2 bd__law_same
theorem ok__law_same (T : Tx K mg base) : FnG P w K mg base 1 (He.ga K "_law_same") (T.fd 19) ["_law_found", "_law_due"] (spM (GG P w K) m__law_same) :=
  fn_okG (B := bd__law_same) (T.df 19 dd__law_same rfl) sc__law_same (hb := fun cdv A gd outer s H E hr => sm_one (sm_ret (pm_cmp (om_eq hr.units) (pm_cB (cm_repr gd hr.units) (by rfl) (T.fr "repr" (by simp [frees])) bb_repr (pm_cons (pm_var (pv 0)) (pm_nil))) (pm_cB (cm_repr gd hr.units) (by rfl) (T.fr "repr" (by simp [frees])) bb_repr (pm_cons (pm_var (pv 1)) (pm_nil))) (nomark _))))
def N__law_is_word : List Str := ["_law_matter", "_law_sign"]
theorem sc__law_is_word : FnScope ["_law_matter", "_law_sign"] ["_law_matter"] (defScope s__law_is_word) := ⟨rfl, rfl, rfl, by decide +kernel, rfl, by decide +kernel, by decide +kernel⟩
theorem b__law_is_word (T : Tx K mg base) : Binds K (T.fd 22) ["_law_matter"] [] := FunD.bindsN (T.df 22 dd__law_is_word rfl) fun _ _ _ _ _ _ us hl => match us, hl with | [_], _ => rfl
def bd__law_is_word : Fs :=
  sseq (sif (mor (mnot (mtst (mcall isiW (mcons (mvar 0) (mcons (mcon (.ty .str)) mnil))))) (mor (mtB (mop2 eqW (mvar 0) (mcon (.str x_)))) (mtB (mop2 gtW (mcall lenW (mcons (mvar 0) (mnil))) (mcon (.int 8)))))) (sret (mcon (.bl false))) (snx))
  (sret (mop2 eqW (mlc (miX (mvar 0)) (.nm 1) (mtB (mop2 sgNin (mvar 1) (mcon (.str xh_6162636465666768696a6b6c6d6e6f707172737475767778797a)))) (mvar 1) [1]) (mlst (mnil))))
def m__law_is_word : Fn := fnM 1 2 bd__law_is_word
theorem ok__law_is_word (T : Tx K mg base) : FnOk P w K mg base CX0 1 (He.ga K "_law_is_word") (T.fd 22) ["_law_matter"] (spM (GG P w K) m__law_is_word) :=
  fn_okD (B := bd__law_is_word) (T.df 22 dd__law_is_word rfl) sc__law_is_word (hb := fun cdv A outer s H E hr => sm_cons (sm_if (PW.pt (pm_wor (pm_tnot (pm_tst (pm_cB cm_isi (by rfl) (T.fr "isinstance" (by simp [frees])) bb_isinstance (pm_cons (pm_var (pv 0)) (pm_cons (pm_con (v := .ty "str") (pe_bltn (by rfl) (T.fr "str" (by simp [frees])) bb_str rfl) (fun _ _ _ _ => .ty .str)) pm_nil))))) (pm_wor (pm_tcmp (om_eq hr.units) (pm_var (pv 0)) (pm_str e_x_) (nomark _)) (pm_wor1 (pm_tcmp (om_gt) (pm_cB cm_len (by rfl) (T.fr "len" (by simp [frees])) bb_len (pm_cons (pm_var (pv 0)) (pm_nil))) (pm_int) (nomark _)))))) (sm_one (sm_ret (pm_bl))) (sm_nil))
    (sm_one (sm_ret (pm_cmp (om_eq hr.units) (pm_lc (own := [("_law_sign", 1)]) rfl sc__law_is_word.nd (im_txt (pm_var (pv 0))) (blkOk_by (own := [("_law_sign", 1)]) (N := N__law_is_word) (sc := defScope s__law_is_word) (by decide +kernel)) (fun _ _ _ _ _ => gm_name (pg_name (i := 1) sc__law_is_word.nd rfl (Or.inl rfl))) (fun _ _ _ _ _ => tm_one (pm_tcmp (om_sgNin) (pm_var (pv 1)) (pm_str e_xh_6162636465666768696a6b6c6d6e6f707172737475767778797a) (by rfl))) (fun _ _ _ _ _ => pm_var (pv 1))) (pm_lst (pm_nil)) (nomark _)))))
theorem sc__law_is_pair : FnScope ["_law_matter"] ["_law_matter"] (defScope s__law_is_pair) := ⟨rfl, rfl, rfl, by decide +kernel, rfl, by decide +kernel, by decide +kernel⟩
theorem b__law_is_pair (T : Tx K mg base) : Binds K (T.fd 23) ["_law_matter"] [] := FunD.bindsN (T.df 23 dd__law_is_pair rfl) fun _ _ _ _ _ _ us hl => match us, hl with | [_], _ => rfl
def bd__law_is_pair : Fs :=
  sret (mandV (mcall m__law_is_word (mcons (mop2 ixA (mvar 0) (mcon (.int 0))) (mnil))) (mandV (morV (mop2 eqW (mop2 ixA (mvar 0) (mcon (.int 1))) (mcon (.str x_))) (mcall m__law_is_word (mcons (mop2 ixA (mvar 0) (mcon (.int 1))) (mnil)))) (mcall isiW (mcons (mop2 ixA (mvar 0) (mcon (.int 1))) (mcons (mcon (.ty .str)) mnil)))))
def m__law_is_pair : Fn := fnM 1 1 bd__law_is_pair
theorem ok__law_is_pair (T : Tx K mg base) : FnOk P w K mg base CX0 2 (He.ga K "_law_is_pair") (T.fd 23) ["_law_matter"] (spM (GG P w K) m__law_is_pair) :=
  fn_okD (B := bd__law_is_pair) (T.df 23 dd__law_is_pair rfl) sc__law_is_pair (hb := fun cdv A outer s H E hr => sm_one (sm_ret (pm_and (pm_call (ok__law_is_word T) (hr.mono (by decide)) (by rfl) (T.gl "_law_is_word" (by simp [glos])) (T.kp 22 rfl) (b__law_is_word T) pass0 (pm_cons (pm_ixA hr.units (pm_var (pv 0)) (pm_int)) (pm_nil))) (pm_and (pm_or (pm_cmp (om_eq hr.units) (pm_ixA hr.units (pm_var (pv 0)) (pm_int)) (pm_str e_x_) (nomark _)) (pm_one (pm_call (ok__law_is_word T) (hr.mono (by decide)) (by rfl) (T.gl "_law_is_word" (by simp [glos])) (T.kp 22 rfl) (b__law_is_word T) pass0 (pm_cons (pm_ixA hr.units (pm_var (pv 0)) (pm_int)) (pm_nil))))) (pm_one (pm_cB cm_isi (by rfl) (T.fr "isinstance" (by simp [frees])) bb_isinstance (pm_cons (pm_ixA hr.units (pm_var (pv 0)) (pm_int)) (pm_cons (pm_con (v := .ty "str") (pe_bltn (by rfl) (T.fr "str" (by simp [frees])) bb_str rfl) (fun _ _ _ _ => .ty .str)) pm_nil))))))))
def N__law_rises : List Str := ["_law_some_here", "_law_at"]
theorem sc__law_rises : FnScope ["_law_some_here", "_law_at"] ["_law_some_here"] (defScope s__law_rises) := ⟨rfl, rfl, rfl, by decide +kernel, rfl, by decide +kernel, by decide +kernel⟩
theorem b__law_rises (T : Tx K mg base) : Binds K (T.fd 24) ["_law_some_here"] [] := FunD.bindsN (T.df 24 dd__law_rises rfl) fun _ _ _ _ _ _ us hl => match us, hl with | [_], _ => rfl
def bd__law_rises : Fs :=
  sret (mcall allW (mcons (mlc (miR1 (mcons (mop2 subW (mcall lenW (mcons (mvar 0) (mnil))) (mcon (.int 1))) (mnil))) (.nm 1) (myes) (mop2 ltDW (mop2 ixA (mvar 0) (mvar 1)) (mop2 ixA (mvar 0) (mop2 addW (mvar 1) (mcon (.int 1))))) [1]) (mnil)))
def m__law_rises : Fn := fnM 1 2 bd__law_rises
theorem ok__law_rises (T : Tx K mg base) : FnOk P w K mg base CX0 1 (He.ga K "_law_rises") (T.fd 24) ["_law_some_here"] (spM (GG P w K) m__law_rises) :=
  fn_okD (B := bd__law_rises) (T.df 24 dd__law_rises rfl) sc__law_rises (hb := fun cdv A outer s H E hr => sm_one (sm_ret (pm_cB cm_all (by rfl) (T.fr "all" (by simp [frees])) bb_all (pm_cons (pm_lc (own := [("_law_at", 1)]) rfl sc__law_rises.nd (im_range1 (by rfl) (T.fr "range" (by simp [frees])) (pm_cons (pm_bin om_sub (pm_cB cm_len (by rfl) (T.fr "len" (by simp [frees])) bb_len (pm_cons (pm_var (pv 0)) (pm_nil))) (pm_int)) (pm_nil))) (blkOk_by (own := [("_law_at", 1)]) (N := N__law_rises) (sc := defScope s__law_rises) (by decide +kernel)) (fun _ _ _ _ _ => gm_name (pg_name (i := 1) sc__law_rises.nd rfl (Or.inl rfl))) (fun _ _ _ _ _ => tm_nil) (fun _ _ _ _ _ => pm_cmp (om_ltD hr.units) (pm_ixA hr.units (pm_var (pv 0)) (pm_var (pv 1))) (pm_ixA hr.units (pm_var (pv 0)) (pm_bin om_add (pm_var (pv 1)) (pm_int))) (nomark _))) (pm_nil)))))
def N__law_is_lib : List Str := ["_law_matter", "_law_needs", "_law_defs", "_law_uses", "_law_many", "_law_some_here", "_law_own", "_law_line"]
theorem sc__law_is_lib : FnScope ["_law_matter", "_law_needs", "_law_defs", "_law_uses", "_law_many", "_law_some_here", "_law_own", "_law_line"] ["_law_matter"] (defScope s__law_is_lib) := ⟨rfl, rfl, rfl, by decide +kernel, rfl, by decide +kernel, by decide +kernel⟩
theorem b__law_is_lib (T : Tx K mg base) : Binds K (T.fd 21) ["_law_matter"] [] := FunD.bindsN (T.df 21 dd__law_is_lib rfl) fun _ _ _ _ _ _ us hl => match us, hl with | [_], _ => rfl
def bd__law_is_lib : Fs :=
  sseq (sif (mor (mnot (mtst (mcall isiW (mcons (mvar 0) (mcons (mcon (.ty .tuple)) mnil))))) (mor (mtB (mop2 neW (mcall lenW (mcons (mvar 0) (mnil))) (mcon (.int 4)))) (mnot (mtst (mcall m__law_is_word (mcons (mop2 ixA (mvar 0) (mcon (.int 0))) (mnil))))))) (sret (mcon (.bl false))) (snx))
  (sseq (sasg (mslice (mvar 0) (osome (mcon (.int 1))) (onone)) (.tp [1, 2, 3]))
  (sseq (sif (mor (mnot (mtst (mcall isiW (mcons (mvar 1) (mcons (mcon (.ty .tuple)) mnil))))) (mor (mnot (mtst (mcall isiW (mcons (mvar 2) (mcons (mcon (.ty .tuple)) mnil))))) (mnot (mtst (mcall isiW (mcons (mvar 3) (mcons (mcon (.ty .tuple)) mnil))))))) (sret (mcon (.bl false))) (snx))
  (sseq (sif (mor (mnot (mtst (mcall allW (mcons (mlc (miS (mvar 1)) (.nm 6) (myes) (mcall m__law_is_word (mcons (mvar 6) (mnil))) [6]) (mnil))))) (mor (mtB (mop2 neW (mcall lenW (mcons (msrtX (mvar 1)) (mnil))) (mcall lenW (mcons (mvar 1) (mnil))))) (mtB (mop2 inA (mop2 ixA (mvar 0) (mcon (.int 0))) (mvar 1))))) (sret (mcon (.bl false))) (snx))
  (sseq (sfor (miS (mtup (mcons (mtup (mcons (mcon (.int 2)) (mcons (mvar 2) (mnil)))) (mcons (mtup (mcons (mcon (.int 3)) (mcons (mvar 3) (mnil)))) (mnil))))) (.tp [4, 5]) (sseq (sif (mnot (mtst (mcall allW (mcons (mlc (miS (mvar 5)) (.nm 7) (myes) (mandV (mcall isiW (mcons (mvar 7) (mcons (mcon (.ty .tuple)) mnil))) (mandV (mop2 eqW (mcall lenW (mcons (mvar 7) (mnil))) (mvar 4)) (mcall m__law_is_pair (mcons (mvar 7) (mnil))))) [7]) (mnil))))) (sret (mcon (.bl false))) (snx))
  (sif (mnot (mtst (mcall m__law_rises (mcons (mlc (miS (mvar 5)) (.nm 7) (myes) (mslice (mvar 7) (onone) (osome (mcon (.int 2)))) [7]) (mnil))))) (sret (mcon (.bl false))) (snx))))
  (sret (mcall allW (mcons (mlc (miS (mvar 3)) (.nm 7) (myes) (morV (mop2 (isXW false) (mop2 ixA (mvar 7) (mcon (.int 2))) (mcon (.bl true))) (mop2 (isXW false) (mop2 ixA (mvar 7) (mcon (.int 2))) (mcon (.bl false)))) [7]) (mnil))))))))
def m__law_is_lib : Fn := fnM 1 8 bd__law_is_lib
theorem ok__law_is_lib (T : Tx K mg base) : FnOk P w K mg base CX0 3 (He.ga K "_law_is_lib") (T.fd 21) ["_law_matter"] (spM (GG P w K) m__law_is_lib) :=
  fn_okD (B := bd__law_is_lib) (T.df 21 dd__law_is_lib rfl) sc__law_is_lib (hb := fun cdv A outer s H E hr => sm_cons (sm_if (PW.pt (pm_wor (pm_tnot (pm_tst (pm_cB cm_isi (by rfl) (T.fr "isinstance" (by simp [frees])) bb_isinstance (pm_cons (pm_var (pv 0)) (pm_cons (pm_con (v := .ty "tuple") (pe_bltn (by rfl) (T.fr "tuple" (by simp [frees])) bb_tuple rfl) (fun _ _ _ _ => .ty .tuple)) pm_nil))))) (pm_wor (pm_tcmp (om_ne hr.units) (pm_cB cm_len (by rfl) (T.fr "len" (by simp [frees])) bb_len (pm_cons (pm_var (pv 0)) (pm_nil))) (pm_int) (nomark _)) (pm_wor1 (pm_tnot (pm_tst (pm_call (ok__law_is_word T) (hr.mono (by decide)) (by rfl) (T.gl "_law_is_word" (by simp [glos])) (T.kp 22 rfl) (b__law_is_word T) pass0 (pm_cons (pm_ixA hr.units (pm_var (pv 0)) (pm_int)) (pm_nil))))))))) (sm_one (sm_ret (pm_bl))) (sm_nil))
    (sm_cons (sm_asg (pm_slice (pm_var (pv 0)) (om_some (pm_int)) (om_none)) (gm_tup rfl (gm_cons (pg_name (i := 1) sc__law_is_lib.nd rfl (Or.inl rfl)) (gm_cons (pg_name (i := 2) sc__law_is_lib.nd rfl (Or.inl rfl)) (gm_cons (pg_name (i := 3) sc__law_is_lib.nd rfl (Or.inl rfl)) (gm_nil))))))
    (sm_cons (sm_if (PW.pt (pm_wor (pm_tnot (pm_tst (pm_cB cm_isi (by rfl) (T.fr "isinstance" (by simp [frees])) bb_isinstance (pm_cons (pm_var (pv 1)) (pm_cons (pm_con (v := .ty "tuple") (pe_bltn (by rfl) (T.fr "tuple" (by simp [frees])) bb_tuple rfl) (fun _ _ _ _ => .ty .tuple)) pm_nil))))) (pm_wor (pm_tnot (pm_tst (pm_cB cm_isi (by rfl) (T.fr "isinstance" (by simp [frees])) bb_isinstance (pm_cons (pm_var (pv 2)) (pm_cons (pm_con (v := .ty "tuple") (pe_bltn (by rfl) (T.fr "tuple" (by simp [frees])) bb_tuple rfl) (fun _ _ _ _ => .ty .tuple)) pm_nil))))) (pm_wor1 (pm_tnot (pm_tst (pm_cB cm_isi (by rfl) (T.fr "isinstance" (by simp [frees])) bb_isinstance (pm_cons (pm_var (pv 3)) (pm_cons (pm_con (v := .ty "tuple") (pe_bltn (by rfl) (T.fr "tuple" (by simp [frees])) bb_tuple rfl) (fun _ _ _ _ => .ty .tuple)) pm_nil))))))))) (sm_one (sm_ret (pm_bl))) (sm_nil))
    (sm_cons (sm_if (PW.pt (pm_wor (pm_tnot (pm_tst (pm_cB cm_all (by rfl) (T.fr "all" (by simp [frees])) bb_all (pm_cons (pm_lc (own := [("_law_own", 6)]) rfl sc__law_is_lib.nd (im_seq (pm_var (pv 1))) (blkOk_by (own := [("_law_own", 6)]) (N := N__law_is_lib) (sc := defScope s__law_is_lib) (by decide +kernel)) (fun _ _ _ _ _ => gm_name (pg_name (i := 6) sc__law_is_lib.nd rfl (Or.inl rfl))) (fun _ _ _ _ _ => tm_nil) (fun _ _ _ _ _ => pm_call (ok__law_is_word T) (hr.mono (by decide)) (by rfl) (T.gl "_law_is_word" (by simp [glos])) (T.kp 22 rfl) (b__law_is_word T) pass0 (pm_cons (pm_var (pv 6)) (pm_nil)))) (pm_nil))))) (pm_wor (pm_tcmp (om_ne hr.units) (pm_cB cm_len (by rfl) (T.fr "len" (by simp [frees])) bb_len (pm_cons (pm_srtX rfl hr.units (by rfl) (T.fr "sorted" (by simp [frees])) (by rfl) (T.fr "set" (by simp [frees])) (pm_var (pv 1))) (pm_nil))) (pm_cB cm_len (by rfl) (T.fr "len" (by simp [frees])) bb_len (pm_cons (pm_var (pv 1)) (pm_nil))) (nomark _)) (pm_wor1 (pm_tcmp (om_inA (u65 hr)) (pm_ixA hr.units (pm_var (pv 0)) (pm_int)) (pm_var (pv 1)) (by rfl)))))) (sm_one (sm_ret (pm_bl))) (sm_nil))
    (sm_cons (sm_for' PassesOwn.never rfl (im_seq (pm_tup (pm_cons (pm_tup (pm_cons (pm_int) (pm_cons (pm_var (pv 2)) (pm_nil)))) (pm_cons (pm_tup (pm_cons (pm_int) (pm_cons (pm_var (pv 3)) (pm_nil)))) (pm_nil))))) (gm_tup rfl (gm_cons (pg_name (i := 4) sc__law_is_lib.nd rfl (Or.inr rfl)) (gm_cons (pg_name (i := 5) sc__law_is_lib.nd rfl (Or.inl rfl)) (gm_nil)))) (sm_cons (sm_if (pm_tnot (pm_tst (pm_cB cm_all (by rfl) (T.fr "all" (by simp [frees])) bb_all (pm_cons (pm_lc (own := [("_law_line", 7)]) rfl sc__law_is_lib.nd (im_seq (pm_var (pv 5))) (blkOk_by (own := [("_law_line", 7)]) (N := N__law_is_lib) (sc := defScope s__law_is_lib) (by decide +kernel)) (fun _ _ _ _ _ => gm_name (pg_name (i := 7) sc__law_is_lib.nd rfl (Or.inl rfl))) (fun _ _ _ _ _ => tm_nil) (fun _ _ _ _ _ => pm_and (pm_cB cm_isi (by rfl) (T.fr "isinstance" (by simp [frees])) bb_isinstance (pm_cons (pm_var (pv 7)) (pm_cons (pm_con (v := .ty "tuple") (pe_bltn (by rfl) (T.fr "tuple" (by simp [frees])) bb_tuple rfl) (fun _ _ _ _ => .ty .tuple)) pm_nil))) (pm_and (pm_cmp (om_eq hr.units) (pm_cB cm_len (by rfl) (T.fr "len" (by simp [frees])) bb_len (pm_cons (pm_var (pv 7)) (pm_nil))) (pm_var (pv 4)) (nomark _)) (pm_one (pm_call (ok__law_is_pair T) (hr.mono (by decide)) (by rfl) (T.gl "_law_is_pair" (by simp [glos])) (T.kp 23 rfl) (b__law_is_pair T) pass0 (pm_cons (pm_var (pv 7)) (pm_nil))))))) (pm_nil))))) (sm_one (sm_ret (pm_bl))) (sm_nil))
    (sm_one (sm_if (pm_tnot (pm_tst (pm_call (ok__law_rises T) (hr.mono (by decide)) (by rfl) (T.gl "_law_rises" (by simp [glos])) (T.kp 24 rfl) (b__law_rises T) pass0 (pm_cons (pm_lc (own := [("_law_line", 7)]) rfl sc__law_is_lib.nd (im_seq (pm_var (pv 5))) (blkOk_by (own := [("_law_line", 7)]) (N := N__law_is_lib) (sc := defScope s__law_is_lib) (by decide +kernel)) (fun _ _ _ _ _ => gm_name (pg_name (i := 7) sc__law_is_lib.nd rfl (Or.inl rfl))) (fun _ _ _ _ _ => tm_nil) (fun _ _ _ _ _ => pm_slice (pm_var (pv 7)) (om_none) (om_some (pm_int)))) (pm_nil))))) (sm_one (sm_ret (pm_bl))) (sm_nil)))))
    (sm_one (sm_ret (pm_cB cm_all (by rfl) (T.fr "all" (by simp [frees])) bb_all (pm_cons (pm_lc (own := [("_law_line", 7)]) rfl sc__law_is_lib.nd (im_seq (pm_var (pv 3))) (blkOk_by (own := [("_law_line", 7)]) (N := N__law_is_lib) (sc := defScope s__law_is_lib) (by decide +kernel)) (fun _ _ _ _ _ => gm_name (pg_name (i := 7) sc__law_is_lib.nd rfl (Or.inl rfl))) (fun _ _ _ _ _ => tm_nil) (fun _ _ _ _ _ => pm_or (pm_cmp (om_isX) (pm_ixA hr.units (pm_var (pv 7)) (pm_int)) (pm_bl) (nomark _)) (pm_one (pm_cmp (om_isX) (pm_ixA hr.units (pm_var (pv 7)) (pm_int)) (pm_bl) (nomark _))))) (pm_nil))))))))))
def N__law_is_due : List Str := ["_law_matter", "_law_libs", "_law_early", "_law_doors", "_law_titles", "_law_others", "_law_wanted", "_law_lib_here", "_law_door", "_law_part", "_law_own"]
theorem sc__law_is_due : FnScope ["_law_matter", "_law_libs", "_law_early", "_law_doors", "_law_titles", "_law_others", "_law_wanted", "_law_lib_here", "_law_door", "_law_part", "_law_own"] ["_law_matter"] (defScope s__law_is_due) := ⟨rfl, rfl, rfl, by decide +kernel, rfl, by decide +kernel, by decide +kernel⟩
theorem b__law_is_due (T : Tx K mg base) : Binds K (T.fd 20) ["_law_matter"] [] := FunD.bindsN (T.df 20 dd__law_is_due rfl) fun _ _ _ _ _ _ us hl => match us, hl with | [_], _ => rfl
def bd__law_is_due : Fs :=
  sseq (sif (mor (mnot (mtst (mcall isiW (mcons (mvar 0) (mcons (mcon (.ty .tuple)) mnil))))) (mor (mtB (mop2 neW (mcall lenW (mcons (mvar 0) (mnil))) (mcon (.int 3)))) (mnot (mtst (mcall allW (mcons (mlc (miS (mvar 0)) (.nm 9) (myes) (mcall isiW (mcons (mvar 9) (mcons (mcon (.ty .tuple)) mnil))) [9]) (mnil))))))) (sret (mcon (.bl false))) (snx))
  (sseq (sasg (mvar 0) (.tp [1, 2, 3]))
  (sseq (sif (mor (mtB (mop2 eqW (mvar 1) (mtup (mnil)))) (mnot (mtst (mcall allW (mcons (mlc (miS (mvar 1)) (.nm 7) (myes) (mcall m__law_is_lib (mcons (mvar 7) (mnil))) [7]) (mnil)))))) (sret (mcon (.bl false))) (snx))
  (sseq (sset 4 (mlc (miS (mvar 1)) (.nm 7) (myes) (mop2 ixA (mvar 7) (mcon (.int 0))) [7]))
  (sseq (sasg (mtup (mcons (mslice (mvar 4) (osome (mcon (.int 1))) (onone)) (mcons (mlst (mnil)) (mnil)))) (.tp [5, 6]))
  (sseq (sfor (miS (mvar 1)) (.nm 7) (sset 6 (mop2 addW (mvar 6) (mcall listW (mcons (mop2 ixA (mvar 7) (mcon (.int 1))) (mnil))))))
  (sseq (sif (mor (mtB (mop2 neW (mcall lenW (mcons (msrtX (mvar 4)) (mnil))) (mcall lenW (mcons (mvar 4) (mnil))))) (mnot (mtst (mcall allW (mcons (mlc (miS (mop2 addW (mvar 6) (mcall listW (mcons (mvar 2) (mnil))))) (.nm 10) (myes) (mop2 inA (mvar 10) (mvar 5)) [10]) (mnil)))))) (sret (mcon (.bl false))) (snx))
  (sseq (sif (mtB (mop2 neW (mcall lenW (mcons (msrtX (mvar 2)) (mnil))) (mcall lenW (mcons (mvar 2) (mnil))))) (sret (mcon (.bl false))) (snx))
  (sseq (sfor (miS (mvar 3)) (.nm 8) (sseq (sif (mor (mnot (mtst (mcall isiW (mcons (mvar 8) (mcons (mcon (.ty .tuple)) mnil))))) (mor (mtB (mop2 neW (mcall lenW (mcons (mvar 8) (mnil))) (mcon (.int 2)))) (mtB (mop2 ninA (mop2 ixA (mvar 8) (mcon (.int 0))) (mvar 5))))) (sret (mcon (.bl false))) (snx))
  (sif (mtB (mop2 ninA (mop2 ixA (mvar 8) (mcon (.int 1))) (mlst (mcons (mcon (.str x_global)) (mcons (mcon (.str x_local)) (mcons (mcon (.str x_deep)) (mnil))))))) (sret (mcon (.bl false))) (snx))))
  (sret (mop2 eqW (mcall lenW (mcons (msrtX (mvar 3)) (mnil))) (mcall lenW (mcons (mvar 3) (mnil)))))))))))))
def m__law_is_due : Fn := fnM 1 11 bd__law_is_due
theorem ok__law_is_due (T : Tx K mg base) : FnOk P w K mg base CX0 4 (He.ga K "_law_is_due") (T.fd 20) ["_law_matter"] (spM (GG P w K) m__law_is_due) :=
  fn_okD (B := bd__law_is_due) (T.df 20 dd__law_is_due rfl) sc__law_is_due (hb := fun cdv A outer s H E hr => sm_cons (sm_if (PW.pt (pm_wor (pm_tnot (pm_tst (pm_cB cm_isi (by rfl) (T.fr "isinstance" (by simp [frees])) bb_isinstance (pm_cons (pm_var (pv 0)) (pm_cons (pm_con (v := .ty "tuple") (pe_bltn (by rfl) (T.fr "tuple" (by simp [frees])) bb_tuple rfl) (fun _ _ _ _ => .ty .tuple)) pm_nil))))) (pm_wor (pm_tcmp (om_ne hr.units) (pm_cB cm_len (by rfl) (T.fr "len" (by simp [frees])) bb_len (pm_cons (pm_var (pv 0)) (pm_nil))) (pm_int) (nomark _)) (pm_wor1 (pm_tnot (pm_tst (pm_cB cm_all (by rfl) (T.fr "all" (by simp [frees])) bb_all (pm_cons (pm_lc (own := [("_law_part", 9)]) rfl sc__law_is_due.nd (im_seq (pm_var (pv 0))) (blkOk_by (own := [("_law_part", 9)]) (N := N__law_is_due) (sc := defScope s__law_is_due) (by decide +kernel)) (fun _ _ _ _ _ => gm_name (pg_name (i := 9) sc__law_is_due.nd rfl (Or.inl rfl))) (fun _ _ _ _ _ => tm_nil) (fun _ _ _ _ _ => pm_cB cm_isi (by rfl) (T.fr "isinstance" (by simp [frees])) bb_isinstance (pm_cons (pm_var (pv 9)) (pm_cons (pm_con (v := .ty "tuple") (pe_bltn (by rfl) (T.fr "tuple" (by simp [frees])) bb_tuple rfl) (fun _ _ _ _ => .ty .tuple)) pm_nil)))) (pm_nil))))))))) (sm_one (sm_ret (pm_bl))) (sm_nil))
    (sm_cons (sm_asg (pm_var (pv 0)) (gm_tup rfl (gm_cons (pg_name (i := 1) sc__law_is_due.nd rfl (Or.inl rfl)) (gm_cons (pg_name (i := 2) sc__law_is_due.nd rfl (Or.inl rfl)) (gm_cons (pg_name (i := 3) sc__law_is_due.nd rfl (Or.inl rfl)) (gm_nil))))))
    (sm_cons (sm_if (PW.pt (pm_wor (pm_tcmp (om_eq hr.units) (pm_var (pv 1)) (pm_tup (pm_nil)) (nomark _)) (pm_wor1 (pm_tnot (pm_tst (pm_cB cm_all (by rfl) (T.fr "all" (by simp [frees])) bb_all (pm_cons (pm_lc (own := [("_law_lib_here", 7)]) rfl sc__law_is_due.nd (im_seq (pm_var (pv 1))) (blkOk_by (own := [("_law_lib_here", 7)]) (N := N__law_is_due) (sc := defScope s__law_is_due) (by decide +kernel)) (fun _ _ _ _ _ => gm_name (pg_name (i := 7) sc__law_is_due.nd rfl (Or.inl rfl))) (fun _ _ _ _ _ => tm_nil) (fun _ _ _ _ _ => pm_call (ok__law_is_lib T) (hr.mono (by decide)) (by rfl) (T.gl "_law_is_lib" (by simp [glos])) (T.kp 21 rfl) (b__law_is_lib T) pass0 (pm_cons (pm_var (pv 7)) (pm_nil)))) (pm_nil)))))))) (sm_one (sm_ret (pm_bl))) (sm_nil))
    (sm_cons (sm_setLc (i := 4) (own := [("_law_lib_here", 7)]) rfl sc__law_is_due.nd rfl rfl (sw_true rfl rfl rfl (by decide +kernel)) (im_seq (pm_var (pv 1))) (blkOk_by (own := [("_law_lib_here", 7)]) (N := N__law_is_due) (sc := defScope s__law_is_due) (by decide +kernel)) (fun _ _ _ _ _ => gm_name (pg_name (i := 7) sc__law_is_due.nd rfl (Or.inl rfl))) (fun _ _ _ _ _ => tm_nil) (fun _ _ _ _ _ => pm_ixA hr.units (pm_var (pv 7)) (pm_int)))
    (sm_cons (sm_asg (pm_tup (pm_cons (pm_slice (pm_var (pv 4)) (om_some (pm_int)) (om_none)) (pm_cons (pm_lst (pm_nil)) (pm_nil)))) (gm_tup rfl (gm_cons (pg_name (i := 5) sc__law_is_due.nd rfl (Or.inr rfl)) (gm_cons (pg_name (i := 6) sc__law_is_due.nd rfl (Or.inl rfl)) (gm_nil)))))
    (sm_cons (sm_for' PassesOwn.never rfl (im_seq (pm_var (pv 1))) (gm_name (pg_name (i := 7) sc__law_is_due.nd rfl (Or.inl rfl))) (sm_one (sm_set (ps_set (i := 6) sc__law_is_due.nd rfl (Or.inl rfl) (pm_bin om_add (pm_var (pv 6)) (pm_cT cm_list (by rfl) (T.fr "list" (by simp [frees])) bb_list (pm_cons (pm_ixA hr.units (pm_var (pv 7)) (pm_int)) (pm_nil))))))))
    (sm_cons (sm_if (PW.pt (pm_wor (pm_tcmp (om_ne hr.units) (pm_cB cm_len (by rfl) (T.fr "len" (by simp [frees])) bb_len (pm_cons (pm_srtX rfl hr.units (by rfl) (T.fr "sorted" (by simp [frees])) (by rfl) (T.fr "set" (by simp [frees])) (pm_var (pv 4))) (pm_nil))) (pm_cB cm_len (by rfl) (T.fr "len" (by simp [frees])) bb_len (pm_cons (pm_var (pv 4)) (pm_nil))) (nomark _)) (pm_wor1 (pm_tnot (pm_tst (pm_cB cm_all (by rfl) (T.fr "all" (by simp [frees])) bb_all (pm_cons (pm_lc (own := [("_law_own", 10)]) rfl sc__law_is_due.nd (im_seq (pm_bin om_add (pm_var (pv 6)) (pm_cT cm_list (by rfl) (T.fr "list" (by simp [frees])) bb_list (pm_cons (pm_var (pv 2)) (pm_nil))))) (blkOk_by (own := [("_law_own", 10)]) (N := N__law_is_due) (sc := defScope s__law_is_due) (by decide +kernel)) (fun _ _ _ _ _ => gm_name (pg_name (i := 10) sc__law_is_due.nd rfl (Or.inl rfl))) (fun _ _ _ _ _ => tm_nil) (fun _ _ _ _ _ => pm_cmp (om_inA (u65 hr)) (pm_var (pv 10)) (pm_var (pv 5)) (by rfl))) (pm_nil)))))))) (sm_one (sm_ret (pm_bl))) (sm_nil))
    (sm_cons (sm_if (pm_tcmp (om_ne hr.units) (pm_cB cm_len (by rfl) (T.fr "len" (by simp [frees])) bb_len (pm_cons (pm_srtX rfl hr.units (by rfl) (T.fr "sorted" (by simp [frees])) (by rfl) (T.fr "set" (by simp [frees])) (pm_var (pv 2))) (pm_nil))) (pm_cB cm_len (by rfl) (T.fr "len" (by simp [frees])) bb_len (pm_cons (pm_var (pv 2)) (pm_nil))) (nomark _)) (sm_one (sm_ret (pm_bl))) (sm_nil))
    (sm_cons (sm_for' PassesOwn.never rfl (im_seq (pm_var (pv 3))) (gm_name (pg_name (i := 8) sc__law_is_due.nd rfl (Or.inl rfl))) (sm_cons (sm_if (PW.pt (pm_wor (pm_tnot (pm_tst (pm_cB cm_isi (by rfl) (T.fr "isinstance" (by simp [frees])) bb_isinstance (pm_cons (pm_var (pv 8)) (pm_cons (pm_con (v := .ty "tuple") (pe_bltn (by rfl) (T.fr "tuple" (by simp [frees])) bb_tuple rfl) (fun _ _ _ _ => .ty .tuple)) pm_nil))))) (pm_wor (pm_tcmp (om_ne hr.units) (pm_cB cm_len (by rfl) (T.fr "len" (by simp [frees])) bb_len (pm_cons (pm_var (pv 8)) (pm_nil))) (pm_int) (nomark _)) (pm_wor1 (pm_tcmp (om_ninA (u65 hr)) (pm_ixA hr.units (pm_var (pv 8)) (pm_int)) (pm_var (pv 5)) (by rfl)))))) (sm_one (sm_ret (pm_bl))) (sm_nil))
    (sm_one (sm_if (pm_tcmp (om_ninA (u65 hr)) (pm_ixA hr.units (pm_var (pv 8)) (pm_int)) (pm_lst (pm_cons (pm_str e_x_global) (pm_cons (pm_str e_x_local) (pm_cons (pm_str e_x_deep) (pm_nil))))) (by rfl)) (sm_one (sm_ret (pm_bl))) (sm_nil)))))
    (sm_one (sm_ret (pm_cmp (om_eq hr.units) (pm_cB cm_len (by rfl) (T.fr "len" (by simp [frees])) bb_len (pm_cons (pm_srtX rfl hr.units (by rfl) (T.fr "sorted" (by simp [frees])) (by rfl) (T.fr "set" (by simp [frees])) (pm_var (pv 3))) (pm_nil))) (pm_cB cm_len (by rfl) (T.fr "len" (by simp [frees])) bb_len (pm_cons (pm_var (pv 3)) (pm_nil))) (nomark _)))))))))))))
def N__law_lists : List Str := ["_law_matter", "_law_part"]
theorem sc__law_lists : FnScope ["_law_matter", "_law_part"] ["_law_matter"] (defScope s__law_lists) := ⟨rfl, rfl, rfl, by decide +kernel, rfl, by decide +kernel, by decide +kernel⟩
theorem b__law_lists (T : Tx K mg base) : Binds K (T.fd 25) ["_law_matter"] [] := FunD.bindsN (T.df 25 dd__law_lists rfl) fun _ _ _ _ _ _ us hl => match us, hl with | [_], _ => rfl
def b0__law_lists (m__law_lists : Nat → Fn) (d : Nat) : Fs :=
  sret (mif (mtst (misiT (mvar 0) [.list, .tuple])) (mlc (miS (mvar 0)) (.nm 1) (myes) (mcall (m__law_lists d) (mcons (mvar 1) (mnil))) [1]) (mvar 0))
def m__law_lists : Nat → Fn
  | 0 => fun _ _ => none
  | d + 1 => fnM 1 2 (b0__law_lists (fun _ => m__law_lists d) d)
theorem ok__law_lists (T : Tx K mg base) : ∀ d : Nat, FnOk P w K mg base CX0 (d + 1) (He.ga K "_law_lists") (T.fd 25) ["_law_matter"] (spM (GG P w K) (m__law_lists d))
  | 0 => fn_none
  | d + 1 => fn_okD (T.df 25 dd__law_lists rfl) sc__law_lists (hb := fun cdv A outer s H E hr => sm_one (sm_ret (pm_if (pm_tst (pm_isiT (pm_var (pv 0)) (py_cons (t := .list) (pe_bltn (by rfl) (T.fr "list" (by simp [frees])) bb_list rfl) (py_cons (t := .tuple) (pe_bltn (by rfl) (T.fr "tuple" (by simp [frees])) bb_tuple rfl) (py_nil))) (by rfl) (T.fr "isinstance" (by simp [frees])))) (pm_lc (own := [("_law_part", 1)]) rfl sc__law_lists.nd (im_seq (pm_var (pv 0))) (blkOk_by (own := [("_law_part", 1)]) (N := N__law_lists) (sc := defScope s__law_lists) (by decide +kernel)) (fun _ _ _ _ _ => gm_name (pg_name (i := 1) sc__law_lists.nd rfl (Or.inl rfl))) (fun _ _ _ _ _ => tm_nil) (fun _ _ _ _ _ => pm_call (ok__law_lists T d) hr (by rfl) (T.gl "_law_lists" (by simp [glos])) (T.kp 25 rfl) (b__law_lists T) pass0 (pm_cons (pm_var (pv 1)) (pm_nil)))) (pm_var (pv 0)))))
theorem sc__law_turned : FnScope ["_law_box_here", "_law_plot", "_law_libs", "_law_early", "_law_doors", "_law_at", "_law_own", "_law_some_here"] ["_law_box_here", "_law_plot"] (defScope s__law_turned) := ⟨rfl, rfl, rfl, by decide +kernel, rfl, by decide +kernel, by decide +kernel⟩
theorem b__law_turned (T : Tx K mg base) : Binds K (T.fd 26) ["_law_box_here", "_law_plot"] [] := FunD.bindsN (T.df 26 dd__law_turned rfl) fun _ _ _ _ _ _ us hl => match us, hl with | [_, _], _ => rfl
def bd__law_turned : Fs :=
  sseq (sasg (mvar 1) (.tp [2, 3, 4]))
  (sseq (sset 5 (mcall m__law_take (mcons (mvar 0) (mcons (mcall lenW (mcons (mvar 2) (mnil))) (mnil)))))
  (sseq (sset 6 (mop2 ixA (mop2 ixA (mvar 2) (mvar 5)) (mcon (.int 0))))
  (sseq (sset 7 (mlst (mcons (mtup (mcons (mop2 addW (mslice (mvar 2) (onone) (osome (mvar 5))) (mslice (mvar 2) (osome (mop2 addW (mvar 5) (mcon (.int 1)))) (onone))) (mcons (mvar 3) (mcons (mvar 4) (mnil))))) (mcons (mtup (mcons (mop2 addW (mvar 2) (mslice (mvar 2) (osome (mvar 5)) (osome (mop2 addW (mvar 5) (mcon (.int 1)))))) (mcons (mvar 3) (mcons (mvar 4) (mnil))))) (mnil)))))
  (sseq (sset 7 (mop2 addW (mvar 7) (mlst (mcons (mtup (mcons (mrev (mvar 2)) (mcons (mvar 3) (mcons (mvar 4) (mnil))))) (mcons (mtup (mcons (mvar 2) (mcons (mop2 addW (mvar 3) (mtup (mcons (mvar 6) (mnil)))) (mcons (mvar 4) (mnil))))) (mcons (mtup (mcons (mvar 2) (mcons (mvar 3) (mcons (mop2 addW (mvar 4) (mtup (mcons (mtup (mcons (mvar 6) (mcons (mcon (.str x_global)) (mnil)))) (mnil)))) (mnil))))) (mnil)))))))
  (sseq (sset 7 (mop2 addW (mvar 7) (mlst (mcons (mtup (mcons (mvar 2) (mcons (mvar 3) (mcons (mop2 tmulW (mslice (mvar 4) (onone) (osome (mcon (.int 1)))) (mcon (.int 2))) (mnil))))) (mcons (mtup (mcons (mvar 2) (mcons (mtup (mcons (mop2 ixA (mop2 ixA (mvar 2) (mcon (.int 0))) (mcon (.int 0))) (mnil))) (mcons (mvar 4) (mnil))))) (mnil))))))
  (sseq (sset 7 (mop2 addW (mvar 7) (mlst (mcons (mtup (mcons (mvar 2) (mcons (mvar 3) (mcons (mtup (mcons (mtup (mcons (mop2 ixA (mop2 ixA (mvar 2) (mcon (.int 0))) (mcon (.int 0))) (mcons (mcon (.str x_local)) (mnil)))) (mnil))) (mnil))))) (mcons (mtup (mcons (mvar 2) (mcons (mvar 3) (mcons (mtup (mcons (mtup (mcons (mvar 6) (mcons (mcon (.str x_deepest)) (mnil)))) (mnil))) (mnil))))) (mnil))))))
  (sret (mcall m__law_pick (mcons (mvar 0) (mcons (mvar 7) (mnil)))))))))))
def m__law_turned : Fn := fnM 2 8 bd__law_turned
theorem ok__law_turned (T : Tx K mg base) : FnOk P w K mg base CX0 3 (He.ga K "_law_turned") (T.fd 26) ["_law_box_here", "_law_plot"] (spM (GG P w K) m__law_turned) :=
  fn_okD (B := bd__law_turned) (T.df 26 dd__law_turned rfl) sc__law_turned (hb := fun cdv A outer s H E hr => sm_cons (sm_asg (pm_var (pv 1)) (gm_tup rfl (gm_cons (pg_name (i := 2) sc__law_turned.nd rfl (Or.inl rfl)) (gm_cons (pg_name (i := 3) sc__law_turned.nd rfl (Or.inl rfl)) (gm_cons (pg_name (i := 4) sc__law_turned.nd rfl (Or.inl rfl)) (gm_nil))))))
    (sm_cons (sm_set (ps_set (i := 5) sc__law_turned.nd rfl (Or.inl rfl) (pm_call (ok__law_take T) (hr.mono (by decide)) (by rfl) (T.gl "_law_take" (by simp [glos])) (T.kp 14 rfl) (b__law_take T) pass0 (pm_cons (pm_var (pv 0)) (pm_cons (pm_cB cm_len (by rfl) (T.fr "len" (by simp [frees])) bb_len (pm_cons (pm_var (pv 2)) (pm_nil))) (pm_nil))))))
    (sm_cons (sm_set (ps_set (i := 6) sc__law_turned.nd rfl (Or.inl rfl) (pm_ixA hr.units (pm_ixA hr.units (pm_var (pv 2)) (pm_var (pv 5))) (pm_int))))
    (sm_cons (sm_set (ps_set (i := 7) sc__law_turned.nd rfl (Or.inl rfl) (pm_lst (pm_cons (pm_tup (pm_cons (pm_bin om_add (pm_slice (pm_var (pv 2)) (om_none) (om_some (pm_var (pv 5)))) (pm_slice (pm_var (pv 2)) (om_some (pm_bin om_add (pm_var (pv 5)) (pm_int))) (om_none))) (pm_cons (pm_var (pv 3)) (pm_cons (pm_var (pv 4)) (pm_nil))))) (pm_cons (pm_tup (pm_cons (pm_bin om_add (pm_var (pv 2)) (pm_slice (pm_var (pv 2)) (om_some (pm_var (pv 5))) (om_some (pm_bin om_add (pm_var (pv 5)) (pm_int))))) (pm_cons (pm_var (pv 3)) (pm_cons (pm_var (pv 4)) (pm_nil))))) (pm_nil))))))
    (sm_cons (sm_set (ps_set (i := 7) sc__law_turned.nd rfl (Or.inl rfl) (pm_bin om_add (pm_var (pv 7)) (pm_lst (pm_cons (pm_tup (pm_cons (pm_rev (pm_var (pv 2))) (pm_cons (pm_var (pv 3)) (pm_cons (pm_var (pv 4)) (pm_nil))))) (pm_cons (pm_tup (pm_cons (pm_var (pv 2)) (pm_cons (pm_bin om_add (pm_var (pv 3)) (pm_tup (pm_cons (pm_var (pv 6)) (pm_nil)))) (pm_cons (pm_var (pv 4)) (pm_nil))))) (pm_cons (pm_tup (pm_cons (pm_var (pv 2)) (pm_cons (pm_var (pv 3)) (pm_cons (pm_bin om_add (pm_var (pv 4)) (pm_tup (pm_cons (pm_tup (pm_cons (pm_var (pv 6)) (pm_cons (pm_str e_x_global) (pm_nil)))) (pm_nil)))) (pm_nil))))) (pm_nil))))))))
    (sm_cons (sm_set (ps_set (i := 7) sc__law_turned.nd rfl (Or.inl rfl) (pm_bin om_add (pm_var (pv 7)) (pm_lst (pm_cons (pm_tup (pm_cons (pm_var (pv 2)) (pm_cons (pm_var (pv 3)) (pm_cons (pm_bin om_tmul (pm_slice (pm_var (pv 4)) (om_none) (om_some (pm_int))) (pm_int)) (pm_nil))))) (pm_cons (pm_tup (pm_cons (pm_var (pv 2)) (pm_cons (pm_tup (pm_cons (pm_ixA hr.units (pm_ixA hr.units (pm_var (pv 2)) (pm_int)) (pm_int)) (pm_nil))) (pm_cons (pm_var (pv 4)) (pm_nil))))) (pm_nil)))))))
    (sm_cons (sm_set (ps_set (i := 7) sc__law_turned.nd rfl (Or.inl rfl) (pm_bin om_add (pm_var (pv 7)) (pm_lst (pm_cons (pm_tup (pm_cons (pm_var (pv 2)) (pm_cons (pm_var (pv 3)) (pm_cons (pm_tup (pm_cons (pm_tup (pm_cons (pm_ixA hr.units (pm_ixA hr.units (pm_var (pv 2)) (pm_int)) (pm_int)) (pm_cons (pm_str e_x_local) (pm_nil)))) (pm_nil))) (pm_nil))))) (pm_cons (pm_tup (pm_cons (pm_var (pv 2)) (pm_cons (pm_var (pv 3)) (pm_cons (pm_tup (pm_cons (pm_tup (pm_cons (pm_var (pv 6)) (pm_cons (pm_str e_x_deepest) (pm_nil)))) (pm_nil))) (pm_nil))))) (pm_nil)))))))
    (sm_one (sm_ret (pm_call (ok__law_pick T) (hr.mono (by decide)) (by rfl) (T.gl "_law_pick" (by simp [glos])) (T.kp 18 rfl) (b__law_pick T) pass0 (pm_cons (pm_var (pv 0)) (pm_cons (pm_var (pv 7)) (pm_nil)))))))))))))
theorem sc__law_odd : FnScope ["_law_box_here", "_law_matter", "_law_some_here"] ["_law_box_here", "_law_matter"] (defScope s__law_odd) := ⟨rfl, rfl, rfl, by decide +kernel, rfl, by decide +kernel, by decide +kernel⟩
theorem b__law_odd (T : Tx K mg base) : Binds K (T.fd 28) ["_law_box_here", "_law_matter"] [] := FunD.bindsN (T.df 28 dd__law_odd rfl) fun _ _ _ _ _ _ us hl => match us, hl with | [_, _], _ => rfl
def bd__law_odd : Fs :=
  sseq (sset 2 (mlst (mcons (mcon .non) (mcons (mcon (.bl true)) (mcons (mcon (.bl false)) (mcons (mcon (.int 0)) (mcons (mcon (.int 1)) (mcons (mcon (.str x_)) (mcons (mcon (.str x_f)) (mcons (mcon (.str x_a)) (mcons (mcon (.str x_Zz)) (mcons (mcon (.str x_abcdefghi)) (mcons (mcon (.str xh_612062)) (mcons (mcon (.str x_f1)) (mcons (mtup (mnil)) (mcons (mlst (mnil)) (mcons (mtup (mcons (mcon (.str x_f)) (mcons (mcon (.str x_)) (mnil)))) (mcons (mtup (mcons (mcon (.str x_)) (mcons (mcon (.str x_f)) (mnil)))) (mcons (mtup (mcons (mcon (.str x_f)) (mnil))) (mnil))))))))))))))))))))
  (sseq (sset 2 (mop2 addW (mvar 2) (mlst (mcons (mtup (mcons (mcon (.str x_f)) (mcons (mcon (.str x_)) (mcons (mcon (.bl true)) (mnil))))) (mcons (mtup (mcons (mcon (.str x_f)) (mcons (mcon (.str x_a)) (mcons (mcon (.int 1)) (mnil))))) (mcons (mcon (.str x_main)) (mcons (mcon (.str x_b)) (mnil))))))))
  (sseq (sif (mtst (misiT (mvar 1) [.list, .tuple])) (sset 2 (mop2 addW (mvar 2) (mop2 lmulW (mlst (mcons (mcall listW (mcons (mvar 1) (mnil))) (mcons (mrev (mvar 1)) (mcons (mslice (mvar 1) (osome (mcon (.int 1))) (onone)) (mcons (mslice (mvar 1) (onone) (osome (mop1 negW (mcon (.int 1))))) (mcons (mop2 addW (mvar 1) (mslice (mvar 1) (osome (mop1 negW (mcon (.int 1)))) (onone))) (mnil))))))) (mcon (.int 2))))) (snx))
  (sret (mcall m__law_pick (mcons (mvar 0) (mcons (mvar 2) (mnil)))))))
def m__law_odd : Fn := fnM 2 3 bd__law_odd
theorem ok__law_odd (T : Tx K mg base) : FnOk P w K mg base CX0 3 (He.ga K "_law_odd") (T.fd 28) ["_law_box_here", "_law_matter"] (spM (GG P w K) m__law_odd) :=
  fn_okD (B := bd__law_odd) (T.df 28 dd__law_odd rfl) sc__law_odd (hb := fun cdv A outer s H E hr => sm_cons (sm_set (ps_set (i := 2) sc__law_odd.nd rfl (Or.inl rfl) (pm_lst (pm_cons (pm_non) (pm_cons (pm_bl) (pm_cons (pm_bl) (pm_cons (pm_int) (pm_cons (pm_int) (pm_cons (pm_str e_x_) (pm_cons (pm_str e_x_f) (pm_cons (pm_str e_x_a) (pm_cons (pm_str e_x_Zz) (pm_cons (pm_str e_x_abcdefghi) (pm_cons (pm_str e_xh_612062) (pm_cons (pm_str e_x_f1) (pm_cons (pm_tup (pm_nil)) (pm_cons (pm_lst (pm_nil)) (pm_cons (pm_tup (pm_cons (pm_str e_x_f) (pm_cons (pm_str e_x_) (pm_nil)))) (pm_cons (pm_tup (pm_cons (pm_str e_x_) (pm_cons (pm_str e_x_f) (pm_nil)))) (pm_cons (pm_tup (pm_cons (pm_str e_x_f) (pm_nil))) (pm_nil)))))))))))))))))))))
    (sm_cons (sm_set (ps_set (i := 2) sc__law_odd.nd rfl (Or.inl rfl) (pm_bin om_add (pm_var (pv 2)) (pm_lst (pm_cons (pm_tup (pm_cons (pm_str e_x_f) (pm_cons (pm_str e_x_) (pm_cons (pm_bl) (pm_nil))))) (pm_cons (pm_tup (pm_cons (pm_str e_x_f) (pm_cons (pm_str e_x_a) (pm_cons (pm_int) (pm_nil))))) (pm_cons (pm_str e_x_main) (pm_cons (pm_str e_x_b) (pm_nil)))))))))
    (sm_cons (sm_if (pm_tst (pm_isiT (pm_var (pv 1)) (py_cons (t := .list) (pe_bltn (by rfl) (T.fr "list" (by simp [frees])) bb_list rfl) (py_cons (t := .tuple) (pe_bltn (by rfl) (T.fr "tuple" (by simp [frees])) bb_tuple rfl) (py_nil))) (by rfl) (T.fr "isinstance" (by simp [frees])))) (sm_one (sm_set (ps_set (i := 2) sc__law_odd.nd rfl (Or.inl rfl) (pm_bin om_add (pm_var (pv 2)) (pm_bin om_lmul (pm_lst (pm_cons (pm_cT cm_list (by rfl) (T.fr "list" (by simp [frees])) bb_list (pm_cons (pm_var (pv 1)) (pm_nil))) (pm_cons (pm_rev (pm_var (pv 1))) (pm_cons (pm_slice (pm_var (pv 1)) (om_some (pm_int)) (om_none)) (pm_cons (pm_slice (pm_var (pv 1)) (om_none) (om_some (pm_un um_neg (pm_int)))) (pm_cons (pm_bin om_add (pm_var (pv 1)) (pm_slice (pm_var (pv 1)) (om_some (pm_un um_neg (pm_int))) (om_none))) (pm_nil))))))) (pm_int)))))) (sm_nil))
    (sm_one (sm_ret (pm_call (ok__law_pick T) (hr.mono (by decide)) (by rfl) (T.gl "_law_pick" (by simp [glos])) (T.kp 18 rfl) (b__law_pick T) pass0 (pm_cons (pm_var (pv 0)) (pm_cons (pm_var (pv 2)) (pm_nil)))))))))
theorem sc__law_bent : FnScope ["_law_box_here", "_law_matter", "_law_at"] ["_law_box_here", "_law_matter"] (defScope s__law_bent) := ⟨rfl, rfl, rfl, by decide +kernel, rfl, by decide +kernel, by decide +kernel⟩
theorem b__law_bent (T : Tx K mg base) : Binds K (T.fd 27) ["_law_box_here", "_law_matter"] [] := FunD.bindsN (T.df 27 dd__law_bent rfl) fun _ _ _ _ _ _ us hl => match us, hl with | [_, _], _ => rfl
def b0__law_bent (m__law_bent : Nat → Fn) (d : Nat) : Fs :=
  sseq (sif (mor (mnot (mtst (mcall isiW (mcons (mvar 1) (mcons (mcon (.ty .tuple)) mnil))))) (mor (mtB (mop2 eqW (mvar 1) (mtup (mnil)))) (mtB (mop2 eqW (mcall m__law_take (mcons (mvar 0) (mcons (mcon (.int 6)) (mnil)))) (mcon (.int 0)))))) (sret (mcall m__law_odd (mcons (mvar 0) (mcons (mvar 1) (mnil))))) (snx))
  (sseq (sset 2 (mcall m__law_take (mcons (mvar 0) (mcons (mcall lenW (mcons (mvar 1) (mnil))) (mnil)))))
  (sret (mop2 addW (mop2 addW (mslice (mvar 1) (onone) (osome (mvar 2))) (mtup (mcons (mcall (m__law_bent d) (mcons (mvar 0) (mcons (mop2 ixA (mvar 1) (mvar 2)) (mnil)))) (mnil)))) (mslice (mvar 1) (osome (mop2 addW (mvar 2) (mcon (.int 1)))) (onone)))))
def m__law_bent : Nat → Fn
  | 0 => fun _ _ => none
  | d + 1 => fnM 2 3 (b0__law_bent (fun _ => m__law_bent d) d)
theorem ok__law_bent (T : Tx K mg base) : ∀ d : Nat, FnOk P w K mg base CX0 (d + 4) (He.ga K "_law_bent") (T.fd 27) ["_law_box_here", "_law_matter"] (spM (GG P w K) (m__law_bent d))
  | 0 => fn_none
  | d + 1 => by
    rw [show d + 1 + 4 = (d + 4) + 1 by omega]
    exact fn_okD (T.df 27 dd__law_bent rfl) sc__law_bent (hb := fun cdv A outer s H E hr => sm_cons (sm_if (PW.pt (pm_wor (pm_tnot (pm_tst (pm_cB cm_isi (by rfl) (T.fr "isinstance" (by simp [frees])) bb_isinstance (pm_cons (pm_var (pv 1)) (pm_cons (pm_con (v := .ty "tuple") (pe_bltn (by rfl) (T.fr "tuple" (by simp [frees])) bb_tuple rfl) (fun _ _ _ _ => .ty .tuple)) pm_nil))))) (pm_wor (pm_tcmp (om_eq hr.units) (pm_var (pv 1)) (pm_tup (pm_nil)) (nomark _)) (pm_wor1 (pm_tcmp (om_eq hr.units) (pm_call (ok__law_take T) (hr.mono (by omega)) (by rfl) (T.gl "_law_take" (by simp [glos])) (T.kp 14 rfl) (b__law_take T) pass0 (pm_cons (pm_var (pv 0)) (pm_cons (pm_int) (pm_nil)))) (pm_int) (nomark _)))))) (sm_one (sm_ret (pm_call (ok__law_odd T) (hr.mono (by omega)) (by rfl) (T.gl "_law_odd" (by simp [glos])) (T.kp 28 rfl) (b__law_odd T) pass0 (pm_cons (pm_var (pv 0)) (pm_cons (pm_var (pv 1)) (pm_nil)))))) (sm_nil))
    (sm_cons (sm_set (ps_set (i := 2) sc__law_bent.nd rfl (Or.inl rfl) (pm_call (ok__law_take T) (hr.mono (by omega)) (by rfl) (T.gl "_law_take" (by simp [glos])) (T.kp 14 rfl) (b__law_take T) pass0 (pm_cons (pm_var (pv 0)) (pm_cons (pm_cB cm_len (by rfl) (T.fr "len" (by simp [frees])) bb_len (pm_cons (pm_var (pv 1)) (pm_nil))) (pm_nil))))))
    (sm_one (sm_ret (pm_bin om_add (pm_bin om_add (pm_slice (pm_var (pv 1)) (om_none) (om_some (pm_var (pv 2)))) (pm_tup (pm_cons (pm_call (ok__law_bent T d) hr (by rfl) (T.gl "_law_bent" (by simp [glos])) (T.kp 27 rfl) (b__law_bent T) pass0 (pm_cons (pm_var (pv 0)) (pm_cons (pm_ixA hr.units (pm_var (pv 1)) (pm_var (pv 2))) (pm_nil)))) (pm_nil)))) (pm_slice (pm_var (pv 1)) (om_some (pm_bin om_add (pm_var (pv 2)) (pm_int))) (om_none)))))))
def N__law_right : List Str := ["_law_box_here", "_law_bare", "_law_some_here", "_law_folk", "_law_great", "_law_turn", "_law_plot", "_law_time", "_law_changed_so", "_law_matter", "_law_shape", "_law_due", "_law_many", "_law_own"]
theorem sc__law_right : FnScope ["_law_box_here", "_law_bare", "_law_some_here", "_law_folk", "_law_great", "_law_turn", "_law_plot", "_law_time", "_law_changed_so", "_law_matter", "_law_shape", "_law_due", "_law_many", "_law_own"] ["_law_box_here"] (defScope s__law_right) := ⟨rfl, rfl, rfl, by decide +kernel, rfl, by decide +kernel, by decide +kernel⟩
theorem b__law_right (T : Tx K mg base) : Binds K (T.fd 3) ["_law_box_here"] [] := FunD.bindsN (T.df 3 dd__law_right rfl) fun _ _ _ _ _ _ us hl => match us, hl with | [_], _ => rfl
def bd__law_right : Fs :=
  sseq (sset 1 (mtup (mcons (mtup (mcons (mcon (.str x_main)) (mcons (mtup (mnil)) (mcons (mtup (mnil)) (mcons (mtup (mnil)) (mnil)))))) (mnil))))
  (sseq (sset 2 (mlst (mcons (mcon .non) (mcons (mcon (.bl true)) (mcons (mcon (.int 0)) (mcons (mcon (.str x_)) (mcons (mtup (mnil)) (mcons (mlst (mnil)) (mcons (mtup (mcons (mtup (mnil)) (mcons (mtup (mnil)) (mcons (mtup (mnil)) (mnil))))) (mcons (mtup (mcons (mvar 1) (mcons (mtup (mnil)) (mcons (mtup (mnil)) (mnil))))) (mcons (mtup (mcons (mvar 1) (mcons (mtup (mnil)) (mnil)))) (mcons (mcon (.str x_main)) (mnil)))))))))))))
  (sseq (sset 3 (mop2 addW (mlc (miR1 (mcons (mcon (.int 8)) (mnil))) (.nm 12) (myes) (mop2 addW (mcon (.str x_a)) (mop2 smzW (mcon (.str x_z)) (mvar 12))) [12]) (mlc (miR1 (mcons (mcon (.int 8)) (mnil))) (.nm 12) (myes) (mop2 addW (mcon (.str x_b)) (mop2 smzW (mcon (.str x_y)) (mvar 12))) [12])))
  (sseq (sset 4 (mop2 addW (mtup (mcons (mtup (mcons (mcon (.str x_main)) (mcons (mcall tupleW (mcons (mvar 3) (mnil))) (mcons (mtup (mnil)) (mcons (mtup (mnil)) (mnil)))))) (mnil))) (mcall tupleW (mcons (mlc (miS (mvar 3)) (.nm 13) (myes) (mtup (mcons (mvar 13) (mcons (mtup (mnil)) (mcons (mtup (mnil)) (mcons (mtup (mnil)) (mnil)))))) [13]) (mnil)))))
  (sseq (sset 4 (mtup (mcons (mvar 4) (mcons (mcall tupleW (mcons (mvar 3) (mnil))) (mcons (mcall tupleW (mcons (mlc (miS (mvar 3)) (.nm 13) (myes) (mtup (mcons (mvar 13) (mcons (mcon (.str x_local)) (mnil)))) [13]) (mnil))) (mnil))))))
  (sseq (sif (mtB (mop2 (isBW true) (mcall m_is_program (mcons (mvar 4) (mnil))) (mcon (.bl true)))) (sret (mcon (.bl false))) (snx))
  (sseq (sexp (mbmL appW (mvar 2) (mcons (mvar 4) (mnil))))
  (sseq (sfor (miR1 (mcons (mcon (.int 2)) (mnil))) (.nm 5) (sseq (sset 6 (mcall m__law_program (mcons (mvar 0) (mcons (mcon (.int 4)) (mcons (mcon (.int 3)) (mnil))))))
  (sseq (sif (mnot (mtst (mcall m__law_same (mcons (mlst (mcons (mcall m_is_program (mcons (mvar 6) (mnil))) (mcons (mcall m__law_is_due (mcons (mvar 6) (mnil))) (mnil)))) (mcons (mlst (mcons (mcon (.bl true)) (mcons (mcon (.bl true)) (mnil)))) (mnil)))))) (sret (mcon (.bl false))) (snx))
  (sseq (sset 2 (mop2 addW (mop2 addW (mvar 2) (mlst (mcons (mvar 6) (mcons (mcall (m__law_lists 8) (mcons (mvar 6) (mnil))) (mcons (mcall listW (mcons (mvar 6) (mnil))) (mnil)))))) (mlc (miR1 (mcons (mcon (.int 12)) (mnil))) (.nm 7) (myes) (mcall m__law_turned (mcons (mvar 0) (mcons (mvar 6) (mnil)))) [7])))
  (sfor (miR1 (mcons (mcon (.int 28)) (mnil))) (.nm 7) (sseq (sset 8 (mcall (m__law_bent 12) (mcons (mvar 0) (mcons (mvar 6) (mnil)))))
  (sexp (mbmL appW (mvar 2) (mcons (mif (mtB (mop2 eqW (mcall m__law_take (mcons (mvar 0) (mcons (mcon (.int 3)) (mnil)))) (mcon (.int 0)))) (mcall (m__law_bent 12) (mcons (mvar 0) (mcons (mvar 8) (mnil)))) (mvar 8)) (mnil))))))))))
  (sseq (sfor (miS (mvar 2)) (.nm 9) (sseq (spar 10 11 (mcons (mcall reprX (mcons (mvar 9) (mnil))) (mcons (mcall m__law_is_due (mcons (mvar 9) (mnil))) (mnil))))
  (sif (mor (mnot (mtst (mcall m__law_same (mcons (mlst (mcons (mcall m_is_program (mcons (mvar 9) (mnil))) (mcons (mcall m_is_program (mkw [0] (mcons (mvar 9) (mnil)))) (mnil)))) (mcons (mlst (mcons (mvar 11) (mcons (mvar 11) (mnil)))) (mnil)))))) (mtB (mop2 neW (mcall reprX (mcons (mvar 9) (mnil))) (mvar 10)))) (sret (mcon (.bl false))) (snx))))
  (sret (mcon (.bl true)))))))))))
def m__law_right : Fn := fnM 1 14 bd__law_right
theorem ok__law_right (T : Tx K mg base) : FnG P w K mg base 17 (He.ga K "_law_right") (T.fd 3) ["_law_box_here"] (spM (GG P w K) m__law_right) :=
  fn_okG (B := bd__law_right) (T.df 3 dd__law_right rfl) sc__law_right (hb := fun cdv A gd outer s H E hr => sm_cons (sm_set (ps_set (i := 1) sc__law_right.nd rfl (Or.inl rfl) (pm_tup (pm_cons (pm_tup (pm_cons (pm_str e_x_main) (pm_cons (pm_tup (pm_nil)) (pm_cons (pm_tup (pm_nil)) (pm_cons (pm_tup (pm_nil)) (pm_nil)))))) (pm_nil)))))
    (sm_cons (sm_set (ps_set (i := 2) sc__law_right.nd rfl (Or.inl rfl) (pm_lst (pm_cons (pm_non) (pm_cons (pm_bl) (pm_cons (pm_int) (pm_cons (pm_str e_x_) (pm_cons (pm_tup (pm_nil)) (pm_cons (pm_lst (pm_nil)) (pm_cons (pm_tup (pm_cons (pm_tup (pm_nil)) (pm_cons (pm_tup (pm_nil)) (pm_cons (pm_tup (pm_nil)) (pm_nil))))) (pm_cons (pm_tup (pm_cons (pm_var (pv 1)) (pm_cons (pm_tup (pm_nil)) (pm_cons (pm_tup (pm_nil)) (pm_nil))))) (pm_cons (pm_tup (pm_cons (pm_var (pv 1)) (pm_cons (pm_tup (pm_nil)) (pm_nil)))) (pm_cons (pm_str e_x_main) (pm_nil))))))))))))))
    (sm_cons (sm_set (ps_set (i := 3) sc__law_right.nd rfl (Or.inl rfl) (pm_bin om_add (pm_lc (own := [("_law_many", 12)]) rfl sc__law_right.nd (im_range1 (by rfl) (T.fr "range" (by simp [frees])) (pm_cons (pm_int) (pm_nil))) (blkOk_by (own := [("_law_many", 12)]) (N := N__law_right) (sc := defScope s__law_right) (by decide +kernel)) (fun _ _ _ _ _ => gm_name (pg_name (i := 12) sc__law_right.nd rfl (Or.inl rfl))) (fun _ _ _ _ _ => tm_nil) (fun _ _ _ _ _ => pm_bin om_add (pm_str e_x_a) (pm_bin om_smz (pm_str e_x_z) (pm_var (pv 12))))) (pm_lc (own := [("_law_many", 12)]) rfl sc__law_right.nd (im_range1 (by rfl) (T.fr "range" (by simp [frees])) (pm_cons (pm_int) (pm_nil))) (blkOk_by (own := [("_law_many", 12)]) (N := N__law_right) (sc := defScope s__law_right) (by decide +kernel)) (fun _ _ _ _ _ => gm_name (pg_name (i := 12) sc__law_right.nd rfl (Or.inl rfl))) (fun _ _ _ _ _ => tm_nil) (fun _ _ _ _ _ => pm_bin om_add (pm_str e_x_b) (pm_bin om_smz (pm_str e_x_y) (pm_var (pv 12))))))))
    (sm_cons (sm_set (ps_set (i := 4) sc__law_right.nd rfl (Or.inl rfl) (pm_bin om_add (pm_tup (pm_cons (pm_tup (pm_cons (pm_str e_x_main) (pm_cons (pm_cT cm_tuple (by rfl) (T.fr "tuple" (by simp [frees])) bb_tuple (pm_cons (pm_var (pv 3)) (pm_nil))) (pm_cons (pm_tup (pm_nil)) (pm_cons (pm_tup (pm_nil)) (pm_nil)))))) (pm_nil))) (pm_cT cm_tuple (by rfl) (T.fr "tuple" (by simp [frees])) bb_tuple (pm_cons (pm_lc (own := [("_law_own", 13)]) rfl sc__law_right.nd (im_seq (pm_var (pv 3))) (blkOk_by (own := [("_law_own", 13)]) (N := N__law_right) (sc := defScope s__law_right) (by decide +kernel)) (fun _ _ _ _ _ => gm_name (pg_name (i := 13) sc__law_right.nd rfl (Or.inl rfl))) (fun _ _ _ _ _ => tm_nil) (fun _ _ _ _ _ => pm_tup (pm_cons (pm_var (pv 13)) (pm_cons (pm_tup (pm_nil)) (pm_cons (pm_tup (pm_nil)) (pm_cons (pm_tup (pm_nil)) (pm_nil))))))) (pm_nil))))))
    (sm_cons (sm_set (ps_set (i := 4) sc__law_right.nd rfl (Or.inl rfl) (pm_tup (pm_cons (pm_var (pv 4)) (pm_cons (pm_cT cm_tuple (by rfl) (T.fr "tuple" (by simp [frees])) bb_tuple (pm_cons (pm_var (pv 3)) (pm_nil))) (pm_cons (pm_cT cm_tuple (by rfl) (T.fr "tuple" (by simp [frees])) bb_tuple (pm_cons (pm_lc (own := [("_law_own", 13)]) rfl sc__law_right.nd (im_seq (pm_var (pv 3))) (blkOk_by (own := [("_law_own", 13)]) (N := N__law_right) (sc := defScope s__law_right) (by decide +kernel)) (fun _ _ _ _ _ => gm_name (pg_name (i := 13) sc__law_right.nd rfl (Or.inl rfl))) (fun _ _ _ _ _ => tm_nil) (fun _ _ _ _ _ => pm_tup (pm_cons (pm_var (pv 13)) (pm_cons (pm_str e_x_local) (pm_nil))))) (pm_nil))) (pm_nil)))))))
    (sm_cons (sm_if (pm_tcmp (om_isnotB) (pm_call (ok_is_program T) (hr.mono (by decide)) (by rfl) (T.gl "is_program" (by simp [glos])) (T.kp 4 rfl) (b_is_program T) pass0 (pm_cons (pm_var (pv 4)) (pm_nil))) (pm_bl) (nomark _)) (sm_one (sm_ret (pm_bl))) (sm_nil))
    (sm_cons (sm_exp (pm_bmL lm_app (pe_bm PySem.F.plainAttrs_list PySem.F.slot_list_append PySem.F.type_list_append mt_append (pm_var (pv 2)) (pm_cons (pm_var (pv 4)) (pm_nil)))))
    (sm_cons (sm_for' PassesOwn.never rfl (im_range1 (by rfl) (T.fr "range" (by simp [frees])) (pm_cons (pm_int) (pm_nil))) (gm_name (pg_name (i := 5) sc__law_right.nd rfl (Or.inl rfl))) (sm_cons (sm_set (ps_set (i := 6) sc__law_right.nd rfl (Or.inr rfl) (pm_call (ok__law_program T) (hr.mono (by decide)) (by rfl) (T.gl "_law_program" (by simp [glos])) (T.kp 12 rfl) (b__law_program T) pass0 (pm_cons (pm_var (pv 0)) (pm_cons (pm_int) (pm_cons (pm_int) (pm_nil)))))))
    (sm_cons (sm_if (pm_tnot (pm_tst (pm_callG (ok__law_same T) gd (hr.mono (by decide)) (by rfl) (T.gl "_law_same" (by simp [glos])) (T.kp 19 rfl) (b__law_same T) (pm_cons (pm_lst (pm_cons (pm_call (ok_is_program T) (hr.mono (by decide)) (by rfl) (T.gl "is_program" (by simp [glos])) (T.kp 4 rfl) (b_is_program T) pass0 (pm_cons (pm_var (pv 6)) (pm_nil))) (pm_cons (pm_call (ok__law_is_due T) (hr.mono (by decide)) (by rfl) (T.gl "_law_is_due" (by simp [glos])) (T.kp 20 rfl) (b__law_is_due T) pass0 (pm_cons (pm_var (pv 6)) (pm_nil))) (pm_nil)))) (pm_cons (pm_lst (pm_cons (pm_bl) (pm_cons (pm_bl) (pm_nil)))) (pm_nil)))))) (sm_one (sm_ret (pm_bl))) (sm_nil))
    (sm_cons (sm_set (ps_set (i := 2) sc__law_right.nd rfl (Or.inl rfl) (pm_bin om_add (pm_bin om_add (pm_var (pv 2)) (pm_lst (pm_cons (pm_var (pv 6)) (pm_cons (pm_call (ok__law_lists T 8) (hr.mono (by decide)) (by rfl) (T.gl "_law_lists" (by simp [glos])) (T.kp 25 rfl) (b__law_lists T) pass0 (pm_cons (pm_var (pv 6)) (pm_nil))) (pm_cons (pm_cT cm_list (by rfl) (T.fr "list" (by simp [frees])) bb_list (pm_cons (pm_var (pv 6)) (pm_nil))) (pm_nil)))))) (pm_lc (own := [("_law_time", 7)]) rfl sc__law_right.nd (im_range1 (by rfl) (T.fr "range" (by simp [frees])) (pm_cons (pm_int) (pm_nil))) (blkOk_by (own := [("_law_time", 7)]) (N := N__law_right) (sc := defScope s__law_right) (by decide +kernel)) (fun _ _ _ _ _ => gm_name (pg_name (i := 7) sc__law_right.nd rfl (Or.inl rfl))) (fun _ _ _ _ _ => tm_nil) (fun _ _ _ _ _ => pm_call (ok__law_turned T) (hr.mono (by decide)) (by rfl) (T.gl "_law_turned" (by simp [glos])) (T.kp 26 rfl) (b__law_turned T) pass0 (pm_cons (pm_var (pv 0)) (pm_cons (pm_var (pv 6)) (pm_nil))))))))
    (sm_one (sm_for' PassesOwn.never rfl (im_range1 (by rfl) (T.fr "range" (by simp [frees])) (pm_cons (pm_int) (pm_nil))) (gm_name (pg_name (i := 7) sc__law_right.nd rfl (Or.inl rfl))) (sm_cons (sm_set (ps_set (i := 8) sc__law_right.nd rfl (Or.inl rfl) (pm_call (ok__law_bent T 12) (hr.mono (by decide)) (by rfl) (T.gl "_law_bent" (by simp [glos])) (T.kp 27 rfl) (b__law_bent T) pass0 (pm_cons (pm_var (pv 0)) (pm_cons (pm_var (pv 6)) (pm_nil))))))
    (sm_one (sm_exp (pm_bmL lm_app (pe_bm PySem.F.plainAttrs_list PySem.F.slot_list_append PySem.F.type_list_append mt_append (pm_var (pv 2)) (pm_cons (pm_if (pm_tcmp (om_eq hr.units) (pm_call (ok__law_take T) (hr.mono (by decide)) (by rfl) (T.gl "_law_take" (by simp [glos])) (T.kp 14 rfl) (b__law_take T) pass0 (pm_cons (pm_var (pv 0)) (pm_cons (pm_int) (pm_nil)))) (pm_int) (nomark _)) (pm_call (ok__law_bent T 12) (hr.mono (by decide)) (by rfl) (T.gl "_law_bent" (by simp [glos])) (T.kp 27 rfl) (b__law_bent T) pass0 (pm_cons (pm_var (pv 0)) (pm_cons (pm_var (pv 8)) (pm_nil)))) (pm_var (pv 8))) (pm_nil)))))))))))))
    (sm_cons (sm_for' PassesOwn.never rfl (im_seq (pm_var (pv 2))) (gm_name (pg_name (i := 9) sc__law_right.nd rfl (Or.inl rfl))) (sm_cons (sm_par (ps_par (i := 10) (j := 11) rfl sc__law_right.nd rfl rfl (by decide) rfl rfl (pm_cons (pm_cB (cm_reprX gd hr.units) (by rfl) (T.fr "repr" (by simp [frees])) bb_repr (pm_cons (pm_var (pv 9)) (pm_nil))) (pm_cons (pm_call (ok__law_is_due T) (hr.mono (by decide)) (by rfl) (T.gl "_law_is_due" (by simp [glos])) (T.kp 20 rfl) (b__law_is_due T) pass0 (pm_cons (pm_var (pv 9)) (pm_nil))) (pm_nil))) (by rfl)))
    (sm_one (sm_if (PW.pt (pm_wor (pm_tnot (pm_tst (pm_callG (ok__law_same T) gd (hr.mono (by decide)) (by rfl) (T.gl "_law_same" (by simp [glos])) (T.kp 19 rfl) (b__law_same T) (pm_cons (pm_lst (pm_cons (pm_call (ok_is_program T) (hr.mono (by decide)) (by rfl) (T.gl "is_program" (by simp [glos])) (T.kp 4 rfl) (b_is_program T) pass0 (pm_cons (pm_var (pv 9)) (pm_nil))) (pm_cons (pm_callKW (ks := ["thing"]) (is := [0]) (ok_is_program T) (hr.mono (by decide)) (by rfl) (T.gl "is_program" (by simp [glos])) (T.kp 4 rfl) (kb_is_program_0 T) pass0 (km_cons (pm_var (pv 9)) (km_nil))) (pm_nil)))) (pm_cons (pm_lst (pm_cons (pm_var (pv 11)) (pm_cons (pm_var (pv 11)) (pm_nil)))) (pm_nil)))))) (pm_wor1 (pm_tcmp (om_ne hr.units) (pm_cB (cm_reprX gd hr.units) (by rfl) (T.fr "repr" (by simp [frees])) bb_repr (pm_cons (pm_var (pv 9)) (pm_nil))) (pm_var (pv 10)) (nomark _))))) (sm_one (sm_ret (pm_bl))) (sm_nil)))))
    (sm_one (sm_ret (pm_bl))))))))))))
def N_law : List Str := ["_law_script", "_law_gate", "_law_box_here", "_law_time"]
theorem sc_law : FnScope ["_law_script", "_law_gate", "_law_box_here", "_law_time"] ["_law_script"] (defScope s_law) := ⟨rfl, rfl, rfl, by decide +kernel, rfl, by decide +kernel, by decide +kernel⟩
def bd_law : Fs :=
  sseq (sfor (miR1 (mcons (mop2 addW (mcon (.int 1)) (mcall min2W (mcons (mcon (.int 3)) (mcons (mcall lenW (mcons (mvar 0) (mnil))) (mnil))))) (mnil))) (.nm 1) (sseq (sset 2 (mcall m__law_box (mcons (mvar 0) (mcons (mvar 1) (mnil)))))
  (sif (mnot (mtst (mcall allW (mcons (mlc (miR1 (mcons (mcon (.int 1)) (mnil))) (.nm 3) (myes) (mcall m__law_right (mcons (mvar 2) (mnil))) [3]) (mnil))))) (sret (mcon (.bl false))) (snx))))
  (sret (mcon (.bl true)))
def m_law : Fn := fnM 1 4 bd_law
theorem ok_law (T : Tx K mg base) : FnG P w K mg base 18 (He.ga K "law") (T.fd 0) ["_law_script"] (spM (GG P w K) m_law) :=
  fn_okG (B := bd_law) (T.df 0 dd_law rfl) sc_law (hb := fun cdv A gd outer s H E hr => sm_cons (sm_for' PassesOwn.never rfl (im_range1 (by rfl) (T.fr "range" (by simp [frees])) (pm_cons (pm_bin om_add (pm_int) (pm_cB cm_min2 (by rfl) (T.fr "min" (by simp [frees])) bb_min (pm_cons (pm_int) (pm_cons (pm_cB cm_len (by rfl) (T.fr "len" (by simp [frees])) bb_len (pm_cons (pm_var (pv 0)) (pm_nil))) (pm_nil))))) (pm_nil))) (gm_name (pg_name (i := 1) sc_law.nd rfl (Or.inl rfl))) (sm_cons (sm_set (ps_set (i := 2) sc_law.nd rfl (Or.inr rfl) (pm_call (ok__law_box T) (hr.mono (by decide)) (by rfl) (T.gl "_law_box" (by simp [glos])) (T.kp 1 rfl) (b__law_box T) pass0 (pm_cons (pm_var (pv 0)) (pm_cons (pm_var (pv 1)) (pm_nil))))))
    (sm_one (sm_if (pm_tnot (pm_tst (pm_cB cm_all (by rfl) (T.fr "all" (by simp [frees])) bb_all (pm_cons (pm_lc (own := [("_law_time", 3)]) rfl sc_law.nd (im_range1 (by rfl) (T.fr "range" (by simp [frees])) (pm_cons (pm_int) (pm_nil))) (blkOk_by (own := [("_law_time", 3)]) (N := N_law) (sc := defScope s_law) (by decide +kernel)) (fun _ _ _ _ _ => gm_name (pg_name (i := 3) sc_law.nd rfl (Or.inl rfl))) (fun _ _ _ _ _ => tm_nil) (fun _ _ _ _ _ => pm_callG (ok__law_right T) gd (hr.mono (by decide)) (by rfl) (T.gl "_law_right" (by simp [glos])) (T.kp 3 rfl) (b__law_right T) (pm_cons (pm_var (pv 2)) (pm_nil)))) (pm_nil))))) (sm_one (sm_ret (pm_bl))) (sm_nil)))))
    (sm_one (sm_ret (pm_bl))))
end

end
theorem obL_eq (s : PySem.W.SharedT) : ob s = hk.obs s.abs := He.obsX_eq (HandSHeadRun.getT_eq s)
section
/-! ### the law's draws, over any store -/
theorem put_same {s : Ms} {b : Nat} {o : Mo} : (s.put b o).get b = some o := by rw [put_get', if_pos rfl]
theorem take_sp {s : Ms} {b m : Nat} {k : Int} (h : Bx' s b m) (hm : m < 1000000) (k1 : 1 ≤ k) (k2 : k ≤ 1000) : Wp (m__law_take [.ref b, .int k] s) fun x => ∃ j : Int, x.1 = .int j ∧ 0 ≤ j ∧ j < k ∧ x.2.sz = s.sz ∧ Ext b s x.2 ∧ Bx' x.2 b (m + 1) := by
  obtain ⟨a, c, n, hb, ok, hn⟩ := h.ob
  have hin := drawF_in a c n k ok k1
  have fin : ∀ s' : Ms, m__law_take [.ref b, .int k] s = some (.int (drawF k a c n).1, s') → s' = s.put b (.lst [.int (drawF k a c n).2.1, .int c, .int (drawF k a c n).2.2]) → (drawF k a c n).2.2 ≤ n + 1 → Wp (m__law_take [.ref b, .int k] s) fun x => ∃ j : Int, x.1 = .int j ∧ 0 ≤ j ∧ j < k ∧ x.2.sz = s.sz ∧ Ext b s x.2 ∧ Bx' x.2 b (m + 1) := by
    intro s' e1 e2 e3
    subst e2
    exact ⟨_, e1, _, rfl, hin.1, hin.2.1, rfl, Ext.refl.put (.inl rfl), ⟨h.lt, _, _, _, put_same, hin.2.2, by omega⟩⟩
  have k0 : decide (0 < k) = true := decide_eq_true (by omega)
  have k1' : decide (k < 1073741824) = true := decide_eq_true (by omega)
  have ix0 : ixA (.ref b) (.int 0) s = some (.int a, s) := ixA_of (items_ref hb) rfl
  have ix1 : ixA (.ref b) (.int 1) s = some (.int c, s) := ixA_of (items_ref hb) rfl
  have ix2 : ixA (.ref b) (.int 2) s = some (.int n, s) := ixA_of (items_ref hb) rfl
  have ixN0 : ixN 3 0 = some 0 := rfl
  have ixN2 : ixN 3 2 = some 2 := rfl
  by_cases hp : 0 < a
  · have hd : decide (0 < a) = true := decide_eq_true hp
    refine fin _ ?_ rfl (by simp [drawF, hp]; omega)
    simp [iLt_eq, iEq_eq, lget_eq, lset_eq, lsome_eq, llen_eq, m__law_take, fnM, bd__law_take, sseq, sif, mtB, mop2, mvar, mcon, ix0, ix1, ix2, gtW, cmpI, sset, mcall, mcons, mnil, intW, modW, divW, ssubA, sret, hb, ixN0, drawF, hp, k0, k1', hd, k1]
  · have hd : decide (0 < a) = false := decide_eq_false hp
    have hc := ok.c0
    have hc1 := ok.c1
    have hn0 := ok.n0
    have sm : smI (c + 52021 * (n + 1)) = true := by unfold smI; rw [decide_eq_true (by omega), decide_eq_true (by omega)]; rfl
    have sm0 : smI (38039 + (n + 1)) = true := by unfold smI; rw [decide_eq_true (by omega), decide_eq_true (by omega)]; rfl
    have sm1 : smI 52021 = true := by decide
    have sm3 : ∀ j : Int, smI (j % 40009 + 11) = true := fun j => by unfold smI; rw [decide_eq_true (by omega), decide_eq_true (by omega)]; rfl
    have jx1 : ixA (.ref b) (.int 1) (s.put b (.lst [.int a, .int c, .int (n + 1)])) = some (.int c, s.put b (.lst [.int a, .int c, .int (n + 1)])) := ixA_of (items_ref put_same) rfl
    have jx2 : ixA (.ref b) (.int 2) (s.put b (.lst [.int a, .int c, .int (n + 1)])) = some (.int (n + 1), s.put b (.lst [.int a, .int c, .int (n + 1)])) := ixA_of (items_ref put_same) rfl
    refine fin _ ?_ rfl (by simp [drawF, hp])
    simp [iLt_eq, iEq_eq, lget_eq, lset_eq, lsome_eq, llen_eq, m__law_take, fnM, bd__law_take, sseq, sif, mtB, mop2, mvar, mcon, ix0, ix1, ix2, jx1, jx2, gtW, cmpI, sset, mcall, mcons, mnil, intW, modW, divW, addW, mulW, powW, ssubA, snx, sret, hb, ixN2, drawF, hp, k0, k1', hd, k1, sm, sm0, sm1, sm3]
theorem pick_sp {s : Ms} {b m : Nat} {v : Mv} {ws : List Mv} (h : Bx' s b m) (hm : m < 1000000) (hv : Itm b s v ws) (h0 : ws ≠ []) (h1 : ws.length ≤ 1000) : Wp (m__law_pick [.ref b, v] s) fun x => x.1 ∈ ws ∧ x.2.sz = s.sz ∧ Ext b s x.2 ∧ Bx' x.2 b (m + 1) := by
  refine wp_fn [some (.ref b), some v] rfl rfl ?_
  unfold bd__law_pick
  simp only [wp_ob, wp_om, wp_some, wp_mvar, sset, sexp, sret, sif, spar, spar3, snx, mtB, mtst, mop1, mop2, mcall, mcons, mnil, mcon, mif, mtup, mlst, mand, mor, mnot, mandV, morV, mnotV, lset_eq, List.getElem?_cons_zero, List.getElem?_cons_succ, List.set_cons_zero, List.set_cons_succ, cond_true, cond_false, lenW_of hv.items]
  have l0 : 0 < ws.length := List.length_pos_iff.mpr h0
  refine (take_sp h hm (k := (ws.length : Nat)) (by omega) (by omega)).mono fun x hx => ?_
  obtain ⟨w, s1⟩ := x
  obtain ⟨j, e, j0, j1, e1, e2, e3⟩ := hx
  simp only at e e1 e2 e3
  subst e
  have hj : j.toNat < ws.length := by omega
  exact ⟨_, ixA_of (hv.ext e2).items (atF_int j0 (List.getElem?_eq_getElem hj)), _, rfl, List.getElem_mem hj, e1, e2, e3⟩
def strV (xs : List Str) : List Mv := xs.map .str
theorem names_sp {s : Ms} {b m : Nat} {k : Int} (h : Bx' s b m) (hm : m + 10 < 1000000) (k0 : 0 ≤ k) (k1 : k ≤ 10) : Wp (m__law_names [.ref b, .int k] s) fun x => ∃ n xs, x.1 = .ref n ∧ s.sz ≤ n ∧ n < x.2.sz ∧ x.2.get n = some (.lst (strV xs)) ∧ xs.length = k.toNat ∧ (∃ ys, (ys ++ xs).Perm [x_pa, x_b, x_ring, x_cxx, x_deep, x_a, x_zlib, x_open, x_q, x_local]) ∧ Ext b s x.2 ∧ Bx' x.2 b (m + 10) := by
  refine wp_fn [some (.ref b), some (.int k), none, none, none] rfl rfl ?_
  unfold bd__law_names
  refine wp_seq ?_
  simp only [wp_ob, wp_om, wp_some, wp_mvar, sset, sexp, sret, sif, spar, spar3, snx, mtB, mtst, mop1, mop2, mcall, mcons, mnil, mcon, mif, mtup, mlst, mand, mor, mnot, mandV, morV, mnotV, lset_eq, List.getElem?_cons_zero, List.getElem?_cons_succ, List.set_cons_zero, List.set_cons_succ, cond_true, cond_false, newL_of (show [Mv.str x_pa, .str x_b, .str x_ring, .str x_cxx, .str x_deep, .str x_a, .str x_zlib, .str x_open, .str x_q, .str x_local].length ≤ 16777216 by decide), newL_of (show ([] : List Mv).length ≤ 16777216 by decide)]
  refine ⟨trivial, wp_seq ?_⟩
  refine wp_for (wp_R1 ?_)
  simp only [wp_ob, wp_om, wp_some, wp_mvar, sset, sexp, sret, sif, spar, spar3, snx, mtB, mtst, mop1, mop2, mcall, mcons, mnil, mcon, mif, mtup, mlst, mand, mor, mnot, mandV, morV, mnotV, lset_eq, List.getElem?_cons_zero, List.getElem?_cons_succ, List.set_cons_zero, List.set_cons_succ, cond_true, cond_false]
  refine ⟨k, rfl, okI_of k0 (by omega), ?_⟩
  have lt := h.lt
  refine (wp_loop (rngL 0 k.toNat) (fun i r s' => ∃ o xs ys, r = [some (.ref b), some (.int k), some (.ref s.sz), some (.ref (s.sz + 1)), o] ∧ s'.get s.sz = some (.lst (strV ys)) ∧ s'.get (s.sz + 1) = some (.lst (strV xs)) ∧ xs.length = i ∧ (ys ++ xs).Perm [x_pa, x_b, x_ring, x_cxx, x_deep, x_a, x_zlib, x_open, x_q, x_local] ∧ s'.sz = s.sz + 2 ∧ Ext b s s' ∧ Bx' s' b (m + i)) (fun i r s' _ _ => gives_rng) ?_ 1000000000 0 _ _ (by rw [rngL_len]; omega) (by omega) ?_).mono ?_
  · rintro i w r s' hw ⟨o, xs, ys, rfl, g1, g2, hl, hp, hz, hx, hB⟩
    obtain ⟨hi, rfl⟩ := rngL_get hw
    have hln := hp.length_eq
    simp only [List.length_append, List.length_cons, List.length_nil] at hln
    refine ⟨_, rfl, ?_⟩
    simp only [wp_ob, wp_om, wp_some, wp_mvar, sset, sexp, sret, sif, spar, spar3, snx, mtB, mtst, mop1, mop2, mcall, mcons, mnil, mcon, mif, mtup, mlst, mand, mor, mnot, mandV, morV, mnotV, lset_eq, List.getElem?_cons_zero, List.getElem?_cons_succ, List.set_cons_zero, List.set_cons_succ, cond_true, cond_false]
    refine wp_app (n := s.sz + 1) (by rfl) g2 ?_
    simp only [wp_ob, wp_om, wp_some, wp_mvar, sset, sexp, sret, sif, spar, spar3, snx, mtB, mtst, mop1, mop2, mcall, mcons, mnil, mcon, mif, mtup, mlst, mand, mor, mnot, mandV, morV, mnotV, lset_eq, List.getElem?_cons_zero, List.getElem?_cons_succ, List.set_cons_zero, List.set_cons_succ, cond_true, cond_false]
    refine wp_pop (n := s.sz) (by rfl) g1 ?_
    simp only [wp_ob, wp_om, wp_some, wp_mvar, sset, sexp, sret, sif, spar, spar3, snx, mtB, mtst, mop1, mop2, mcall, mcons, mnil, mcon, mif, mtup, mlst, mand, mor, mnot, mandV, morV, mnotV, lset_eq, List.getElem?_cons_zero, List.getElem?_cons_succ, List.set_cons_zero, List.set_cons_succ, cond_true, cond_false, lenW_of (items_ref g1)]
    refine (take_sp hB (by omega) (by simp [strV]; omega) (by simp [strV]; omega)).mono fun x hx' => ?_
    obtain ⟨w, s1⟩ := x
    obtain ⟨j, e, j0, j1, e1, e2, e3⟩ := hx'
    simp only at e e1 e2 e3
    subst e
    have lj : j.toNat < ys.length := by simp [strV] at j1; omega
    refine ⟨j, strV ys, .str ys[j.toNat], rfl, j0, e2.at (by omega) (by omega) g1, by simp [strV, lj], ?_⟩
    refine ⟨_, strV xs, rfl, ?_, by simp [strV]; omega, ?_⟩
    · show (s1.put s.sz _).get (s.sz + 1) = _
      rw [put_get', if_neg (by omega)]
      exact e2.at (by omega) (by omega) g2
    refine ⟨trivial, _, xs ++ [ys[j.toNat]], ys.eraseIdx j.toNat, rfl, ?_, ?_, ?_, ?_, ?_, ?_, ?_⟩
    · rw [put_get', if_neg (by omega), put_get', if_pos rfl]
      simp [strV, erase_map]
    · rw [put_get', if_pos rfl]
      simp [strV]
    · simp [hl]
    · refine List.Perm.trans ?_ hp
      have p1 : (ys[j.toNat] :: ys.eraseIdx j.toNat).Perm ys := erase_perm ys _ lj
      have p2 : (ys.eraseIdx j.toNat ++ (xs ++ [ys[j.toNat]])).Perm ((ys[j.toNat] :: ys.eraseIdx j.toNat) ++ xs) := by
        rw [← List.append_assoc]
        exact (List.perm_append_singleton _ _)
      exact p2.trans (p1.append_right xs)
    · show s1.sz = _
      rw [e1, hz]
    · refine (Ext.put (Ext.put (hx.trans e2) ?_) ?_)
      · exact .inr (Nat.le_refl _)
      · exact .inr (by omega)
    · exact (Bx'.put (Bx'.put e3 (by omega)) (by omega))
  · refine ⟨none, [], [x_pa, x_b, x_ring, x_cxx, x_deep, x_a, x_zlib, x_open, x_q, x_local], rfl, ?_, ?_, rfl, by simp, rfl, Ext.push.trans Ext.push, (h.push).push⟩
    · rw [push_get, if_neg (by rw [push_sz]; omega), push_get, if_pos rfl]; rfl
    · rw [push_get, if_pos push_sz.symm]; rfl
  · rintro ⟨fl, r, s'⟩ ⟨e, o, xs, ys, e1, g1, g2, hl, hp, hz, hx, hB⟩
    simp only at e e1 g1 g2 hz hx hB
    subst e e1
    rw [rngL_len] at hl hB
    refine ⟨rfl, ?_⟩
    simp only [wp_ob, wp_om, wp_some, wp_mvar, sset, sexp, sret, sif, spar, spar3, snx, mtB, mtst, mop1, mop2, mcall, mcons, mnil, mcon, mif, mtup, mlst, mand, mor, mnot, mandV, morV, mnotV, lset_eq, List.getElem?_cons_zero, List.getElem?_cons_succ, List.set_cons_zero, List.set_cons_succ, cond_true, cond_false]
    exact ⟨_, rfl, s.sz + 1, xs, rfl, by omega, by omega, g2, hl, ⟨ys, hp⟩, hx, hB.mono (by omega)⟩

end
section
theorem strOk_all {s : Ms} : ∀ (ys : List Str) (n : Nat), (∀ y ∈ ys, PyData.strOk y = true) → toDL (toD (n + 1) s) (strV ys) = some (ys.map .str)
  | [], _, _ => rfl
  | y :: ys, n, h => by
    show (toD (n + 1) s (.str y)).ob (fun d => (toDL (toD (n + 1) s) (strV ys)).om fun ds => d :: ds) = _
    rw [strOk_all ys n fun z hz => h z (by simp [hz])]
    show (cond (PyData.strOk y) (some (PyData.str y)) none).ob _ = _
    rw [h y (by simp)]; rfl
theorem toD_strs {s : Ms} {n : Nat} {ys : List Str} (g : s.get n = some (.lst (strV ys))) (h : ∀ y ∈ ys, PyData.strOk y = true) : toD 24 s (.ref n) = some (.list (ys.map .str)) := by
  show (match s.get n with
    | some (.lst ws) => (toDL (toD 23 s) ws).om PyData.list
    | _ => none) = _
  rw [g]
  show (toDL (toD 23 s) (strV ys)).om PyData.list = _
  rw [strOk_all ys 22 h]; rfl
theorem ne_nil {s : Ms} {n t : Nat} {ys : List Str} (g : s.get n = some (.lst (strV ys))) (g' : s.get t = some (.lst [])) (h : ∀ y ∈ ys, PyData.strOk y = true) : neW (.ref n) (.ref t) s = some (.bl (!ys.isEmpty), s) := by
  show (eqBo (.ref n) (.ref t) s).om _ = _
  have e : eqBo (.ref n) (.ref t) s = some ys.isEmpty := by
    show (toD 24 s (.ref n)).ob (fun d => (toD 24 s (.ref t)).om fun e => PyData.eqv d e) = _
    rw [toD_strs g h, toD_strs (ys := []) g' (by simp)]
    cases ys <;> simp [PyData.eqv, PyData.eqvAll]
  rw [e]; rfl
theorem some_sp {s : Ms} {b m : Nat} {v : Mv} {xs : List Str} {k : Int} (h : Bx' s b m) (hm : m + 12 < 1000000) (hv : Itm b s v (strV xs)) (hl : xs.length ≤ 100) (ho : ∀ y ∈ xs, PyData.strOk y = true) (k0 : 0 ≤ k) (k1 : k ≤ 10) : Wp (m__law_some [.ref b, v, .int k] s) fun x => ∃ n ys zs, x.1 = .ref n ∧ s.sz ≤ n ∧ n < x.2.sz ∧ x.2.get n = some (.lst (strV ys)) ∧ ys.length ≤ k.toNat ∧ (zs ++ ys).Perm xs ∧ Ext b s x.2 ∧ Bx' x.2 b (m + 12) := by
  refine wp_fn [some (.ref b), some v, some (.int k), none, none, none] rfl rfl ?_
  unfold bd__law_some
  refine wp_seq ?_
  have lt := h.lt
  have hL : listW [v] s = some (.ref s.sz, push s (.lst (strV xs))) := by
    show (items v s).ob (fun xs => newL xs s) = _
    rw [hv.items, ob_of, newL_of (by simp [strV]; omega)]
  simp only [wp_ob, wp_om, wp_some, wp_mvar, sset, sexp, sret, sif, spar, spar3, snx, mtB, mtst, mop1, mop2, mcall, mcons, mnil, mcon, mif, mtup, mlst, mand, mor, mnot, mandV, morV, mnotV, lset_eq, List.getElem?_cons_zero, List.getElem?_cons_succ, List.set_cons_zero, List.set_cons_succ, cond_true, cond_false, hL, newL_of (show ([] : List Mv).length ≤ 16777216 by decide)]
  refine ⟨trivial, wp_seq ?_⟩
  refine wp_for (wp_R1 ?_)
  simp only [wp_ob, wp_om, wp_some, wp_mvar, sset, sexp, sret, sif, spar, spar3, snx, mtB, mtst, mop1, mop2, mcall, mcons, mnil, mcon, mif, mtup, mlst, mand, mor, mnot, mandV, morV, mnotV, lset_eq, List.getElem?_cons_zero, List.getElem?_cons_succ, List.set_cons_zero, List.set_cons_succ, cond_true, cond_false, addW]
  refine (take_sp ((h.push).push) (by omega) (show 1 ≤ Int.add k 1 by show 1 ≤ k + 1; omega) (show k + 1 ≤ 1000 by omega)).mono fun x hx => ?_
  obtain ⟨w, s1⟩ := x
  obtain ⟨j, e, j0, j1, e1, e2, e3⟩ := hx
  simp only at e e1 e2 e3
  subst e
  have j1 : j < k + 1 := j1
  refine ⟨j, rfl, okI_of j0 (by omega), ?_⟩
  have gL : s1.get s.sz = some (.lst (strV xs)) := e2.at (by rw [push_sz, push_sz]; omega) (by omega) (by rw [push_get, if_neg (by rw [push_sz]; omega), push_get, if_pos rfl])
  have gF : s1.get (s.sz + 1) = some (.lst (strV [])) := e2.at (by rw [push_sz, push_sz]; omega) (by omega) (by rw [push_get, if_pos push_sz.symm]; rfl)
  have ex1 : Ext b s s1 := (Ext.push.trans Ext.push).trans e2
  have z1 : s1.sz = s.sz + 2 := e1
  refine (wp_loop (rngL 0 j.toNat) (fun i r s' => ∃ o ys zs, r = [some (.ref b), some v, some (.int k), some (.ref s.sz), some (.ref (s.sz + 1)), o] ∧ s'.get s.sz = some (.lst (strV zs)) ∧ s'.get (s.sz + 1) = some (.lst (strV ys)) ∧ ys.length ≤ i ∧ (zs ++ ys).Perm xs ∧ s.sz + 2 ≤ s'.sz ∧ Ext b s s' ∧ Bx' s' b (m + 1 + i)) (fun i r s' _ _ => gives_rng) ?_ 1000000000 0 _ _ (by rw [rngL_len]; omega) (by omega) ?_).mono ?_
  · rintro i w r s' hw ⟨o, ys, zs, rfl, g1, g2, hl', hp, hz, hx, hB⟩
    obtain ⟨hi, rfl⟩ := rngL_get hw
    have hln := hp.length_eq
    simp only [List.length_append] at hln
    have ok : ∀ y ∈ zs, PyData.strOk y = true := fun y hy => ho y (hp.subset (List.mem_append_left _ hy))
    refine ⟨_, rfl, ?_⟩
    have p1 : (push s' (.lst [])).get s.sz = some (.lst (strV zs)) := by rw [push_get, if_neg (by omega)]; exact g1
    have p2 : (push s' (.lst [])).get (s.sz + 1) = some (.lst (strV ys)) := by rw [push_get, if_neg (by omega)]; exact g2
    simp only [wp_ob, wp_om, wp_some, wp_mvar, sset, sexp, sret, sif, spar, spar3, snx, mtB, mtst, mop1, mop2, mcall, mcons, mnil, mcon, mif, mtup, mlst, mand, mor, mnot, mandV, morV, mnotV, lset_eq, List.getElem?_cons_zero, List.getElem?_cons_succ, List.set_cons_zero, List.set_cons_succ, cond_true, cond_false, newL_of (show ([] : List Mv).length ≤ 16777216 by decide), ne_nil p1 Ms.get_push ok]
    cases zs with
    | nil =>
      simp only [wp_ob, wp_om, wp_some, wp_mvar, sset, sexp, sret, sif, spar, spar3, snx, mtB, mtst, mop1, mop2, mcall, mcons, mnil, mcon, mif, mtup, mlst, mand, mor, mnot, mandV, morV, mnotV, lset_eq, List.getElem?_cons_zero, List.getElem?_cons_succ, List.set_cons_zero, List.set_cons_succ, cond_true, cond_false, List.isEmpty_nil, Bool.not_true]
      exact ⟨trivial, _, ys, [], rfl, p1, p2, by omega, hp, by rw [push_sz]; omega, hx.trans Ext.push, hB.push.mono (by omega)⟩
    | cons z zs =>
      simp only [wp_ob, wp_om, wp_some, wp_mvar, sset, sexp, sret, sif, spar, spar3, snx, mtB, mtst, mop1, mop2, mcall, mcons, mnil, mcon, mif, mtup, mlst, mand, mor, mnot, mandV, morV, mnotV, lset_eq, List.getElem?_cons_zero, List.getElem?_cons_succ, List.set_cons_zero, List.set_cons_succ, cond_true, cond_false, List.isEmpty_cons, Bool.not_false]
      refine wp_app (n := s.sz + 1) (by rfl) p2 ?_
      simp only [wp_ob, wp_om, wp_some, wp_mvar, sset, sexp, sret, sif, spar, spar3, snx, mtB, mtst, mop1, mop2, mcall, mcons, mnil, mcon, mif, mtup, mlst, mand, mor, mnot, mandV, morV, mnotV, lset_eq, List.getElem?_cons_zero, List.getElem?_cons_succ, List.set_cons_zero, List.set_cons_succ, cond_true, cond_false]
      refine wp_pop (n := s.sz) (by rfl) p1 ?_
      simp only [wp_ob, wp_om, wp_some, wp_mvar, sset, sexp, sret, sif, spar, spar3, snx, mtB, mtst, mop1, mop2, mcall, mcons, mnil, mcon, mif, mtup, mlst, mand, mor, mnot, mandV, morV, mnotV, lset_eq, List.getElem?_cons_zero, List.getElem?_cons_succ, List.set_cons_zero, List.set_cons_succ, cond_true, cond_false, lenW_of (items_ref p1)]
      refine (take_sp hB.push (by omega) (by simp [strV]; omega) (by simp [strV]; simp at hln; omega)).mono fun x hx' => ?_
      obtain ⟨w, s2⟩ := x
      obtain ⟨j', e', j0', j1', e1', e2', e3'⟩ := hx'
      simp only at e' e1' e2' e3'
      subst e'
      have lj : j'.toNat < (z :: zs).length := by simp [strV] at j1' ⊢; omega
      refine ⟨j', strV (z :: zs), .str (z :: zs)[j'.toNat], rfl, j0', e2'.at (by rw [push_sz]; omega) (by omega) p1, by unfold strV; rw [List.getElem?_map, List.getElem?_eq_getElem lj]; rfl, ?_⟩
      refine ⟨_, strV ys, rfl, ?_, by simp [strV]; omega, ?_⟩
      · show (s2.put s.sz _).get (s.sz + 1) = _
        rw [put_get', if_neg (by omega)]
        exact e2'.at (by rw [push_sz]; omega) (by omega) p2
      rw [push_sz] at e1'
      refine ⟨trivial, _, ys ++ [(z :: zs)[j'.toNat]], (z :: zs).eraseIdx j'.toNat, rfl, ?_, ?_, ?_, ?_, ?_, ?_, ?_⟩
      · rw [put_get', if_neg (by omega), put_get', if_pos rfl]
        simp only [strV, erase_map]
      · rw [put_get', if_pos rfl]
        simp [strV]
      · simp; omega
      · refine List.Perm.trans ?_ hp
        have q1 := erase_perm (z :: zs) j'.toNat lj
        have q2 : ((z :: zs).eraseIdx j'.toNat ++ (ys ++ [(z :: zs)[j'.toNat]])).Perm (((z :: zs)[j'.toNat] :: (z :: zs).eraseIdx j'.toNat) ++ ys) := by
          rw [← List.append_assoc]
          exact (List.perm_append_singleton _ _)
        exact q2.trans (q1.append_right ys)
      · show _ ≤ s2.sz
        omega
      · refine (Ext.put (Ext.put ((hx.trans Ext.push).trans e2') ?_) ?_)
        · exact .inr (Nat.le_refl _)
        · exact .inr (by omega)
      · exact (Bx'.put (Bx'.put e3' (by omega)) (by omega)).mono (by omega)
  · exact ⟨none, [], xs, rfl, gL, gF, by simp, by simp, Nat.le_of_eq z1.symm, ex1, e3.mono (by omega)⟩
  · rintro ⟨fl, r, s'⟩ ⟨e, o, ys, zs, e1, g1, g2, hl', hp, hz, hx, hB⟩
    simp only at e e1 g1 g2 hz hx hB
    subst e e1
    rw [rngL_len] at hl' hB
    refine ⟨rfl, ?_⟩
    simp only [wp_ob, wp_om, wp_some, wp_mvar, sset, sexp, sret, sif, spar, spar3, snx, mtB, mtst, mop1, mop2, mcall, mcons, mnil, mcon, mif, mtup, mlst, mand, mor, mnot, mandV, morV, mnotV, lset_eq, List.getElem?_cons_zero, List.getElem?_cons_succ, List.set_cons_zero, List.set_cons_succ, cond_true, cond_false]
    exact ⟨_, rfl, s.sz + 1, ys, zs, rfl, by omega, by omega, g2, by omega, hp, hx, hB.mono (by omega)⟩
def pairV (ds : List (Str × Str)) : List Mv := ds.map fun d => .tup [.str d.1, .str d.2]
theorem keys_pairs : ∀ ds : List (Str × Str), keysOf (pairV ds) = some (ds.map fun d => [d.1, d.2])
  | [] => rfl
  | d :: ds => by
    show ((pairOf (.tup [.str d.1, .str d.2])).ob fun k => (keysOf (pairV ds)).om fun ks => k :: ks) = _
    rw [keys_pairs ds]; rfl
theorem list_ex {α β : Type} {f : α → β} {P : α → Prop} : ∀ {l : List β}, (∀ v ∈ l, ∃ d, v = f d ∧ P d) → ∃ ds : List α, l = ds.map f ∧ ∀ d ∈ ds, P d
  | [], _ => ⟨[], rfl, by simp⟩
  | v :: l, h => by
    obtain ⟨d, rfl, hd⟩ := h v (by simp)
    obtain ⟨ds, rfl, hds⟩ := list_ex (l := l) fun z hz => h z (by simp [hz])
    exact ⟨d :: ds, rfl, by simpa using ⟨hd, hds⟩⟩
def PairIn (d : Str × Str) : Prop := d.1 ∈ [x_f, x_g, x_h] ∧ d.2 ∈ [x_, x_a, x_b]
/-- pairs in order: of one text ahead the second texts go up -/
def Asc (ds : List (Str × Str)) : Prop := ∃ ks : List (List Str), ks.Nodup ∧ sortK ks = pairV ds
theorem sort_asc {ks : List (List Str)} {es : List (Str × Str)} (nd : ks.Nodup) (he : sortK ks = pairV es) : Asc es := ⟨ks, nd, he⟩
theorem pairs_sp {s : Ms} {b m : Nat} {k : Int} (h : Bx' s b m) (hm : m + 9 < 1000000) (k0 : 0 ≤ k) (k1 : k ≤ 3) : Wp (m__law_pairs [.ref b, .int k] s) fun x => ∃ n ds, x.1 = .ref n ∧ s.sz ≤ n ∧ n < x.2.sz ∧ x.2.get n = some (.lst (pairV ds)) ∧ ds.length ≤ k.toNat ∧ (∀ d ∈ ds, PairIn d) ∧ Ext b s x.2 ∧ Bx' x.2 b (m + 9) ∧ Asc ds := by
  refine wp_fn [some (.ref b), some (.int k), none, none] rfl rfl ?_
  unfold bd__law_pairs
  refine wp_seq ?_
  have lt := h.lt
  simp only [wp_ob, wp_om, wp_some, wp_mvar, sset, sexp, sret, sif, spar, spar3, snx, mtB, mtst, mop1, mop2, mcall, mcons, mnil, mcon, mif, mtup, mlst, mand, mor, mnot, mandV, morV, mnotV, lset_eq, List.getElem?_cons_zero, List.getElem?_cons_succ, List.set_cons_zero, List.set_cons_succ, cond_true, cond_false, newL_of (show ([] : List Mv).length ≤ 16777216 by decide)]
  refine ⟨trivial, wp_seq ?_⟩
  refine wp_for (wp_R1 ?_)
  simp only [wp_ob, wp_om, wp_some, wp_mvar, sset, sexp, sret, sif, spar, spar3, snx, mtB, mtst, mop1, mop2, mcall, mcons, mnil, mcon, mif, mtup, mlst, mand, mor, mnot, mandV, morV, mnotV, lset_eq, List.getElem?_cons_zero, List.getElem?_cons_succ, List.set_cons_zero, List.set_cons_succ, cond_true, cond_false, addW]
  refine (take_sp (h.push) (by omega) (show 1 ≤ Int.add k 1 by show 1 ≤ k + 1; omega) (show k + 1 ≤ 1000 by omega)).mono fun x hx => ?_
  obtain ⟨w, s1⟩ := x
  obtain ⟨j, e, j0, j1, e1, e2, e3⟩ := hx
  simp only at e e1 e2 e3
  subst e
  have j1 : j < k + 1 := j1
  refine ⟨j, rfl, okI_of j0 (by omega), ?_⟩
  have gF : s1.get s.sz = some (.lst (pairV [])) := e2.at (by rw [push_sz]; omega) (by omega) (by rw [push_get, if_pos rfl]; rfl)
  have ex1 : Ext b s s1 := (Ext.push).trans e2
  have z1 : s1.sz = s.sz + 1 := e1
  refine (wp_loop (rngL 0 j.toNat) (fun i r s' => ∃ o ds, r = [some (.ref b), some (.int k), some (.ref s.sz), o] ∧ s'.get s.sz = some (.lst (pairV ds)) ∧ ds.length = i ∧ (∀ d ∈ ds, PairIn d) ∧ s.sz + 1 ≤ s'.sz ∧ Ext b s s' ∧ Bx' s' b (m + 1 + 2 * i)) (fun i r s' _ _ => gives_rng) ?_ 1000000000 0 _ _ (by rw [rngL_len]; omega) (by omega) ?_).mono ?_
  · rintro i w r s' hw ⟨o, ds, rfl, g1, hl', hp, hz, hx, hB⟩
    obtain ⟨hi, rfl⟩ := rngL_get hw
    refine ⟨_, rfl, ?_⟩
    simp only [wp_ob, wp_om, wp_some, wp_mvar, sset, sexp, sret, sif, spar, spar3, snx, mtB, mtst, mop1, mop2, mcall, mcons, mnil, mcon, mif, mtup, mlst, mand, mor, mnot, mandV, morV, mnotV, lset_eq, List.getElem?_cons_zero, List.getElem?_cons_succ, List.set_cons_zero, List.set_cons_succ, cond_true, cond_false]
    refine wp_app (n := s.sz) (by rfl) g1 ?_
    simp only [wp_ob, wp_om, wp_some, wp_mvar, sset, sexp, sret, sif, spar, spar3, snx, mtB, mtst, mop1, mop2, mcall, mcons, mnil, mcon, mif, mtup, mlst, mand, mor, mnot, mandV, morV, mnotV, lset_eq, List.getElem?_cons_zero, List.getElem?_cons_succ, List.set_cons_zero, List.set_cons_succ, cond_true, cond_false, newL_of (show [Mv.str x_f, .str x_f, .str x_g, .str x_h].length ≤ 16777216 by decide)]
    refine (pick_sp hB.push (by omega) (ws := [Mv.str x_f, .str x_f, .str x_g, .str x_h]) (.inr ⟨s'.sz, rfl, by rw [push_sz]; omega, by have := hB.lt; omega, Ms.get_push⟩) (by simp) (by simp)).mono fun x hx1 => ?_
    obtain ⟨w1, s2⟩ := x
    obtain ⟨m1, a1, a2, a3⟩ := hx1
    simp only at m1 a1 a2 a3
    rw [push_sz] at a1
    simp only [wp_ob, wp_om, wp_some, wp_mvar, sset, sexp, sret, sif, spar, spar3, snx, mtB, mtst, mop1, mop2, mcall, mcons, mnil, mcon, mif, mtup, mlst, mand, mor, mnot, mandV, morV, mnotV, lset_eq, List.getElem?_cons_zero, List.getElem?_cons_succ, List.set_cons_zero, List.set_cons_succ, cond_true, cond_false, newL_of (show [Mv.str x_, .str x_, .str x_a, .str x_b].length ≤ 16777216 by decide)]
    refine (pick_sp a3.push (by omega) (ws := [Mv.str x_, .str x_, .str x_a, .str x_b]) (.inr ⟨s2.sz, rfl, by rw [push_sz]; omega, by have := hB.lt; omega, Ms.get_push⟩) (by simp) (by simp)).mono fun x hx2 => ?_
    obtain ⟨w2, s3⟩ := x
    obtain ⟨m2, c1, c2, c3⟩ := hx2
    simp only at m2 c1 c2 c3
    rw [push_sz] at c1
    simp only [wp_ob, wp_om, wp_some, wp_mvar, sset, sexp, sret, sif, spar, spar3, snx, mtB, mtst, mop1, mop2, mcall, mcons, mnil, mcon, mif, mtup, mlst, mand, mor, mnot, mandV, morV, mnotV, lset_eq, List.getElem?_cons_zero, List.getElem?_cons_succ, List.set_cons_zero, List.set_cons_succ, cond_true, cond_false, newT_of (show [w1, w2].length ≤ 16777216 by simp)]
    have xx : Ext b s' s3 := ((Ext.push.trans a2).trans Ext.push).trans c2
    have hw1 : ∃ y, w1 = .str y ∧ y ∈ [x_f, x_g, x_h] := by
      simp only [List.mem_cons, List.not_mem_nil, or_false] at m1
      rcases m1 with rfl | rfl | rfl | rfl <;> exact ⟨_, rfl, by simp⟩
    have hw2 : ∃ y, w2 = .str y ∧ y ∈ [x_, x_a, x_b] := by
      simp only [List.mem_cons, List.not_mem_nil, or_false] at m2
      rcases m2 with rfl | rfl | rfl | rfl <;> exact ⟨_, rfl, by simp⟩
    obtain ⟨y1, rfl, my1⟩ := hw1
    obtain ⟨y2, rfl, my2⟩ := hw2
    refine ⟨_, _, rfl, xx.at (by omega) (by omega) g1, by simp [pairV]; omega, trivial, _, ds ++ [(y1, y2)], rfl, ?_, by simp [hl'], ?_, ?_, ?_, ?_⟩
    · rw [put_get', if_pos rfl]; simp [pairV]
    · intro d hd
      rcases List.mem_append.mp hd with hd | hd
      · exact hp d hd
      · simp at hd; subst hd; exact ⟨my1, my2⟩
    · show _ ≤ s3.sz
      omega
    · exact (hx.trans xx).put (.inr (Nat.le_refl _))
    · exact (Bx'.put c3 (by omega)).mono (by omega)
  · exact ⟨none, [], rfl, gF, rfl, by simp, Nat.le_of_eq z1.symm, ex1, e3.mono (by omega)⟩
  · rintro ⟨fl, r, s'⟩ ⟨e, o, ds, e1, g1, hl', hp, hz, hx, hB⟩
    simp only at e e1 g1 hz hx hB
    subst e e1
    rw [rngL_len] at hl' hB
    refine ⟨rfl, ?_⟩
    have hq : ∀ v ∈ sortK (ddK (ds.map fun d => [d.1, d.2])), ∃ d : Str × Str, v = .tup [.str d.1, .str d.2] ∧ PairIn d := by
      intro v hv
      obtain ⟨k, hk, rfl⟩ := sortK_mem hv
      have := ddK_mem.mp hk
      obtain ⟨d, hd, rfl⟩ := List.mem_map.mp this
      exact ⟨d, rfl, hp d hd⟩
    obtain ⟨es, he, hes⟩ := list_ex (f := fun d : Str × Str => Mv.tup [.str d.1, .str d.2]) hq
    have hle : es.length ≤ ds.length := by
      have h1 := congrArg List.length he
      rw [sortK_len, List.length_map] at h1
      have h2 := ddK_len (ds.map fun d => [d.1, d.2])
      rw [List.length_map] at h2
      omega
    have hS : msrtS (mvar 2) [some (.ref b), some (.int k), some (.ref s.sz), o] s' = some (.ref s'.sz, push s' (.lst (pairV es))) := by
      show ((lstOf (.ref s.sz) s').ob fun ws => (keysOf ws).ob fun ks => cond (Nat.ble ks.length 4) (newO (.lst (sortK (ddK ks))) s') none) = _
      have : lstOf (.ref s.sz) s' = some (pairV ds) := items_ref g1
      rw [this, ob_of, keys_pairs, ob_of, Nat.ble_eq_true_of_le (by simp; omega), cond_true, newO_of, he]
      rfl
    simp only [wp_ob, wp_om, wp_some, wp_mvar, sset, sexp, sret, sif, spar, spar3, snx, mtB, mtst, mop1, mop2, mcall, mcons, mnil, mcon, mif, mtup, mlst, mand, mor, mnot, mandV, morV, mnotV, lset_eq, List.getElem?_cons_zero, List.getElem?_cons_succ, List.set_cons_zero, List.set_cons_succ, cond_true, cond_false, hS]
    exact ⟨_, rfl, s'.sz, es, rfl, by omega, by rw [push_sz]; omega, Ms.get_push, by omega, hes, hx.trans Ext.push, hB.push.mono (by omega), sort_asc (ddK_nd _) he⟩

end
section
/-! ### a drawn library, a drawn program -/
structure PLib where
  own : Str
  needs : List Str
  defs : List (Str × Str)
  uses : List ((Str × Str) × Bool)
def useV (us : List ((Str × Str) × Bool)) : List Mv := us.map fun u => .tup [.str u.1.1, .str u.1.2, .bl u.2]
def PLib.mv (l : PLib) : Mv := .tup [.str l.own, .tup (strV l.needs), .tup (pairV l.defs), .tup (useV l.uses)]
def POOL : List Str := [x_pa, x_b, x_ring, x_cxx, x_deep, x_a, x_zlib, x_open, x_q, x_local]
theorem pool_ok : ∀ y ∈ POOL, PyData.strOk y = true := by decide +kernel
theorem pool_nd : POOL.Nodup := by decide +kernel
structure LibOk (others : List Str) (l : PLib) : Prop where
  nd : l.needs.Nodup
  nin : ∀ x ∈ l.needs, x ∈ others ∧ x ≠ l.own
  nl : l.needs.length ≤ 2
  df : ∀ d ∈ l.defs, PairIn d
  dl : l.defs.length ≤ 3
  us : ∀ u ∈ l.uses, PairIn u.1
  ul : l.uses.length ≤ 3
  asc : Asc l.defs
  uasc : Asc (l.uses.map (·.1))
theorem eq_str {x y : Str} {s : Ms} : eqW (.str x) (.str y) s = some (.bl (decide (x = y)), s) := by
  show (eqBo (.str x) (.str y) s).om _ = _
  show (some (strEq x y)).om _ = _
  rw [strEq_eq]; rfl
theorem ne_str {x y : Str} {s : Ms} : neW (.str x) (.str y) s = some (.bl (!decide (x = y)), s) := by
  show (some (strEq x y)).om _ = _
  rw [strEq_eq]; rfl
theorem eq_int {x y : Int} {s : Ms} : eqW (.int x) (.int y) s = some (.bl (decide (x = y)), s) := by
  show (some (iEq x y)).om _ = _
  rw [iEq_eq]; rfl
theorem tup_of {v : Mv} {ws : List Mv} {s : Ms} (h : items v s = some ws) (hl : ws.length ≤ 16777216) : tupleW [v] s = some (.tup ws, s) := by
  show (items v s).ob (fun xs => newT xs s) = _
  rw [h, ob_of, newT_of hl]
theorem lib_sp {s : Ms} {b m : Nat} {v : Mv} {own : Str} {xs : List Str} {im : Bool} (h : Bx' s b m) (hm : m + 40 < 1000000) (hv : Itm b s v (strV xs)) (hl : xs.length ≤ 100) (ho : ∀ y ∈ xs, PyData.strOk y = true) (hnd : xs.Nodup) : Wp (m__law_lib [.ref b, .str own, v, .bl im] s) fun x => ∃ l : PLib, x.1 = l.mv ∧ l.own = own ∧ LibOk xs l ∧ Ext b s x.2 ∧ Bx' x.2 b (m + 40) := by
  refine wp_fn [some (.ref b), some (.str own), some v, some (.bl im), none, none, none, none, none] rfl rfl ?_
  unfold bd__law_lib
  have lt := h.lt
  refine wp_seq ?_
  simp only [wp_ob, wp_om, wp_some, wp_mvar, sset, sexp, sret, sif, spar, spar3, snx, mtB, mtst, mop1, mop2, mcall, mcons, mnil, mcon, mif, mtup, mlst, mand, mor, mnot, mandV, morV, mnotV, lset_eq, List.getElem?_cons_zero, List.getElem?_cons_succ, List.set_cons_zero, List.set_cons_succ, cond_true, cond_false]
  refine wp_lc (wp_S (b := b) ?_)
  simp only [wp_ob, wp_om, wp_some, wp_mvar, sset, sexp, sret, sif, spar, spar3, snx, mtB, mtst, mop1, mop2, mcall, mcons, mnil, mcon, mif, mtup, mlst, mand, mor, mnot, mandV, morV, mnotV, lset_eq, List.getElem?_cons_zero, List.getElem?_cons_succ, List.set_cons_zero, List.set_cons_succ, cond_true, cond_false]
  refine ⟨strV xs, hv, fun it git => ?_⟩
  have hf : mflat it (mstep (.nm 7) (mtB (mop2 neW (mvar 7) (mvar 1))) (mvar 7) (mwipe [some (.ref b), some (.str own), some v, some (.bl im), none, none, none, none, none] [7])) 1000000000 0 s = some ((strV xs).flatMap (fun w => match w with | .str y => if y = own then [] else [.str y] | _ => []), s) := by
    refine flat_pure _ (by simp [strV]; omega) (git s Ext.refl) fun w hw => ?_
    obtain ⟨y, hy, rfl⟩ := List.mem_map.mp hw
    by_cases hyo : y = own
    · simp [mstep, mwipe, lset_eq, Tg.asg, mtB, mop2, mvar, lget_eq, ne_str, hyo]
    · simp [mstep, mwipe, lset_eq, Tg.asg, mtB, mop2, mvar, lget_eq, ne_str, hyo]
  have hf2 : (strV xs).flatMap (fun w => match w with | .str y => if y = own then [] else [.str y] | _ => []) = strV (xs.filter (fun y => !decide (y = own))) := by
    clear hf git hv hl ho hnd
    induction xs with
    | nil => rfl
    | cons x xs ih =>
      show ((if x = own then [] else [Mv.str x]) ++ (strV xs).flatMap _) = _
      rw [ih]
      by_cases hx : x = own <;> simp [hx, strV]
  rw [hf, hf2, wp_some]
  refine ⟨by simp [strV]; have := List.length_filter_le (fun y => !decide (y = own)) xs; omega, ?_⟩
  refine (some_sp (xs := xs.filter (fun y => !decide (y = own))) h.push (by omega) (.inr ⟨s.sz, rfl, by rw [push_sz]; omega, by omega, Ms.get_push⟩) (by have := List.length_filter_le (fun y => !decide (y = own)) xs; omega) (fun y hy => ho y (List.mem_filter.mp hy).1) (by omega) (by omega)).mono fun x hx => ?_
  obtain ⟨w, s1⟩ := x
  obtain ⟨n, ys, zs, e, e1, e2, e3, e4, e5, e6, e7⟩ := hx
  simp only at e e1 e2 e3 e4 e5 e6 e7
  subst e
  rw [push_sz] at e1
  have yl : ys.length ≤ 2 := e4
  simp only [wp_ob, wp_om, wp_some, wp_mvar, sset, sexp, sret, sif, spar, spar3, snx, mtB, mtst, mop1, mop2, mcall, mcons, mnil, mcon, mif, mtup, mlst, mand, mor, mnot, mandV, morV, mnotV, lset_eq, List.getElem?_cons_zero, List.getElem?_cons_succ, List.set_cons_zero, List.set_cons_succ, cond_true, cond_false, tup_of (items_ref e3) (show (strV ys).length ≤ 16777216 by simp [strV]; omega)]
  refine ⟨trivial, wp_seq ?_⟩
  have E1 : Ext b s s1 := Ext.push.trans e6
  have hpr : ∀ k : Int, 0 ≤ k → k ≤ 3 → Wp (m__law_pairs [.ref b, .int k] s1) fun x => ∃ n ds, x.1 = .ref n ∧ s1.sz ≤ n ∧ n < x.2.sz ∧ x.2.get n = some (.lst (pairV ds)) ∧ ds.length ≤ 3 ∧ (∀ d ∈ ds, PairIn d) ∧ Ext b s1 x.2 ∧ Bx' x.2 b (m + 12 + 9) ∧ Asc ds := fun k k0 k1 => (pairs_sp e7 (by omega) k0 k1).mono fun x ⟨n, ds, a1, a2, a3, a4, a5, a6⟩ => ⟨n, ds, a1, a2, a3, a4, by omega, a6⟩
  have hpr2 : Wp (mcall m__law_pairs (mcons (mvar 0) (mcons (mif (mtst (mvar 3)) (mcon (.int 1)) (mcon (.int 3))) (mnil))) [some (.ref b), some (.str own), some v, some (.bl im), some (.tup (strV ys)), none, none, none, none] s1) fun x => ∃ n ds, x.1 = .ref n ∧ s1.sz ≤ n ∧ n < x.2.sz ∧ x.2.get n = some (.lst (pairV ds)) ∧ ds.length ≤ 3 ∧ (∀ d ∈ ds, PairIn d) ∧ Ext b s1 x.2 ∧ Bx' x.2 b (m + 12 + 9) ∧ Asc ds := by
    cases im
    · simp only [wp_ob, wp_om, wp_some, wp_mvar, sset, sexp, sret, sif, spar, spar3, snx, mtB, mtst, mop1, mop2, mcall, mcons, mnil, mcon, mif, mtup, mlst, mand, mor, mnot, mandV, morV, mnotV, lset_eq, List.getElem?_cons_zero, List.getElem?_cons_succ, List.set_cons_zero, List.set_cons_succ, cond_true, cond_false, tru]
      exact hpr 3 (by omega) (by omega)
    · simp only [wp_ob, wp_om, wp_some, wp_mvar, sset, sexp, sret, sif, spar, spar3, snx, mtB, mtst, mop1, mop2, mcall, mcons, mnil, mcon, mif, mtup, mlst, mand, mor, mnot, mandV, morV, mnotV, lset_eq, List.getElem?_cons_zero, List.getElem?_cons_succ, List.set_cons_zero, List.set_cons_succ, cond_true, cond_false, tru]
      exact hpr 1 (by omega) (by omega)
  simp only [sset, wp_om, mcall, mcons, wp_ob, mnil, wp_some] at hpr2 ⊢
  refine hpr2.mono fun x hx => ?_
  refine hx.mono fun y hy => ?_
  refine hy.mono fun z hz => ?_
  obtain ⟨w, s2⟩ := z
  obtain ⟨n2, ds, a0, a1, a2, a3, a4, a5, a6, a7, a8⟩ := hz
  simp only at a0 a1 a2 a3 a4 a5 a6 a7
  subst a0
  simp only [wp_ob, wp_om, wp_some, wp_mvar, sset, sexp, sret, sif, spar, spar3, snx, mtB, mtst, mop1, mop2, mcall, mcons, mnil, mcon, mif, mtup, mlst, mand, mor, mnot, mandV, morV, mnotV, lset_eq, List.getElem?_cons_zero, List.getElem?_cons_succ, List.set_cons_zero, List.set_cons_succ, cond_true, cond_false, tup_of (items_ref a3) (show (pairV ds).length ≤ 16777216 by simp [pairV]; omega)]
  refine ⟨trivial, wp_seq ?_⟩
  simp only [wp_ob, wp_om, wp_some, wp_mvar, sset, sexp, sret, sif, spar, spar3, snx, mtB, mtst, mop1, mop2, mcall, mcons, mnil, mcon, mif, mtup, mlst, mand, mor, mnot, mandV, morV, mnotV, lset_eq, List.getElem?_cons_zero, List.getElem?_cons_succ, List.set_cons_zero, List.set_cons_succ, cond_true, cond_false]
  refine wp_lc (wp_S (b := b) ?_)
  simp only [wp_ob, wp_om, wp_some, wp_mvar, sset, sexp, sret, sif, spar, spar3, snx, mtB, mtst, mop1, mop2, mcall, mcons, mnil, mcon, mif, mtup, mlst, mand, mor, mnot, mandV, morV, mnotV, lset_eq, List.getElem?_cons_zero, List.getElem?_cons_succ, List.set_cons_zero, List.set_cons_succ, cond_true, cond_false]
  refine (pairs_sp a7 (by omega) (by omega) (by omega)).mono fun x hx => ?_
  obtain ⟨w, s3⟩ := x
  obtain ⟨n3, us, c0, c1, c2, c3, c4, c5, c6, c7, c8⟩ := hx
  simp only at c0 c1 c2 c3 c4 c5 c6 c7
  subst c0
  have ul : us.length ≤ 3 := c4
  have lt2 : b < s2.sz := a7.lt
  refine ⟨pairV us, .inr ⟨n3, rfl, c2, by omega, c3⟩, fun it git => ?_⟩
  refine (wp_flat (pairV us) (fun i acc s' => ∃ fs : List ((Str × Str) × Bool), acc = useV fs ∧ fs.map (·.1) = us.take i ∧ Ext b s3 s' ∧ Bx' s' b (m + 30 + i)) (fun i acc s' _ ⟨_, _, _, x, _⟩ => git s' x) ?_ 1000000000 0 [] s3 (by simp [pairV]; omega) (by omega) ⟨[], rfl, rfl, Ext.refl, c7.mono (by omega)⟩).mono ?_
  · rintro i w acc s' hw ⟨fs, rfl, f1, f2, f3⟩
    have hi : i < us.length := by have := (List.getElem?_eq_some_iff.mp hw).1; simpa [pairV] using this
    have hwe : w = .tup [.str us[i].1, .str us[i].2] := by
      unfold pairV at hw
      rw [List.getElem?_map, List.getElem?_eq_getElem hi] at hw
      cases hw; rfl
    subst hwe
    unfold mstep
    simp only [wp_ob, wp_om, wp_some, wp_mvar, sset, sexp, sret, sif, spar, spar3, snx, mtB, mtst, mop1, mop2, mcall, mcons, mnil, mcon, mif, mtup, mlst, mand, mor, mnot, mandV, morV, mnotV, lset_eq, List.getElem?_cons_zero, List.getElem?_cons_succ, List.set_cons_zero, List.set_cons_succ, cond_true, cond_false, mwipe, Tg.asg, myes]
    refine (take_sp f3 (by omega) (by omega) (by omega)).mono fun x hx => ?_
    obtain ⟨w, s4⟩ := x
    obtain ⟨j, g0, g1, g2, g3, g4, g5⟩ := hx
    simp only at g0 g1 g2 g3 g4 g5
    subst g0
    simp only [wp_ob, wp_om, wp_some, wp_mvar, sset, sexp, sret, sif, spar, spar3, snx, mtB, mtst, mop1, mop2, mcall, mcons, mnil, mcon, mif, mtup, mlst, mand, mor, mnot, mandV, morV, mnotV, lset_eq, List.getElem?_cons_zero, List.getElem?_cons_succ, List.set_cons_zero, List.set_cons_succ, cond_true, cond_false, eq_int, newT_of (show [Mv.bl (decide (j = 0))].length ≤ 16777216 by simp), addW, newT_of (show ([Mv.str us[i].1, .str us[i].2] ++ [Mv.bl (decide (j = 0))]).length ≤ 16777216 by simp)]
    refine ⟨fs ++ [(us[i], decide (j = 0))], by simp [useV], ?_, f2.trans g4, g5.mono (by omega)⟩
    rw [List.map_append, f1, List.take_add_one, List.getElem?_eq_getElem hi]
    rfl
  · rintro ⟨acc, s4⟩ ⟨fs, f0, f1, f2, f3⟩
    simp only [List.nil_append] at f0 f1 f2 f3
    have pl : (pairV us).length = us.length := by simp [pairV]
    rw [pl] at f3 f1
    rw [List.take_length] at f1
    subst f0
    have fl : fs.length = us.length := by rw [← f1, List.length_map]
    refine ⟨by simp [useV]; omega, ?_⟩
    simp only [wp_ob, wp_om, wp_some, wp_mvar, sset, sexp, sret, sif, spar, spar3, snx, mtB, mtst, mop1, mop2, mcall, mcons, mnil, mcon, mif, mtup, mlst, mand, mor, mnot, mandV, morV, mnotV, lset_eq, List.getElem?_cons_zero, List.getElem?_cons_succ, List.set_cons_zero, List.set_cons_succ, cond_true, cond_false, tup_of (items_ref Ms.get_push) (show (useV fs).length ≤ 16777216 by simp [useV]; omega)]
    refine ⟨trivial, ?_⟩
    simp only [wp_ob, wp_om, wp_some, wp_mvar, sset, sexp, sret, sif, spar, spar3, snx, mtB, mtst, mop1, mop2, mcall, mcons, mnil, mcon, mif, mtup, mlst, mand, mor, mnot, mandV, morV, mnotV, lset_eq, List.getElem?_cons_zero, List.getElem?_cons_succ, List.set_cons_zero, List.set_cons_succ, cond_true, cond_false, newT_of (show [Mv.str own, .tup (strV ys), .tup (pairV ds), .tup (useV fs)].length ≤ 16777216 by simp)]
    have sb : ∀ x ∈ ys, x ∈ xs.filter (fun y => !decide (y = own)) := fun x hx => e5.subset (List.mem_append_right _ hx)
    refine ⟨_, rfl, ⟨own, ys, ds, fs⟩, rfl, rfl, ⟨?_, ?_, yl, a5, a4, ?_, by show fs.length ≤ 3; omega, a8, by show Asc (fs.map (·.1)); rw [f1]; exact c8⟩, ((E1.trans a6).trans c6).trans (f2.trans Ext.push), f3.push.mono (by omega)⟩
    · exact (List.nodup_append.mp (e5.nodup_iff.mpr (hnd.filter _))).2.1
    · intro x hx
      have := List.mem_filter.mp (sb x hx)
      exact ⟨this.1, by simpa using this.2⟩
    · intro u hu
      exact c5 u.1 (f1 ▸ List.mem_map_of_mem hu)

end
section
structure Plot where
  libs : List PLib
  early : List Str
  doors : List (Str × Str)
def Plot.mv (P : Plot) : Mv := .tup [.tup (P.libs.map PLib.mv), .tup (strV P.early), .tup (pairV P.doors)]
def Plot.folk (P : Plot) : List Str := P.libs.map (·.own)
def MODESD : List Str := [x_global, x_local, x_deep]
structure PlotOk (most gates : Nat) (P : Plot) : Prop where
  nd : P.folk.Nodup
  pool : ∀ x ∈ P.folk, x ∈ POOL
  two : 2 ≤ P.folk.length
  len : P.folk.length ≤ most + 1
  libs : ∀ l ∈ P.libs, LibOk P.folk.tail l
  end_ : P.early.Nodup
  ein : ∀ x ∈ P.early, x ∈ P.folk.tail
  elen : P.early.length ≤ 2
  dnd : P.doors.Nodup
  din : ∀ d ∈ P.doors, d.1 ∈ P.folk.tail ∧ d.2 ∈ MODESD
  dlen : P.doors.length ≤ gates
  dpos : P.doors ≠ []
theorem modes_ok : ∀ y ∈ MODESD, PyData.strOk y = true := by decide +kernel
theorem toD_pair {s : Ms} {n : Nat} {d : Str × Str} (h1 : PyData.strOk d.1 = true) (h2 : PyData.strOk d.2 = true) : toD (n + 2) s (.tup [.str d.1, .str d.2]) = some (.tuple [.str d.1, .str d.2]) := by
  show (toDL (toD (n + 1) s) (strV [d.1, d.2])).om PyData.tuple = _
  rw [strOk_all [d.1, d.2] n (by simp [h1, h2])]; rfl
theorem toDL_pairs {s : Ms} {n : Nat} : ∀ (ds : List (Str × Str)), (∀ d ∈ ds, PyData.strOk d.1 = true ∧ PyData.strOk d.2 = true) → toDL (toD (n + 2) s) (pairV ds) = some (ds.map fun d => .tuple [.str d.1, .str d.2])
  | [], _ => rfl
  | d :: ds, h => by
    show (toD (n + 2) s (.tup [.str d.1, .str d.2])).ob (fun z => (toDL (toD (n + 2) s) (pairV ds)).om fun zs => z :: zs) = _
    rw [toD_pair (h d (by simp)).1 (h d (by simp)).2, toDL_pairs ds fun z hz => h z (by simp [hz])]; rfl
theorem any_pair (d : Str × Str) : ∀ ds : List (Str × Str), ((ds.map fun d => PyData.tuple [.str d.1, .str d.2]).any fun z => PyData.eqv z (.tuple [.str d.1, .str d.2])) = decide (d ∈ ds)
  | [] => by simp
  | e :: ds => by
    rw [List.map_cons, List.any_cons, any_pair d ds]
    have : PyData.eqv (.tuple [.str e.1, .str e.2]) (.tuple [.str d.1, .str d.2]) = decide (d = e) := by
      obtain ⟨e1, e2⟩ := e
      obtain ⟨d1, d2⟩ := d
      simp only [PyData.eqv, PyData.eqvAll, Bool.and_true, Prod.mk.injEq]
      by_cases h1 : e1 = d1
      · by_cases h2 : e2 = d2
        · subst h1; subst h2; simp
        · have h2' : ¬ d2 = e2 := fun z => h2 z.symm
          simp [h1, h2, h2']
      · have h1' : ¬ d1 = e1 := fun z => h1 z.symm
        simp [h1, h1']
    rw [this]
    by_cases h : d = e <;> simp [h]
theorem nin_pair {s : Ms} {n : Nat} {d : Str × Str} {ds : List (Str × Str)} (g : s.get n = some (.lst (pairV ds))) (hd : PyData.strOk d.1 = true ∧ PyData.strOk d.2 = true) (h : ∀ d ∈ ds, PyData.strOk d.1 = true ∧ PyData.strOk d.2 = true) : ninA (.tup [.str d.1, .str d.2]) (.ref n) s = some (.bl (!decide (d ∈ ds)), s) := by
  have h1 : dinW true (.tup [.str d.1, .str d.2]) (.ref n) s = none := by
    unfold dinW
    simp only [g]
    rfl
  have h2 : inBo (.tup [.str d.1, .str d.2]) (.ref n) s = some (decide (d ∈ ds)) := by
    unfold inBo
    rw [items_ref g, ob_of]
    show ((toD 24 s (.tup [.str d.1, .str d.2])).ob fun e => (toDL (toD 23 s) (pairV ds)).om fun es => es.any fun z => PyData.eqv z e) = _
    rw [toD_pair hd.1 hd.2, ob_of, toDL_pairs ds h, om_of, any_pair]
  unfold ninA
  rw [h1]
  show (inBo _ _ s).om _ = _
  rw [h2]; rfl
theorem slice1 {s : Ms} {n : Nat} {ws : List Mv} (g : s.get n = some (.lst ws)) (hl : ws.length ≤ 16777216) : slW (.ref n) (some 1) none s = some (.ref s.sz, push s (.lst ws.tail)) := by
  unfold slW
  simp only [g]
  have : cutM ws (some 1) none = ws.tail := by
    unfold cutM
    rw [HT.sIx_none, show (1 : Int) = ((1 : Nat) : Int) from rfl, HT.sIx_nat]
    cases ws with
    | nil => rfl
    | cons w ws => simp
  rw [this, newL_of (by rw [List.length_tail]; omega)]
theorem program_sp {s : Ms} {b m : Nat} {most gates : Nat} (h : Bx' s b m) (hm : m + 600 < 1000000) (m1 : 1 ≤ most) (m2 : most ≤ 8) (g1 : 1 ≤ gates) (g2 : gates ≤ 8) : Wp (m__law_program [.ref b, .int most, .int gates] s) fun x => ∃ P : Plot, x.1 = P.mv ∧ PlotOk most gates P ∧ Ext b s x.2 ∧ Bx' x.2 b (m + 600) := by
  refine wp_fn [some (.ref b), some (.int most), some (.int gates), none, none, none, none, none, none, none, none] rfl rfl ?_
  unfold bd__law_program
  have lt := h.lt
  refine wp_seq ?_
  simp only [wp_ob, wp_om, wp_some, wp_mvar, sset, sexp, sret, sif, spar, spar3, snx, mtB, mtst, mop1, mop2, mcall, mcons, mnil, mcon, mif, mtup, mlst, mand, mor, mnot, mandV, morV, mnotV, lset_eq, List.getElem?_cons_zero, List.getElem?_cons_succ, List.set_cons_zero, List.set_cons_succ, cond_true, cond_false]
  refine (take_sp h (by omega) (by omega) (by omega)).mono fun x hx => ?_
  obtain ⟨w, s1⟩ := x
  obtain ⟨j, e, j0, j1, e1, e2, e3⟩ := hx
  simp only at e e1 e2 e3
  subst e
  simp only [wp_ob, wp_om, wp_some, wp_mvar, sset, sexp, sret, sif, spar, spar3, snx, mtB, mtst, mop1, mop2, mcall, mcons, mnil, mcon, mif, mtup, mlst, mand, mor, mnot, mandV, morV, mnotV, lset_eq, List.getElem?_cons_zero, List.getElem?_cons_succ, List.set_cons_zero, List.set_cons_succ, cond_true, cond_false, addW]
  have jj : Int.add 2 j = 2 + j := rfl
  rw [jj]
  refine (names_sp e3 (by omega) (by omega) (by omega)).mono fun x hx => ?_
  obtain ⟨w, s2⟩ := x
  obtain ⟨nf, folk, c0, c1, c2, c3, c4, ⟨left, c5⟩, c6, c7⟩ := hx
  simp only at c0 c1 c2 c3 c4 c5 c6 c7
  subst c0
  have fnd : folk.Nodup := (List.nodup_append.mp (c5.nodup_iff.mpr pool_nd)).2.1
  have fin : ∀ x ∈ folk, x ∈ POOL := fun x hx => c5.subset (List.mem_append_right _ hx)
  have E2 : Ext b s s2 := e2.trans c6
  have fl : folk.length = (2 + j).toNat := c4
  refine ⟨trivial, wp_seq ?_⟩
  simp only [wp_ob, wp_om, wp_some, wp_mvar, sset, sexp, sret, sif, spar, spar3, snx, mtB, mtst, mop1, mop2, mcall, mcons, mnil, mcon, mif, mtup, mlst, mand, mor, mnot, mandV, morV, mnotV, lset_eq, List.getElem?_cons_zero, List.getElem?_cons_succ, List.set_cons_zero, List.set_cons_succ, cond_true, cond_false, mslice, osome, onone, slice1 c3 (show (strV folk).length ≤ 16777216 by simp [strV]; omega), newL_of (show ([] : List Mv).length ≤ 16777216 by decide)]
  refine ⟨trivial, wp_seq ?_⟩
  have tl : (strV folk).tail = strV folk.tail := by simp [strV]
  rw [tl]
  generalize hs3 : push (push s2 (Mo.lst (strV folk.tail))) (Mo.lst []) = s3
  have z3 : s3.sz = s2.sz + 2 := by rw [← hs3]; rfl
  have x3 : Ex0 s2 s3 := by rw [← hs3]; exact Ex0.push.trans Ex0.push
  have q1 : s3.get nf = some (.lst (strV folk)) := x3.at c2 c3
  have q2 : s3.get s2.sz = some (.lst (strV folk.tail)) := by rw [← hs3, push_get, if_neg (by rw [push_sz]; omega), push_get, if_pos rfl]
  have q3 : s3.get (s2.sz + 1) = some (.lst (List.map PLib.mv [])) := by rw [← hs3, push_get, if_pos push_sz.symm]; rfl
  have s2s : s.sz ≤ s2.sz := E2.sz
  have B3 : Bx' s3 b (m + 11) := (c7.ex0 x3).mono (by omega)
  have E3 : Ext b s s3 := E2.trans x3.ext
  have okt : ∀ y ∈ folk.tail, PyData.strOk y = true := fun y hy => pool_ok y (fin y (List.mem_of_mem_tail hy))
  have tnd : folk.tail.Nodup := fnd.tail
  refine wp_for (wp_S' ?_)
  simp only [wp_ob, wp_om, wp_some, wp_mvar, sset, sexp, sret, sif, spar, spar3, snx, mtB, mtst, mop1, mop2, mcall, mcons, mnil, mcon, mif, mtup, mlst, mand, mor, mnot, mandV, morV, mnotV, lset_eq, List.getElem?_cons_zero, List.getElem?_cons_succ, List.set_cons_zero, List.set_cons_succ, cond_true, cond_false]
  rw [show (push s2 (Mo.lst (strV folk.tail))).sz = s2.sz + 1 from rfl]
  refine ⟨strV folk, items_ref q1, fun it git => ?_⟩
  refine (wp_loop (strV folk) (fun i r s' => ∃ o ls, r = [some (.ref b), some (.int most), some (.int gates), some (.ref nf), some (.ref s2.sz), some (.ref (s2.sz + 1)), o, none, none, none, none] ∧ s'.get nf = some (.lst (strV folk)) ∧ s'.get s2.sz = some (.lst (strV folk.tail)) ∧ s'.get (s2.sz + 1) = some (.lst (ls.map PLib.mv)) ∧ ls.map (·.own) = folk.take i ∧ (∀ l ∈ ls, LibOk folk.tail l) ∧ s2.sz + 2 ≤ s'.sz ∧ Ext b s s' ∧ Bx' s' b (m + 11 + 40 * i)) (fun i r s' _ hI => by
    obtain ⟨_, _, _, g, _⟩ := hI
    exact git s' (items_ref g)) ?_ 1000000000 0 _ s3 (by simp [strV]; omega) (by omega) ⟨none, [], rfl, q1, q2, q3, rfl, by simp, by omega, E3, B3⟩).mono ?_
  · rintro i w r s' hw ⟨o, ls, rfl, a1, a2, a3, a4, a5, a6, a7, a8⟩
    have hi : i < folk.length := by have := (List.getElem?_eq_some_iff.mp hw).1; simpa [strV] using this
    have hwe : w = .str folk[i] := by
      unfold strV at hw
      rw [List.getElem?_map, List.getElem?_eq_getElem hi] at hw
      cases hw; rfl
    subst hwe
    refine ⟨_, rfl, ?_⟩
    simp only [wp_ob, wp_om, wp_some, wp_mvar, sset, sexp, sret, sif, spar, spar3, snx, mtB, mtst, mop1, mop2, mcall, mcons, mnil, mcon, mif, mtup, mlst, mand, mor, mnot, mandV, morV, mnotV, lset_eq, List.getElem?_cons_zero, List.getElem?_cons_succ, List.set_cons_zero, List.set_cons_succ, cond_true, cond_false]
    refine wp_app (n := s2.sz + 1) (by rfl) a3 ?_
    have f0 : ixA (.ref nf) (.int 0) s' = some (.str folk[0], s') := ixA_of (items_ref a1) (atF_of (i := 0) (by unfold strV; rw [List.getElem?_map, List.getElem?_eq_getElem (by omega)]; rfl))
    simp only [wp_ob, wp_om, wp_some, wp_mvar, sset, sexp, sret, sif, spar, spar3, snx, mtB, mtst, mop1, mop2, mcall, mcons, mnil, mcon, mif, mtup, mlst, mand, mor, mnot, mandV, morV, mnotV, lset_eq, List.getElem?_cons_zero, List.getElem?_cons_succ, List.set_cons_zero, List.set_cons_succ, cond_true, cond_false, f0, eq_str]
    refine (lib_sp a8 (by omega) (xs := folk.tail) (.inr ⟨s2.sz, rfl, by omega, by omega, a2⟩) (by rw [List.length_tail]; omega) okt tnd).mono fun x hx => ?_
    obtain ⟨w, s4⟩ := x
    obtain ⟨l, d0, d1, d2, d3, d4⟩ := hx
    simp only at d0 d1 d2 d3 d4
    subst d0
    refine ⟨_, _, rfl, d3.at (by omega) (by omega) a3, by simp; have := congrArg List.length a4; simp at this; omega, trivial, _, ls ++ [l], rfl, ?_, ?_, ?_, ?_, ?_, ?_, ?_, ?_⟩
    · rw [put_get', if_neg (by omega)]; exact d3.at (by omega) (by omega) a1
    · rw [put_get', if_neg (by omega)]; exact d3.at (by omega) (by omega) a2
    · rw [put_get', if_pos rfl, List.map_append]; rfl
    · rw [List.map_append, a4, List.take_add_one, List.getElem?_eq_getElem hi, ← d1]; rfl
    · intro l' hl'
      rcases List.mem_append.mp hl' with z | z
      · exact a5 l' z
      · simp at z; subst z; exact d2
    · show _ ≤ s4.sz
      have := d3.sz
      omega
    · exact (a7.trans d3).put (.inr (by omega))
    · exact (Bx'.put d4 (by omega)).mono (by omega)
  rintro ⟨fl1, r, s5⟩ ⟨e, o, ls, e1, a1, a2, a3, a4, a5, a6, a7, a8⟩
  simp only at e e1 a1 a2 a3 a4 a5 a6 a7 a8
  subst e e1
  have sl : (strV folk).length = folk.length := by simp [strV]
  rw [sl] at a4 a8
  rw [List.take_length] at a4
  refine ⟨rfl, wp_seq ?_⟩
  simp only [wp_ob, wp_om, wp_some, wp_mvar, sset, sexp, sret, sif, spar, spar3, snx, mtB, mtst, mop1, mop2, mcall, mcons, mnil, mcon, mif, mtup, mlst, mand, mor, mnot, mandV, morV, mnotV, lset_eq, List.getElem?_cons_zero, List.getElem?_cons_succ, List.set_cons_zero, List.set_cons_succ, cond_true, cond_false, newL_of (show ([] : List Mv).length ≤ 16777216 by decide)]
  refine ⟨trivial, wp_seq ?_⟩
  refine wp_for (wp_R1 ?_)
  simp only [wp_ob, wp_om, wp_some, wp_mvar, sset, sexp, sret, sif, spar, spar3, snx, mtB, mtst, mop1, mop2, mcall, mcons, mnil, mcon, mif, mtup, mlst, mand, mor, mnot, mandV, morV, mnotV, lset_eq, List.getElem?_cons_zero, List.getElem?_cons_succ, List.set_cons_zero, List.set_cons_succ, cond_true, cond_false]
  refine (take_sp a8.push (by omega) (by omega) (by omega)).mono fun x hx => ?_
  obtain ⟨w, s6⟩ := x
  obtain ⟨k, u0, u1, u2, u3, u4, u5⟩ := hx
  simp only at u0 u1 u2 u3 u4 u5
  subst u0
  simp only [wp_ob, wp_om, wp_some, wp_mvar, sset, sexp, sret, sif, spar, spar3, snx, mtB, mtst, mop1, mop2, mcall, mcons, mnil, mcon, mif, mtup, mlst, mand, mor, mnot, mandV, morV, mnotV, lset_eq, List.getElem?_cons_zero, List.getElem?_cons_succ, List.set_cons_zero, List.set_cons_succ, cond_true, cond_false, addW]
  have kk : Int.add 1 k = 1 + k := rfl
  rw [kk]
  refine ⟨1 + k, rfl, okI_of (by omega) (by omega), ?_⟩
  rw [push_sz] at u3
  have E6 : Ext b s s6 := a7.trans (Ext.push.trans u4)
  have X6 : Ext b s5 s6 := Ext.push.trans u4
  have l2 : folk.length ≤ 9 := by omega
  refine (wp_loop (rngL 0 (1 + k).toNat) (fun i r s' => ∃ o' o'' nd ds, r = [some (.ref b), some (.int most), some (.int gates), some (.ref nf), some (.ref s2.sz), some (.ref (s2.sz + 1)), o, some (.ref nd), o', o'', none] ∧ s2.sz + 1 < nd ∧ nd < s'.sz ∧ s'.get nd = some (.lst (pairV ds)) ∧ ds.Nodup ∧ (∀ d ∈ ds, d.1 ∈ folk.tail ∧ d.2 ∈ MODESD) ∧ ds.length ≤ i ∧ (1 ≤ i → ds ≠ []) ∧ Ext b s5 s' ∧ Bx' s' b (m + 11 + 40 * folk.length + 1 + 2 * i)) (fun i r s' _ _ => gives_rng) ?_ 1000000000 0 _ s6 (by rw [rngL_len]; omega) (by omega) ⟨none, none, s5.sz, [], rfl, by omega, by omega, u4.at (by rw [push_sz]; omega) (by omega) (by rw [push_get, if_pos rfl]; rfl), by simp, by simp, by simp, fun z => by omega, X6, u5.mono (by omega)⟩).mono ?_
  · rintro i w r s' hw ⟨o', o'', nd, ds, rfl, b1, b2, b3, b4, b5, b6, b9, b7, b8⟩
    obtain ⟨hi, rfl⟩ := rngL_get hw
    refine ⟨_, rfl, wp_seq ?_⟩
    simp only [wp_ob, wp_om, wp_some, wp_mvar, sset, sexp, sret, sif, spar, spar3, snx, mtB, mtst, mop1, mop2, mcall, mcons, mnil, mcon, mif, mtup, mlst, mand, mor, mnot, mandV, morV, mnotV, lset_eq, List.getElem?_cons_zero, List.getElem?_cons_succ, List.set_cons_zero, List.set_cons_succ, cond_true, cond_false]
    have T1 : Itm b s' (.ref s2.sz) (strV folk.tail) := .inr ⟨s2.sz, rfl, by have := b7.sz; omega, by omega, b7.at (by omega) (by omega) a2⟩
    have tl2 : folk.tail ≠ [] := fun z => by have := congrArg List.length z; simp at this; omega
    refine (pick_sp b8 (by omega) T1 (fun z => tl2 (List.map_eq_nil_iff.mp z)) (by simp [strV]; omega)).mono fun x hx => ?_
    obtain ⟨w1, s7⟩ := x
    obtain ⟨p1, p2, p3, p4⟩ := hx
    simp only at p1 p2 p3 p4
    obtain ⟨y1, hy1, rfl⟩ := List.mem_map.mp p1
    simp only [wp_ob, wp_om, wp_some, wp_mvar, sset, sexp, sret, sif, spar, spar3, snx, mtB, mtst, mop1, mop2, mcall, mcons, mnil, mcon, mif, mtup, mlst, mand, mor, mnot, mandV, morV, mnotV, lset_eq, List.getElem?_cons_zero, List.getElem?_cons_succ, List.set_cons_zero, List.set_cons_succ, cond_true, cond_false, newL_of (show [Mv.str x_global, .str x_local, .str x_deep, .str x_global].length ≤ 16777216 by decide)]
    refine (pick_sp p4.push (by omega) (ws := [Mv.str x_global, .str x_local, .str x_deep, .str x_global]) (.inr ⟨s7.sz, rfl, by rw [push_sz]; omega, by have := b7.sz; omega, Ms.get_push⟩) (by simp) (by simp)).mono fun x hx => ?_
    obtain ⟨w2, s8⟩ := x
    obtain ⟨v1, v2, v3, v4⟩ := hx
    simp only at v1 v2 v3 v4
    rw [push_sz] at v2
    have hw2 : ∃ y, w2 = .str y ∧ y ∈ MODESD := by
      simp only [List.mem_cons, List.not_mem_nil, or_false] at v1
      rcases v1 with rfl | rfl | rfl | rfl <;> exact ⟨_, rfl, by simp [MODESD]⟩
    obtain ⟨y2, rfl, hy2⟩ := hw2
    simp only [wp_ob, wp_om, wp_some, wp_mvar, sset, sexp, sret, sif, spar, spar3, snx, mtB, mtst, mop1, mop2, mcall, mcons, mnil, mcon, mif, mtup, mlst, mand, mor, mnot, mandV, morV, mnotV, lset_eq, List.getElem?_cons_zero, List.getElem?_cons_succ, List.set_cons_zero, List.set_cons_succ, cond_true, cond_false, newT_of (show [Mv.str y1, Mv.str y2].length ≤ 16777216 by simp)]
    refine ⟨trivial, ?_⟩
    have X8 : Ext b s' s8 := (p3.trans Ext.push).trans v3
    have nds : s8.get nd = some (.lst (pairV ds)) := X8.at b2 (by omega) b3
    have dok : ∀ d ∈ ds, PyData.strOk d.1 = true ∧ PyData.strOk d.2 = true := fun d hd => ⟨okt _ (b5 d hd).1, modes_ok _ (b5 d hd).2⟩
    have hnin : ninA (.tup [.str y1, .str y2]) (.ref nd) (push s8 (.lst [.tup [.str y1, .str y2]])) = some (.bl (!decide ((y1, y2) ∈ ds)), push s8 (.lst [.tup [.str y1, .str y2]])) := nin_pair (d := (y1, y2)) (by rw [push_get, if_neg (by omega)]; exact nds) ⟨okt _ hy1, modes_ok _ hy2⟩ dok
    have nds1 : (push s8 (.lst [.tup [.str y1, .str y2]])).get nd = some (.lst (pairV ds)) := by rw [push_get, if_neg (by omega)]; exact nds
    simp only [wp_ob, wp_om, wp_some, wp_mvar, sset, sexp, sret, sif, spar, spar3, snx, mtB, mtst, mop1, mop2, mcall, mcons, mnil, mcon, mif, mtup, mlst, mand, mor, mnot, mandV, morV, mnotV, lset_eq, List.getElem?_cons_zero, List.getElem?_cons_succ, List.set_cons_zero, List.set_cons_succ, cond_true, cond_false, newL_of (show [Mv.tup [.str y1, .str y2]].length ≤ 16777216 by simp), hnin, intW]
    have hmul : lmulW (.ref s8.sz) (.int (if (!decide ((y1, y2) ∈ ds)) = true then 1 else 0)) (push s8 (.lst [.tup [.str y1, .str y2]])) = some (.ref (s8.sz + 1), push (push s8 (.lst [.tup [.str y1, .str y2]])) (.lst (pairV (if (y1, y2) ∈ ds then [] else [(y1, y2)])))) := by
      unfold lmulW
      simp only [Ms.get_push]
      by_cases hin : (y1, y2) ∈ ds
      · simp only [hin, decide_true, Bool.not_true, if_true]
        rfl
      · simp only [hin, decide_false, Bool.not_false, if_false, if_true]
        rfl
    have nds2 : (push (push s8 (.lst [.tup [.str y1, .str y2]])) (.lst (pairV (if (y1, y2) ∈ ds then [] else [(y1, y2)])))).get nd = some (.lst (pairV ds)) := by rw [push_get, if_neg (by rw [push_sz]; omega)]; exact nds1
    have nds3 : (push (push s8 (.lst [.tup [.str y1, .str y2]])) (.lst (pairV (if (y1, y2) ∈ ds then [] else [(y1, y2)])))).get (s8.sz + 1) = some (.lst (pairV (if (y1, y2) ∈ ds then [] else [(y1, y2)]))) := by rw [push_get, if_pos push_sz.symm]
    have il : (if (y1, y2) ∈ ds then [] else [(y1, y2)]).length ≤ 1 := by split <;> simp
    simp only [wp_ob, wp_om, wp_some, wp_mvar, sset, sexp, sret, sif, spar, spar3, snx, mtB, mtst, mop1, mop2, mcall, mcons, mnil, mcon, mif, mtup, mlst, mand, mor, mnot, mandV, morV, mnotV, lset_eq, List.getElem?_cons_zero, List.getElem?_cons_succ, List.set_cons_zero, List.set_cons_succ, cond_true, cond_false, hmul, addW, nds2, nds3, newL_of (show (pairV ds ++ pairV (if (y1, y2) ∈ ds then [] else [(y1, y2)])).length ≤ 16777216 by simp [pairV]; omega)]
    refine ⟨trivial, _, _, s8.sz + 2, ds ++ (if (y1, y2) ∈ ds then [] else [(y1, y2)]), rfl, by have := X8.sz; omega, by rw [push_sz, push_sz, push_sz]; omega, ?_, ?_, ?_, ?_, ?_, ?_, ?_⟩
    · rw [push_get, if_pos (by rw [push_sz, push_sz])]; simp [pairV]
    · by_cases hin : (y1, y2) ∈ ds
      · simp [hin, b4]
      · rw [if_neg hin]
        refine List.nodup_append.mpr ⟨b4, by simp, ?_⟩
        intro a ha c hc
        simp at hc
        subst hc
        exact fun z => hin (z ▸ ha)
    · intro d hd
      rcases List.mem_append.mp hd with z | z
      · exact b5 d z
      · split at z
        · cases z
        · simp at z; subst z; exact ⟨hy1, hy2⟩
    · rw [List.length_append]; omega
    · intro _ z
      by_cases hin : (y1, y2) ∈ ds
      · rw [if_pos hin, List.append_nil] at z
        rw [z] at hin
        cases hin
      · rw [if_neg hin] at z
        simp at z
    · exact ((b7.trans X8).trans Ext.push).trans (Ext.push.trans Ext.push)
    · exact v4.push.push.push.mono (by omega)
  rintro ⟨fl2, r, s7⟩ ⟨e, o', o'', nd, ds, e1, b1, b2, b3, b4, b5, b6, b9, b7, b8⟩
  simp only at e e1 b1 b2 b3 b4 b5 b6 b7 b8
  subst e e1
  rw [rngL_len] at b6 b8
  refine ⟨rfl, wp_seq ?_⟩
  have T1 : ∀ s', Ext b s7 s' → Itm b s' (.ref s2.sz) (strV folk.tail) := fun s' x => .inr ⟨s2.sz, rfl, by have := b7.sz; have := x.sz; omega, by omega, (b7.trans x).at (by omega) (by omega) a2⟩
  have hE : Wp (mif (mtB (mop2 eqW (mcall m__law_take (mcons (mvar 0) (mcons (mcon (.int 2)) (mnil)))) (mcon (.int 0)))) (mcall m__law_some (mcons (mvar 0) (mcons (mvar 4) (mcons (mop2 addW (mcon (.int 1)) (mcall intW (mcons (mop2 eqW (mcall m__law_take (mcons (mvar 0) (mcons (mcon (.int 4)) (mnil)))) (mcon (.int 0))) (mnil)))) (mnil))))) (mlst (mnil)) [some (.ref b), some (.int most), some (.int gates), some (.ref nf), some (.ref s2.sz), some (.ref (s2.sz + 1)), o, some (.ref nd), o', o'', none] s7) fun x => ∃ n ys zs, x.1 = .ref n ∧ x.2.get n = some (.lst (strV ys)) ∧ ys.length ≤ 2 ∧ (zs ++ ys).Perm folk.tail ∧ Ext b s7 x.2 ∧ Bx' x.2 b (m + 590) := by
    simp only [wp_ob, wp_om, wp_some, wp_mvar, sset, sexp, sret, sif, spar, spar3, snx, mtB, mtst, mop1, mop2, mcall, mcons, mnil, mcon, mif, mtup, mlst, mand, mor, mnot, mandV, morV, mnotV, lset_eq, List.getElem?_cons_zero, List.getElem?_cons_succ, List.set_cons_zero, List.set_cons_succ, cond_true, cond_false]
    refine (take_sp b8 (by omega) (by omega) (by omega)).mono fun x hx => ?_
    obtain ⟨w, s8⟩ := x
    obtain ⟨q, y0, y1, y2, y3, y4, y5⟩ := hx
    simp only at y0 y1 y2 y3 y4 y5
    subst y0
    simp only [wp_ob, wp_om, wp_some, wp_mvar, sset, sexp, sret, sif, spar, spar3, snx, mtB, mtst, mop1, mop2, mcall, mcons, mnil, mcon, mif, mtup, mlst, mand, mor, mnot, mandV, morV, mnotV, lset_eq, List.getElem?_cons_zero, List.getElem?_cons_succ, List.set_cons_zero, List.set_cons_succ, cond_true, cond_false, eq_int]
    by_cases hq : q = 0
    · simp only [hq, decide_true]
      simp only [wp_ob, wp_om, wp_some, wp_mvar, sset, sexp, sret, sif, spar, spar3, snx, mtB, mtst, mop1, mop2, mcall, mcons, mnil, mcon, mif, mtup, mlst, mand, mor, mnot, mandV, morV, mnotV, lset_eq, List.getElem?_cons_zero, List.getElem?_cons_succ, List.set_cons_zero, List.set_cons_succ, cond_true, cond_false]
      refine (take_sp y5 (by omega) (by omega) (by omega)).mono fun x hx => ?_
      obtain ⟨w, s9⟩ := x
      obtain ⟨q', y0', y1', y2', y3', y4', y5'⟩ := hx
      simp only at y0' y1' y2' y3' y4' y5'
      subst y0'
      simp only [wp_ob, wp_om, wp_some, wp_mvar, sset, sexp, sret, sif, spar, spar3, snx, mtB, mtst, mop1, mop2, mcall, mcons, mnil, mcon, mif, mtup, mlst, mand, mor, mnot, mandV, morV, mnotV, lset_eq, List.getElem?_cons_zero, List.getElem?_cons_succ, List.set_cons_zero, List.set_cons_succ, cond_true, cond_false, eq_int, intW, addW]
      have hk : ∃ kk : Int, Int.add 1 (if decide (q' = 0) = true then 1 else 0) = kk ∧ 0 ≤ kk ∧ kk ≤ 2 := by
        by_cases z : q' = 0
        · exact ⟨2, by simp [z], by omega, by omega⟩
        · exact ⟨1, by simp [z], by omega, by omega⟩
      obtain ⟨kk, hk, hk0, hk1⟩ := hk
      rw [hk]
      refine (some_sp y5' (by omega) (T1 s9 (y4.trans y4')) (by rw [List.length_tail]; omega) okt hk0 (by omega)).mono fun x hx => ?_
      obtain ⟨w, s10⟩ := x
      obtain ⟨n, ys, zs, t0, t1, t2, t3, t4, t5, t6, t7⟩ := hx
      simp only at t0 t1 t2 t3 t4 t5 t6 t7
      exact ⟨n, ys, zs, t0, t3, by omega, t5, (y4.trans y4').trans t6, t7.mono (by omega)⟩
    · simp only [hq, decide_false]
      simp only [wp_ob, wp_om, wp_some, wp_mvar, sset, sexp, sret, sif, spar, spar3, snx, mtB, mtst, mop1, mop2, mcall, mcons, mnil, mcon, mif, mtup, mlst, mand, mor, mnot, mandV, morV, mnotV, lset_eq, List.getElem?_cons_zero, List.getElem?_cons_succ, List.set_cons_zero, List.set_cons_succ, cond_true, cond_false, newL_of (show ([] : List Mv).length ≤ 16777216 by decide)]
      exact ⟨s8.sz, [], folk.tail, rfl, Ms.get_push, by simp, by simp, y4.trans Ext.push, y5.push.mono (by omega)⟩
  simp only [sset, wp_om]
  refine hE.mono fun x hx => ?_
  obtain ⟨w, s8⟩ := x
  obtain ⟨n, ys, zs, t0, t1, t2, t3, t4, t5⟩ := hx
  simp only at t0 t1 t2 t3 t4 t5
  subst t0
  have E8 : Ext b s5 s8 := b7.trans t4
  have ll : ls.length = folk.length := by have := congrArg List.length a4; simpa using this
  have T2 : tupleW [.ref (s2.sz + 1)] s8 = some (.tup (ls.map PLib.mv), s8) := tup_of (items_ref (E8.at (by omega) (by omega) a3)) (by simp; omega)
  have T3 : tupleW [.ref n] s8 = some (.tup (strV ys), s8) := tup_of (items_ref t1) (by simp [strV]; omega)
  have T4 : tupleW [.ref nd] s8 = some (.tup (pairV ds), s8) := tup_of (items_ref (t4.at b2 (by omega) b3)) (by simp [pairV]; omega)
  simp only [wp_ob, wp_om, wp_some, wp_mvar, sset, sexp, sret, sif, spar, spar3, snx, mtB, mtst, mop1, mop2, mcall, mcons, mnil, mcon, mif, mtup, mlst, mand, mor, mnot, mandV, morV, mnotV, lset_eq, List.getElem?_cons_zero, List.getElem?_cons_succ, List.set_cons_zero, List.set_cons_succ, cond_true, cond_false, T2, T3, T4, newT_of (show [Mv.tup (ls.map PLib.mv), .tup (strV ys), .tup (pairV ds)].length ≤ 16777216 by simp)]
  refine ⟨trivial, _, rfl, ⟨ls, ys, ds⟩, rfl, ?_, a7.trans E8, t5.mono (by omega)⟩
  have fk : (Plot.mk ls ys ds).folk = folk := a4
  constructor
  · rw [fk]; exact fnd
  · rw [fk]; exact fin
  · rw [fk]; omega
  · rw [fk]; omega
  · rw [fk]; exact a5
  · exact (List.nodup_append.mp (t3.nodup_iff.mpr tnd)).2.1
  · rw [fk]; exact fun x hx => t3.subset (List.mem_append_right _ hx)
  · exact t2
  · exact b4
  · rw [fk]; exact b5
  · show ds.length ≤ gates; omega
  · exact b9 (by rw [rngL_len]; omega)

end
section
/-! ### names, numbers, libraries by name, steps -/
abbrev LETS : Str := xh_6162636465666768696a6b6c6d6e6f707172737475767778797a
def nameB (x : Str) : Bool := (decide (0 < x.length) && decide (x.length ≤ 8)) && (x.cps.toList.all fun c => LETS.cps.toList.any fun d => Nat.beq d c)
theorem bools_of : ∀ bs : List Bool, boolsOf (bs.map .bl) = some bs
  | [] => rfl
  | b :: bs => by
    show (boolsOf (bs.map .bl)).om (fun r => b :: r) = _
    rw [bools_of bs]; rfl
theorem is_name_str {s : Ms} {x : Str} (hl : x.length ≤ 1000) : Wp (m_is_name [.str x] s) fun y => y.1 = .bl (nameB x) ∧ Ex0 s y.2 := by
  refine wp_fn [some (.str x), none] rfl rfl ?_
  unfold bd_is_name
  have hL : lenW [.str x] s = some (.int (x.length : Nat), s) := by
    show (cond (Nat.ble x.length 16777216) (some x.length) none).om _ = _
    rw [Nat.ble_eq_true_of_le (by omega)]; rfl
  by_cases hc : 0 < x.length ∧ x.length ≤ 8
  · refine wp_seq ?_
    have c1 : iLt 0 (x.length : Int) = true := by rw [iLt_eq]; exact decide_eq_true (by omega)
    have c2 : iLt 8 (x.length : Int) = false := by rw [iLt_eq]; exact decide_eq_false (by omega)
    simp only [wp_ob, wp_om, wp_some, wp_mvar, sset, sexp, sret, sif, spar, spar3, snx, mtB, mtst, mop1, mop2, mcall, mcons, mnil, mcon, mif, mtup, mlst, mand, mor, mnot, mandV, morV, mnotV, lset_eq, List.getElem?_cons_zero, List.getElem?_cons_succ, List.set_cons_zero, List.set_cons_succ, cond_true, cond_false, isiW, tyOf, isaT, decide_true, Bool.true_or, tru, Bool.not_true, mchain, hL, ltW, leW, cmpI, c1, c2, Bool.not_false]
    refine ⟨trivial, ?_⟩
    refine wp_lc ?_
    simp only [wp_ob, wp_om, wp_some, wp_mvar, sset, sexp, sret, sif, spar, spar3, snx, mtB, mtst, mop1, mop2, mcall, mcons, mnil, mcon, mif, mtup, mlst, mand, mor, mnot, mandV, morV, mnotV, lset_eq, List.getElem?_cons_zero, List.getElem?_cons_succ, List.set_cons_zero, List.set_cons_succ, cond_true, cond_false, miX]
    have hf : mflat (.seq (signs x)) (mstep (.nm 1) myes (mop2 sgIn (mvar 1) (mcon (.str LETS))) (mwipe [some (.str x), none] [1])) 1000000000 0 s = some ((x.cps.toList.map fun c => LETS.cps.toList.any fun d => Nat.beq d c).map .bl, s) := by
      have e := flat_pure (it := .seq (signs x)) (st := mstep (.nm 1) myes (mop2 sgIn (mvar 1) (mcon (.str LETS))) (mwipe [some (.str x), none] [1])) (ws := signs x) (s := s) (fun w => match w with | .str a => (match a.cps.toList with | [c] => [.bl (LETS.cps.toList.any fun d => Nat.beq d c)] | _ => []) | _ => []) (by simp only [signs, List.length_map]; have : x.cps.toList.length = x.length := (by simp [Str.length]); omega) gives_seq (by
        intro w hw
        obtain ⟨c, _, rfl⟩ := List.mem_map.mp hw
        rfl)
      rw [e]
      congr 2
      unfold signs
      generalize x.cps.toList = l
      induction l with
      | nil => rfl
      | cons c l ih => rw [List.map_cons, List.flatMap_cons, ih]; rfl
    rw [hf, wp_some]
    have ll : x.cps.toList.length = x.length := by simp [Str.length]
    refine ⟨by simp only [List.length_map]; omega, ?_⟩
    have hA : allW [.ref s.sz] (push s (.lst ((x.cps.toList.map fun c => LETS.cps.toList.any fun d => Nat.beq d c).map .bl))) = some (.bl (nameB x), push s (.lst ((x.cps.toList.map fun c => LETS.cps.toList.any fun d => Nat.beq d c).map .bl))) := by
      show ((lstOf (.ref s.sz) _).ob fun xs => (boolsOf xs).om fun bs => (Mv.bl (bs.all id), _)) = _
      have : lstOf (.ref s.sz) (push s (.lst ((x.cps.toList.map fun c => LETS.cps.toList.any fun d => Nat.beq d c).map .bl))) = some ((x.cps.toList.map fun c => LETS.cps.toList.any fun d => Nat.beq d c).map .bl) := items_ref Ms.get_push
      rw [this, ob_of, bools_of, om_of]
      unfold nameB
      rw [decide_eq_true hc.1, decide_eq_true hc.2, List.all_map]
      rfl
    exact ⟨_, hA, _, rfl, rfl, Ex0.push⟩
  · have hn : nameB x = false := by
      unfold nameB
      by_cases h0 : 0 < x.length
      · rw [decide_eq_false (p := x.length ≤ 8) (by omega)]; simp
      · rw [decide_eq_false (p := 0 < x.length) h0]; simp
    unfold sseq
    by_cases h0 : 0 < x.length
    · have c1 : iLt 0 (x.length : Int) = true := by rw [iLt_eq]; exact decide_eq_true (by omega)
      have c2 : iLt 8 (x.length : Int) = true := by rw [iLt_eq]; exact decide_eq_true (by omega)
      simp only [wp_ob, wp_om, wp_some, wp_mvar, sset, sexp, sret, sif, spar, spar3, snx, mtB, mtst, mop1, mop2, mcall, mcons, mnil, mcon, mif, mtup, mlst, mand, mor, mnot, mandV, morV, mnotV, lset_eq, List.getElem?_cons_zero, List.getElem?_cons_succ, List.set_cons_zero, List.set_cons_succ, cond_true, cond_false, isiW, tyOf, isaT, decide_true, Bool.true_or, tru, Bool.not_true, mchain, hL, ltW, leW, cmpI, c1, c2, Bool.not_false]
      exact ⟨_, rfl, by rw [hn], Ex0.refl⟩
    · have c1 : iLt 0 (x.length : Int) = false := by rw [iLt_eq]; exact decide_eq_false (by omega)
      simp only [wp_ob, wp_om, wp_some, wp_mvar, sset, sexp, sret, sif, spar, spar3, snx, mtB, mtst, mop1, mop2, mcall, mcons, mnil, mcon, mif, mtup, mlst, mand, mor, mnot, mandV, morV, mnotV, lset_eq, List.getElem?_cons_zero, List.getElem?_cons_succ, List.set_cons_zero, List.set_cons_succ, cond_true, cond_false, isiW, tyOf, isaT, decide_true, Bool.true_or, tru, Bool.not_true, mchain, hL, ltW, leW, cmpI, c1, Bool.not_false]
      exact ⟨_, rfl, by rw [hn], Ex0.refl⟩
theorem is_name_not {s : Ms} {w : Mv} {t : Mty} (h : tyOf w s = some t) (ht : t ≠ .str) : m_is_name [w] s = some (.bl false, s) := by
  have e : (decide (t = Mty.str) || (decide (t = .bool) && decide (Mty.str = .int))) = false := by simp [ht]
  have : Wp (m_is_name [w] s) fun y => y = (.bl false, s) := by
    refine wp_fn [some w, none] rfl rfl ?_
    unfold bd_is_name sseq
    simp only [wp_ob, wp_om, wp_some, wp_mvar, sset, sexp, sret, sif, spar, spar3, snx, mtB, mtst, mop1, mop2, mcall, mcons, mnil, mcon, mif, mtup, mlst, mand, mor, mnot, mandV, morV, mnotV, lset_eq, List.getElem?_cons_zero, List.getElem?_cons_succ, List.set_cons_zero, List.set_cons_succ, cond_true, cond_false, isiW, h, isaT, e, tru, Bool.not_false]
    exact ⟨_, rfl, rfl⟩
  obtain ⟨y, h1, h2⟩ := this
  rw [h1, h2]

end
section
theorem Wp.eq {α : Type} {o : Option α} {x : α} (h : Wp o fun y => y = x) : o = some x := by
  obtain ⟨y, h1, h2⟩ := h
  rw [h1, h2]
/-! ### comprehensions whose parts only add to the store -/
section
variable {A B E : Fe} {T : Tg} {C : Ft} {vs : List Nat} {r : Me} {s : Ms} {α : Type}
theorem lcF (xs : List α) (f : α → Mv) (p : α → Bool) (g : α → Mv) (hl : xs.length ≤ 1000000) (hA : Wp (A r s) fun y => Ex0 s y.2 ∧ ∀ s', Ex0 y.2 s' → items y.1 s' = some (xs.map f)) (hE : ∀ x ∈ xs, ∀ s', Ex0 s s' → Wp (mstep T C E (mwipe r vs) (f x) s') fun y => y.1 = (if p x then [g x] else []) ∧ Ex0 s' y.2) : Wp (mlc (miS A) T C E vs r s) fun y => ∃ n, y.1 = .ref n ∧ s.sz ≤ n ∧ n < y.2.sz ∧ y.2.get n = some (.lst ((xs.filter p).map g)) ∧ Ex0 s y.2 := by
  refine wp_lc (wp_S' (hA.mono fun y hy => ?_))
  obtain ⟨v, s1⟩ := y
  obtain ⟨x1, hi⟩ := hy
  simp only at x1 hi
  refine ⟨xs.map f, hi s1 Ex0.refl, fun it git => ?_⟩
  refine (wp_flat (xs.map f) (fun i acc s' => acc = ((xs.take i).filter p).map g ∧ Ex0 s1 s') (fun i acc s' _ a => git s' (hi s' a.2)) ?_ 1000000000 0 [] s1 (by rw [List.length_map]; omega) (by omega) ⟨rfl, Ex0.refl⟩).mono ?_
  · rintro i u acc s' hu ⟨rfl, xx⟩
    rw [List.getElem?_map] at hu
    obtain ⟨x, hx, rfl⟩ := Option.map_eq_some_iff.mp hu
    refine (hE x (List.mem_of_getElem? hx) s' (x1.trans xx)).mono fun y hy => ?_
    obtain ⟨e, x2⟩ := hy
    refine ⟨?_, xx.trans x2⟩
    rw [List.take_add_one, hx, List.filter_append, List.map_append, e]
    show _ = _ ++ ([x].filter p).map g
    cases hp : p x <;> simp [hp]
  rintro ⟨acc, s2⟩ ⟨e2, x2⟩
  simp only [List.nil_append] at e2 x2
  rw [List.length_map, List.take_length] at e2
  subst e2
  have fl := List.length_filter_le p xs
  have x12 := x1.trans x2
  exact ⟨by rw [List.length_map]; omega, _, rfl, x12.sz, by simp only [push_sz]; omega, Ms.get_push, x12.trans Ex0.push⟩
/-- no test -/
theorem lcM (xs : List α) (f g : α → Mv) (hl : xs.length ≤ 1000000) (hA : Wp (A r s) fun y => Ex0 s y.2 ∧ ∀ s', Ex0 y.2 s' → items y.1 s' = some (xs.map f)) (hE : ∀ x ∈ xs, ∀ s', Ex0 s s' → Wp (mstep T C E (mwipe r vs) (f x) s') fun y => y.1 = [g x] ∧ Ex0 s' y.2) : Wp (mlc (miS A) T C E vs r s) fun y => ∃ n, y.1 = .ref n ∧ s.sz ≤ n ∧ n < y.2.sz ∧ y.2.get n = some (.lst (xs.map g)) ∧ Ex0 s y.2 := by
  refine (lcF xs f (fun _ => true) g hl hA fun x hx s' h => (hE x hx s' h).mono fun y hy => ⟨by rw [hy.1, if_pos rfl], hy.2⟩).mono fun y hy => ?_
  rw [List.filter_eq_self.mpr (fun _ _ => rfl)] at hy
  exact hy
theorem tupF (xs : List α) (f : α → Mv) (p : α → Bool) (g : α → Mv) (hl : xs.length ≤ 1000000) (hA : Wp (A r s) fun y => Ex0 s y.2 ∧ ∀ s', Ex0 y.2 s' → items y.1 s' = some (xs.map f)) (hE : ∀ x ∈ xs, ∀ s', Ex0 s s' → Wp (mstep T C E (mwipe r vs) (f x) s') fun y => y.1 = (if p x then [g x] else []) ∧ Ex0 s' y.2) : Wp (mcall tupleW (mcons (mlc (miS A) T C E vs) (mnil)) r s) fun y => y.1 = .tup ((xs.filter p).map g) ∧ Ex0 s y.2 := by
  simp only [mcall, mcons, mnil, wp_ob, wp_some]
  refine (lcF xs f p g hl hA hE).mono fun y hy => ?_
  obtain ⟨v, s1⟩ := y
  obtain ⟨n, e, _, _, gn, x⟩ := hy
  simp only at e gn x
  subst e
  dsimp only
  have fl := List.length_filter_le p xs
  rw [tup_of (items_ref gn) (by rw [List.length_map]; omega), wp_some]
  exact ⟨rfl, x⟩
theorem mstep_f {w v : Mv} {b : Bool} {r1 : Me} (ha : T.asg w r = some r1) (hC : Wp (C r1 s) fun c => c.1 = b ∧ Ex0 s c.2) (hE : ∀ s', Ex0 s s' → Wp (E r1 s') fun y => y.1 = v ∧ Ex0 s' y.2) : Wp (mstep T C E r w s) fun y => y.1 = (if b then [v] else []) ∧ Ex0 s y.2 := by
  unfold mstep
  rw [ha, ob_of, wp_ob]
  refine hC.mono fun c hc => ?_
  obtain ⟨c, s1⟩ := c
  obtain ⟨e, x⟩ := hc
  simp only at e x
  subst e
  cases c with
  | true =>
    rw [cond_true, wp_om]
    exact (hE s1 x).mono fun y hy => ⟨by rw [hy.1, if_pos rfl], x.trans hy.2⟩
  | false =>
    rw [cond_false, wp_some]
    exact ⟨rfl, x⟩
theorem mvar_t {i : Nat} {v : Mv} (h : r[i]? = some (some v)) : mvar i r s = some (v, s) := by
  unfold mvar
  rw [lget_eq, h]
theorem bools_of40 : ∀ bs : List Bool, boolsOf (bs.map Mv.bl) = some bs
  | [] => rfl
  | b :: bs => by
    show (boolsOf (bs.map Mv.bl)).om (fun r => b :: r) = _
    rw [bools_of40 bs]; rfl
theorem any_map {s : Ms} {n : Nat} {xs : List α} {b : α → Bool} (g : s.get n = some (.lst (xs.map fun x => Mv.bl (b x)))) : anyW [.ref n] s = some (.bl (xs.any b), s) := by
  show ((lstOf (.ref n) s).ob fun ys => (boolsOf ys).om fun bs => (Mv.bl (bs.any id), s)) = _
  have e : lstOf (.ref n) s = some ((xs.map b).map Mv.bl) := by rw [List.map_map]; exact items_ref g
  rw [e, ob_of, bools_of40, om_of, List.any_map]; rfl
theorem all_map {s : Ms} {n : Nat} {xs : List α} {b : α → Bool} (g : s.get n = some (.lst (xs.map fun x => Mv.bl (b x)))) : allW [.ref n] s = some (.bl (xs.all b), s) := by
  show ((lstOf (.ref n) s).ob fun ys => (boolsOf ys).om fun bs => (Mv.bl (bs.all id), s)) = _
  have e : lstOf (.ref n) s = some ((xs.map b).map Mv.bl) := by rw [List.map_map]; exact items_ref g
  rw [e, ob_of, bools_of40, om_of, List.all_map]; rfl
theorem all_lc (xs : List α) (f : α → Mv) (b : α → Bool) (hl : xs.length ≤ 1000000) (hA : Wp (A r s) fun y => Ex0 s y.2 ∧ ∀ s', Ex0 y.2 s' → items y.1 s' = some (xs.map f)) (hE : ∀ x ∈ xs, ∀ s', Ex0 s s' → Wp (mstep T C E (mwipe r vs) (f x) s') fun y => y.1 = [.bl (b x)] ∧ Ex0 s' y.2) : Wp (mcall allW (mcons (mlc (miS A) T C E vs) (mnil)) r s) fun y => y.1 = .bl (xs.all b) ∧ Ex0 s y.2 := by
  simp only [mcall, mcons, mnil, wp_ob, wp_some]
  refine (lcM xs f (fun x => .bl (b x)) hl hA hE).mono fun y hy => ?_
  obtain ⟨v, s1⟩ := y
  obtain ⟨n, e, _, _, g, x⟩ := hy
  simp only at e g x
  subst e
  dsimp only
  rw [all_map g, wp_some]
  exact ⟨rfl, x⟩
/-- a test that tells a truth -/
theorem mt_tl {a : Bool} (hA : Wp (A r s) fun y => y.1 = .bl a ∧ Ex0 s y.2) : Wp (mtst A r s) fun y => y.1 = a ∧ Ex0 s y.2 := by
  unfold mtst
  rw [wp_ob]
  refine hA.mono fun y hy => ?_
  obtain ⟨v, s1⟩ := y
  obtain ⟨e, x⟩ := hy
  simp only at e x
  subst e
  exact ⟨_, rfl, rfl, x⟩
theorem mb_tl {a : Bool} (hA : Wp (A r s) fun y => y.1 = .bl a ∧ Ex0 s y.2) : Wp (mtB A r s) fun y => y.1 = a ∧ Ex0 s y.2 := by
  unfold mtB
  rw [wp_ob]
  refine hA.mono fun y hy => ?_
  obtain ⟨v, s1⟩ := y
  obtain ⟨e, x⟩ := hy
  simp only at e x
  subst e
  exact ⟨_, rfl, rfl, x⟩
end

end
section
/-! ### data that can be shown -/
structure SD (n m : Nat) (d : PyData) : Prop where
  sh : PyData.showable d = true
  nd : PyData.hasDict d = false
  dp : PyData.depth d ≤ n
  ls : PyData.leavesShort 13 d = true
  wt : PyData.weight d ≤ m
  lay : PyData.canLay0 d = true
theorem SD.mono {n m n' m' : Nat} {d : PyData} (h : SD n m d) (hn : n ≤ n') (hm : m ≤ m') : SD n' m' d := ⟨h.sh, h.nd, Nat.le_trans h.dp hn, h.ls, Nat.le_trans h.wt hm, h.lay⟩
theorem sd_str {x : Str} {m : Nat} (h : PyData.strOk x = true) (hm : x.cps.size ≤ m) : SD 0 m (.str x) := by
  refine ⟨by simp [PyData.showable], by simp [PyData.hasDict], by simp [PyData.depth], ?_, by simpa [PyData.weight] using hm, by simpa [PyData.canLay0] using h⟩
  unfold PyData.strOk at h
  simp only [PyData.leavesShort, List.all_eq_true]
  intro c hc
  have := Array.all_eq_true_iff_forall_mem.mp h c (by simpa using hc)
  have := of_decide_eq_true this
  exact decide_eq_true (by omega)
theorem sd_int {k : Nat} (h : k < 1000000) : SD 0 20 (.int (k : Int)) := by
  have hl : k.log2 < 20 := by
    by_cases h0 : k = 0
    · subst h0; decide
    · exact (Nat.log2_lt h0).mpr (by omega)
  refine ⟨?_, by simp [PyData.hasDict], by simp [PyData.depth], ?_, ?_, by simp [PyData.canLay0]⟩
  · simp only [PyData.showable, Int.natAbs_natCast]
    exact decide_eq_true (by omega)
  · simp only [PyData.leavesShort]
    exact decide_eq_true (PyData.shown_int_le (by simp only [Int.natAbs_natCast]; omega))
  · simp only [PyData.weight, Int.natAbs_natCast]
    split <;> omega
theorem sd_all {n m : Nat} : ∀ {ds : List PyData}, (∀ d ∈ ds, SD n m d) → PyData.showableAll ds = true ∧ PyData.hasDictAll ds = false ∧ PyData.depthAll ds ≤ n ∧ PyData.leavesShortAll 13 ds = true ∧ PyData.weightAll ds ≤ (m + 1) * ds.length ∧ PyData.canLayAll0 ds = true
  | [], _ => by simp [PyData.showableAll, PyData.hasDictAll, PyData.depthAll, PyData.leavesShortAll, PyData.weightAll, PyData.canLayAll0]
  | d :: ds, h => by
    have h1 := h d (by simp)
    obtain ⟨a1, a2, a3, a4, a5, a6⟩ := sd_all (ds := ds) fun x hx => h x (by simp [hx])
    have hw := h1.wt
    have hd := h1.dp
    refine ⟨by simp [PyData.showableAll, h1.sh, a1], by simp [PyData.hasDictAll, h1.nd, a2], ?_, by simp [PyData.leavesShortAll, h1.ls, a4], ?_, by simp [PyData.canLayAll0, h1.lay, a6]⟩
    · simp only [PyData.depthAll]; omega
    · simp only [PyData.weightAll, List.length_cons]
      rw [Nat.mul_succ]
      omega
theorem sd_tup {n m : Nat} {ds : List PyData} (h : ∀ d ∈ ds, SD n m d) : SD (n + 1) ((m + 1) * ds.length) (.tuple ds) := by
  obtain ⟨a1, a2, a3, a4, a5, a6⟩ := sd_all h
  exact ⟨by simpa [PyData.showable] using a1, by simpa [PyData.hasDict] using a2, by simp only [PyData.depth]; omega, by simpa [PyData.leavesShort] using a4, by simpa [PyData.weight] using a5, by simpa [PyData.canLay0] using a6⟩
theorem SD.show {d : PyData} (h : SD 30 1000000 d) : showD d = true := by
  have h1 := PyData.shown_le 13 (by decide) d h.ls
  have h2 := h.wt
  unfold showD
  rw [h.sh, h.nd, Nat.ble_eq_true_of_le h.dp, Nat.ble_eq_true_of_le (by omega)]
  rfl
theorem SD.eqv {n m : Nat} {d : PyData} (h : SD n m d) : PyData.eqv d d = true := PySem.SeqAt.eqv_refl d h.lay
/-- a reference, read as data -/
structure Img (s : Ms) (v : Mv) (d : PyData) (L : List Nat) : Prop where
  lt : ∀ z ∈ L, z < s.sz
  rd : ∀ s' : Ms, (∀ z ∈ L, s'.get z = s.get z) → toD 24 s' v = some d
theorem Img.toD {s : Ms} {v : Mv} {d : PyData} {L : List Nat} (h : Img s v d L) : toD 24 s v = some d := h.rd s fun _ _ => rfl
theorem Img.ext {s s' : Ms} {v : Mv} {d : PyData} {L M : List Nat} (h : Img s v d L) (x : ExtL M s s') (hd : ∀ z ∈ L, z ∉ M) : Img s' v d L := ⟨fun z hz => Nat.lt_of_lt_of_le (h.lt z hz) x.sz, fun s2 h2 => h.rd s2 fun z hz => (h2 z hz).trans (x.get z (h.lt z hz) (hd z hz))⟩
theorem Img.ex0 {s s' : Ms} {v : Mv} {d : PyData} {L : List Nat} (h : Img s v d L) (x : Ex0 s s') : Img s' v d L := h.ext (M := []) x.extL fun _ _ => by simp
theorem same_sp {s : Ms} {n m : Nat} {d : PyData} (h1 : toD 24 s (.ref n) = some d) (h2 : toD 24 s (.ref m) = some d) (hd : showD d = true) : m__law_same [.ref n, .ref m] s = some (.bl true, s) := by
  have e : ∀ j, toD 24 s (.ref j) = some d → reprW [.ref j] s = some (.str (PyData.shown d), s) := fun j hj => by
    show (toD 24 s (.ref j)).ob (fun d => cond (showD d) (some (Mv.str (PyData.shown d), s)) none) = _
    rw [hj, ob_of, hd]; rfl
  refine Wp.eq (wp_fn [some (.ref n), some (.ref m)] rfl rfl ?_)
  unfold bd__law_same
  simp only [wp_ob, wp_om, wp_some, wp_mvar, sset, sexp, sret, sif, spar, spar3, snx, mtB, mtst, mop1, mop2, mcall, mcons, mnil, mcon, mif, mtup, mlst, mand, mor, mnot, mandV, morV, mnotV, lset_eq, List.getElem?_cons_zero, List.getElem?_cons_succ, List.set_cons_zero, List.set_cons_succ, cond_true, cond_false, e n h1, e m h2, eq_str, decide_true]
  exact ⟨_, rfl, rfl⟩

end
section
/-! ### data of any kind: values, read as data -/
mutual
inductive Vd (W b qq : Nat) (s : Ms) : Mv → PyData → Prop
  | non : Vd W b qq s .non .none
  | bl (x : Bool) : Vd W b qq s (.bl x) (.bool x)
  | int (i : Int) : i.natAbs < 1000000 → Vd W b qq s (.int i) (.int i)
  | str {x : Str} : PyData.strOk x = true → x.cps.size ≤ 20 → Vd W b qq s (.str x) (.str x)
  | tup {ws : List Mv} {ds : List PyData} : ds.length ≤ W → VdL W b qq s ws ds → Vd W b qq s (.tup ws) (.tuple ds)
  | lst {n : Nat} {ws : List Mv} {ds : List PyData} : ds.length ≤ W → n < s.sz → (n ≠ b ∧ n ≠ qq) → s.get n = some (.lst ws) → VdL W b qq s ws ds → Vd W b qq s (.ref n) (.list ds)
inductive VdL (W b qq : Nat) (s : Ms) : List Mv → List PyData → Prop
  | nil : VdL W b qq s [] []
  | cons {w : Mv} {d : PyData} {ws : List Mv} {ds : List PyData} : Vd W b qq s w d → VdL W b qq s ws ds → VdL W b qq s (w :: ws) (d :: ds)
end
mutual
theorem Vd.ext {W b qq : Nat} {s s' : Ms} (x : Ext b s s') : ∀ {w : Mv} {d : PyData}, Vd W b qq s w d → Vd W b qq s' w d
  | _, _, .non => .non
  | _, _, .bl y => .bl y
  | _, _, .int i k => .int i k
  | _, _, .str h k => .str h k
  | _, _, .tup k l => .tup k (VdL.ext x l)
  | _, _, .lst k h hb g l => .lst k (Nat.lt_of_lt_of_le h x.sz) hb (x.at h hb.1 g) (VdL.ext x l)
theorem VdL.ext {W b qq : Nat} {s s' : Ms} (x : Ext b s s') : ∀ {w : List Mv} {d : List PyData}, VdL W b qq s w d → VdL W b qq s' w d
  | _, _, .nil => .nil
  | _, _, .cons a l => .cons (Vd.ext x a) (VdL.ext x l)
end
theorem Vd.ex0 {W b qq : Nat} {s s' : Ms} (x : Ex0 s s') {w : Mv} {d : PyData} (h : Vd W b qq s w d) : Vd W b qq s' w d := h.ext x.ext
theorem VdL.ex0 {W b qq : Nat} {s s' : Ms} (x : Ex0 s s') {w : List Mv} {d : List PyData} (h : VdL W b qq s w d) : VdL W b qq s' w d := h.ext x.ext
mutual
theorem Vd.wide {W W' b qq : Nat} {s : Ms} (x : W ≤ W') : ∀ {w : Mv} {d : PyData}, Vd W b qq s w d → Vd W' b qq s w d
  | _, _, .non => .non
  | _, _, .bl y => .bl y
  | _, _, .int i k => .int i k
  | _, _, .str h k => .str h k
  | _, _, .tup k l => .tup (Nat.le_trans k x) (VdL.wide x l)
  | _, _, .lst k h hb g l => .lst (Nat.le_trans k x) h hb g (VdL.wide x l)
theorem VdL.wide {W W' b qq : Nat} {s : Ms} (x : W ≤ W') : ∀ {w : List Mv} {d : List PyData}, VdL W b qq s w d → VdL W' b qq s w d
  | _, _, .nil => .nil
  | _, _, .cons a l => .cons (Vd.wide x a) (VdL.wide x l)
end
mutual
theorem Vd.fresh {W b qq q' : Nat} {s : Ms} (x : s.sz ≤ q') : ∀ {w : Mv} {d : PyData}, Vd W b qq s w d → Vd W b q' s w d
  | _, _, .non => .non
  | _, _, .bl y => .bl y
  | _, _, .int i k => .int i k
  | _, _, .str h k => .str h k
  | _, _, .tup k l => .tup k (VdL.fresh x l)
  | _, _, .lst k h hb g l => .lst k h ⟨hb.1, by omega⟩ g (VdL.fresh x l)
theorem VdL.fresh {W b qq q' : Nat} {s : Ms} (x : s.sz ≤ q') : ∀ {w : List Mv} {d : List PyData}, VdL W b qq s w d → VdL W b q' s w d
  | _, _, .nil => .nil
  | _, _, .cons a l => .cons (Vd.fresh x a) (VdL.fresh x l)
end
mutual
theorem Vd.putq {W b qq : Nat} {s : Ms} {o : Mo} : ∀ {w : Mv} {d : PyData}, Vd W b qq s w d → Vd W b qq (s.put qq o) w d
  | _, _, .non => .non
  | _, _, .bl y => .bl y
  | _, _, .int i k => .int i k
  | _, _, .str h k => .str h k
  | _, _, .tup k l => .tup k (VdL.putq l)
  | _, _, .lst k h hb g l => .lst k h hb (by rw [put_get', if_neg hb.2]; exact g) (VdL.putq l)
theorem VdL.putq {W b qq : Nat} {s : Ms} {o : Mo} : ∀ {w : List Mv} {d : List PyData}, VdL W b qq s w d → VdL W b qq (s.put qq o) w d
  | _, _, .nil => .nil
  | _, _, .cons a l => .cons (Vd.putq a) (VdL.putq l)
end
section
variable {W b qq : Nat} {s : Ms}
theorem VdL.len : ∀ {ws : List Mv} {ds : List PyData}, VdL W b qq s ws ds → ws.length = ds.length
  | _, _, .nil => rfl
  | _, _, .cons _ l => by rw [List.length_cons, List.length_cons, l.len]
theorem VdL.get : ∀ {ws : List Mv} {ds : List PyData}, VdL W b qq s ws ds → ∀ {i : Nat} {w : Mv}, ws[i]? = some w → ∃ d, ds[i]? = some d ∧ Vd W b qq s w d
  | _, _, .nil, i, w, e => by simp at e
  | _, _, .cons h _, 0, w, e => by simp at e; subst e; exact ⟨_, rfl, h⟩
  | _, _, .cons _ l, i + 1, w, e => by simpa using l.get (i := i) (by simpa using e)
theorem VdL.getd : ∀ {ws : List Mv} {ds : List PyData}, VdL W b qq s ws ds → ∀ {i : Nat} {d : PyData}, ds[i]? = some d → ∃ w, ws[i]? = some w ∧ Vd W b qq s w d
  | _, _, .nil, i, w, e => by simp at e
  | _, _, .cons h _, 0, w, e => by simp at e; subst e; exact ⟨_, rfl, h⟩
  | _, _, .cons _ l, i + 1, w, e => by simpa using l.getd (i := i) (by simpa using e)
theorem VdL.append : ∀ {ws vs : List Mv} {ds es : List PyData}, VdL W b qq s ws ds → VdL W b qq s vs es → VdL W b qq s (ws ++ vs) (ds ++ es)
  | _, _, _, _, .nil, h => h
  | _, _, _, _, .cons a l, h => .cons a (l.append h)
theorem VdL.take : ∀ {ws : List Mv} {ds : List PyData} (n : Nat), VdL W b qq s ws ds → VdL W b qq s (ws.take n) (ds.take n)
  | _, _, 0, _ => .nil
  | _, _, n + 1, .nil => .nil
  | _, _, n + 1, .cons a l => .cons a (l.take n)
theorem VdL.drop : ∀ {ws : List Mv} {ds : List PyData} (n : Nat), VdL W b qq s ws ds → VdL W b qq s (ws.drop n) (ds.drop n)
  | _, _, 0, h => h
  | _, _, n + 1, .nil => .nil
  | _, _, n + 1, .cons _ l => l.drop n
theorem VdL.rev : ∀ {ws : List Mv} {ds : List PyData}, VdL W b qq s ws ds → VdL W b qq s ws.reverse ds.reverse
  | _, _, .nil => .nil
  | _, _, .cons a l => by rw [List.reverse_cons, List.reverse_cons]; exact l.rev.append (.cons a .nil)
theorem VdL.map {α : Type} {f : α → Mv} {g : α → PyData} : ∀ {l : List α}, (∀ x ∈ l, Vd W b qq s (f x) (g x)) → VdL W b qq s (l.map f) (l.map g)
  | [], _ => .nil
  | a :: l, h => .cons (h a (List.mem_cons_self ..)) (VdL.map fun x hx => h x (List.mem_cons_of_mem _ hx))
/-- the pairs of value and datum -/
theorem VdL.zip : ∀ {ws : List Mv} {ds : List PyData}, VdL W b qq s ws ds → (ws.zip ds).map (·.1) = ws ∧ (ws.zip ds).map (·.2) = ds ∧ ∀ q ∈ ws.zip ds, Vd W b qq s q.1 q.2
  | _, _, .nil => ⟨rfl, rfl, fun _ h => nomatch h⟩
  | _, _, .cons a l => by
    obtain ⟨h1, h2, h3⟩ := l.zip
    refine ⟨by rw [List.zip_cons_cons, List.map_cons, h1], by rw [List.zip_cons_cons, List.map_cons, h2], fun q hq => ?_⟩
    rcases List.mem_cons.mp hq with rfl | hq
    · exact a
    · exact h3 q hq
end
/-! ### how deep, how heavy -/
theorem dep_mem {d : PyData} : ∀ {ds : List PyData}, d ∈ ds → PyData.depth d ≤ PyData.depthAll ds
  | e :: ds, h => by
    simp only [PyData.depthAll]
    rcases List.mem_cons.mp h with rfl | h
    · omega
    · have := dep_mem h; omega
mutual
theorem toD_vd {W b qq : Nat} {s : Ms} : ∀ {w : Mv} {d : PyData}, Vd W b qq s w d → ∀ n, PyData.depth d < n → toD n s w = some d
  | _, _, .non, n + 1, _ => rfl
  | _, _, .bl x, n + 1, _ => rfl
  | _, _, .int i _, n + 1, _ => rfl
  | _, _, .str h _, n + 1, _ => by
    show cond (PyData.strOk _) _ _ = _
    rw [h]; rfl
  | _, _, .tup (ws := ws) _ l, n + 1, hn => by
    show (toDL (toD n s) ws).om PyData.tuple = _
    rw [toDL_vd l n (by simp only [PyData.depth] at hn; omega)]; rfl
  | _, _, .lst (n := a) (ws := ws) _ _ _ g l, n + 1, hn => by
    show (match s.get a with | some (.lst ws) => (toDL (toD n s) ws).om PyData.list | _ => none) = _
    rw [g]
    show (toDL (toD n s) ws).om PyData.list = _
    rw [toDL_vd l n (by simp only [PyData.depth] at hn; omega)]; rfl
theorem toDL_vd {W b qq : Nat} {s : Ms} : ∀ {ws : List Mv} {ds : List PyData}, VdL W b qq s ws ds → ∀ n, PyData.depthAll ds < n → toDL (toD n s) ws = some ds
  | _, _, .nil, _, _ => rfl
  | _, _, .cons (w := w) (ws := ws) a l, n, hn => by
    simp only [PyData.depthAll] at hn
    show (toD n s w).ob (fun d => (toDL (toD n s) ws).om fun ds => d :: ds) = _
    rw [toD_vd a n (by omega), ob_of, toDL_vd l n (by omega)]; rfl
end
theorem w_app : ∀ (xs ys : List PyData), PyData.weightAll (xs ++ ys) = PyData.weightAll xs + PyData.weightAll ys
  | [], ys => by simp [PyData.weightAll]
  | x :: xs, ys => by
    rw [List.cons_append]
    simp only [PyData.weightAll]
    rw [w_app xs ys]
    omega
theorem w_len : ∀ (xs : List PyData), xs.length ≤ PyData.weightAll xs
  | [] => Nat.le_refl _
  | x :: xs => by simp only [PyData.weightAll, List.length_cons]; have := w_len xs; omega
/-- all of these are as deep, all together as heavy -/
structure SDs (n m : Nat) (ds : List PyData) : Prop where
  one : ∀ d ∈ ds, SD n m d
  wt : PyData.weightAll ds ≤ m
theorem SDs.sub {n m : Nat} {ds es : List PyData} (h : SDs n m ds) (s : es.Sublist ds) : SDs n m es := by
  refine ⟨fun d hd => h.one d (s.subset hd), Nat.le_trans ?_ h.wt⟩
  clear h
  induction s with
  | slnil => exact Nat.le_refl _
  | cons a _ ih => simp only [PyData.weightAll]; omega
  | cons_cons a _ ih => simp only [PyData.weightAll]; omega
theorem SDs.app {n m n' m' k l : Nat} {ds es : List PyData} (h : SDs n m ds) (g : SDs n' m' es) (h1 : n ≤ k) (h2 : n' ≤ k) (h3 : m + m' ≤ l) : SDs k l (ds ++ es) := by
  refine ⟨fun d hd => ?_, by rw [w_app]; have := h.wt; have := g.wt; omega⟩
  rcases List.mem_append.mp hd with hd | hd
  · exact (h.one d hd).mono h1 (by omega)
  · exact (g.one d hd).mono h2 (by omega)
theorem SDs.len {n m : Nat} {ds : List PyData} (h : SDs n m ds) : ds.length ≤ m := Nat.le_trans (w_len ds) h.wt
theorem SDs.all {n m : Nat} : ∀ {ds : List PyData}, SDs n m ds → PyData.showableAll ds = true ∧ PyData.hasDictAll ds = false ∧ PyData.depthAll ds ≤ n ∧ PyData.leavesShortAll 13 ds = true ∧ PyData.canLayAll0 ds = true := fun {ds} h =>
  let ⟨a1, a2, a3, a4, _, a6⟩ := sd_all h.one
  ⟨a1, a2, a3, a4, a6⟩
theorem SDs.tup {n m : Nat} {ds : List PyData} (h : SDs n m ds) : SD (n + 1) m (.tuple ds) := by
  obtain ⟨a1, a2, a3, a4, a6⟩ := h.all
  exact ⟨by simpa [PyData.showable] using a1, by simpa [PyData.hasDict] using a2, by simp only [PyData.depth]; omega, by simpa [PyData.leavesShort] using a4, by simpa [PyData.weight] using h.wt, by simpa [PyData.canLay0] using a6⟩
theorem SDs.lst {n m : Nat} {ds : List PyData} (h : SDs n m ds) : SD (n + 1) m (.list ds) := by
  obtain ⟨a1, a2, a3, a4, a6⟩ := h.all
  exact ⟨by simpa [PyData.showable] using a1, by simpa [PyData.hasDict] using a2, by simp only [PyData.depth]; omega, by simpa [PyData.leavesShort] using a4, by simpa [PyData.weight] using h.wt, by simpa [PyData.canLay0] using a6⟩
theorem sd_in {n m : Nat} : ∀ {ds : List PyData}, PyData.showableAll ds = true → PyData.hasDictAll ds = false → PyData.depthAll ds ≤ n → PyData.leavesShortAll 13 ds = true → PyData.weightAll ds ≤ m → PyData.canLayAll0 ds = true → ∀ d ∈ ds, SD n m d
  | e :: ds, a1, a2, a3, a4, a5, a6, d, hd => by
    simp only [PyData.showableAll, PyData.hasDictAll, PyData.depthAll, PyData.leavesShortAll, PyData.weightAll, PyData.canLayAll0, Bool.and_eq_true, Bool.or_eq_false_iff] at a1 a2 a3 a4 a5 a6
    rcases List.mem_cons.mp hd with rfl | hd
    · exact ⟨a1.1, a2.1, by omega, a4.1, by omega, a6.1⟩
    · exact sd_in a1.2 a2.2 (by omega) a4.2 (by omega) a6.2 d hd
theorem SD.untup {n m : Nat} {ds : List PyData} (h : SD n m (.tuple ds)) : 1 ≤ n ∧ SDs (n - 1) m ds := by
  have a3 := h.dp
  have a5 := h.wt
  simp only [PyData.depth] at a3
  simp only [PyData.weight] at a5
  refine ⟨by omega, sd_in (by simpa [PyData.showable] using h.sh) (by simpa [PyData.hasDict] using h.nd) (by omega) (by simpa [PyData.leavesShort] using h.ls) a5 (by simpa [PyData.canLay0] using h.lay), a5⟩
theorem SD.unlst {n m : Nat} {ds : List PyData} (h : SD n m (.list ds)) : 1 ≤ n ∧ SDs (n - 1) m ds := by
  have a3 := h.dp
  have a5 := h.wt
  simp only [PyData.depth] at a3
  simp only [PyData.weight] at a5
  refine ⟨by omega, sd_in (by simpa [PyData.showable] using h.sh) (by simpa [PyData.hasDict] using h.nd) (by omega) (by simpa [PyData.leavesShort] using h.ls) a5 (by simpa [PyData.canLay0] using h.lay), a5⟩

end
section
/-! ### what is asked of such values, step by step -/
def dTy : PyData → Mty
  | .none => .none
  | .bool _ => .bool
  | .int _ => .int
  | .str _ => .str
  | .list _ => .list
  | .tuple _ => .tuple
  | _ => .dict
section
variable {W b qq : Nat} {s : Ms} {r : Me} {w : Mv} {d : PyData}
theorem tyOf_vd (h : Vd W b qq s w d) : tyOf w s = some (dTy d) := by
  cases h with
  | lst _ _ _ g _ =>
    unfold tyOf
    dsimp only
    rw [g]; rfl
  | _ => rfl
theorem isi_vd (h : Vd W b qq s w d) (c : Mty) : isiW [w, .ty c] s = some (.bl (isaT (dTy d) c), s) := by
  show (tyOf w s).om _ = _
  rw [tyOf_vd h]; rfl
theorem ev_isi {i : Nat} {c : Mty} (e : r[i]? = some (some w)) (h : Vd W b qq s w d) : (mcall isiW (mcons (mvar i) (mcons (mcon (.ty c)) mnil))) r s = some (.bl (isaT (dTy d) c), s) := by
  simp only [mcall, mcons, mcon, mnil, mvar_t e, ob_of, om_of]
  exact isi_vd h c
theorem ev_len {i : Nat} {ws : List Mv} (e : r[i]? = some (some (.tup ws))) : (mcall lenW (mcons (mvar i) mnil)) r s = some (.int (ws.length : Nat), s) := by
  simp only [mcall, mcons, mcon, mnil, mvar_t e, ob_of, om_of]
  rfl
theorem ev_ix {i k : Nat} {ws : List Mv} {u : Mv} (e : r[i]? = some (some (.tup ws))) (h : ws[k]? = some u) : (mop2 ixA (mvar i) (mcon (.int (k : Int)))) r s = some (u, s) := by
  simp only [mop2, mvar_t e, ob_of, mcon]
  exact ixA_of (items_tup) (atF_of h)
theorem t_of {A : Fe} {c : Bool} (h : A r s = some (.bl c, s)) : (mtst A) r s = some (c, s) := by
  unfold mtst
  rw [h]; rfl
theorem b_of {A : Fe} {c : Bool} (h : A r s = some (.bl c, s)) : (mtB A) r s = some (c, s) := by
  unfold mtB
  rw [h]; rfl
theorem n_of {C : Ft} {c : Bool} (h : C r s = some (c, s)) : (mnot C) r s = some (!c, s) := by
  unfold mnot
  rw [h]; rfl
theorem e_wp {A : Fe} {v : Mv} (h : A r s = some (v, s)) : Wp (A r s) fun y => y.1 = v ∧ Ex0 s y.2 := ⟨_, h, rfl, Ex0.refl⟩
theorem c_wp {C : Ft} {c : Bool} (h : C r s = some (c, s)) : Wp (C r s) fun y => y.1 = c ∧ Ex0 s y.2 := ⟨_, h, rfl, Ex0.refl⟩
theorem not_sp {C : Ft} {c : Bool} (h : Wp (C r s) fun y => y.1 = c ∧ Ex0 s y.2) : Wp (mnot C r s) fun y => y.1 = !c ∧ Ex0 s y.2 := by
  unfold mnot
  rw [wp_om]
  exact h.mono fun y hy => ⟨by rw [hy.1], hy.2⟩
theorem tor_sp {C D : Ft} {c k : Bool} (hC : Wp (C r s) fun y => y.1 = c ∧ Ex0 s y.2) (hD : c = false → ∀ s', Ex0 s s' → Wp (D r s') fun y => y.1 = k ∧ Ex0 s' y.2) : Wp (mor C D r s) fun y => y.1 = (c || k) ∧ Ex0 s y.2 := by
  cases c with
  | true => exact wp_ort (hC.mono fun y hy => ⟨hy.1, rfl, hy.2⟩)
  | false => exact wp_orf (hC.mono fun y hy => ⟨hy.1, (hD rfl _ hy.2).mono fun z hz => ⟨hz.1, hy.2.trans hz.2⟩⟩)
theorem and_sp {A B : Fe} {c k : Bool} (hA : Wp (A r s) fun y => y.1 = .bl c ∧ Ex0 s y.2) (hB : c = true → ∀ s', Ex0 s s' → Wp (B r s') fun y => y.1 = .bl k ∧ Ex0 s' y.2) : Wp (mandV A B r s) fun y => y.1 = .bl (c && k) ∧ Ex0 s y.2 := by
  unfold mandV
  rw [wp_ob]
  refine hA.mono fun y hy => ?_
  obtain ⟨v, s1⟩ := y
  obtain ⟨e, x⟩ := hy
  simp only at e x
  subst e
  cases c with
  | false => exact ⟨_, rfl, rfl, x⟩
  | true => exact (hB rfl s1 x).mono fun y hy => ⟨hy.1, x.trans hy.2⟩
theorem or_sp {A B : Fe} {c k : Bool} (hA : Wp (A r s) fun y => y.1 = .bl c ∧ Ex0 s y.2) (hB : c = false → ∀ s', Ex0 s s' → Wp (B r s') fun y => y.1 = .bl k ∧ Ex0 s' y.2) : Wp (morV A B r s) fun y => y.1 = .bl (c || k) ∧ Ex0 s y.2 := by
  unfold morV
  rw [wp_ob]
  refine hA.mono fun y hy => ?_
  obtain ⟨v, s1⟩ := y
  obtain ⟨e, x⟩ := hy
  simp only at e x
  subst e
  cases c with
  | true => exact ⟨_, rfl, rfl, x⟩
  | false => exact (hB rfl s1 x).mono fun y hy => ⟨hy.1, x.trans hy.2⟩
theorem guard_sp {C : Ft} {R : Fs} {c k : Bool} (hC : Wp (C r s) fun x => x.1 = c ∧ Ex0 s x.2) (h : c = false → ∀ s', Ex0 s s' → Wp (R r s') fun x => x.1 = .rt (.bl k) ∧ Ex0 s' x.2.2) : Wp (sseq (sif C (sret (mcon (.bl false))) snx) R r s) fun x => x.1 = .rt (.bl (!c && k)) ∧ Ex0 s x.2.2 := by
  cases c with
  | true => exact wp_seqR (wp_sift (hC.mono fun y hy => ⟨hy.1, .of rfl (.inr ⟨_, rfl, rfl, hy.2⟩)⟩))
  | false => exact wp_seqR (wp_siff (hC.mono fun y hy => ⟨hy.1, .of rfl (.inl ⟨rfl, (h rfl _ hy.2).mono fun z hz => ⟨hz.1, hy.2.trans hz.2⟩⟩)⟩))
theorem ret_sp {A : Fe} {v : Mv} (h : Wp (A r s) fun y => y.1 = v ∧ Ex0 s y.2) : Wp (sret A r s) fun x => x.1 = .rt v ∧ Ex0 s x.2.2 := by
  unfold sret
  rw [wp_om]
  exact h.mono fun y hy => ⟨by rw [hy.1], hy.2⟩
theorem fn_sp {np nl : Nat} {B : Fs} {ws : List Mv} {v : Mv} (r : Me) (hl : ws.length = np) (hr : lsome (nl - np) ws = r) (h : Wp (B r s) fun x => x.1 = .rt v ∧ Ex0 s x.2.2) : Wp (fnM np nl B ws s) fun y => y.1 = v ∧ Ex0 s y.2 :=
  wp_fn r hl hr (h.mono fun x hx => ⟨v, hx.1, rfl, hx.2⟩)
theorem call_sp1 {f : Fn} {A : Fe} {u v : Mv} (e : A r s = some (u, s)) (h : Wp (f [u] s) fun y => y.1 = v ∧ Ex0 s y.2) : Wp (mcall f (mcons A mnil) r s) fun y => y.1 = v ∧ Ex0 s y.2 := by
  simp only [mcall, mcons, mnil, e, ob_of, om_of]
  exact h
theorem op_e {f : Mv → Mv → Ms → Option (Mv × Ms)} {A B : Fe} {u v z : Mv} (e1 : A r s = some (u, s)) (e2 : B r s = some (v, s)) (h : f u v s = some (z, s)) : (mop2 f A B) r s = some (z, s) := by
  simp only [mop2, e1, e2, ob_of]
  exact h
theorem eq_nat {m n : Nat} : eqW (.int (m : Int)) (.int (n : Int)) s = some (.bl (decide (m = n)), s) := by
  rw [eq_int]
  congr 3
  exact decide_eq_decide.mpr (by omega)
theorem ne_nat {m n : Nat} : neW (.int (m : Int)) (.int (n : Int)) s = some (.bl (!decide (m = n)), s) := by
  have e : eqBo (.int (m : Int)) (.int (n : Int)) s = some (decide (m = n)) := by
    show some (iEq _ _) = _
    rw [iEq_eq]
    congr 1
    exact decide_eq_decide.mpr (by omega)
  unfold neW
  rw [e]; rfl
/-! names, versions -/
def nameD : PyData → Bool
  | .str x => nameB x
  | _ => false
def verD : PyData → Bool
  | .str x => nameB x || decide (x = x_)
  | _ => false
theorem name_vd (h : Vd W b qq s w d) : Wp (m_is_name [w] s) fun y => y.1 = .bl (nameD d) ∧ Ex0 s y.2 := by
  have no : dTy d ≠ .str → nameD d = false → Wp (m_is_name [w] s) fun y => y.1 = .bl (nameD d) ∧ Ex0 s y.2 := fun h1 h2 => by
    rw [is_name_not (tyOf_vd h) h1, h2]
    exact ⟨_, rfl, rfl, Ex0.refl⟩
  cases h with
  | str ho hz => exact is_name_str (by show _ ≤ 1000; unfold Str.length; omega)
  | non => exact no (by decide) rfl
  | bl => exact no (by simp [dTy]) rfl
  | int => exact no (by simp [dTy]) rfl
  | tup => exact no (by simp [dTy]) rfl
  | lst => exact no (by simp [dTy]) rfl
theorem ver_vd (h : Vd W b qq s w d) : Wp (m_is_version [w] s) fun y => y.1 = .bl (verD d) ∧ Ex0 s y.2 := by
  refine fn_sp (v := .bl (verD d)) [some w] rfl rfl ?_
  unfold bd_is_version
  refine ret_sp ?_
  have e : verD d = (nameD d || (isaT (dTy d) .str && (match d with | .str x => decide (x = x_) | _ => false))) := by cases d <;> rfl
  rw [e]
  refine or_sp (call_sp1 rfl (name_vd h)) fun _ s1 x1 => and_sp (e_wp (ev_isi rfl (h.ex0 x1))) fun hs s2 x2 => ?_
  cases h with
  | str ho hz => exact e_wp (op_e (u := .str _) (v := .str x_) rfl rfl eq_str)
  | _ => exact absurd hs (by simp [dTy, isaT])
end

end
section
/-! ### comprehensions and loops that only add to the store -/
section
variable {I : Fi} {B R : Fs} {E : Fe} {T : Tg} {C : Ft} {vs : List Nat} {r : Me} {s : Ms} {α : Type}
theorem lcI (xs : List α) (f g : α → Mv) (hl : xs.length ≤ 1000000) (hI : Wp (I r s) fun y => Ex0 s y.2 ∧ ∀ s', Ex0 y.2 s' → Gives y.1 (xs.map f) s') (hE : ∀ x ∈ xs, ∀ s', Ex0 s s' → Wp (mstep T C E (mwipe r vs) (f x) s') fun y => y.1 = [g x] ∧ Ex0 s' y.2) :
    Wp (mlc I T C E vs r s) fun y => ∃ n, y.1 = .ref n ∧ s.sz ≤ n ∧ n < y.2.sz ∧ y.2.get n = some (.lst (xs.map g)) ∧ Ex0 s y.2 := by
  refine wp_lc (hI.mono fun y hy => ?_)
  obtain ⟨it, s1⟩ := y
  obtain ⟨x1, gi⟩ := hy
  simp only at x1 gi
  refine (wp_flat (xs.map f) (fun i acc s' => acc = (xs.take i).map g ∧ Ex0 s1 s') (fun i acc s' _ a => gi s' a.2) ?_ 1000000000 0 [] s1 (by rw [List.length_map]; omega) (by omega) ⟨rfl, Ex0.refl⟩).mono ?_
  · rintro i u acc s' hu ⟨rfl, xx⟩
    rw [List.getElem?_map] at hu
    obtain ⟨x, hx, rfl⟩ := Option.map_eq_some_iff.mp hu
    refine (hE x (List.mem_of_getElem? hx) s' (x1.trans xx)).mono fun y hy => ?_
    obtain ⟨e, x2⟩ := hy
    refine ⟨?_, xx.trans x2⟩
    rw [List.take_add_one, hx, List.map_append, e]
    rfl
  rintro ⟨acc, s2⟩ ⟨e2, x2⟩
  simp only [List.nil_append] at e2 x2
  rw [List.length_map, List.take_length] at e2
  subst e2
  have x12 := x1.trans x2
  exact ⟨by rw [List.length_map]; omega, _, rfl, x12.sz, by simp only [push_sz]; omega, Ms.get_push, x12.trans Ex0.push⟩
theorem all_lcI (xs : List α) (f : α → Mv) (c : α → Bool) (hl : xs.length ≤ 1000000) (hI : Wp (I r s) fun y => Ex0 s y.2 ∧ ∀ s', Ex0 y.2 s' → Gives y.1 (xs.map f) s') (hE : ∀ x ∈ xs, ∀ s', Ex0 s s' → Wp (mstep T C E (mwipe r vs) (f x) s') fun y => y.1 = [.bl (c x)] ∧ Ex0 s' y.2) :
    Wp (mcall allW (mcons (mlc I T C E vs) (mnil)) r s) fun y => y.1 = .bl (xs.all c) ∧ Ex0 s y.2 := by
  simp only [mcall, mcons, mnil, wp_ob, wp_some]
  refine (lcI xs f (fun x => .bl (c x)) hl hI hE).mono fun y hy => ?_
  obtain ⟨v, s1⟩ := y
  obtain ⟨n, e, _, _, g, x⟩ := hy
  simp only at e g x
  subst e
  dsimp only
  rw [all_map g, wp_some]
  exact ⟨rfl, x⟩
/-- a loop that tells False at the first bad one -/
theorem for_inv (xs : List α) (f : α → Mv) (c : α → Bool) {k : Bool} (Er : Me → Prop) (h0 : Er r) (hl : xs.length ≤ 1000000) (hI : Wp (I r s) fun y => Ex0 s y.2 ∧ ∀ s', Ex0 y.2 s' → Gives y.1 (xs.map f) s')
    (hB : ∀ x ∈ xs, ∀ r' s', Er r' → Ex0 s s' → ∃ r1, T.asg (f x) r' = some r1 ∧ Wp (B r1 s') fun y => (if c x then y.1 = .rt (.bl false) else y.1 = .nx ∧ Er y.2.1) ∧ Ex0 s' y.2.2)
    (hR : xs.any c = false → ∀ r' s', Er r' → Ex0 s s' → Wp (R r' s') fun y => y.1 = .rt (.bl k) ∧ Ex0 s' y.2.2) : Wp (sseq (sfor I T B) R r s) fun x => x.1 = .rt (.bl (!xs.any c && k)) ∧ Ex0 s x.2.2 := by
  refine wp_seqR (wp_for (hI.mono fun y hy => ?_))
  obtain ⟨it, s1⟩ := y
  obtain ⟨x1, gi⟩ := hy
  simp only at x1 gi
  refine (wp_loopR (xs.map f) (fun i r' s' => Er r' ∧ Ex0 s1 s' ∧ (xs.take i).any c = false) (fun w s' => w = .bl false ∧ Ex0 s1 s' ∧ xs.any c = true) (fun i r' s' _ a => gi s' a.2.1) ?_ 1000000000 0 r s1 (by rw [List.length_map]; omega) (by omega) ⟨h0, Ex0.refl, rfl⟩).mono ?_
  · rintro i u r' s' hu ⟨er, xx, no⟩
    rw [List.getElem?_map] at hu
    obtain ⟨x, hx, rfl⟩ := Option.map_eq_some_iff.mp hu
    have hm := List.mem_of_getElem? hx
    obtain ⟨r1, e1, e2⟩ := hB x hm r' s' er (x1.trans xx)
    refine .of e1 (e2.mono fun y hy => ?_)
    obtain ⟨hy, x2⟩ := hy
    cases hc : c x with
    | true =>
      rw [hc, if_pos rfl] at hy
      exact .inr ⟨_, hy, rfl, xx.trans x2, List.any_eq_true.mpr ⟨x, hm, hc⟩⟩
    | false =>
      rw [hc] at hy
      exact .inl ⟨hy.1, hy.2, xx.trans x2, by rw [List.take_add_one, hx, List.any_append, no]; simp [hc]⟩
  rintro ⟨fl, r2, s2⟩ h
  rcases h with ⟨e, er, xx, no⟩ | ⟨w, e, rfl, xx, ye⟩
  · simp only at e er xx
    subst e
    rw [List.length_map, List.take_length] at no
    refine .inl ⟨rfl, (hR no r2 s2 er (x1.trans xx)).mono fun z hz => ⟨by rw [hz.1, no]; rfl, x1.trans (xx.trans hz.2)⟩⟩
  · simp only at e xx
    subst e
    exact .inr ⟨_, rfl, by rw [ye]; rfl, x1.trans xx⟩
theorem gif_sp {c : Bool} {Er : Me → Prop} (er : Er r) (hC : Wp (C r s) fun x => x.1 = c ∧ Ex0 s x.2) : Wp (sif C (sret (mcon (.bl false))) snx r s) fun y => (if c then y.1 = .rt (.bl false) else y.1 = .nx ∧ Er y.2.1) ∧ Ex0 s y.2.2 := by
  cases c with
  | true => exact wp_sift (hC.mono fun y hy => ⟨hy.1, .of rfl ⟨by rw [if_pos rfl], hy.2⟩⟩)
  | false => exact wp_siff (hC.mono fun y hy => ⟨hy.1, .of rfl ⟨⟨rfl, er⟩, hy.2⟩⟩)
theorem seqI {A : Fe} {ws : List Mv} (h : A r s = some (.tup ws, s)) : Wp (miS A r s) fun y => Ex0 s y.2 ∧ ∀ s', Ex0 y.2 s' → Gives y.1 ws s' := by
  refine wp_S' (.of h ⟨ws, rfl, fun it gi => ⟨Ex0.refl, fun s' _ => gi s' rfl⟩⟩)
theorem step_e {w v : Mv} {r1 : Me} (ha : T.asg w r = some r1) (hE : Wp (E r1 s) fun y => y.1 = v ∧ Ex0 s y.2) : Wp (mstep T myes E r w s) fun y => y.1 = [v] ∧ Ex0 s y.2 := by
  unfold mstep
  rw [ha, ob_of, wp_ob]
  refine .of rfl ?_
  rw [cond_true, wp_om]
  exact hE.mono fun y hy => ⟨by rw [hy.1], hy.2⟩
end
/-! ### definitions, uses, names -/
def isTupD (d : PyData) : Bool := isaT (dTy d) .tuple
def itemsD : PyData → List PyData
  | .tuple ds => ds
  | _ => []
def atD (d : PyData) (i : Nat) : PyData := (itemsD d).getD i .none
def pairL (d : PyData) : Bool := nameD (atD d 0) && verD (atD d 1)
def pairD (d : PyData) : Bool := isTupD d && (decide ((itemsD d).length = 2) && pairL d)
def ltD (d e : PyData) : Bool := (cmpD 24 d e).getD false
def risesD (ds : List PyData) : Bool := (ds.zip (ds.drop 1)).all fun q => ltD q.1 q.2
def defsD (d : PyData) : Bool := isTupD d && ((itemsD d).all pairD && risesD (itemsD d))
section
variable {W b qq : Nat} {s : Ms} {r : Me} {w : Mv} {d : PyData}
theorem tup_vd (h : Vd W b qq s w d) (ht : isTupD d = true) : ∃ ws ds, w = .tup ws ∧ d = .tuple ds ∧ VdL W b qq s ws ds ∧ ds.length ≤ W := by
  cases h with
  | tup k l => exact ⟨_, _, rfl, rfl, l, k⟩
  | _ => exact absurd ht (by simp [isTupD, dTy, isaT])
theorem two_vd (h : Vd W b qq s w d) (hp : pairD d = true) : ∃ x y, d = .tuple [.str x, .str y] ∧ w = .tup [.str x, .str y] ∧ PyData.strOk x = true ∧ PyData.strOk y = true := by
  unfold pairD at hp
  obtain ⟨h1, h2⟩ := Bool.and_eq_true_iff.mp hp
  obtain ⟨h3, h4⟩ := Bool.and_eq_true_iff.mp h2
  obtain ⟨ws, ds, rfl, rfl, l, _⟩ := tup_vd h h1
  have h3 := of_decide_eq_true h3
  obtain ⟨h5, h6⟩ := Bool.and_eq_true_iff.mp h4
  match ds, h3, l with
  | [d1, d2], _, .cons a (.cons c .nil) =>
    have e1 : nameD d1 = true := h5
    have e2 : verD d2 = true := h6
    cases a with
    | str o1 =>
      cases c with
      | str o2 => exact ⟨_, _, rfl, rfl, o1, o2⟩
      | _ => cases e2
    | _ => cases e1
theorem lt_pairs {x y z t : Str} : ∃ k, cmpD 24 (.tuple [.str x, .str y]) (.tuple [.str z, .str t]) = some k := by
  show ∃ k, cond _ (cond _ (some false) (some _)) (some _) = some k
  cases PyData.eqv (PyData.str x) (PyData.str z)
  · exact ⟨_, rfl⟩
  · cases PyData.eqv (PyData.str y) (PyData.str t)
    · exact ⟨_, rfl⟩
    · exact ⟨_, rfl⟩
theorem lt_vd {v : Mv} {e : PyData} (h : Vd W b qq s w d) (g : Vd W b qq s v e) (hd : pairD d = true) (he : pairD e = true) : ltDW w v s = some (.bl (ltD d e), s) := by
  obtain ⟨x, y, rfl, rfl, _, _⟩ := two_vd h hd
  obtain ⟨z, t, rfl, rfl, _, _⟩ := two_vd g he
  obtain ⟨k, hk⟩ := lt_pairs (x := x) (y := y) (z := z) (t := t)
  unfold ltDW
  rw [toD_vd h 24 (by simp [PyData.depth, PyData.depthAll]), ob_of, toD_vd g 24 (by simp [PyData.depth, PyData.depthAll]), ob_of, hk]
  show some (Mv.bl k, s) = some (Mv.bl ((cmpD 24 _ _).getD false), s)
  rw [hk]; rfl
end

end
section
/-! ### is_lib of any value -/
def txD : PyData → Option Str
  | .str x => some x
  | _ => none
def strsD (ds : List PyData) : List Str := ds.filterMap txD
def namesD (d : PyData) : Bool := isTupD d && ((itemsD d).all nameD && decide ((ddF (strsD (itemsD d))).length = (itemsD d).length))
def use3 (d : PyData) : Bool := isTupD d && decide ((itemsD d).length = 3)
def boolAt (d : PyData) : Bool := isaT (dTy (atD d 2)) .bool
def cut2 (d : PyData) : PyData := .tuple ((itemsD d).take 2)
def usesD (d : PyData) : Bool := isTupD d && ((itemsD d).all use3 && ((itemsD d).all boolAt && defsD (.tuple ((itemsD d).map cut2))))
def memD (d e : PyData) : Bool := match d with
  | .str x => decide (x ∈ strsD (itemsD e))
  | _ => false
def libD (d : PyData) : Bool := (isTupD d && (decide ((itemsD d).length = 4) && nameD (atD d 0))) && ((namesD (atD d 1) && !memD (atD d 0) (atD d 1)) && (defsD (atD d 2) && usesD (atD d 3)))
section
variable {W b qq : Nat} {s : Ms} {r : Me} {w : Mv} {d : PyData}
theorem strs_vd : ∀ {ws : List Mv} {ds : List PyData}, VdL W b qq s ws ds → ds.all nameD = true → strsOf ws = some (strsD ds) ∧ (strsD ds).length = ds.length
  | _, _, .nil, _ => ⟨rfl, rfl⟩
  | _, _, .cons (ws := ws) (ds := ds) a l, h => by
    rw [List.all_cons, Bool.and_eq_true] at h
    obtain ⟨i1, i2⟩ := strs_vd l h.2
    have h1 := h.1
    cases a with
    | str o1 =>
      refine ⟨?_, by show (strsD ds).length + 1 = _; rw [i2, List.length_cons]⟩
      show (strsOf ws).om (fun r => _ :: r) = _
      rw [i1]; rfl
    | _ => cases h1
theorem lenS_of {A : Fe} {ws : List Mv} {ys : List Str} (h : A r s = some (.tup ws, s)) (e : strsOf ws = some ys) (hl : ys.length ≤ 1000) : (mlenS A) r s = some (.int ((ddF ys).length : Nat), s) := by
  unfold mlenS
  rw [h, ob_of]
  show (strsOf ws).ob _ = _
  rw [e, ob_of, llen_eq, Nat.ble_eq_true_of_le hl]; rfl
theorem names_vd (h : Vd W b qq s w d) (hW : W ≤ 1000) : Wp (m_are_names [w] s) fun y => y.1 = .bl (namesD d) ∧ Ex0 s y.2 := by
  have e : namesD d = (!(!isTupD d || !(itemsD d).all nameD) && decide ((ddF (strsD (itemsD d))).length = (itemsD d).length)) := by
    unfold namesD; cases isTupD d <;> simp
  rw [e]
  refine fn_sp (v := .bl _) [some w, none] rfl rfl ?_
  unfold bd_are_names
  refine guard_sp (tor_sp (c_wp (n_of (t_of (ev_isi rfl h)))) fun hc s1 x1 => not_sp (mt_tl ?_)) fun hc s2 x2 => ?_
  · obtain ⟨ws, ds, rfl, rfl, l, hd⟩ := tup_vd h (by simpa using hc)
    obtain ⟨z1, z2, z3⟩ := (l.ex0 x1).zip
    have ez : (itemsD (.tuple ds)).all nameD = (ws.zip ds).all fun q => nameD q.2 := by
      show ds.all nameD = _
      conv => lhs; rw [← z2]
      rw [List.all_map]; rfl
    rw [ez]
    refine all_lcI (ws.zip ds) (·.1) (fun q => nameD q.2) (by rw [List.length_zip]; omega) (by rw [z1]; exact seqI rfl) fun q hq s3 x3 => step_e rfl (call_sp1 rfl (name_vd ((z3 q hq).ex0 x3)))
  · simp only [Bool.or_eq_false_iff, Bool.not_eq_false'] at hc
    obtain ⟨ws, ds, rfl, rfl, l, hd⟩ := tup_vd h hc.1
    obtain ⟨f1, f2⟩ := strs_vd l hc.2
    refine ret_sp (e_wp (op_e (lenS_of rfl f1 (by omega)) (ev_len rfl) ?_))
    rw [l.len]
    exact eq_nat
theorem row_vd (h : Vd W b qq s w d) {i : Nat} (e : r[i]? = some (some w)) : Wp (mor (mnot (mtst (mcall isiW (mcons (mvar i) (mcons (mcon (.ty .tuple)) mnil))))) (mor (mtB (mop2 neW (mcall lenW (mcons (mvar i) (mnil))) (mcon (.int 2)))) (mor (mnot (mtst (mcall m_is_name (mcons (mop2 ixA (mvar i) (mcon (.int 0))) (mnil))))) (mnot (mtst (mcall m_is_version (mcons (mop2 ixA (mvar i) (mcon (.int 1))) (mnil))))))) r s) fun y => y.1 = (!pairD d) ∧ Ex0 s y.2 := by
  have ee : (!pairD d) = (!isTupD d || (!decide ((itemsD d).length = 2) || (!nameD (atD d 0) || !verD (atD d 1)))) := by
    unfold pairD pairL; cases isTupD d <;> simp
  rw [ee]
  refine tor_sp (c_wp (n_of (t_of (ev_isi e h)))) fun hc s1 x1 => ?_
  obtain ⟨ws, ds, rfl, rfl, l, hd⟩ := tup_vd h (by simpa using hc)
  refine tor_sp (c_wp (b_of (op_e (ev_len e) rfl (by rw [l.len]; exact ne_nat (n := 2))))) fun hc2 s2 x2 => ?_
  have h2 : (itemsD (.tuple ds)).length = 2 := of_decide_eq_true (by simpa using hc2)
  have h2 : ds.length = 2 := h2
  match ds, h2, l with
  | [d1, d2], _, .cons (w := w1) a (.cons (w := w2) c .nil) =>
    exact tor_sp (not_sp (mt_tl (call_sp1 (ev_ix (k := 0) e rfl) (name_vd ((a.ex0 x1).ex0 x2))))) fun _ s3 x3 => not_sp (mt_tl (call_sp1 (ev_ix (k := 1) e rfl) (ver_vd (((c.ex0 x1).ex0 x2).ex0 x3))))
theorem zipM_eq : ∀ (xs ys : List Mv), zipM xs ys = (xs.zip ys).map fun q => .tup [q.1, q.2]
  | [], _ => rfl
  | _ :: _, [] => rfl
  | x :: xs, y :: ys => by rw [List.zip_cons_cons, List.map_cons, ← zipM_eq xs ys]; rfl
theorem cut_tl (ws : List Mv) : cutM ws (some 1) none = ws.drop 1 := by
  unfold cutM
  cases ws with
  | nil => rfl
  | cons x xs =>
    have h1 : HT.sIx (x :: xs).length 0 (some 1) = 1 := by simp [HT.sIx]
    have h2 : HT.sIx (x :: xs).length (x :: xs).length none = xs.length + 1 := by simp [HT.sIx]
    rw [h1, h2]
    simp
theorem zipI {A B : Fe} {ws : List Mv} (h : A r s = some (.tup ws, s)) (hl : ws.length ≤ 1000) : Wp (miZ (mcons A (mcons (mslice A (osome (mcon (.int 1))) (onone)) (mnil))) r s) fun y => Ex0 s y.2 ∧ ∀ s', Ex0 y.2 s' → Gives y.1 ((ws.zip (ws.drop 1)).map fun q => .tup [q.1, q.2]) s' := by
  have e : slW (.tup ws) (some 1) none s = some (.tup (ws.drop 1), s) := by
    show newT (cutM ws (some 1) none) s = _
    rw [cut_tl, newT_of (by rw [List.length_drop]; omega)]
  unfold miZ
  simp only [mcons, mnil, mslice, osome, onone, mcon, h, ob_of, om_of, e]
  exact .of rfl ⟨Ex0.refl, fun s' _ => by rw [← zipM_eq]; exact gives_seq⟩
theorem zz {ws : List Mv} {ds : List PyData} (l : VdL W b qq s ws ds) : (ws.zip (ws.drop 1)) = ((ws.zip ds).zip ((ws.zip ds).drop 1)).map (fun q => (q.1.1, q.2.1)) ∧ ds.zip (ds.drop 1) = ((ws.zip ds).zip ((ws.zip ds).drop 1)).map fun q => (q.1.2, q.2.2) := by
  obtain ⟨z1, z2, _⟩ := l.zip
  generalize ws.zip ds = qs at z1 z2
  subst z1 z2
  rw [← List.map_drop, ← List.map_drop]
  exact ⟨by rw [List.zip_map]; rfl, by rw [List.zip_map]; rfl⟩
theorem defs_vd (h : Vd W b qq s w d) (hW : W ≤ 1000) : Wp (m_are_definitions [w] s) fun y => y.1 = .bl (defsD d) ∧ Ex0 s y.2 := by
  have e : defsD d = (!(!isTupD d) && (!((itemsD d).any fun x => !pairD x) && risesD (itemsD d))) := by
    unfold defsD
    rw [show (itemsD d).all pairD = !((itemsD d).any fun x => !pairD x) by rw [← List.not_all_eq_any_not]; simp]
    simp
  rw [e]
  refine fn_sp (v := .bl _) [some w, none, none, none] rfl rfl ?_
  unfold bd_are_definitions
  refine guard_sp (c_wp (n_of (t_of (ev_isi rfl h)))) fun hc s1 x1 => ?_
  obtain ⟨ws, ds, rfl, rfl, l, hd⟩ := tup_vd h (by simpa using hc)
  have l1 := l.ex0 x1
  obtain ⟨z1, z2, z3⟩ := l1.zip
  have ez : ((itemsD (.tuple ds)).any fun x => !pairD x) = (ws.zip ds).any fun q => !pairD q.2 := by
    show ds.any _ = _
    conv => lhs; rw [← z2]
    rw [List.any_map]; rfl
  rw [ez]
  refine for_inv (ws.zip ds) (fun q => q.1) (fun q => !pairD q.2) (fun r' : Me => ∃ o : Option Mv, r' = [some (.tup ws), o, none, none]) ⟨none, rfl⟩ (by rw [List.length_zip]; omega) (by rw [z1]; exact seqI rfl) ?_ ?_
  · rintro q hq _ s2 ⟨o, rfl⟩ x2
    exact ⟨_, rfl, gif_sp (Er := fun r' : Me => ∃ o : Option Mv, r' = [some (.tup ws), o, none, none]) ⟨_, rfl⟩ (row_vd ((z3 q hq).ex0 x2) rfl)⟩
  · rintro no _ s2 ⟨o, rfl⟩ x2
    have l2 := l1.ex0 x2
    obtain ⟨y1, y2⟩ := zz l2
    obtain ⟨_, _, y3⟩ := l2.zip
    have er : risesD (itemsD (.tuple ds)) = ((ws.zip ds).zip ((ws.zip ds).drop 1)).all fun q => ltD q.1.2 q.2.2 := by
      show (ds.zip (ds.drop 1)).all _ = _
      rw [y2, List.all_map]; rfl
    rw [er]
    refine ret_sp (all_lcI ((ws.zip ds).zip ((ws.zip ds).drop 1)) (fun q => .tup [q.1.1, q.2.1]) (fun q => ltD q.1.2 q.2.2) (by rw [List.length_zip, List.length_zip]; omega) ?_ fun q hq s3 x3 => ?_)
    · have := zipI (A := mvar 0) (B := mvar 0) (r := mwipe [some (.tup ws), o, none, none] [2, 3]) (s := s2) (ws := ws) rfl (by rw [l.len]; omega)
      rw [y1, List.map_map] at this
      exact this
    · have m1 := (List.of_mem_zip hq).1
      have m2 := List.mem_of_mem_drop (List.of_mem_zip hq).2
      have pp : ∀ q ∈ ws.zip ds, pairD q.2 = true := fun q hq => by
        have := List.any_eq_false.mp no q hq
        simpa using this
      exact step_e rfl (e_wp (op_e rfl rfl (lt_vd ((y3 _ m1).ex0 x3) ((y3 _ m2).ex0 x3) (pp _ m1) (pp _ m2))))
end

end
section
/-! ### is_lib, the program's -/
section
variable {W b qq : Nat} {s : Ms} {r : Me} {w : Mv} {d : PyData}
theorem cut_two (ws : List Mv) : cutM ws none (some 2) = ws.take 2 := by
  unfold cutM
  have h1 : HT.sIx ws.length 0 none = 0 := by simp [HT.sIx]
  rw [h1]
  match ws with
  | [] => simp
  | [x] => simp [HT.sIx]
  | x :: y :: l =>
    have h2 : HT.sIx (x :: y :: l).length (x :: y :: l).length (some 2) = 2 := by simp [HT.sIx]
    rw [h2]; rfl
theorem sl2_of {i : Nat} {ws : List Mv} (e : r[i]? = some (some (.tup ws))) : (mslice (mvar i) (onone) (osome (mcon (.int 2)))) r s = some (.tup (ws.take 2), s) := by
  have e2 : slW (.tup ws) none (some 2) s = some (.tup (ws.take 2), s) := by
    show newT (cutM ws none (some 2)) s = _
    rw [cut_two, newT_of (by rw [List.length_take]; omega)]
  simp only [mslice, osome, onone, mcon, mvar_t e, ob_of, e2]
theorem at_vd {ws : List Mv} {ds : List PyData} (l : VdL W b qq s ws ds) {k : Nat} (hk : k < ds.length) {i : Nat} (e : r[i]? = some (some (.tup ws))) : ∃ v, (mop2 ixA (mvar i) (mcon (.int (k : Int)))) r s = some (v, s) ∧ Vd W b qq s v (atD (.tuple ds) k) := by
  obtain ⟨v, h1, h2⟩ := l.getd (List.getElem?_eq_getElem hk)
  refine ⟨v, ev_ix e h1, ?_⟩
  show Vd W b qq s v (ds.getD k .none)
  rw [List.getD_eq_getElem?_getD, List.getElem?_eq_getElem hk]
  exact h2
theorem zall {ws : List Mv} {ds : List PyData} (l : VdL W b qq s ws ds) (f : PyData → Bool) : ds.all f = (ws.zip ds).all fun q => f q.2 := by
  obtain ⟨_, z2, _⟩ := l.zip
  conv => lhs; rw [← z2]
  rw [List.all_map]; rfl
/-- the first two places of each -/
def cutW (w : Mv) : Mv := match w with
  | .tup ws => .tup (ws.take 2)
  | _ => w
theorem cutW_vd {w : Mv} {d : PyData} (h : Vd W b qq s w d) (h2 : 2 ≤ W) (ht : isTupD d = true) : Vd W b qq s (cutW w) (cut2 d) := by
  obtain ⟨ws, ds, rfl, rfl, l, hd⟩ := tup_vd h ht
  exact .tup (by rw [List.length_take]; show min 2 ds.length ≤ W; omega) (l.take 2)
theorem cuts_vd : ∀ {ws : List Mv} {ds : List PyData}, VdL W b qq s ws ds → 2 ≤ W → ds.all isTupD = true → VdL W b qq s (ws.map cutW) (ds.map cut2)
  | _, _, .nil, _, _ => .nil
  | _, _, .cons a l, h2, h => by
    rw [List.all_cons, Bool.and_eq_true] at h
    exact .cons (cutW_vd a h2 h.1) (cuts_vd l h2 h.2)
theorem use3_tup {ds : List PyData} (h : ds.all use3 = true) : ds.all isTupD = true := by
  rw [List.all_eq_true] at h ⊢
  exact fun x hx => (Bool.and_eq_true_iff.mp (h x hx)).1
theorem uses_vd (h : Vd W b qq s w d) (hW : W ≤ 1000) (h2 : 2 ≤ W) : Wp (m_are_uses [w] s) fun y => y.1 = .bl (usesD d) ∧ Ex0 s y.2 := by
  have e : usesD d = (!(!isTupD d || !(itemsD d).all use3) && (!(!(itemsD d).all boolAt) && defsD (.tuple ((itemsD d).map cut2)))) := by
    unfold usesD; cases isTupD d <;> simp
  rw [e]
  refine fn_sp (v := .bl _) [some w, none] rfl rfl ?_
  unfold bd_are_uses
  refine guard_sp (tor_sp (c_wp (n_of (t_of (ev_isi rfl h)))) fun hc s1 x1 => not_sp (mt_tl ?_)) fun hc s2 x2 => ?_
  · obtain ⟨ws, ds, rfl, rfl, l, hd⟩ := tup_vd h (by simpa using hc)
    have l1 := l.ex0 x1
    obtain ⟨z1, z2, z3⟩ := l1.zip
    rw [show (itemsD (.tuple ds)).all use3 = _ from zall l1 use3]
    refine all_lcI (ws.zip ds) (fun q => q.1) (fun q => use3 q.2) (by rw [List.length_zip]; omega) (by rw [z1]; exact seqI rfl) fun q hq s3 x3 => step_e rfl ?_
    have hq3 := (z3 q hq).ex0 x3
    refine and_sp (e_wp (ev_isi rfl hq3)) fun ht s4 x4 => ?_
    obtain ⟨us, es, e1, e2, l4, _⟩ := tup_vd hq3 ht
    rw [e1, e2]
    refine e_wp (op_e (ev_len rfl) rfl ?_)
    rw [l4.len]
    exact eq_nat (n := 3)
  simp only [Bool.or_eq_false_iff, Bool.not_eq_false'] at hc
  obtain ⟨hc1, hc2⟩ := hc
  obtain ⟨ws, ds, rfl, rfl, l, hd⟩ := tup_vd h hc1
  have hc2 : ds.all use3 = true := hc2
  have l2 := l.ex0 x2
  obtain ⟨z1, z2, z3⟩ := l2.zip
  have u3 : ∀ q ∈ ws.zip ds, use3 q.2 = true := fun q hq => by
    rw [zall l2 use3] at hc2
    exact List.all_eq_true.mp hc2 q hq
  refine guard_sp (not_sp (mt_tl ?_)) fun hb s3 x3 => ?_
  · rw [show (itemsD (.tuple ds)).all boolAt = _ from zall l2 boolAt]
    refine all_lcI (ws.zip ds) (fun q => q.1) (fun q => boolAt q.2) (by rw [List.length_zip]; omega) (by rw [z1]; exact seqI rfl) fun q hq s3 x3 => step_e rfl ?_
    have hq3 := (z3 q hq).ex0 x3
    obtain ⟨h5, h6⟩ := Bool.and_eq_true_iff.mp (u3 q hq)
    have h6 := of_decide_eq_true h6
    obtain ⟨us, es, e1, e2, l4, _⟩ := tup_vd hq3 h5
    rw [e2] at h6
    have h6 : es.length = 3 := h6
    rw [e1, e2]
    obtain ⟨v, f1, f2⟩ := at_vd (r := (Tg.nm 1).asg (.tup us) (mwipe [some (.tup ws), none] [1]) |>.getD []) l4 (k := 2) (by omega) (i := 1) rfl
    refine e_wp (A := mcall isiW (mcons (mop2 ixA (mvar 1) (mcon (.int 2))) (mcons (mcon (.ty .bool)) mnil))) ?_
    have f1 : (mop2 ixA (mvar 1) (mcon (.int 2))) [some (.tup ws), some (.tup us)] s3 = some (v, s3) := f1
    show (mcall isiW (mcons (mop2 ixA (mvar 1) (mcon (.int 2))) (mcons (mcon (.ty .bool)) mnil))) [some (.tup ws), some (.tup us)] s3 = _
    simp only [mcall, mcons, mcon, mnil, ob_of, om_of, f1]
    exact isi_vd f2 _
  · have l3 := l2.ex0 x3
    obtain ⟨y1, y2, y3⟩ := l3.zip
    have tt := use3_tup hc2
    have cv := cuts_vd l3 h2 tt
    refine ret_sp ?_
    simp only [mcall, mcons, mnil, wp_ob, wp_om, wp_some]
    have T := tupF (A := mvar 0) (T := .nm 1) (C := myes) (E := mslice (mvar 1) (onone) (osome (mcon (.int 2)))) (vs := [1]) (r := [some (.tup ws), none]) (s := s3) (ws.zip ds) (fun q => q.1) (fun _ => true) (fun q => cutW q.1) (by rw [List.length_zip]; omega) (.of rfl ⟨Ex0.refl, fun s' _ => by rw [y1]; rfl⟩) fun q hq s4 x4 => by
      have hq3 := (y3 q hq).ex0 x4
      obtain ⟨us, es, e1, e2, l4, _⟩ := tup_vd hq3 (Bool.and_eq_true_iff.mp (u3 q hq)).1
      refine (mstep_f (b := true) rfl (.of rfl ⟨rfl, Ex0.refl⟩) fun s' _ => ?_)
      rw [e1]
      exact .of (sl2_of rfl) ⟨rfl, Ex0.refl⟩
    simp only [mcall, mcons, mnil, wp_ob, wp_om, wp_some] at T
    refine T.mono fun y hy => ?_
    refine hy.mono fun z hz => ?_
    obtain ⟨v, s4⟩ := z
    obtain ⟨ez, x4⟩ := hz
    simp only at ez x4
    subst ez
    have et : ((ws.zip ds).filter fun _ => true).map (fun q => cutW q.1) = ws.map cutW := by
      rw [List.filter_eq_self.mpr (fun _ _ => rfl)]
      conv => rhs; rw [← y1]
      rw [List.map_map]; rfl
    rw [et]
    have D := defs_vd (W := W) (.tup (by rw [List.length_map]; exact hd) (cv.ex0 x4)) hW
    exact D.mono fun y hy => ⟨hy.1, x4.trans hy.2⟩
end

end
section
section
variable {W b qq : Nat} {s : Ms} {r : Me} {w : Mv} {d : PyData}
theorem in_txt {x : Str} {ws : List Mv} {ys : List Str} (e : strsOf ws = some ys) : inA (.str x) (.tup ws) s = some (.bl (decide (x ∈ ys)), s) := by
  have e1 : inW (.str x) (.tup ws) s = some (.bl (decide (x ∈ ys)), s) := by
    show (inBo (.str x) (.tup ws) s).om _ = _
    have : inBo (.str x) (.tup ws) s = some (decide (x ∈ ys)) := by
      show (some ws).ob _ = _
      rw [ob_of]
      simp only [e]
      rw [any_str]
    rw [this]; rfl
  unfold inA
  rw [e1]; rfl
theorem name_str {d : PyData} (h : nameD d = true) : ∃ x, d = .str x := by
  cases d with
  | str x => exact ⟨x, rfl⟩
  | _ => cases h
theorem lib_vd (h : Vd W b qq s w d) (hW : W ≤ 1000) (h2 : 2 ≤ W) : Wp (m_is_lib [w] s) fun y => y.1 = .bl (libD d) ∧ Ex0 s y.2 := by
  have e : libD d = (!(!isTupD d || (!decide ((itemsD d).length = 4) || !nameD (atD d 0))) && (!(!namesD (atD d 1) || memD (atD d 0) (atD d 1)) && (defsD (atD d 2) && usesD (atD d 3)))) := by
    unfold libD; cases isTupD d <;> simp
  rw [e]
  refine fn_sp (v := .bl _) [some w] rfl rfl ?_
  unfold bd_is_lib
  refine guard_sp (tor_sp (c_wp (n_of (t_of (ev_isi rfl h)))) fun hc s1 x1 => ?_) fun hc s1 x1 => ?_
  · obtain ⟨ws, ds, rfl, rfl, l, hd⟩ := tup_vd h (by simpa using hc)
    have l1 := l.ex0 x1
    refine tor_sp (c_wp (b_of (op_e (ev_len rfl) rfl (by rw [l1.len]; exact ne_nat (n := 4))))) fun hc2 s2 x2 => ?_
    have h4 : (itemsD (.tuple ds)).length = 4 := of_decide_eq_true (by simpa using hc2)
    have h4 : ds.length = 4 := h4
    obtain ⟨v, f1, f2⟩ := at_vd (s := s2) (r := [some (.tup ws)]) (l1.ex0 x2) (k := 0) (by omega) (i := 0) rfl
    exact not_sp (mt_tl (call_sp1 f1 (name_vd f2)))
  simp only [Bool.or_eq_false_iff, Bool.not_eq_false'] at hc
  obtain ⟨hc1, hc2, hc3⟩ := hc
  obtain ⟨ws, ds, rfl, rfl, l, hd⟩ := tup_vd h hc1
  have h4 : (itemsD (.tuple ds)).length = 4 := of_decide_eq_true hc2
  have h4 : ds.length = 4 := h4
  have l1 := l.ex0 x1
  have A : ∀ (k : Nat) (s' : Ms), k < 4 → Ex0 s1 s' → ∃ v, (mop2 ixA (mvar 0) (mcon (.int (k : Int)))) [some (.tup ws)] s' = some (v, s') ∧ Vd W b qq s' v (atD (.tuple ds) k) := fun k s' hk x => at_vd (l1.ex0 x) (by omega) rfl
  refine guard_sp (tor_sp (not_sp (mt_tl ?_)) fun hn s2 x2 => mb_tl ?_) fun hn s2 x2 => ret_sp (and_sp ?_ fun _ s3 x3 => ?_)
  · obtain ⟨v, f1, f2⟩ := A 1 s1 (by omega) Ex0.refl
    exact call_sp1 f1 (names_vd f2 hW)
  · obtain ⟨v, f1, f2⟩ := A 0 s2 (by omega) x2
    obtain ⟨v', g1, g2⟩ := A 1 s2 (by omega) x2
    obtain ⟨x, ex⟩ := name_str hc3
    have hn : namesD (atD (.tuple ds) 1) = true := by simpa using hn
    unfold namesD at hn
    obtain ⟨n1, n2⟩ := Bool.and_eq_true_iff.mp hn
    obtain ⟨n3, n4⟩ := Bool.and_eq_true_iff.mp n2
    obtain ⟨us, es, rfl, ee, le, _⟩ := tup_vd g2 n1
    rw [ee] at n3
    obtain ⟨i1, i2⟩ := strs_vd le n3
    rw [ex] at f2 ⊢
    rw [ee]
    cases f2
    exact e_wp (op_e f1 g1 (in_txt i1))
  · obtain ⟨v, f1, f2⟩ := A 2 s2 (by omega) x2
    exact call_sp1 f1 (defs_vd f2 hW)
  · obtain ⟨v, f1, f2⟩ := A 3 s3 (by omega) (x2.trans x3)
    exact call_sp1 f1 (uses_vd f2 hW h2)
end

end
section
/-! ### the law's own look: words, pairs, ascending -/
section
variable {I : Fi} {E : Fe} {T : Tg} {C : Ft} {vs : List Nat} {r : Me} {s : Ms} {α : Type}
theorem lcIF (xs : List α) (f g : α → Mv) (p : α → Bool) (hl : xs.length ≤ 1000000) (hI : Wp (I r s) fun y => Ex0 s y.2 ∧ ∀ s', Ex0 y.2 s' → Gives y.1 (xs.map f) s') (hE : ∀ x ∈ xs, ∀ s', Ex0 s s' → Wp (mstep T C E (mwipe r vs) (f x) s') fun y => y.1 = (if p x then [g x] else []) ∧ Ex0 s' y.2) :
    Wp (mlc I T C E vs r s) fun y => ∃ n, y.1 = .ref n ∧ s.sz ≤ n ∧ n < y.2.sz ∧ y.2.get n = some (.lst ((xs.filter p).map g)) ∧ Ex0 s y.2 := by
  refine wp_lc (hI.mono fun y hy => ?_)
  obtain ⟨it, s1⟩ := y
  obtain ⟨x1, gi⟩ := hy
  simp only at x1 gi
  refine (wp_flat (xs.map f) (fun i acc s' => acc = ((xs.take i).filter p).map g ∧ Ex0 s1 s') (fun i acc s' _ a => gi s' a.2) ?_ 1000000000 0 [] s1 (by rw [List.length_map]; omega) (by omega) ⟨rfl, Ex0.refl⟩).mono ?_
  · rintro i u acc s' hu ⟨rfl, xx⟩
    rw [List.getElem?_map] at hu
    obtain ⟨x, hx, rfl⟩ := Option.map_eq_some_iff.mp hu
    refine (hE x (List.mem_of_getElem? hx) s' (x1.trans xx)).mono fun y hy => ?_
    obtain ⟨e, x2⟩ := hy
    refine ⟨?_, xx.trans x2⟩
    rw [List.take_add_one, hx, List.filter_append, List.map_append, e]
    show _ = _ ++ ([x].filter p).map g
    cases hp : p x <;> simp [hp]
  rintro ⟨acc, s2⟩ ⟨e2, x2⟩
  simp only [List.nil_append] at e2 x2
  rw [List.length_map, List.take_length] at e2
  subst e2
  have fl := List.length_filter_le p xs
  have x12 := x1.trans x2
  exact ⟨by rw [List.length_map]; omega, _, rfl, x12.sz, by simp only [push_sz]; omega, Ms.get_push, x12.trans Ex0.push⟩
end
section
variable {W b qq : Nat} {s : Ms} {r : Me} {w : Mv} {d : PyData}
theorem eq_nilL {n t : Nat} {ys : List Str} (g : s.get n = some (.lst (strV ys))) (g' : s.get t = some (.lst [])) (h : ∀ y ∈ ys, PyData.strOk y = true) : eqW (.ref n) (.ref t) s = some (.bl ys.isEmpty, s) := by
  show (eqBo (.ref n) (.ref t) s).om _ = _
  have e : eqBo (.ref n) (.ref t) s = some ys.isEmpty := by
    show (toD 24 s (.ref n)).ob (fun d => (toD 24 s (.ref t)).om fun e => PyData.eqv d e) = _
    rw [toD_strs g h, toD_strs (ys := []) g' (by simp)]
    cases ys <;> simp [PyData.eqv, PyData.eqvAll]
  rw [e]; rfl
def inLet (c : Nat) : Bool := LETS.cps.toList.any fun d => Nat.beq d c
theorem word_ok {x : Str} : nameB x = (!(decide (x = x_) || decide (8 < x.length)) && (x.cps.toList.filter fun c => !inLet c).isEmpty) := by
  have e0 : decide (x = x_) = !decide (0 < x.length) := by
    have : x = x_ ↔ ¬ 0 < x.length := by
      constructor
      · rintro rfl; decide
      · intro h
        have h0 : x.cps.size = 0 := by show x.length = 0; omega
        obtain ⟨c⟩ := x
        have : c = #[] := by simpa using h0
        subst this; rfl
    rw [← decide_not]
    exact decide_eq_decide.mpr this
  have e1 : decide (8 < x.length) = !decide (x.length ≤ 8) := by
    rw [← decide_not]
    exact decide_eq_decide.mpr (by omega)
  have e2 : (x.cps.toList.filter fun c => !inLet c).isEmpty = x.cps.toList.all fun c => inLet c := by
    generalize x.cps.toList = l
    induction l with
    | nil => rfl
    | cons c l ih => rw [List.filter_cons, List.all_cons]; cases h : inLet c <;> simp [h, ih]
  rw [e0, e1, e2]
  unfold nameB
  simp [inLet]
theorem one_ok {x : Str} (h : PyData.strOk x = true) {c : Nat} (hc : c ∈ x.cps.toList) : PyData.strOk ⟨#[c]⟩ = true := by
  unfold PyData.strOk at h ⊢
  have := Array.all_eq_true_iff_forall_mem.mp h c (by simpa using hc)
  simpa using this
theorem word_vd (h : Vd W b qq s w d) : Wp (m__law_is_word [w] s) fun y => y.1 = .bl (nameD d) ∧ Ex0 s y.2 := by
  have e : nameD d = (!(!isaT (dTy d) .str || (match d with | .str x => decide (x = x_) || decide (8 < x.length) | _ => false)) && (match d with | .str x => (x.cps.toList.filter fun c => !inLet c).isEmpty | _ => false)) := by
    cases d with
    | str x => show nameB x = _; rw [word_ok]; simp [dTy, isaT]
    | _ => simp [nameD, dTy, isaT]
  rw [e]
  refine fn_sp (v := .bl _) [some w, none] rfl rfl ?_
  unfold bd__law_is_word
  refine guard_sp (tor_sp (c_wp (n_of (t_of (ev_isi rfl h)))) fun hc s1 x1 => ?_) fun hc s1 x1 => ?_
  · cases h with
    | @str x ho hz =>
      refine tor_sp (c_wp (b_of (op_e (v := .str x_) rfl rfl eq_str))) fun _ s2 x2 => c_wp (b_of (op_e (u := .int ((x.length : Nat) : Int)) (v := .int 8) (B := mcon (.int 8)) ?_ rfl ?_))
      · simp only [mcall, mcons, mcon, mnil, mvar, lget_eq, List.getElem?_cons_zero, ob_of, om_of]
        show (cond (Nat.ble x.length 16777216) (some x.length) none).om _ = _
        rw [Nat.ble_eq_true_of_le (by unfold Str.length; omega)]; rfl
      · show some (Mv.bl (iLt 8 _), s2) = _
        rw [iLt_eq]
        congr 3
        exact decide_eq_decide.mpr (by omega)
    | _ => exact absurd hc (by simp [dTy, isaT])
  · cases h with
    | str ho hz =>
      rename_i x
      refine ret_sp ?_
      unfold mop2
      rw [wp_ob]
      have L := lcIF (I := miX (mvar 0)) (T := .nm 1) (C := mtB (mop2 sgNin (mvar 1) (mcon (.str LETS)))) (E := mvar 1) (vs := [1]) (r := [some (.str x), none]) (s := s1) x.cps.toList (fun c => .str ⟨#[c]⟩) (fun c => .str ⟨#[c]⟩) (fun c => !inLet c) (by rw [Array.length_toList]; omega) (.of rfl ⟨Ex0.refl, fun s' _ => gives_seq⟩) fun c hc s2 x2 => mstep_f rfl (.of rfl ⟨rfl, Ex0.refl⟩) fun s' _ => .of rfl ⟨rfl, Ex0.refl⟩
      refine L.mono fun y hy => ?_
      obtain ⟨v, s2⟩ := y
      obtain ⟨n, ev, n1, n2, g, x2⟩ := hy
      simp only at ev n1 n2 g x2
      subst ev
      have gg : ((x.cps.toList.filter fun c => !inLet c).map fun c => Mv.str ⟨#[c]⟩) = strV ((x.cps.toList.filter fun c => !inLet c).map fun c => (⟨#[c]⟩ : Str)) := by
        unfold strV
        rw [List.map_map]; rfl
      rw [gg] at g
      have hm : (mlst mnil) [some (.str x), none] s2 = some (.ref s2.sz, push s2 (.lst [])) := rfl
      dsimp only
      rw [hm, ob_of]
      refine .of (eq_nilL (Ex0.push.at n2 g) Ms.get_push fun y hy => ?_) ⟨by simp, x2.trans Ex0.push⟩
      obtain ⟨c, hc, rfl⟩ := List.mem_map.mp hy
      exact one_ok ho (List.mem_filter.mp hc).1
    | _ => exact absurd hc (by simp [dTy, isaT])
end

end
section
/-! ### pairs, ascending ones -/
section
variable {W b qq : Nat} {s : Ms} {r : Me} {w : Mv} {d : PyData}
def emptyD : PyData → Bool
  | .str x => decide (x = x_)
  | _ => false
theorem eq_empty (h : Vd W b qq s w d) (hd : PyData.depth d < 24) : eqW w (.str x_) s = some (.bl (emptyD d), s) := by
  have far : sqEq w (.str x_) = none → PyData.eqv d (.str x_) = false → emptyD d = false → eqW w (.str x_) s = some (.bl (emptyD d), s) := fun h1 h2 h3 => by
    unfold eqW eqBo
    rw [h1]
    dsimp only
    rw [toD_vd h 24 hd, ob_of, show toD 24 s (.str x_) = some (.str x_) from (toD_vd (W := 0) (b := 0) (qq := 0) (.str (by decide +kernel) (by decide +kernel)) 24 (by simp [PyData.depth])), h3]
    show (some (PyData.eqv d (.str x_))).om _ = _
    rw [h2]; rfl
  cases h with
  | str => exact eq_str
  | tup => exact far rfl (by simp [PyData.eqv]) rfl
  | lst => exact far rfl (by simp [PyData.eqv]) rfl
  | _ => rfl
theorem pairL_vd {ws : List Mv} {ds : List PyData} (l : VdL W b qq s ws ds) (h2 : 2 ≤ ds.length) (hd : PyData.depthAll ds < 24) : Wp (m__law_is_pair [.tup ws] s) fun y => y.1 = .bl (pairL (.tuple ds)) ∧ Ex0 s y.2 := by
  have e : pairL (.tuple ds) = (nameD (atD (.tuple ds) 0) && ((emptyD (atD (.tuple ds) 1) || nameD (atD (.tuple ds) 1)) && isaT (dTy (atD (.tuple ds) 1)) .str)) := by
    unfold pairL
    congr 1
    cases atD (.tuple ds) 1 with
    | str x => simp [verD, emptyD, nameD, dTy, isaT, Bool.or_comm]
    | _ => simp [verD, emptyD, nameD, dTy, isaT]
  rw [e]
  refine fn_sp (v := .bl _) [some (.tup ws)] rfl rfl ?_
  unfold bd__law_is_pair
  have A : ∀ (k : Nat) (s' : Ms), k < 2 → Ex0 s s' → ∃ v, (mop2 ixA (mvar 0) (mcon (.int (k : Int)))) [some (.tup ws)] s' = some (v, s') ∧ Vd W b qq s' v (atD (.tuple ds) k) := fun k s' hk x => at_vd (l.ex0 x) (by omega) rfl
  have dp : PyData.depth (atD (.tuple ds) 1) < 24 := by
    have : atD (.tuple ds) 1 ∈ ds := by
      show ds.getD 1 .none ∈ ds
      rw [List.getD_eq_getElem?_getD, List.getElem?_eq_getElem (by omega : 1 < ds.length)]
      exact List.getElem_mem _
    have := dep_mem this
    omega
  refine ret_sp (and_sp ?_ fun _ s1 x1 => and_sp (or_sp ?_ fun _ s2 x2 => ?_) fun _ s2 x2 => ?_)
  · obtain ⟨v, f1, f2⟩ := A 0 s (by omega) Ex0.refl
    exact call_sp1 f1 (word_vd f2)
  · obtain ⟨v, f1, f2⟩ := A 1 s1 (by omega) x1
    exact e_wp (op_e f1 rfl (eq_empty f2 dp))
  · obtain ⟨v, f1, f2⟩ := A 1 s2 (by omega) (x1.trans x2)
    exact call_sp1 f1 (word_vd f2)
  · obtain ⟨v, f1, f2⟩ := A 1 s2 (by omega) (x1.trans x2)
    refine e_wp ?_
    have f1 : (mop2 ixA (mvar 0) (mcon (.int 1))) [some (.tup ws)] s2 = some (v, s2) := f1
    simp only [mcall, mcons, mcon, mnil, ob_of, om_of, f1]
    exact isi_vd f2 _
theorem rises_range (ds : List PyData) : risesD ds = (List.range (ds.length - 1)).all fun k => ltD (ds.getD k .none) (ds.getD (k + 1) .none) := by
  unfold risesD
  have e : ds.zip (ds.drop 1) = (List.range (ds.length - 1)).map fun k => (ds.getD k .none, ds.getD (k + 1) .none) := by
    refine List.ext_getElem (by simp) fun i h1 h2 => ?_
    simp only [List.length_map, List.length_range] at h2
    rw [List.getElem_zip, List.getElem_map, List.getElem_range, List.getElem_drop]
    rw [List.getD_eq_getElem?_getD, List.getD_eq_getElem?_getD, List.getElem?_eq_getElem (by omega : i < ds.length), List.getElem?_eq_getElem (by omega : i + 1 < ds.length)]
    simp [Nat.add_comm]
  rw [e, List.all_map]; rfl
theorem rises_vd {n : Nat} {ws : List Mv} {ds : List PyData} (hn : n < s.sz) (g : s.get n = some (.lst ws)) (l : VdL W b qq s ws ds) (hp : ds.all pairD = true) (hl : ds.length ≤ 1000) : Wp (m__law_rises [.ref n] s) fun y => y.1 = .bl (risesD ds) ∧ Ex0 s y.2 := by
  rw [rises_range]
  refine fn_sp (v := .bl _) [some (.ref n), none] rfl rfl ?_
  unfold bd__law_rises
  have hlen : lenW [.ref n] s = some (.int (ds.length : Nat), s) := by rw [lenW_of (items_ref g), l.len]
  refine ret_sp (all_lcI (List.range (ds.length - 1)) (fun k => .int ((k : Nat) : Int)) (fun k => ltD (ds.getD k .none) (ds.getD (k + 1) .none)) (by rw [List.length_range]; omega) ?_ fun k hk s1 x1 => step_e rfl (e_wp ?_))
  · refine wp_R1 (.of (x := ([.int ((ds.length : Int) - 1)], s)) ?_ ⟨(ds.length : Int) - 1, rfl, ?_, Ex0.refl, fun s' _ => ?_⟩)
    · show (mcons (mop2 subW (mcall lenW (mcons (mvar 0) mnil)) (mcon (.int 1))) mnil) _ s = _
      simp only [mcons, mnil, mop2, mcall, mcon, mwipe, mvar, lget_eq, ob_of, om_of]
      show ((lenW [.ref n] s).ob fun x => _).ob _ = _
      rw [hlen, ob_of]
      rfl
    · unfold okI
      rw [decide_eq_true (by omega), decide_eq_true (by omega)]; rfl
    · have e : (List.range (ds.length - 1)).map (fun k => Mv.int ((k : Nat) : Int)) = rngL 0 ((ds.length : Int) - 1).toNat := by
        unfold rngL
        rw [show ((ds.length : Int) - 1).toNat = ds.length - 1 by omega]
        exact List.map_congr_left fun k _ => by rw [Int.zero_add]
      rw [e]
      exact gives_rng
  · have hk := List.mem_range.mp hk
    have at_ : ∀ j, j < ds.length → ∃ v, ixA (.ref n) (.int (j : Int)) s1 = some (v, s1) ∧ Vd W b qq s1 v (ds.getD j .none) := fun j hj => by
      obtain ⟨v, h1, h2⟩ := l.getd (List.getElem?_eq_getElem hj)
      refine ⟨v, ixA_of (items_ref (x1.at hn g)) (atF_of h1), ?_⟩
      rw [List.getD_eq_getElem?_getD, List.getElem?_eq_getElem hj]
      exact h2.ex0 x1
    have pp : ∀ j, j < ds.length → pairD (ds.getD j .none) = true := fun j hj => by
      rw [List.getD_eq_getElem?_getD, List.getElem?_eq_getElem hj]
      exact List.all_eq_true.mp hp _ (List.getElem_mem _)
    obtain ⟨v, f1, f2⟩ := at_ k (by omega)
    obtain ⟨u, g1, g2⟩ := at_ (k + 1) (by omega)
    have f3 : addW (.int (k : Int)) (.int 1) s1 = some (.int ((k + 1 : Nat) : Int), s1) := by
      show some (Mv.int (Int.add _ _), s1) = _
      congr 3
    show (mop2 ltDW (mop2 ixA (mvar 0) (mvar 1)) (mop2 ixA (mvar 0) (mop2 addW (mvar 1) (mcon (.int 1))))) [some (.ref n), some (.int (k : Int))] s1 = _
    simp only [mop2, mvar, mcon, lget_eq, List.getElem?_cons_zero, List.getElem?_cons_succ, ob_of, om_of, f1, f3, g1]
    exact lt_vd f2 g2 (pp k (by omega)) (pp (k + 1) (by omega))
end

end
section
/-! ### is_lib, the law's -/
def lineD (n : Nat) (x : PyData) : Bool := isTupD x && (decide ((itemsD x).length = n) && pairL x)
def goodD (n : Nat) (e : PyData) : Bool := (itemsD e).all (lineD n) && risesD ((itemsD e).map cut2)
def isB (d : PyData) (t : Bool) : Bool := match d with
  | .bool x => decide (x = t)
  | _ => false
def lenOkD (d : PyData) : Bool := decide ((ddS (strsD (itemsD d))).length = (itemsD d).length)
def dueD (d : PyData) : Bool := (isTupD d && (decide ((itemsD d).length = 4) && nameD (atD d 0))) && ((isTupD (atD d 1) && (isTupD (atD d 2) && isTupD (atD d 3))) &&
  (((itemsD (atD d 1)).all nameD && (lenOkD (atD d 1) && !memD (atD d 0) (atD d 1))) && ((goodD 2 (atD d 2) && goodD 3 (atD d 3)) && (itemsD (atD d 3)).all fun x => isB (atD x 2) true || isB (atD x 2) false)))
theorem tup_eq {d : PyData} (h : isTupD d = true) : d = .tuple (itemsD d) := by
  cases d with
  | tuple ds => rfl
  | _ => simp [isTupD, dTy, isaT] at h
theorem cut_of2 {x : PyData} (h : pairD x = true) : cut2 x = x := by
  unfold pairD at h
  obtain ⟨h1, h2⟩ := Bool.and_eq_true_iff.mp h
  have h3 := of_decide_eq_true (Bool.and_eq_true_iff.mp h2).1
  conv => rhs; rw [tup_eq h1]
  unfold cut2
  rw [List.take_of_length_le (by omega)]
theorem cuts_of2 {ds : List PyData} (h : ds.all pairD = true) : ds.map cut2 = ds := by
  rw [List.all_eq_true] at h
  conv => rhs; rw [← List.map_id ds]
  exact List.map_congr_left fun x hx => cut_of2 (h x hx)
theorem good2 (e : PyData) : goodD 2 e = ((itemsD e).all pairD && risesD (itemsD e)) := by
  unfold goodD
  rw [show (itemsD e).all (lineD 2) = (itemsD e).all pairD from rfl]
  cases h : (itemsD e).all pairD with
  | true => rw [cuts_of2 h]
  | false => rfl
theorem boolAt_eq (x : PyData) : (isB (atD x 2) true || isB (atD x 2) false) = boolAt x := by
  unfold boolAt
  cases atD x 2 with
  | bool y => cases y <;> rfl
  | _ => rfl
theorem pair_cut {x : PyData} (h : use3 x = true) : pairD (cut2 x) = pairL x := by
  unfold use3 at h
  obtain ⟨h1, h2⟩ := Bool.and_eq_true_iff.mp h
  have h3 : (itemsD x).length = 3 := of_decide_eq_true h2
  unfold pairD cut2 pairL atD
  match itemsD x, h3 with
  | [a, b, c], _ => simp [isTupD, dTy, isaT, itemsD]
theorem all_and {α : Type} (f g : α → Bool) : ∀ l : List α, (l.all fun x => f x && g x) = (l.all f && l.all g)
  | [] => rfl
  | x :: l => by
    rw [List.all_cons, List.all_cons, List.all_cons, all_and f g l]
    cases f x <;> cases g x <;> simp
theorem good3 (e : PyData) (h : isTupD e = true) : (goodD 3 e && (itemsD e).all fun x => isB (atD x 2) true || isB (atD x 2) false) = usesD e := by
  unfold goodD usesD defsD
  rw [h, show (itemsD e).all (fun x => isB (atD x 2) true || isB (atD x 2) false) = (itemsD e).all boolAt from by congr 1; funext x; exact boolAt_eq x]
  have e1 : (itemsD e).all (lineD 3) = ((itemsD e).all use3 && (itemsD e).all pairL) := by
    rw [← all_and]
    congr 1
    funext x
    unfold lineD use3
    rw [Bool.and_assoc]
  have e2 : (itemsD e).all use3 = true → (itemsD (.tuple ((itemsD e).map cut2))).all pairD = (itemsD e).all pairL := fun hu => by
    show ((itemsD e).map cut2).all pairD = _
    rw [List.all_map]
    rw [List.all_eq_true] at hu
    generalize itemsD e = l at hu
    induction l with
    | nil => rfl
    | cons x l ih => rw [List.all_cons, List.all_cons, ih fun y hy => hu y (List.mem_cons_of_mem _ hy), Function.comp, pair_cut (hu x (List.mem_cons_self ..))]
  rw [e1]
  cases hu : (itemsD e).all use3 with
  | false => rfl
  | true =>
    rw [e2 hu]
    show ((true && _) && risesD ((itemsD e).map cut2) && _) = (true && (true && (_ && (true && (_ && risesD ((itemsD e).map cut2))))))
    cases (itemsD e).all pairL <;> cases (itemsD e).all boolAt <;> cases risesD ((itemsD e).map cut2) <;> rfl
theorem due_eq (d : PyData) : dueD d = libD d := by
  unfold dueD libD namesD
  rw [good2, show lenOkD (atD d 1) = decide ((ddF (strsD (itemsD (atD d 1)))).length = (itemsD (atD d 1)).length) by unfold lenOkD; rw [ddF_eq]]
  rw [show defsD (atD d 2) = (isTupD (atD d 2) && ((itemsD (atD d 2)).all pairD && risesD (itemsD (atD d 2)))) from rfl]
  cases h3 : isTupD (atD d 3) with
  | true =>
    rw [← good3 _ h3]
    cases isTupD d <;> cases isTupD (atD d 1) <;> cases isTupD (atD d 2) <;> cases (itemsD (atD d 1)).all nameD <;> cases memD (atD d 0) (atD d 1) <;> simp [Bool.and_assoc, Bool.and_comm, Bool.and_left_comm]
  | false =>
    have : usesD (atD d 3) = false := by unfold usesD; rw [h3]; rfl
    rw [this]
    simp

end
section
section
variable {W b qq : Nat} {s : Ms} {r : Me} {w : Mv} {d : PyData}
theorem gif2_sp {C1 C2 : Ft} {c1 c2 : Bool} {Er : Me → Prop} (er : Er r) (h1 : Wp (C1 r s) fun x => x.1 = c1 ∧ Ex0 s x.2) (h2 : c1 = false → ∀ s', Ex0 s s' → Wp (C2 r s') fun x => x.1 = c2 ∧ Ex0 s' x.2) :
    Wp (sseq (sif C1 (sret (mcon (.bl false))) snx) (sif C2 (sret (mcon (.bl false))) snx) r s) fun y => (if (c1 || c2) = true then y.1 = .rt (.bl false) else y.1 = .nx ∧ Er y.2.1) ∧ Ex0 s y.2.2 := by
  cases c1 with
  | true => exact wp_seqR (wp_sift (h1.mono fun y hy => ⟨hy.1, .of rfl (.inr ⟨_, rfl, by simp, hy.2⟩)⟩))
  | false => exact wp_seqR (wp_siff (h1.mono fun y hy => ⟨hy.1, .of rfl (.inl ⟨rfl, (gif_sp (Er := Er) er (h2 rfl _ hy.2)).mono fun z hz => ⟨by rw [Bool.false_or]; exact hz.1, hy.2.trans hz.2⟩⟩)⟩))
theorem isX_vd (h : Vd W b qq s w d) (t : Bool) : isXW false w (.bl t) s = some (.bl (isB d t), s) := by
  cases h with
  | bl x => show some (Mv.bl (false != decide (x = t)), s) = _; simp [isB]
  | _ => rfl
theorem srtX_of {A : Fe} {ws : List Mv} {ys : List Str} (h : A r s = some (.tup ws, s)) (e : strsOf ws = some ys) (hl : ws.length ≤ 63) : (mcall lenW (mcons (msrtX A) mnil)) r s = some (.int ((ddS ys).length : Nat), push s (.lst (sortT (ddS ys)))) := by
  have e1 : (msrtX A) r s = some (.ref s.sz, push s (.lst (sortT (ddS ys)))) := by
    unfold msrtX
    rw [h, ob_of]
    have : dedY (.tup ws) s = some (sortT (ddS ys)) := by
      show (some ws).ob _ = _
      rw [ob_of, Nat.ble_eq_true_of_le hl, cond_true]
      unfold dedX
      rw [e]
    dsimp only
    rw [this, ob_of]
    rfl
  simp only [mcall, mcons, mnil, e1, ob_of, om_of]
  rw [lenW_of (items_ref Ms.get_push), sortT_len]
theorem lineI {ws : List Mv} {ds : List PyData} (l : VdL W b qq s ws ds) (hd : PyData.depthAll ds < 24) (hl : ds.length ≤ 1000) {n : Nat} (hn : 2 ≤ n) {o0 o1 o2 o3 o6 o7 : Option Mv} : Wp ((mcall allW (mcons (mlc (miS (mvar 5)) (.nm 7) (myes) (mandV (mcall isiW (mcons (mvar 7) (mcons (mcon (.ty .tuple)) mnil))) (mandV (mop2 eqW (mcall lenW (mcons (mvar 7) (mnil))) (mvar 4)) (mcall m__law_is_pair (mcons (mvar 7) (mnil))))) [7]) (mnil))) [o0, o1, o2, o3, some (.int (n : Int)), some (.tup ws), o6, o7] s) fun y => y.1 = .bl (ds.all (lineD n)) ∧ Ex0 s y.2 := by
  obtain ⟨z1, z2, z3⟩ := l.zip
  rw [zall l (lineD n)]
  refine all_lcI (ws.zip ds) (fun q => q.1) (fun q => lineD n q.2) (by rw [List.length_zip]; omega) (by rw [z1]; exact seqI rfl) fun q hq s1 x1 => step_e rfl ?_
  have hq3 := (z3 q hq).ex0 x1
  have dq : PyData.depth q.2 ≤ PyData.depthAll ds := dep_mem (List.of_mem_zip hq).2
  refine and_sp (e_wp (ev_isi rfl hq3)) fun ht s2 x2 => ?_
  obtain ⟨us, es, e1, e2, l4, _⟩ := tup_vd hq3 ht
  rw [e2] at dq
  simp only [PyData.depth] at dq
  rw [e1, e2]
  refine and_sp (e_wp (op_e (v := .int (n : Int)) (ev_len rfl) rfl ?_)) fun hc s3 x3 => ?_
  · rw [l4.len]
    exact eq_nat
  · have h2 : (itemsD (.tuple es)).length = n := of_decide_eq_true hc
    have h2 : es.length = n := h2
    exact call_sp1 rfl (pairL_vd ((l4.ex0 x2).ex0 x3) (by omega) (by omega))
theorem line_tup {n : Nat} {ds : List PyData} (h : ds.all (lineD n) = true) : ds.all isTupD = true := by
  rw [List.all_eq_true] at h ⊢
  exact fun x hx => (Bool.and_eq_true_iff.mp (h x hx)).1
theorem line_cut {n : Nat} (hn : 2 ≤ n) {ds : List PyData} (h : ds.all (lineD n) = true) : (ds.map cut2).all pairD = true := by
  rw [List.all_map, List.all_eq_true]
  rw [List.all_eq_true] at h
  intro x hx
  have := h x hx
  unfold lineD at this
  obtain ⟨h1, h2⟩ := Bool.and_eq_true_iff.mp this
  obtain ⟨h3, h4⟩ := Bool.and_eq_true_iff.mp h2
  have h3 : (itemsD x).length = n := of_decide_eq_true h3
  show pairD (cut2 x) = true
  unfold pairD cut2 pairL atD
  unfold pairL atD at h4
  match itemsD x, h3, h4 with
  | [], h, _ => simp at h; omega
  | [a], h, _ => simp at h; omega
  | a :: c :: l, _, h4 => simpa [isTupD, dTy, isaT, itemsD] using h4
theorem riseI {ws : List Mv} {ds : List PyData} (l : VdL W b qq s ws ds) (h2 : 2 ≤ W) (hl : ds.length ≤ 1000) {n : Nat} (hn : 2 ≤ n) (ha : ds.all (lineD n) = true) {o0 o1 o2 o3 o4 o6 o7 : Option Mv} : Wp ((mcall m__law_rises (mcons (mlc (miS (mvar 5)) (.nm 7) (myes) (mslice (mvar 7) (onone) (osome (mcon (.int 2)))) [7]) (mnil))) [o0, o1, o2, o3, o4, some (.tup ws), o6, o7] s) fun y => y.1 = .bl (risesD (ds.map cut2)) ∧ Ex0 s y.2 := by
  obtain ⟨z1, z2, z3⟩ := l.zip
  have tt := line_tup ha
  simp only [mcall, mcons, mnil, wp_ob, wp_some]
  refine (lcI (I := miS (mvar 5)) (T := .nm 7) (E := mslice (mvar 7) (onone) (osome (mcon (.int 2)))) (C := myes) (vs := [7]) (r := [o0, o1, o2, o3, o4, some (.tup ws), o6, o7]) (s := s) (ws.zip ds) (fun q => q.1) (fun q => cutW q.1) (by rw [List.length_zip]; omega) (by rw [z1]; exact seqI rfl) fun q hq s1 x1 => step_e rfl ?_).mono fun y hy => ?_
  · have hq3 := (z3 q hq).ex0 x1
    obtain ⟨us, es, e1, e2, l4, _⟩ := tup_vd hq3 (List.all_eq_true.mp tt _ (List.of_mem_zip hq).2)
    rw [e1]
    exact e_wp (sl2_of rfl)
  · obtain ⟨v, s1⟩ := y
    obtain ⟨n1, e, _, lt, g, x⟩ := hy
    simp only at e lt g x
    subst e
    have ew : ((ws.zip ds).map fun q => cutW q.1) = ws.map cutW := by
      conv => rhs; rw [← z1]
      rw [List.map_map]; rfl
    rw [ew] at g
    dsimp only
    exact (rises_vd lt g ((cuts_vd (l.ex0 x) h2 tt)) (line_cut hn ha) (by rw [List.length_map]; exact hl)).mono fun z hz => ⟨hz.1, x.trans hz.2⟩
end

end
section
section
variable {W b qq : Nat} {s : Ms} {r : Me} {w : Mv} {d : PyData}
theorem due_vd (h : Vd W b qq s w d) (hW : W ≤ 63) (h2 : 2 ≤ W) (hd : PyData.depth d < 24) : Wp (m__law_is_lib [w] s) fun y => y.1 = .bl (libD d) ∧ Ex0 s y.2 := by
  rw [← due_eq]
  have e : dueD d = (!(!isTupD d || (!decide ((itemsD d).length = 4) || !nameD (atD d 0))) && (!(!isTupD (atD d 1) || (!isTupD (atD d 2) || !isTupD (atD d 3))) &&
    (!(!(itemsD (atD d 1)).all nameD || (!lenOkD (atD d 1) || memD (atD d 0) (atD d 1))) && ((!([(2, atD d 2), (3, atD d 3)].any fun q => !goodD q.1 q.2)) && (itemsD (atD d 3)).all fun x => isB (atD x 2) true || isB (atD x 2) false)))) := by
    unfold dueD
    cases isTupD d <;> simp
  rw [e]
  refine fn_sp (v := .bl _) [some w, none, none, none, none, none, none, none] rfl rfl ?_
  unfold bd__law_is_lib
  refine guard_sp (tor_sp (c_wp (n_of (t_of (ev_isi rfl h)))) fun hc s1 x1 => ?_) fun hc s1 x1 => ?_
  · obtain ⟨ws, ds, rfl, rfl, l, hd⟩ := tup_vd h (by simpa using hc)
    have l1 := l.ex0 x1
    refine tor_sp (c_wp (b_of (op_e (ev_len rfl) rfl (by rw [l1.len]; exact ne_nat (n := 4))))) fun hc2 s2 x2 => ?_
    have h4 : (itemsD (.tuple ds)).length = 4 := of_decide_eq_true (by simpa using hc2)
    have h4 : ds.length = 4 := h4
    obtain ⟨v, f1, f2⟩ := at_vd (s := s2) (r := [some (.tup ws), none, none, none, none, none, none, none]) (l1.ex0 x2) (k := 0) (by omega) (i := 0) rfl
    exact not_sp (mt_tl (call_sp1 f1 (word_vd f2)))
  simp only [Bool.or_eq_false_iff, Bool.not_eq_false'] at hc
  obtain ⟨hc1, hc2, hc3⟩ := hc
  obtain ⟨ws, ds, rfl, rfl, l, hdw⟩ := tup_vd h hc1
  have h4 : (itemsD (.tuple ds)).length = 4 := of_decide_eq_true hc2
  have h4 : ds.length = 4 := h4
  simp only [PyData.depth] at hd
  match ds, h4, l.ex0 x1 with
  | [d0, d1, d2, d3], _, .cons (w := w0) a0 (.cons (w := w1) a1 (.cons (w := w2) a2 (.cons (w := w3) a3 .nil))) =>
    refine Wp.mono (Q := fun x : Fl × Me × Ms => x.1 = .rt (.bl (!(!isTupD d1 || (!isTupD d2 || !isTupD d3)) && (!(!(itemsD d1).all nameD || (!lenOkD d1 || memD d0 d1)) && ((!([(2, d2), (3, d3)].any fun q => !goodD q.1 q.2)) && (itemsD d3).all fun x => isB (atD x 2) true || isB (atD x 2) false)))) ∧ Ex0 s1 x.2.2) ?_ (fun x hx => hx)
    simp only [PyData.depthAll] at hd
    have hc3 : nameD d0 = true := hc3
    refine wp_seq (.of (x := (.nx, [some (.tup [w0, w1, w2, w3]), some w1, some w2, some w3, none, none, none, none], s1)) ?_ ⟨rfl, ?_⟩)
    · have e2 : slW (.tup [w0, w1, w2, w3]) (some 1) none s1 = some (.tup [w1, w2, w3], s1) := by
        show newT (cutM [w0, w1, w2, w3] (some 1) none) s1 = _
        rw [cut_tl, newT_of (by simp)]; rfl
      unfold sasg
      simp only [mslice, osome, onone, mcon, mvar, lget_eq, List.getElem?_cons_zero, ob_of, om_of, e2]
      rfl
    refine guard_sp (tor_sp (c_wp (n_of (t_of (ev_isi rfl a1)))) fun _ s2 x2 => tor_sp (c_wp (n_of (t_of (ev_isi rfl (a2.ex0 x2))))) fun _ s3 x3 => c_wp (n_of (t_of (ev_isi rfl ((a3.ex0 x2).ex0 x3))))) fun ht s2 x2 => ?_
    simp only [Bool.or_eq_false_iff, Bool.not_eq_false'] at ht
    obtain ⟨t1, t2, t3⟩ := ht
    obtain ⟨us1, es1, rfl, rfl, l1, k1⟩ := tup_vd a1 t1
    obtain ⟨us2, es2, rfl, rfl, l2, k2⟩ := tup_vd a2 t2
    obtain ⟨us3, es3, rfl, rfl, l3, k3⟩ := tup_vd a3 t3
    simp only [PyData.depth] at hd
    refine guard_sp (tor_sp (not_sp (mt_tl ?_)) fun hn s3 x3 => tor_sp (mb_tl ?_) fun hn2 s4 x4 => mb_tl ?_) fun hn s3 x3 => ?_
    · have l1' := l1.ex0 x2
      obtain ⟨z1, z2, z3⟩ := l1'.zip
      rw [show (itemsD (.tuple es1)).all nameD = _ from zall l1' nameD]
      exact all_lcI (us1.zip es1) (fun q => q.1) (fun q => nameD q.2) (by rw [List.length_zip]; omega) (by rw [z1]; exact seqI rfl) fun q hq s3 x3 => step_e rfl (call_sp1 rfl (word_vd ((z3 q hq).ex0 x3)))
    · have hn : es1.all nameD = true := by simpa [itemsD] using hn
      obtain ⟨i1, i2⟩ := strs_vd l1 hn
      unfold mop2
      rw [wp_ob]
      refine .of (srtX_of (A := mvar 1) rfl i1 (by rw [l1.len]; omega)) ?_
      dsimp only
      rw [wp_ob]
      refine .of (ev_len rfl) ?_
      refine .of (by rw [l1.len]; exact ne_nat) ⟨rfl, Ex0.push⟩
    · have hn : es1.all nameD = true := by simpa [itemsD] using hn
      obtain ⟨i1, i2⟩ := strs_vd l1 hn
      obtain ⟨x, rfl⟩ := name_str hc3
      cases a0
      exact e_wp (op_e (ev_ix (k := 0) rfl rfl) rfl (in_txt i1))
    · have l2' := (l2.ex0 x2).ex0 x3
      have l3' := (l3.ex0 x2).ex0 x3
      have fold : ([(2, PyData.tuple es2), (3, PyData.tuple es3)].any fun q => !goodD q.1 q.2) = [((2 : Nat), us2, es2), (3, us3, es3)].any fun q => !goodD q.1 (.tuple q.2.2) := rfl
      rw [fold]
      refine for_inv [((2 : Nat), us2, es2), (3, us3, es3)] (fun q => .tup [.int (q.1 : Int), .tup q.2.1]) (fun q => !goodD q.1 (.tuple q.2.2)) (fun r' : Me => ∃ o4 o5 : Option Mv, r' = [some (.tup [w0, .tup us1, .tup us2, .tup us3]), some (.tup us1), some (.tup us2), some (.tup us3), o4, o5, none, none]) ⟨none, none, rfl⟩ (by simp) (seqI rfl) ?_ ?_
      · rintro q hq _ s4 ⟨o4, o5, rfl⟩ x4
        refine ⟨_, rfl, ?_⟩
        have nq : 2 ≤ q.1 := by
          rcases List.mem_cons.mp hq with rfl | hq
          · exact Nat.le_refl 2
          · rw [List.mem_singleton.mp hq]; exact Nat.le_succ 2
        have lq : VdL W b qq s4 q.2.1 q.2.2 ∧ PyData.depthAll q.2.2 < 24 ∧ q.2.2.length ≤ 1000 := by
          rcases List.mem_cons.mp hq with rfl | hq
          · exact ⟨l2'.ex0 x4, by show PyData.depthAll es2 < 24; omega, by show es2.length ≤ 1000; omega⟩
          · rw [List.mem_singleton.mp hq]
            exact ⟨l3'.ex0 x4, by show PyData.depthAll es3 < 24; omega, by show es3.length ≤ 1000; omega⟩
        obtain ⟨n, us, es⟩ := q
        obtain ⟨lq1, lq2, lq3⟩ := lq
        have ec : (!goodD n (.tuple es)) = (!es.all (lineD n) || !risesD (es.map cut2)) := by unfold goodD; simp [itemsD]
        dsimp only
        rw [ec]
        refine gif2_sp (Er := fun r' : Me => ∃ o4 o5 : Option Mv, r' = [some (.tup [w0, .tup us1, .tup us2, .tup us3]), some (.tup us1), some (.tup us2), some (.tup us3), o4, o5, none, none]) ⟨_, _, rfl⟩ (not_sp (mt_tl (lineI lq1 lq2 lq3 nq))) fun ha s5 x5 => not_sp (mt_tl (riseI (lq1.ex0 x5) h2 lq3 nq (by simpa using ha)))
      · rintro no _ s4 ⟨o4, o5, rfl⟩ x4
        have l4 := l3'.ex0 x4
        obtain ⟨z1, z2, z3⟩ := l4.zip
        have g3 : goodD 3 (.tuple es3) = true := by
          have := List.any_eq_false.mp no ((3 : Nat), us3, es3) (by simp)
          simpa using this
        have g4 : es3.all (lineD 3) = true := (Bool.and_eq_true_iff.mp g3).1
        rw [show (itemsD (.tuple es3)).all (fun x => isB (atD x 2) true || isB (atD x 2) false) = _ from zall l4 fun x => isB (atD x 2) true || isB (atD x 2) false]
        refine ret_sp (all_lcI (us3.zip es3) (fun q => q.1) (fun q => isB (atD q.2 2) true || isB (atD q.2 2) false) (by rw [List.length_zip]; omega) (by rw [z1]; exact seqI rfl) fun q hq s5 x5 => step_e rfl ?_)
        have hq3 := (z3 q hq).ex0 x5
        have g5 := List.all_eq_true.mp g4 _ (List.of_mem_zip hq).2
        unfold lineD at g5
        obtain ⟨g6, g7⟩ := Bool.and_eq_true_iff.mp g5
        have g8 := of_decide_eq_true (Bool.and_eq_true_iff.mp g7).1
        obtain ⟨us, es, e1, e2, l5, _⟩ := tup_vd hq3 g6
        rw [e2] at g8
        have g8 : es.length = 3 := g8
        rw [e1, e2]
        have at_ : ∀ s', Ex0 s5 s' → ∃ v, (mop2 ixA (mvar 7) (mcon (.int ((2 : Nat) : Int)))) [some (.tup [w0, .tup us1, .tup us2, .tup us3]), some (.tup us1), some (.tup us2), some (.tup us3), o4, o5, none, some (.tup us)] s' = some (v, s') ∧ Vd W b qq s' v (atD (.tuple es) 2) := fun s' x => at_vd (l5.ex0 x) (by omega) rfl
        refine or_sp ?_ fun _ s6 x6 => ?_
        · obtain ⟨v, f1, f2⟩ := at_ s5 Ex0.refl
          exact e_wp (op_e f1 rfl (isX_vd f2 true))
        · obtain ⟨v, f1, f2⟩ := at_ s6 x6
          exact e_wp (op_e f1 rfl (isX_vd f2 false))
end

end
section
/-! ### other values, values with one thing changed -/
/-- a value that reads as data, so deep, so heavy -/
def Ok (W k m b qq : Nat) (s : Ms) (w : Mv) : Prop := ∃ d, Vd W b qq s w d ∧ SD k m d
section
variable {W k m b qq : Nat} {s : Ms} {r : Me} {w : Mv}
theorem Ok.ext {s' : Ms} (h : Ok W k m b qq s w) (x : Ext b s s') : Ok W k m b qq s' w := let ⟨d, h1, h2⟩ := h; ⟨d, h1.ext x, h2⟩
theorem Ok.ex0 {s' : Ms} (h : Ok W k m b qq s w) (x : Ex0 s s') : Ok W k m b qq s' w := h.ext x.ext
theorem Ok.mono {W' k' m' : Nat} (h : Ok W k m b qq s w) (h1 : W ≤ W') (h2 : k ≤ k') (h3 : m ≤ m') : Ok W' k' m' b qq s w := let ⟨d, g1, g2⟩ := h; ⟨d, g1.wide h1, g2.mono h2 h3⟩
/-- all of these, together so heavy -/
def Oks (W k m b qq : Nat) (s : Ms) (ws : List Mv) : Prop := ∃ ds, VdL W b qq s ws ds ∧ SDs k m ds
theorem Oks.tup {ws : List Mv} (h : Oks W k m b qq s ws) (hl : ws.length ≤ W) : Ok W (k + 1) m b qq s (.tup ws) := by
  obtain ⟨ds, h1, h2⟩ := h
  exact ⟨_, .tup (by rw [← h1.len]; exact hl) h1, h2.tup⟩
theorem Oks.lst {ws : List Mv} {n : Nat} (h : Oks W k m b qq s ws) (hl : ws.length ≤ W) (hn : n < s.sz) (hb : n ≠ b ∧ n ≠ qq) (g : s.get n = some (.lst ws)) : Ok W (k + 1) m b qq s (.ref n) := by
  obtain ⟨ds, h1, h2⟩ := h
  exact ⟨_, .lst (by rw [← h1.len]; exact hl) hn hb g h1, h2.lst⟩
theorem Oks.ext {s' : Ms} {ws : List Mv} (h : Oks W k m b qq s ws) (x : Ext b s s') : Oks W k m b qq s' ws := let ⟨d, h1, h2⟩ := h; ⟨d, h1.ext x, h2⟩
theorem Oks.ex0 {s' : Ms} {ws : List Mv} (h : Oks W k m b qq s ws) (x : Ex0 s s') : Oks W k m b qq s' ws := h.ext x.ext
theorem Oks.mono {W' k' m' : Nat} {ws : List Mv} (h : Oks W k m b qq s ws) (h1 : W ≤ W') (h2 : k ≤ k') (h3 : m ≤ m') : Oks W' k' m' b qq s ws := let ⟨d, g1, g2⟩ := h; ⟨d, g1.wide h1, fun x hx => (g2.one x hx).mono h2 h3, Nat.le_trans g2.wt h3⟩
theorem Ok.fresh {q' : Nat} (h : Ok W k m b qq s w) (x : s.sz ≤ q') : Ok W k m b q' s w := let ⟨d, h1, h2⟩ := h; ⟨d, h1.fresh x, h2⟩
theorem Ok.putq {o : Mo} (h : Ok W k m b qq s w) : Ok W k m b qq (s.put qq o) w := let ⟨d, h1, h2⟩ := h; ⟨d, h1.putq, h2⟩
theorem Oks.nil : Oks W k m b qq s [] := ⟨[], .nil, (fun _ h => nomatch h), Nat.zero_le _⟩
theorem Oks.append {m' : Nat} {ws vs : List Mv} (h : Oks W k m b qq s ws) (g : Oks W k m' b qq s vs) : Oks W k (m + m') b qq s (ws ++ vs) := by
  obtain ⟨ds, h1, h2⟩ := h
  obtain ⟨es, g1, g2⟩ := g
  exact ⟨_, h1.append g1, h2.app g2 (Nat.le_refl _) (Nat.le_refl _) (Nat.le_refl _)⟩
theorem Ok.cons {m' : Nat} {ws : List Mv} (h : Ok W k m b qq s w) (g : Oks W k m' b qq s ws) : Oks W k (m + 1 + m') b qq s (w :: ws) := by
  obtain ⟨d, h1, h2⟩ := h
  obtain ⟨es, g1, g2⟩ := g
  refine ⟨_, .cons h1 g1, fun x hx => ?_, by simp only [PyData.weightAll]; have := h2.wt; have := g2.wt; omega⟩
  rcases List.mem_cons.mp hx with rfl | hx
  · exact h2.mono (Nat.le_refl _) (by omega)
  · exact (g2.one x hx).mono (Nat.le_refl _) (by omega)
theorem Oks.take {ws : List Mv} (n : Nat) (h : Oks W k m b qq s ws) : Oks W k m b qq s (ws.take n) := let ⟨d, h1, h2⟩ := h; ⟨_, h1.take n, h2.sub (List.take_sublist n _)⟩
theorem Oks.drop {ws : List Mv} (n : Nat) (h : Oks W k m b qq s ws) : Oks W k m b qq s (ws.drop n) := let ⟨d, h1, h2⟩ := h; ⟨_, h1.drop n, h2.sub (List.drop_sublist n _)⟩
theorem w_rev : ∀ ds : List PyData, PyData.weightAll ds.reverse = PyData.weightAll ds
  | [] => rfl
  | d :: ds => by rw [List.reverse_cons, w_app, w_rev ds]; simp only [PyData.weightAll]; omega
theorem Oks.rev {ws : List Mv} (h : Oks W k m b qq s ws) : Oks W k m b qq s ws.reverse := let ⟨d, h1, h2⟩ := h; ⟨_, h1.rev, fun x hx => h2.one x (List.mem_reverse.mp hx), by rw [w_rev]; exact h2.wt⟩
theorem Oks.get {ws : List Mv} (h : Oks W k m b qq s ws) {i : Nat} (e : ws[i]? = some w) : Ok W k m b qq s w := let ⟨d, h1, h2⟩ := h; let ⟨x, e1, e2⟩ := h1.get e; ⟨x, e2, h2.one x (List.mem_of_getElem? e1)⟩
theorem Ok.untup {ws : List Mv} (h : Ok W k m b qq s (.tup ws)) : 1 ≤ k ∧ ws.length ≤ W ∧ Oks W (k - 1) m b qq s ws := by
  obtain ⟨d, h1, h2⟩ := h
  cases h1 with
  | tup kk l =>
    obtain ⟨a, c⟩ := h2.untup
    exact ⟨a, by rw [l.len]; exact kk, _, l, c⟩
theorem Ok.unref {n : Nat} (h : Ok W k m b qq s (.ref n)) : ∃ ws, n < s.sz ∧ (n ≠ b ∧ n ≠ qq) ∧ s.get n = some (.lst ws) ∧ 1 ≤ k ∧ ws.length ≤ W ∧ Oks W (k - 1) m b qq s ws := by
  obtain ⟨d, h1, h2⟩ := h
  cases h1 with
  | lst kk hn hb g l =>
    obtain ⟨a, c⟩ := h2.unlst
    exact ⟨_, hn, hb, g, a, by rw [l.len]; exact kk, _, l, c⟩
theorem sd_non : SD 0 20 .none := ⟨rfl, rfl, by simp [PyData.depth], by simp only [PyData.leavesShort] <;> decide, by simp [PyData.weight], rfl⟩
theorem sd_bl (x : Bool) : SD 0 20 (.bool x) := ⟨rfl, rfl, by simp [PyData.depth], by simp only [PyData.leavesShort] <;> decide, by simp [PyData.weight], rfl⟩
theorem ok_non : Ok W 0 20 b qq s .non := ⟨_, .non, sd_non⟩
theorem ok_bl {x : Bool} : Ok W 0 20 b qq s (.bl x) := ⟨_, .bl x, sd_bl x⟩
theorem ok_int {n : Nat} (h : n < 1000000) : Ok W 0 20 b qq s (.int (n : Int)) := ⟨_, .int _ (by omega), sd_int h⟩
theorem ok_str {x : Str} (h1 : PyData.strOk x = true) (h2 : x.cps.size ≤ 20) : Ok W 0 20 b qq s (.str x) := ⟨_, .str h1 h2, sd_str h1 h2⟩
/-! expressions that tell such values, whatever the places hold -/
def OkE (W k m b qq n : Nat) (E : Fe) : Prop := ∀ (r : Me) (s : Ms), b < s.sz → qq < s.sz → Wp (E r s) fun y => Ex0 s y.2 ∧ Ok W k m b qq y.2 y.1
def OkA (W k m b qq n j : Nat) (A : Fa) : Prop := ∀ (r : Me) (s : Ms), b < s.sz → qq < s.sz → Wp (A r s) fun y => Ex0 s y.2 ∧ y.1.length = j ∧ Oks W k m b qq y.2 y.1
theorem okE_con {n : Nat} {v : Mv} (h : ∀ s, Ok W k m b qq s v) : OkE W k m b qq n (mcon v) := fun r s _ _ => ⟨_, rfl, Ex0.refl, h s⟩
theorem okA_nil {n : Nat} : OkA W k 0 b qq n 0 mnil := fun r s _ _ => ⟨_, rfl, Ex0.refl, rfl, Oks.nil⟩
theorem okA_cons {n j m' : Nat} {E : Fe} {A : Fa} (h1 : OkE W k m b qq n E) (h2 : OkA W k m' b qq n j A) : OkA W k (m + 1 + m') b qq n (j + 1) (mcons E A) := fun r s hn hb => by
  unfold mcons
  rw [wp_ob]
  refine (h1 r s hn hb).mono fun y hy => ?_
  rw [wp_ob]
  refine (h2 r y.2 (Nat.lt_of_lt_of_le hn hy.1.sz) (Nat.lt_of_lt_of_le hb hy.1.sz)).mono fun z hz => ?_
  exact .of rfl ⟨hy.1.trans hz.1, by rw [List.length_cons, hz.2.1], (hy.2.ex0 hz.1).cons hz.2.2⟩
theorem okE_tup {n j : Nat} {A : Fa} (h : OkA W k m b qq n j A) (hj : j ≤ W) (hj2 : j ≤ 1000) : OkE W (k + 1) m b qq n (mtup A) := fun r s hn hb => by
  unfold mtup
  rw [wp_ob]
  refine (h r s hn hb).mono fun y hy => ?_
  rw [wp_newT (by rw [hy.2.1]; omega)]
  exact ⟨hy.1, hy.2.2.tup (by rw [hy.2.1]; exact hj)⟩
theorem okE_lst {n j : Nat} {A : Fa} (h : OkA W k m b qq n j A) (hj : j ≤ W) (hj2 : j ≤ 1000) : OkE W (k + 1) m b qq n (mlst A) := fun r s hn hb => by
  unfold mlst
  rw [wp_ob]
  refine (h r s hn hb).mono fun y hy => ?_
  rw [wp_newL (by rw [hy.2.1]; omega)]
  exact ⟨hy.1.trans Ex0.push, (hy.2.2.ex0 Ex0.push).lst (by rw [hy.2.1]; exact hj) (by rw [push_sz]; omega) ⟨by have := hy.1.sz; omega, by have := hy.1.sz; omega⟩ Ms.get_push⟩
end

end
section
noncomputable def newK (v : Mv) (us : List Mv) (s : Ms) : Option (Mv × Ms) := match v with
  | .tup _ => newT us s
  | _ => newL us s
section
variable {W k m b qq m0 : Nat} {s : Ms} {v : Mv}
theorem cut_neg (ws : List Mv) : cutM ws none (some (-1)) = ws.take (ws.length - 1) ∧ cutM ws (some (-1)) none = ws.drop (ws.length - 1) := by
  unfold cutM
  have h0 : HT.sIx ws.length 0 none = 0 := by simp [HT.sIx]
  have h1 : HT.sIx ws.length ws.length none = ws.length := by simp [HT.sIx]
  have h2 : ∀ z, HT.sIx ws.length z (some (-1)) = ws.length - 1 := fun z => by simp [HT.sIx]; omega
  rw [h0, h1, h2, h2]
  refine ⟨by simp, ?_⟩
  rw [List.take_of_length_le (by rw [List.length_drop]; exact Nat.le_refl _)]
/-- the parts of a list or a tuple -/
structure Part (W k m b qq : Nat) (s : Ms) (v : Mv) (ws : List Mv) : Prop where
  it : items v s = some ws
  ok : Oks W (k - 1) m b qq s ws
  len : ws.length ≤ W
  one : 1 ≤ k
  sl : ∀ lo hi, slW v lo hi s = (newK v (cutM ws lo hi) s)
  rv : ∀ (A : Fe) (r : Me), A r s = some (v, s) → mrev A r s = (newK v ws.reverse s)
  kind : v = .tup ws ∨ ∃ n, v = .ref n ∧ n < s.sz ∧ (n ≠ b ∧ n ≠ qq) ∧ s.get n = some (.lst ws)
theorem Part.ex0 {s' : Ms} {ws : List Mv} (h : Part W k m b qq s v ws) (x : Ex0 s s') : Part W k m b qq s' v ws := by
  rcases h.kind with rfl | ⟨n, rfl, n1, n2, g⟩
  · exact ⟨rfl, h.ok.ex0 x, h.len, h.one, fun _ _ => rfl, fun A r e => by unfold mrev; rw [e]; rfl, .inl rfl⟩
  · have g' := x.at n1 g
    refine ⟨items_ref g', h.ok.ex0 x, h.len, h.one, fun lo hi => ?_, fun A r e => ?_, .inr ⟨n, rfl, Nat.lt_of_lt_of_le n1 x.sz, n2, g'⟩⟩
    · unfold slW
      dsimp only
      rw [g']; rfl
    · unfold mrev
      rw [e, ob_of]
      dsimp only
      rw [g']; rfl
theorem part_of (h : Ok W k m b qq s v) {t : Mty} (ht : tyOf v s = some t) (hh : t = .list ∨ t = .tuple) : ∃ ws, Part W k m b qq s v ws := by
  obtain ⟨d, h1, h2⟩ := id h
  cases h1 with
  | tup =>
    obtain ⟨a, c, e⟩ := h.untup
    exact ⟨_, rfl, e, c, a, fun _ _ => rfl, fun A r e => by unfold mrev; rw [e]; rfl, .inl rfl⟩
  | lst =>
    obtain ⟨ws, n1, n2, g, a, c, e⟩ := h.unref
    refine ⟨ws, items_ref g, e, c, a, fun lo hi => ?_, fun A r e => ?_, .inr ⟨_, rfl, n1, n2, g⟩⟩
    · unfold slW
      dsimp only
      rw [g]; rfl
    · unfold mrev
      rw [e, ob_of]
      dsimp only
      rw [g]; rfl
  | non => cases ht; rcases hh with hh | hh <;> cases hh
  | bl => cases ht; rcases hh with hh | hh <;> cases hh
  | int => cases ht; rcases hh with hh | hh <;> cases hh
  | str => cases ht; rcases hh with hh | hh <;> cases hh
/-- a part of it, made anew: a list from a list, a tuple from a tuple -/
theorem made {ws us : List Mv} (h : Part W k m b qq s v ws) {m' : Nat} (hu : Oks W (k - 1) m' b qq s us) (hl : us.length ≤ W + 1) (hW : W ≤ 1000) (hb : b < s.sz) (hq : qq < s.sz) : Wp (newK v us s) fun y => Ex0 s y.2 ∧ Ok (W + 1) k m' b qq y.2 y.1 ∧ (v = .tup ws → y.1 = .tup us ∧ y.2 = s) ∧ (∀ n, v = .ref n → ∃ j, y.1 = .ref j ∧ y.2.get j = some (.lst us)) := by
  have hu' : Oks (W + 1) (k - 1) m' b qq s us := hu.mono (Nat.le_succ _) (Nat.le_refl _) (Nat.le_refl _)
  have k1 := h.one
  rcases h.kind with rfl | ⟨n, rfl, n1, n2, g⟩
  · have z := hu'.tup hl
    rw [show k - 1 + 1 = k by omega] at z
    exact .of (newT_of (by omega)) ⟨Ex0.refl, z, (fun _ => ⟨rfl, rfl⟩), fun n e => nomatch e⟩
  · have z := (hu'.ex0 (Ex0.push (o := .lst us))).lst (n := s.sz) hl (by rw [push_sz]; omega) ⟨by omega, by omega⟩ Ms.get_push
    rw [show k - 1 + 1 = k by omega] at z
    exact .of (newL_of (by omega)) ⟨Ex0.push, z, (fun e => nomatch e), fun n e => ⟨s.sz, rfl, Ms.get_push⟩⟩
end

end
section
section
variable {W k m b qq m0 : Nat} {s : Ms} {v : Mv} {r : Me}
def Pl (W k m b qq j : Nat) (r : Me) (s : Ms) (A : Fa) : Prop := ∀ s', Ex0 s s' → Wp (A r s') fun y => Ex0 s' y.2 ∧ y.1.length = j ∧ ∀ w ∈ y.1, Ok W k m b qq y.2 w
def Pe (W k m b qq : Nat) (r : Me) (s : Ms) (E : Fe) : Prop := ∀ s', Ex0 s s' → Wp (E r s') fun y => Ex0 s' y.2 ∧ Ok W k m b qq y.2 y.1
theorem pl_nil : Pl W k m b qq 0 r s mnil := fun s' _ => ⟨_, rfl, Ex0.refl, rfl, fun _ h => nomatch h⟩
theorem pl_cons {j : Nat} {E : Fe} {A : Fa} (h1 : Pe W k m b qq r s E) (h2 : Pl W k m b qq j r s A) : Pl W k m b qq (j + 1) r s (mcons E A) := fun s' x => by
  unfold mcons
  rw [wp_ob]
  refine (h1 s' x).mono fun y hy => ?_
  rw [wp_ob]
  refine (h2 y.2 (x.trans hy.1)).mono fun z hz => ?_
  refine .of rfl ⟨hy.1.trans hz.1, by rw [List.length_cons, hz.2.1], fun w hw => ?_⟩
  rcases List.mem_cons.mp hw with rfl | hw
  · exact hy.2.ex0 hz.1
  · exact hz.2.2 w hw
theorem pe_of {k' m' n : Nat} {E : Fe} (h : OkE W k' m' b qq n E) (hn : b < s.sz) (hb : qq < s.sz) (h1 : k' ≤ k) (h2 : m' ≤ m) : Pe W k m b qq r s E := fun s' x => (h r s' (Nat.lt_of_lt_of_le hn x.sz) (Nat.lt_of_lt_of_le hb x.sz)).mono fun y hy => ⟨hy.1, hy.2.mono (Nat.le_refl _) h1 h2⟩
theorem pe_con {v : Mv} (h : ∀ s, Ok W 0 20 b qq s v) (h2 : 20 ≤ m) : Pe W k m b qq r s (mcon v) := fun s' _ => ⟨_, rfl, Ex0.refl, (h s').mono (Nat.le_refl _) (Nat.zero_le _) h2⟩
/-- a new list of such values -/
structure Pool (W k m b qq : Nat) (s : Ms) (v : Mv) (ws : List Mv) : Prop where
  it : ∃ n, v = .ref n ∧ n < s.sz ∧ n ≠ b ∧ s.get n = some (.lst ws)
  ok : ∀ w ∈ ws, Ok W k m b qq s w
theorem Pool.ex0 {s' : Ms} {ws : List Mv} (h : Pool W k m b qq s v ws) (x : Ex0 s s') : Pool W k m b qq s' v ws := by
  obtain ⟨n, e, n1, n2, g⟩ := h.it
  exact ⟨⟨n, e, Nat.lt_of_lt_of_le n1 x.sz, n2, x.at n1 g⟩, fun w hw => (h.ok w hw).ex0 x⟩
theorem pl_lst {j : Nat} {A : Fa} (h : Pl W k m b qq j r s A) (hj : j ≤ 1000) (hb : b < s.sz) : ∀ s', Ex0 s s' → Wp (mlst A r s') fun y => Ex0 s' y.2 ∧ ∃ ws, ws.length = j ∧ Pool W k m b qq y.2 y.1 ws := fun s' x => by
  unfold mlst
  rw [wp_ob]
  refine (h s' x).mono fun y hy => ?_
  rw [wp_newL (by rw [hy.2.1]; omega)]
  have := x.sz
  have := hy.1.sz
  exact ⟨hy.1.trans Ex0.push, y.1, hy.2.1, ⟨y.2.sz, rfl, by rw [push_sz]; omega, by omega, Ms.get_push⟩, fun w hw => (hy.2.2 w hw).ex0 Ex0.push⟩
theorem pool_add {u : Mv} {ws us : List Mv} (h : Pool W k m b qq s v ws) (g : Pool W k m b qq s u us) (hl : ws.length + us.length ≤ 1000) (hb : b < s.sz) : Wp (addW v u s) fun y => Ex0 s y.2 ∧ Pool W k m b qq y.2 y.1 (ws ++ us) := by
  obtain ⟨n, rfl, n1, n2, g1⟩ := h.it
  obtain ⟨n', rfl, n1', n2', g2⟩ := g.it
  refine .of (x := (.ref s.sz, push s (.lst (ws ++ us)))) ?_ ⟨Ex0.push, ⟨_, rfl, by rw [push_sz]; omega, by omega, Ms.get_push⟩, fun w hw => ?_⟩
  · unfold addW
    dsimp only
    rw [g1, g2]
    exact newL_of (by rw [List.length_append]; omega)
  · rcases List.mem_append.mp hw with hw | hw
    · exact (h.ok w hw).ex0 Ex0.push
    · exact (g.ok w hw).ex0 Ex0.push
theorem pool_mul {ws : List Mv} (h : Pool W k m b qq s v ws) (hl : ws.length ≤ 400) (hb : b < s.sz) : Wp (lmulW v (.int 2) s) fun y => Ex0 s y.2 ∧ Pool W k m b qq y.2 y.1 (ws ++ ws) := by
  obtain ⟨n, rfl, n1, n2, g1⟩ := h.it
  refine .of (x := (.ref s.sz, push s (.lst (ws ++ ws)))) ?_ ⟨Ex0.push, ⟨_, rfl, by rw [push_sz]; omega, by omega, Ms.get_push⟩, fun w hw => ?_⟩
  · unfold lmulW
    dsimp only
    rw [g1]
    dsimp only
    rw [Nat.ble_eq_true_of_le (by omega : ws.length ≤ 1000)]
    show newL (ws ++ (ws ++ [])) s = _
    rw [List.append_nil]
    exact newL_of (by rw [List.length_append]; omega)
  · exact (h.ok w (by rcases List.mem_append.mp hw with hw | hw <;> exact hw)).ex0 Ex0.push
/-- what is made of a list or a tuple -/
theorem five {ws : List Mv} (h : Part W k m b qq s v ws) (hm : Oks W (k - 1) m b qq s ws) (hW : W ≤ 1000) (hb : b < s.sz) (hq : qq < s.sz) (o2 : Option Mv) : Pl (W + 1) k (2 * m) b qq 5 [some (.ref b), some v, o2] s (mcons (mcall listW (mcons (mvar 1) (mnil))) (mcons (mrev (mvar 1)) (mcons (mslice (mvar 1) (osome (mcon (.int 1))) (onone)) (mcons (mslice (mvar 1) (onone) (osome (mop1 negW (mcon (.int 1))))) (mcons (mop2 addW (mvar 1) (mslice (mvar 1) (osome (mop1 negW (mcon (.int 1)))) (onone))) (mnil)))))) := by
  have hv : ∀ s', (mvar 1) [some (.ref b), some v, o2] s' = some (v, s') := fun s' => mvar_t rfl
  have hl := h.len
  have done : ∀ {s' : Ms} {us : List Mv}, Ex0 s s' → Oks W (k - 1) m b qq s' us → us.length ≤ W → Wp (newK v us s') fun y => Ex0 s' y.2 ∧ Ok (W + 1) k (2 * m) b qq y.2 y.1 := fun {s' us} x hu hl => by
    exact (made (h.ex0 x) hu (by omega) hW (Nat.lt_of_lt_of_le hb x.sz) (Nat.lt_of_lt_of_le hq x.sz)).mono fun y hy => ⟨hy.1, hy.2.1.mono (Nat.le_refl _) (Nat.le_refl _) (by omega)⟩
  have sl : ∀ {s' : Ms} {lo hi : Option Int} {L U : Fo}, Ex0 s s' → (∀ t, L [some (.ref b), some v, o2] t = some (lo, t)) → (∀ t, U [some (.ref b), some v, o2] t = some (hi, t)) → (mslice (mvar 1) L U) [some (.ref b), some v, o2] s' = (newK v (cutM ws lo hi) s') := fun {s' lo hi L U} x h1 h2 => by
    unfold mslice
    rw [hv, ob_of]
    dsimp only
    rw [h1, ob_of]
    dsimp only
    rw [h2, ob_of]
    exact (h.ex0 x).sl lo hi
  have n1 : ∀ t, (osome (mop1 negW (mcon (.int 1)))) [some (.ref b), some v, o2] t = some (some (-1), t) := fun t => rfl
  have o1 : ∀ t, (osome (mcon (.int 1))) [some (.ref b), some v, o2] t = some (some 1, t) := fun t => rfl
  have nn : ∀ t, (onone) [some (.ref b), some v, o2] t = some (none, t) := fun t => rfl
  refine pl_cons (fun s' x => ?_) (pl_cons (fun s' x => ?_) (pl_cons (fun s' x => ?_) (pl_cons (fun s' x => ?_) (pl_cons (fun s' x => ?_) pl_nil))))
  · -- list(..)
    have p := h.ex0 x
    have k1 := h.one
    simp only [mcall, mcons, mnil, hv, ob_of, om_of]
    unfold listW
    dsimp only
    rw [p.it, ob_of, wp_newL (by omega)]
    have := x.sz
    have z := ((p.ok.mono (Nat.le_succ _) (Nat.le_refl _) (by omega : m ≤ 2 * m)).ex0 (Ex0.push (o := .lst ws))).lst (n := s'.sz) (by omega) (by rw [push_sz]; omega) ⟨by omega, by omega⟩ Ms.get_push
    rw [show k - 1 + 1 = k by omega] at z
    exact ⟨Ex0.push, z⟩
  · rw [(h.ex0 x).rv _ _ (hv s')]
    exact done x (h.ex0 x).ok.rev (by rw [List.length_reverse]; exact hl)
  · rw [sl x o1 nn, cut_tl]
    exact done x ((h.ex0 x).ok.drop 1) (by rw [List.length_drop]; omega)
  · rw [sl x nn n1, (cut_neg ws).1]
    exact done x ((h.ex0 x).ok.take _) (by rw [List.length_take]; omega)
  · unfold mop2
    rw [hv, ob_of, wp_ob]
    have p := h.ex0 x
    dsimp only
    rw [sl x n1 nn, (cut_neg ws).2]
    refine (made p (p.ok.drop (ws.length - 1)) (by rw [List.length_drop]; omega) hW (Nat.lt_of_lt_of_le hb x.sz) (Nat.lt_of_lt_of_le hq x.sz)).mono fun y hy => ?_
    obtain ⟨u, s2⟩ := y
    obtain ⟨x2, _, c1, c2⟩ := hy
    simp only at x2 c1 c2
    have ll : (ws ++ ws.drop (ws.length - 1)).length ≤ W + 1 := by rw [List.length_append, List.length_drop]; omega
    have p2 := p.ex0 x2
    have oo : Oks W (k - 1) (m + m) b qq s2 (ws ++ ws.drop (ws.length - 1)) := p2.ok.append (p2.ok.drop _)
    have fin := (made p2 oo ll hW (by have := x.sz; have := x2.sz; omega) (by have := x.sz; have := x2.sz; omega)).mono fun y hy => show Ex0 s2 y.2 ∧ Ok (W + 1) k (2 * m) b qq y.2 y.1 from ⟨hy.1, hy.2.1.mono (Nat.le_refl _) (Nat.le_refl _) (by omega)⟩
    have ea : addW v u s2 = (newK v (ws ++ ws.drop (ws.length - 1)) s2) := by
      rcases p2.kind with e | ⟨n, e, n1, n2, g⟩
      · subst e
        obtain ⟨e1, _⟩ := c1 rfl
        rw [e1]; rfl
      · subst e
        obtain ⟨j, e1, g2⟩ := c2 n rfl
        rw [e1]
        unfold addW
        dsimp only
        rw [g, g2]; rfl
    dsimp only
    rw [ea]
    exact fin.mono fun y hy => ⟨x2.trans hy.1, hy.2⟩
end

end
section
theorem odd_words : ∀ y ∈ [x_, x_f, x_a, x_Zz, x_abcdefghi, xh_612062, x_f1, x_main, x_b], PyData.strOk y = true ∧ y.cps.size ≤ 20 := by decide +kernel
section
variable {W k m b qq m0 : Nat} {s : Ms} {v : Mv} {r : Me}
theorem ow {y : Str} (h : y ∈ [x_, x_f, x_a, x_Zz, x_abcdefghi, xh_612062, x_f1, x_main, x_b]) (s : Ms) : Ok W 0 20 b qq s (.str y) := ok_str (odd_words y h).1 (odd_words y h).2
theorem odd_sp (h : Bx' s b m0) (hm : m0 < 1000000) (hv : Ok W k m b qq s v) (hW : W ≤ 1000) (hW3 : 3 ≤ W) (hq : qq < s.sz) : Wp (m__law_odd [.ref b, v] s) fun x => Ok (W + 1) (k + 1) (2 * m + 100) b qq x.2 x.1 ∧ Ext b s x.2 ∧ Bx' x.2 b (m0 + 1) := by
  have W3 : 3 ≤ W + 1 := by omega
  have m20 : 20 ≤ 2 * m + 100 := by omega
  refine wp_fn [some (.ref b), some v, none] rfl rfl ?_
  unfold bd__law_odd
  have hb := h.lt
  have S : ∀ {y : Str} {s' : Ms}, y ∈ [x_, x_f, x_a, x_Zz, x_abcdefghi, xh_612062, x_f1, x_main, x_b] → Pe (W + 1) (k + 1) (2 * m + 100) b qq [some (.ref b), some v, none] s' (mcon (.str y)) := fun hy => pe_con (fun s => ow hy s) m20
  have C : ∀ {y : Mv} {r' : Me} {s' : Ms}, (∀ s, Ok (W + 1) 0 20 b qq s y) → Pe (W + 1) (k + 1) (2 * m + 100) b qq r' s' (mcon y) := fun hy => pe_con hy m20
  have T : ∀ {n : Nat} {y : Mv}, (∀ s, Ok (W + 1) 0 20 b qq s y) → OkE (W + 1) 0 20 b qq n (mcon y) := fun hy => okE_con hy
  have TS : ∀ {n : Nat} {y : Str}, y ∈ [x_, x_f, x_a, x_Zz, x_abcdefghi, xh_612062, x_f1, x_main, x_b] → OkE (W + 1) 0 20 b qq n (mcon (.str y)) := fun hy => okE_con fun s => ow hy s
  have L1 := pl_lst (W := W + 1) (k := k + 1) (m := 2 * m + 100) (b := b) (qq := qq) (r := [some (.ref b), some v, none]) (s := s)
    (pl_cons (C (y := .non) fun s => ok_non) (pl_cons (C (y := .bl true) fun s => ok_bl) (pl_cons (C (y := .bl false) fun s => ok_bl) (pl_cons (C (y := .int 0) fun s => ok_int (n := 0) (by decide)) (pl_cons (C (y := .int 1) fun s => ok_int (n := 1) (by decide)) (pl_cons (S (y := x_) (by simp)) (pl_cons (S (y := x_f) (by simp)) (pl_cons (S (y := x_a) (by simp)) (pl_cons (S (y := x_Zz) (by simp)) (pl_cons (S (y := x_abcdefghi) (by simp)) (pl_cons (S (y := xh_612062) (by simp)) (pl_cons (S (y := x_f1) (by simp))
      (pl_cons (pe_of (n := b) (okE_tup (k := 0) okA_nil (by omega) (by omega)) hb hq (by omega) (by omega))
      (pl_cons (pe_of (n := b) (okE_lst (k := 0) okA_nil (by omega) (by omega)) hb hq (by omega) (by omega))
      (pl_cons (pe_of (n := b) (okE_tup (okA_cons (TS (y := x_f) (by simp)) (okA_cons (TS (y := x_) (by simp)) okA_nil)) (by omega) (by omega)) hb hq (by omega) (by omega))
      (pl_cons (pe_of (n := b) (okE_tup (okA_cons (TS (y := x_) (by simp)) (okA_cons (TS (y := x_f) (by simp)) okA_nil)) (by omega) (by omega)) hb hq (by omega) (by omega))
      (pl_cons (pe_of (n := b) (okE_tup (okA_cons (TS (y := x_f) (by simp)) okA_nil) (by omega) (by omega)) hb hq (by omega) (by omega)) pl_nil))))))))))))))))) (by omega) hb s Ex0.refl
  refine wp_seq (Wp.mono (Q := fun y => y.1 = .nx ∧ ∃ u ws, y.2.1 = [some (.ref b), some v, some u] ∧ ws.length = 17 ∧ Pool (W + 1) (k + 1) (2 * m + 100) b qq y.2.2 u ws ∧ Ex0 s y.2.2) ?_ ?_)
  · unfold sset
    rw [wp_om]
    refine L1.mono fun y hy => ?_
    obtain ⟨x, ws, l, p⟩ := hy
    exact ⟨rfl, y.1, ws, rfl, l, p, x⟩
  rintro ⟨fl, r1, s1⟩ ⟨e, u, ws, e1, l1, p1, x1⟩
  simp only at e e1 p1 x1
  subst e e1
  refine ⟨rfl, ?_⟩
  have hb1 : b < s1.sz := Nat.lt_of_lt_of_le hb x1.sz
  have L2 := pl_lst (W := W + 1) (k := k + 1) (m := 2 * m + 100) (b := b) (qq := qq) (r := [some (.ref b), some v, some u]) (s := s1)
    (pl_cons (pe_of (n := b) (okE_tup (okA_cons (TS (y := x_f) (by simp)) (okA_cons (TS (y := x_) (by simp)) (okA_cons (T (y := .bl true) fun s => ok_bl) okA_nil))) (by omega) (by omega)) hb1 (Nat.lt_of_lt_of_le hq x1.sz) (by omega) (by omega))
      (pl_cons (pe_of (n := b) (okE_tup (okA_cons (TS (y := x_f) (by simp)) (okA_cons (TS (y := x_a) (by simp)) (okA_cons (T (y := .int 1) fun s => ok_int (n := 1) (by decide)) okA_nil))) (by omega) (by omega)) hb1 (Nat.lt_of_lt_of_le hq x1.sz) (by omega) (by omega))
      (pl_cons (C (y := .str x_main) fun s => ow (y := x_main) (by simp) s) (pl_cons (C (y := .str x_b) fun s => ow (y := x_b) (by simp) s) pl_nil)))) (by omega) hb1 s1 Ex0.refl
  refine wp_seq (Wp.mono (Q := fun y => y.1 = .nx ∧ ∃ u ws, y.2.1 = [some (.ref b), some v, some u] ∧ ws.length = 21 ∧ Pool (W + 1) (k + 1) (2 * m + 100) b qq y.2.2 u ws ∧ Ex0 s y.2.2) ?_ ?_)
  · unfold sset mop2
    rw [wp_om, wp_ob]
    refine .of (x := (u, s1)) rfl ?_
    dsimp only
    rw [wp_ob]
    refine L2.mono fun y hy => ?_
    obtain ⟨x2, ws2, l2, p2⟩ := hy
    refine (pool_add (p1.ex0 x2) p2 (by omega) (Nat.lt_of_lt_of_le hb1 x2.sz)).mono fun z hz => ?_
    exact ⟨rfl, z.1, ws ++ ws2, rfl, by rw [List.length_append]; omega, hz.2, x1.trans (x2.trans hz.1)⟩
  rintro ⟨fl, r2, s2⟩ ⟨e, u2, ws2, e1, l2, p2, x2⟩
  simp only at e e1 p2 x2
  subst e e1
  refine ⟨rfl, ?_⟩
  have hb2 : b < s2.sz := Nat.lt_of_lt_of_le hb x2.sz
  have fin : ∀ (u3 : Mv) (ws3 : List Mv) (s3 : Ms), Ex0 s s3 → ws3 ≠ [] → ws3.length ≤ 100 → Pool (W + 1) (k + 1) (2 * m + 100) b qq s3 u3 ws3 → Wp (sret (mcall m__law_pick (mcons (mvar 0) (mcons (mvar 2) (mnil)))) [some (.ref b), some v, some u3] s3) fun x => ∃ w, x.1 = .rt w ∧ (Ok (W + 1) (k + 1) (2 * m + 100) b qq x.2.2 w ∧ Ext b s x.2.2 ∧ Bx' x.2.2 b (m0 + 1)) := fun u3 ws3 s3 x3 ne l3 p3 => by
    obtain ⟨n, e, n1, n2, g⟩ := p3.it
    unfold sret
    rw [wp_om]
    have pk := pick_sp (v := u3) (h.ex0 x3) hm (.inr ⟨n, e, n1, n2, g⟩) ne (by omega)
    show Wp (m__law_pick [.ref b, u3] s3) _
    refine pk.mono fun y hy => ?_
    exact ⟨y.1, rfl, (p3.ok y.1 hy.1).ext hy.2.2.1, x3.ext.trans hy.2.2.1, hy.2.2.2⟩
  have hv2 : Ok W k m b qq s2 v := hv.ex0 x2
  obtain ⟨d, dv, ds⟩ := id hv2
  have ty := tyOf_vd dv
  have ht : (mtst (misiT (mvar 1) [.list, .tuple])) [some (.ref b), some v, some u2] s2 = some (isaT (dTy d) .list || isaT (dTy d) .tuple, s2) := by
    unfold mtst misiT
    rw [show (mvar 1) [some (.ref b), some v, some u2] s2 = some (v, s2) from mvar_t rfl, ob_of]
    dsimp only
    rw [ty, om_of, ob_of]
    show some ((isaT (dTy d) .list || (isaT (dTy d) .tuple || false)), s2) = _
    rw [Bool.or_false]
  cases hc : (isaT (dTy d) .list || isaT (dTy d) .tuple) with
  | false =>
    refine wp_seq (wp_siff (.of (by rw [ht, hc]) ⟨rfl, .of rfl ⟨rfl, ?_⟩⟩))
    exact fin u2 ws2 s2 x2 (by intro z; rw [z] at l2; cases l2) (by omega) p2
  | true =>
    have hh : dTy d = .list ∨ dTy d = .tuple := by
      revert hc
      cases dTy d <;> simp [isaT]
    obtain ⟨pw, pt⟩ := part_of hv2 ty hh
    refine wp_seq (wp_sift (.of (by rw [ht, hc]) ⟨rfl, ?_⟩))
    unfold sset mop2
    rw [wp_om, wp_ob]
    refine .of (x := (u2, s2)) rfl ?_
    dsimp only
    rw [wp_ob, wp_ob]
    have F := pl_lst (five pt pt.ok hW hb2 (Nat.lt_of_lt_of_le hq x2.sz) (some u2)) (by omega) hb2 s2 Ex0.refl
    refine F.mono fun y hy => ?_
    obtain ⟨x3, ws3, l3, p3⟩ := hy
    rw [wp_ob]
    refine .of (x := (.int 2, y.2)) rfl ?_
    dsimp only
    refine (pool_mul p3 (by omega) (Nat.lt_of_lt_of_le hb2 x3.sz)).mono fun z hz => ?_
    have p4 : Pool (W + 1) (k + 1) (2 * m + 100) b qq z.2 z.1 (ws3 ++ ws3) := ⟨hz.2.it, fun w hw => (hz.2.ok w hw).mono (Nat.le_refl _) (by omega) (by omega)⟩
    have x4 := x3.trans hz.1
    refine (pool_add (p2.ex0 x4) p4 (by rw [List.length_append]; omega) (Nat.lt_of_lt_of_le hb2 x4.sz)).mono fun q hq => ?_
    refine ⟨rfl, ?_⟩
    exact fin q.1 _ q.2 (x2.trans (x4.trans hq.1)) (by intro z; rw [List.append_eq_nil_iff] at z; rw [z.1] at l2; cases l2) (by rw [List.length_append, List.length_append]; omega) hq.2
end

end
section
/-! ### one thing changed, at any depth -/
section
variable {W k m b qq m0 : Nat} {s : Ms} {v : Mv} {r : Me}
theorem cut_to (ws : List Mv) {i : Nat} (hi : i ≤ ws.length) : cutM ws none (some (i : Int)) = ws.take i := by
  unfold cutM
  have h0 : HT.sIx ws.length 0 none = 0 := by simp [HT.sIx]
  have h2 : HT.sIx ws.length ws.length (some (i : Int)) = i := by simp [HT.sIx]; rw [if_neg (by omega)]; omega
  rw [h0, h2]; simp
theorem cut_from (ws : List Mv) {i : Nat} (hi : i ≤ ws.length) : cutM ws (some (i : Int)) none = ws.drop i := by
  unfold cutM
  have h1 : HT.sIx ws.length ws.length none = ws.length := by simp [HT.sIx]
  have h2 : HT.sIx ws.length 0 (some (i : Int)) = i := by simp [HT.sIx]; rw [if_neg (by omega)]; omega
  rw [h1, h2]
  exact List.take_of_length_le (by rw [List.length_drop]; exact Nat.le_refl _)
theorem eq_tupnil {ws : List Mv} (h : Ok W k m b qq s (.tup ws)) (hk : k < 24) : eqW (.tup ws) (.tup []) s = some (.bl ws.isEmpty, s) := by
  obtain ⟨d, h1, h2⟩ := h
  cases h1 with
  | tup kk l =>
    rename_i ds
    have e : eqBo (.tup ws) (.tup []) s = some ws.isEmpty := by
      show (toD 24 s (.tup ws)).ob (fun d => (toD 24 s (.tup [])).om fun e => PyData.eqv d e) = _
      rw [toD_vd (.tup kk l) 24 (by have := h2.dp; omega), ob_of, toD_vd (W := 0) (b := 0) (qq := 0) (d := .tuple []) (.tup (Nat.le_refl _) .nil) 24 (by simp [PyData.depth, PyData.depthAll]), om_of]
      have := l.len
      cases ws <;> cases ds <;> simp [PyData.eqv, PyData.eqvAll] at this ⊢
    unfold eqW
    rw [e]; rfl
theorem wt_split (ds : List PyData) {i : Nat} {d : PyData} (h : ds[i]? = some d) : PyData.weightAll (ds.take i) + (PyData.weight d + 1 + PyData.weightAll (ds.drop (i + 1))) = PyData.weightAll ds := by
  have hi := (List.getElem?_eq_some_iff.mp h).1
  have e : ds = ds.take i ++ (d :: ds.drop (i + 1)) := by
    have h2 := (List.getElem?_eq_some_iff.mp h).2
    rw [← h2, ← List.drop_eq_getElem_cons hi, List.take_append_drop]
  conv => rhs; rw [e]
  rw [w_app]
  simp only [PyData.weightAll]
theorem bent_sp : ∀ (n : Nat) {k m m0 : Nat} {s : Ms} {v : Mv}, Bx' s b m0 → m0 + 3 * n < 1000000 → Ok W k m b qq s v → k < n → n ≤ 24 → W ≤ 999 → 3 ≤ W → qq < s.sz → Wp (m__law_bent n [.ref b, v] s) fun x => Ok (W + 1) (k + 1) (2 * m + 100) b qq x.2 x.1 ∧ Ext b s x.2 ∧ Bx' x.2 b (m0 + 3 * n)
  | 0, _, _, _, _, _, _, _, _, hk, _, _, _, _ => absurd hk (Nat.not_lt_zero _)
  | n + 1, k, m, m0, s, v, h, hm, hv, hk, hn, hW, hW3, hq => by
    refine wp_fn [some (.ref b), some v, none] rfl rfl ?_
    unfold b0__law_bent
    obtain ⟨d, dv, dsd⟩ := id hv
    have odd : ∀ {s' : Ms} {j : Nat}, Ext b s s' → Bx' s' b j → j + 1 ≤ m0 + 3 * (n + 1) → j < 1000000 → Wp (sret (mcall m__law_odd (mcons (mvar 0) (mcons (mvar 1) (mnil)))) [some (.ref b), some v, none] s') fun x => ∃ w, x.1 = .rt w ∧ (Ok (W + 1) (k + 1) (2 * m + 100) b qq x.2.2 w ∧ Ext b s x.2.2 ∧ Bx' x.2.2 b (m0 + 3 * (n + 1))) := fun {s' j} x hj le lt => by
      unfold sret
      rw [wp_om]
      show Wp (m__law_odd [.ref b, v] s') _
      refine (odd_sp hj lt (hv.ext x) (by omega) hW3 (Nat.lt_of_lt_of_le hq x.sz)).mono fun y hy => ?_
      exact ⟨y.1, rfl, hy.1.mono (Nat.le_refl _) (Nat.le_refl _) (by omega), x.trans hy.2.1, hy.2.2.mono le⟩
    have hi : (mnot (mtst (mcall isiW (mcons (mvar 1) (mcons (mcon (.ty .tuple)) mnil))))) [some (.ref b), some v, none] s = some (!isaT (dTy d) .tuple, s) := n_of (t_of (ev_isi rfl dv))
    cases ht : isTupD d with
    | false =>
      have ht' : isaT (dTy d) .tuple = false := ht
      refine wp_seqR (wp_sift (wp_ort (.of (by rw [hi, ht']) ⟨rfl, rfl, ?_⟩)))
      exact (odd Ext.refl h (by omega) (by omega)).mono fun y hy => .inr (hy.elim fun w hw => ⟨w, hw.1, w, rfl, hw.2⟩)
    | true =>
      have ht' : isaT (dTy d) .tuple = true := ht
      obtain ⟨ws, ds, rfl, rfl, l, kd⟩ := tup_vd dv ht
      obtain ⟨k1, lw, ow'⟩ := hv.untup
      have he : (mtB (mop2 eqW (mvar 1) (mtup (mnil)))) [some (.ref b), some (.tup ws), none] s = some (ws.isEmpty, s) := b_of (op_e (v := .tup []) rfl rfl (eq_tupnil hv (by omega)))
      cases hz : ws.isEmpty with
      | true =>
        refine wp_seqR (wp_sift (wp_orf (.of (by rw [hi, ht']) ⟨rfl, wp_ort (.of (by rw [he, hz]) ⟨rfl, rfl, ?_⟩)⟩)))
        exact (odd Ext.refl h (by omega) (by omega)).mono fun y hy => .inr (hy.elim fun w hw => ⟨w, hw.1, w, rfl, hw.2⟩)
      | false =>
        have ne : ws ≠ [] := by intro z; rw [z] at hz; cases hz
        have l0 : 0 < ws.length := List.length_pos_iff.mpr ne
        -- the draw below six
        have D : Wp ((mtB (mop2 eqW (mcall m__law_take (mcons (mvar 0) (mcons (mcon (.int 6)) (mnil)))) (mcon (.int 0)))) [some (.ref b), some (.tup ws), none] s) fun x => Ext b s x.2 ∧ Bx' x.2 b (m0 + 1) := by
          unfold mtB mop2
          rw [wp_ob, wp_ob]
          show Wp (m__law_take [.ref b, .int 6] s) _
          refine (take_sp h (by omega) (k := 6) (by omega) (by omega)).mono fun y hy => ?_
          obtain ⟨j, e, j0, j1, z1, z2, z3⟩ := hy
          rw [e, wp_ob]
          refine .of (x := (.int 0, y.2)) rfl ?_
          dsimp only
          refine .of eq_int ?_
          exact ⟨_, rfl, z2, z3⟩
        refine wp_seqR ?_
        obtain ⟨⟨c, s1⟩, ec, x1, b1⟩ := D
        simp only at x1 b1
        have whole : (mor (mnot (mtst (mcall isiW (mcons (mvar 1) (mcons (mcon (.ty .tuple)) mnil))))) (mor (mtB (mop2 eqW (mvar 1) (mtup (mnil)))) (mtB (mop2 eqW (mcall m__law_take (mcons (mvar 0) (mcons (mcon (.int 6)) (mnil)))) (mcon (.int 0)))))) [some (.ref b), some (.tup ws), none] s = some (c, s1) := by
          refine Wp.eq (wp_orf (.of (by rw [hi, ht']) ⟨rfl, wp_orf (.of (by rw [he, hz]) ⟨rfl, .of ec rfl⟩)⟩))
        cases c with
        | true =>
          exact wp_sift (.of whole ⟨rfl, (odd x1 b1 (by omega) (by omega)).mono fun y hy => .inr (hy.elim fun w hw => ⟨w, hw.1, w, rfl, hw.2⟩)⟩)
        | false =>
          refine wp_siff (.of whole ⟨rfl, .of rfl (.inl ⟨rfl, ?_⟩)⟩)
          have hv1 := hv.ext x1
          refine wp_seq (Wp.mono (Q := fun y => y.1 = .nx ∧ ∃ i, i < ws.length ∧ y.2.1 = [some (.ref b), some (.tup ws), some (.int ((i : Nat) : Int))] ∧ Ext b s y.2.2 ∧ Bx' y.2.2 b (m0 + 2)) ?_ ?_)
          · unfold sset
            rw [wp_om]
            show Wp ((mcons (mvar 0) (mcons (mcall lenW (mcons (mvar 1) (mnil))) (mnil)) [some (.ref b), some (.tup ws), none] s1).ob fun x => m__law_take x.1 x.2) _
            have ea : (mcons (mvar 0) (mcons (mcall lenW (mcons (mvar 1) (mnil))) (mnil)) [some (.ref b), some (.tup ws), none] s1) = some ([.ref b, .int (ws.length : Nat)], s1) := rfl
            rw [ea, ob_of]
            refine (take_sp b1 (by omega) (k := (ws.length : Nat)) (by omega) (by omega)).mono fun y hy => ?_
            obtain ⟨j, e, j0, j1, z1, z2, z3⟩ := hy
            refine ⟨rfl, j.toNat, by omega, ?_, x1.trans z2, z3⟩
            show [some (.ref b), some (.tup ws), some y.1] = _
            rw [e, show ((j.toNat : Nat) : Int) = j by omega]
          rintro ⟨fl, r2, s2⟩ ⟨e, i, hi2, e1, x2, b2⟩
          simp only at e e1 x2 b2
          subst e e1
          refine ⟨rfl, ?_⟩
          have hx : ws[i]? = some ws[i] := List.getElem?_eq_getElem hi2
          have hu : Ok W (k - 1) m b qq s2 ws[i] := (ow'.ext x2).get hx
          have B : Wp ((m__law_bent n) [.ref b, ws[i]] s2) fun x => ∃ w s3, x = (w, s3) ∧ Oks (W + 1) k (2 * m + 100) b qq s3 (ws.take i ++ w :: ws.drop (i + 1)) ∧ Ext b s2 s3 ∧ Bx' s3 b (m0 + 2 + 3 * n) := by
            have key : ∀ m1, Ok W (k - 1) m1 b qq s2 ws[i] → Wp (m__law_bent n [.ref b, ws[i]] s2) fun x => Ok (W + 1) (k - 1 + 1) (2 * m1 + 100) b qq x.2 x.1 ∧ Ext b s2 x.2 ∧ Bx' x.2 b (m0 + 2 + 3 * n) := fun m1 h1 => bent_sp n b2 (by omega) h1 (by omega) (by omega) hW hW3 (Nat.lt_of_lt_of_le hq x2.sz)
            obtain ⟨⟨w, s3⟩, ew, ok3, x3, b3⟩ := key m hu
            refine ⟨(w, s3), ew, w, s3, rfl, ?_, x3, b3⟩
            obtain ⟨ds', l', sd'⟩ := ow'.ext x2
            obtain ⟨d', ed', vd'⟩ := l'.get hx
            have one := sd'.one d' (List.mem_of_getElem? ed')
            have sp := wt_split ds' ed'
            have wt := sd'.wt
            obtain ⟨⟨w2, s4⟩, ew2, ok4, _⟩ := key _ ⟨d', vd', one.sh, one.nd, one.dp, one.ls, Nat.le_refl _, one.lay⟩
            rw [ew] at ew2
            cases ew2
            obtain ⟨d2, v1, v2⟩ := ok4
            rw [show k - 1 + 1 = k by omega] at v2
            have lx := (l'.ext x3).wide (Nat.le_succ W)
            refine ⟨ds'.take i ++ d2 :: ds'.drop (i + 1), (lx.take i).append (.cons v1 (lx.drop (i + 1))), fun x hx => ?_, ?_⟩
            · rcases List.mem_append.mp hx with hx | hx
              · exact (sd'.one x (List.mem_of_mem_take hx)).mono (by omega) (by omega)
              · rcases List.mem_cons.mp hx with rfl | hx
                · exact v2.mono (Nat.le_refl _) (by omega)
                · exact (sd'.one x (List.mem_of_mem_drop hx)).mono (by omega) (by omega)
            · rw [w_app]
              simp only [PyData.weightAll]
              have := v2.wt
              omega
          obtain ⟨_, eB, w, s3, rfl, ok3, x3, b3⟩ := B
          unfold sret
          rw [wp_om]
          refine .of (x := (.tup (ws.take i ++ w :: ws.drop (i + 1)), s3)) ?_ ⟨_, rfl, ?_, x2.trans x3, b3.mono (by omega)⟩
          · have g0 : (mvar 1) [some (.ref b), some (.tup ws), some (.int ((i : Nat) : Int))] s2 = some (.tup ws, s2) := rfl
            have f1 : (mslice (mvar 1) (onone) (osome (mvar 2))) [some (.ref b), some (.tup ws), some (.int ((i : Nat) : Int))] s2 = some (.tup (ws.take i), s2) := by
              show newT (cutM ws none (some (i : Int))) s2 = _
              rw [cut_to ws (by omega), newT_of (by rw [List.length_take]; omega)]
            have f2 : (mslice (mvar 1) (osome (mop2 addW (mvar 2) (mcon (.int 1)))) (onone)) [some (.ref b), some (.tup ws), some (.int ((i : Nat) : Int))] s3 = some (.tup (ws.drop (i + 1)), s3) := by
              show newT (cutM ws (some (Int.add (i : Int) 1)) none) s3 = _
              rw [show Int.add (i : Int) 1 = ((i + 1 : Nat) : Int) from rfl, cut_from ws (by omega), newT_of (by rw [List.length_drop]; omega)]
            have f3 : (mop2 ixA (mvar 1) (mvar 2)) [some (.ref b), some (.tup ws), some (.int ((i : Nat) : Int))] s2 = some (ws[i], s2) := op_e (u := .tup ws) (v := .int ((i : Nat) : Int)) rfl rfl (ixA_of (ws := ws) rfl (atF_of hx))
            have g1 : (mcons (mvar 0) (mcons (mop2 ixA (mvar 1) (mvar 2)) (mnil))) [some (.ref b), some (.tup ws), some (.int ((i : Nat) : Int))] s2 = some ([.ref b, ws[i]], s2) := by
              unfold mcons
              rw [show (mvar 0) [some (.ref b), some (.tup ws), some (.int ((i : Nat) : Int))] s2 = some (.ref b, s2) from rfl, ob_of]
              dsimp only
              rw [f3, ob_of]; rfl
            have g2 : (mcall (m__law_bent n) (mcons (mvar 0) (mcons (mop2 ixA (mvar 1) (mvar 2)) (mnil)))) [some (.ref b), some (.tup ws), some (.int ((i : Nat) : Int))] s2 = some (w, s3) := by
              show ((mcons (mvar 0) (mcons (mop2 ixA (mvar 1) (mvar 2)) (mnil))) _ s2).ob (fun x => m__law_bent n x.1 x.2) = _
              rw [g1, ob_of]; exact eB
            have f4 : (mtup (mcons (mcall (m__law_bent n) (mcons (mvar 0) (mcons (mop2 ixA (mvar 1) (mvar 2)) (mnil)))) (mnil))) [some (.ref b), some (.tup ws), some (.int ((i : Nat) : Int))] s2 = some (.tup [w], s3) := by
              show (((mcall (m__law_bent n) (mcons (mvar 0) (mcons (mop2 ixA (mvar 1) (mvar 2)) (mnil)))) _ s2).ob fun x => (mnil _ x.2).ob fun y => some (x.1 :: y.1, y.2)).ob (fun x => newT x.1 x.2) = _
              rw [g2, ob_of]
              exact newT_of (by simp)
            have f5 : ∀ {xs ys : List Mv} {t : Ms}, xs.length + ys.length ≤ 16777216 → addW (.tup xs) (.tup ys) t = some (.tup (xs ++ ys), t) := fun {xs ys t} hl => newT_of (by rw [List.length_append]; exact hl)
            show (((mslice (mvar 1) (onone) (osome (mvar 2))) _ s2).ob fun x => ((mtup (mcons (mcall (m__law_bent n) (mcons (mvar 0) (mcons (mop2 ixA (mvar 1) (mvar 2)) (mnil)))) (mnil))) _ x.2).ob fun y => addW x.1 y.1 y.2).ob (fun x => ((mslice (mvar 1) (osome (mop2 addW (mvar 2) (mcon (.int 1)))) (onone)) _ x.2).ob fun y => addW x.1 y.1 y.2) = _
            rw [f1, ob_of]
            dsimp only
            rw [f4, ob_of]
            dsimp only
            rw [f5 (by rw [List.length_take]; simp; omega), ob_of]
            dsimp only
            rw [f2, ob_of]
            dsimp only
            rw [f5 (by rw [List.length_append, List.length_take, List.length_drop]; simp; omega), List.append_assoc]; rfl
          · have := ok3.tup (by rw [List.length_append, List.length_cons, List.length_take, List.length_drop]; omega)
            exact this
end

end
section
/-! ### a drawn library is one -/
def pairY (d : Str × Str) : PyData := .tuple [.str d.1, .str d.2]
def useY (u : (Str × Str) × Bool) : PyData := .tuple [.str u.1.1, .str u.1.2, .bool u.2]
def libY (l : PLib) : PyData := .tuple [.str l.own, .tuple (l.needs.map .str), .tuple (l.defs.map pairY), .tuple (l.uses.map useY)]
def P9 : List (Str × Str) := [(x_f, x_), (x_f, x_a), (x_f, x_b), (x_g, x_), (x_g, x_a), (x_g, x_b), (x_h, x_), (x_h, x_a), (x_h, x_b)]
theorem in_P9 {d : Str × Str} (h : PairIn d) : d ∈ P9 := by
  obtain ⟨x, y⟩ := d
  obtain ⟨h1, h2⟩ := h
  simp only [List.mem_cons, List.not_mem_nil, or_false] at h1 h2
  rcases h1 with rfl | rfl | rfl <;> rcases h2 with rfl | rfl | rfl <;> simp [P9]
theorem lt_P9 : ∀ a ∈ P9, ∀ b ∈ P9, leD (rowK [a.1, a.2]) (rowK [b.1, b.2]) = true → a = b ∨ ltD (pairY a) (pairY b) = true := by decide +kernel
theorem ok_P9 : ∀ a ∈ P9, pairD (pairY a) = true ∧ (PyData.strOk a.1 = true ∧ a.1.cps.size ≤ 20) ∧ (PyData.strOk a.2 = true ∧ a.2.cps.size ≤ 20) := by decide +kernel
theorem ok_pool : ∀ y ∈ POOL, nameB y = true ∧ PyData.strOk y = true ∧ y.cps.size ≤ 20 := by decide +kernel
theorem asc_rises {ds : List (Str × Str)} (hp : ∀ d ∈ ds, PairIn d) (h : Asc ds) : risesD (ds.map pairY) = true := by
  obtain ⟨ks, nd, he⟩ := h
  unfold sortK at he
  have hpw := isort_pw (le := (leD : Mv × PyData → Mv × PyData → Bool)) leD_total (ks.map rowK)
  have pm := isort_perm leD_total (ks.map rowK)
  have hm : ∀ x ∈ isort leD (ks.map rowK), ∃ k, x = rowK k := fun x hx => by
    obtain ⟨k, _, rfl⟩ := List.mem_map.mp (pm.mem_iff.mp hx)
    exact ⟨k, rfl⟩
  have ndK : (ks.map rowK).Nodup := by
    rw [List.nodup_iff_pairwise_ne] at nd ⊢
    rw [List.pairwise_map]
    refine nd.imp fun {a c} h z => h ?_
    have : Mv.tup (a.map Mv.str) = .tup (c.map Mv.str) := congrArg Prod.fst z
    have := Mv.tup.inj this
    exact List.map_inj_right (fun x y h => Mv.str.inj h) |>.mp this
  have ndL := pm.nodup_iff.mpr ndK
  generalize isort leD (ks.map rowK) = L at he hpw hm ndL
  have hL : L = ds.map fun d => rowK [d.1, d.2] := by
    clear hpw ndL hp
    induction L generalizing ds with
    | nil => cases ds with
      | nil => rfl
      | cons d es => cases he
    | cons x L ih =>
      cases ds with
      | nil => cases he
      | cons d es =>
        obtain ⟨k, rfl⟩ := hm x (by simp)
        rw [List.map_cons] at he
        have he1 : (rowK k).1 = .tup [.str d.1, .str d.2] := by injection he
        have he2 : L.map (·.1) = pairV es := by injection he
        have hk : k = [d.1, d.2] := by
          have z : (k.map Mv.str) = [.str d.1, .str d.2] := by
            have : Mv.tup (k.map Mv.str) = .tup [.str d.1, .str d.2] := he1
            injection this
          match k, z with
          | [a, b], z => simp only [List.map_cons, List.map_nil, List.cons.injEq, Mv.str.injEq, and_true] at z; rw [z.1, z.2]
        rw [hk, ih he2 fun y hy => hm y (by simp [hy])]; rfl
  subst hL
  rw [List.pairwise_map] at hpw
  rw [List.nodup_iff_pairwise_ne, List.pairwise_map] at ndL
  have both := hpw.and ndL
  clear hpw ndL hm he
  unfold risesD
  induction ds with
  | nil => rfl
  | cons d ds ih =>
    cases ds with
    | nil => rfl
    | cons e es =>
      have b1 := (List.pairwise_cons.mp both).1 e (List.mem_cons_self ..)
      have i1 := ih (fun x hx => hp x (List.mem_cons_of_mem _ hx)) (List.pairwise_cons.mp both).2
      have l1 := lt_P9 d (in_P9 (hp d (by simp))) e (in_P9 (hp e (by simp))) b1.1
      rcases l1 with rfl | l1
      · exact absurd rfl b1.2
      · show (ltD (pairY d) (pairY e) && _) = true
        rw [l1, Bool.true_and]
        exact i1
theorem strsD_map (xs : List Str) : strsD (xs.map .str) = xs := by
  induction xs with
  | nil => rfl
  | cons x xs ih => show x :: strsD (xs.map .str) = _; rw [ih]
theorem ddF_nd {xs : List Str} (h : xs.Nodup) : (ddF xs).length = xs.length := by
  rw [ddF_eq]
  exact ((List.perm_ext_iff_of_nodup (ddS_nd xs) h).mpr fun y => ddS_mem xs y).length_eq
structure LibG (l : PLib) : Prop where
  own : l.own ∈ POOL
  needs : ∀ x ∈ l.needs, x ∈ POOL
  nd : l.needs.Nodup
  nin : l.own ∉ l.needs
  nl : l.needs.length ≤ 2
  df : ∀ d ∈ l.defs, PairIn d
  dl : l.defs.length ≤ 3
  us : ∀ u ∈ l.uses, PairIn u.1
  ul : l.uses.length ≤ 3
  asc : Asc l.defs
  uasc : Asc (l.uses.map (·.1))
theorem libG_of {P : Plot} {most gates : Nat} (h : PlotOk most gates P) {l : PLib} (hl : l ∈ P.libs) : LibG l := by
  have k := h.libs l hl
  refine ⟨h.pool _ (List.mem_map_of_mem hl), fun x hx => h.pool x (List.mem_of_mem_tail (k.nin x hx).1), k.nd, fun z => (k.nin _ z).2 rfl, k.nl, k.df, k.dl, k.us, k.ul, k.asc, k.uasc⟩
section
variable {b qq : Nat} {s : Ms}
theorem vd_lib {l : PLib} (h : LibG l) : Vd 4 b qq s l.mv (libY l) := by
  have st : ∀ {y : Str}, y ∈ POOL → Vd 4 b qq s (.str y) (.str y) := fun hy => .str (ok_pool _ hy).2.1 (ok_pool _ hy).2.2
  have pr : ∀ {d : Str × Str}, PairIn d → Vd 4 b qq s (.str d.1) (.str d.1) ∧ Vd 4 b qq s (.str d.2) (.str d.2) := fun hd => by
    have := (ok_P9 _ (in_P9 hd)).2
    exact ⟨.str this.1.1 this.1.2, .str this.2.1 this.2.2⟩
  refine .tup (by simp) (.cons (st h.own) (.cons (.tup ?_ (VdL.map fun x hx => st (h.needs x hx))) (.cons (.tup ?_ (VdL.map fun d hd => ?_)) (.cons (.tup ?_ (VdL.map fun u hu => ?_)) .nil))))
  · rw [List.length_map]; have := h.nl; omega
  · rw [List.length_map]; have := h.dl; omega
  · exact .tup (by simp) (.cons (pr (h.df d hd)).1 (.cons (pr (h.df d hd)).2 .nil))
  · rw [List.length_map]; have := h.ul; omega
  · exact .tup (by simp) (.cons (pr (h.us u hu)).1 (.cons (pr (h.us u hu)).2 (.cons (.bl u.2) .nil)))
theorem sd_lib {l : PLib} (h : LibG l) : SD 3 800 (libY l) := by
  have st : ∀ {y : Str}, y ∈ POOL → SD 0 20 (.str y) := fun hy => sd_str (ok_pool _ hy).2.1 (ok_pool _ hy).2.2
  have pr : ∀ {d : Str × Str}, PairIn d → SD 0 20 (.str d.1) ∧ SD 0 20 (.str d.2) := fun hd => by
    have := (ok_P9 _ (in_P9 hd)).2
    exact ⟨sd_str this.1.1 this.1.2, sd_str this.2.1 this.2.2⟩
  have e1 : SD 2 192 (.str l.own) := (st h.own).mono (by omega) (by omega)
  have e2 : SD 2 192 (.tuple (l.needs.map .str)) := (sd_tup (n := 0) (m := 20) fun d hd => by
    obtain ⟨x, hx, rfl⟩ := List.mem_map.mp hd
    exact st (h.needs x hx)).mono (by omega) (by rw [List.length_map]; have := h.nl; omega)
  have e3 : SD 2 192 (.tuple (l.defs.map pairY)) := (sd_tup (n := 1) (m := 42) fun d hd => by
    obtain ⟨x, hx, rfl⟩ := List.mem_map.mp hd
    exact (sd_tup (n := 0) (m := 20) (ds := [.str x.1, .str x.2]) fun y hy => by
      rcases List.mem_cons.mp hy with rfl | hy
      · exact (pr (h.df x hx)).1
      · rw [List.mem_singleton.mp hy]; exact (pr (h.df x hx)).2)).mono (by omega) (by rw [List.length_map]; have := h.dl; omega)
  have e4 : SD 2 192 (.tuple (l.uses.map useY)) := (sd_tup (n := 1) (m := 63) fun d hd => by
    obtain ⟨x, hx, rfl⟩ := List.mem_map.mp hd
    exact (sd_tup (n := 0) (m := 20) (ds := [.str x.1.1, .str x.1.2, .bool x.2]) fun y hy => by
      simp only [List.mem_cons, List.not_mem_nil, or_false] at hy
      rcases hy with rfl | rfl | rfl
      · exact (pr (h.us x hx)).1
      · exact (pr (h.us x hx)).2
      · exact sd_bl _)).mono (by omega) (by rw [List.length_map]; have := h.ul; omega)
  refine (sd_tup (n := 2) (m := 192) fun d hd => ?_).mono (Nat.le_refl 3) (by simp)
  simp only [List.mem_cons, List.not_mem_nil, or_false] at hd
  rcases hd with rfl | rfl | rfl | rfl
  · exact e1
  · exact e2
  · exact e3
  · exact e4
theorem lib_due {l : PLib} (h : LibG l) : libD (libY l) = true := by
  have n1 : nameD (.str l.own) = true := (ok_pool _ h.own).1
  have n2 : namesD (.tuple (l.needs.map .str)) = true := by
    show ((l.needs.map PyData.str).all nameD && decide ((ddF (strsD (l.needs.map .str))).length = (l.needs.map PyData.str).length)) = true
    rw [strsD_map, ddF_nd h.nd, List.length_map, List.all_map]
    simp only [decide_true, Bool.and_true, List.all_eq_true]
    exact fun x hx => (ok_pool x (h.needs x hx)).1
  have n3 : memD (.str l.own) (.tuple (l.needs.map .str)) = false := by
    show decide (l.own ∈ strsD (l.needs.map .str)) = false
    rw [strsD_map]
    exact decide_eq_false h.nin
  have pd : ∀ ds : List (Str × Str), (∀ d ∈ ds, PairIn d) → (ds.map pairY).all pairD = true := fun ds hd => by
    rw [List.all_map, List.all_eq_true]
    exact fun x hx => (ok_P9 x (in_P9 (hd x hx))).1
  have n4 : defsD (.tuple (l.defs.map pairY)) = true := by
    show ((l.defs.map pairY).all pairD && risesD (l.defs.map pairY)) = true
    rw [pd _ h.df, asc_rises h.df h.asc]; rfl
  have n5 : usesD (.tuple (l.uses.map useY)) = true := by
    have ec : (l.uses.map useY).map cut2 = (l.uses.map (·.1)).map pairY := by rw [List.map_map, List.map_map]; rfl
    have hu : ∀ d ∈ l.uses.map (·.1), PairIn d := fun d hd => by
      obtain ⟨u, hu, rfl⟩ := List.mem_map.mp hd
      exact h.us u hu
    show ((l.uses.map useY).all use3 && ((l.uses.map useY).all boolAt && (((l.uses.map useY).map cut2).all pairD && risesD ((l.uses.map useY).map cut2)))) = true
    rw [ec, pd _ hu, asc_rises hu h.uasc, show (l.uses.map useY).all use3 = true by rw [List.all_map, List.all_eq_true]; exact fun x _ => rfl, show (l.uses.map useY).all boolAt = true by rw [List.all_map, List.all_eq_true]; exact fun x _ => rfl]
    rfl
  show ((nameD (.str l.own)) && ((namesD (.tuple (l.needs.map .str)) && !memD (.str l.own) (.tuple (l.needs.map .str))) && (defsD (.tuple (l.defs.map pairY)) && usesD (.tuple (l.uses.map useY))))) = true
  rw [n1, n2, n3, n4, n5]; rfl
end

end
section
/-! ### lists in the place of tuples; repr; closed values -/
section
variable {W k m b qq : Nat} {s : Ms} {w v : Mv} {r : Me}
theorem seq_ok (h : Ok W k m b qq s v) {d : PyData} (hd : Vd W b qq s v d) (ht : isaT (dTy d) .list || isaT (dTy d) .tuple) : ∃ ws ds, VdL W b qq s ws ds ∧ SDs (k - 1) m ds ∧ 1 ≤ k ∧ ws.length ≤ W ∧ ∀ s', Ex0 s s' → items v s' = some ws := by
  obtain ⟨d', v1, s1⟩ := h
  have same : ∀ {v : Mv} {d d' : PyData}, Vd W b qq s v d → Vd W b qq s v d' → dTy d = dTy d' := fun h1 h2 => by
    have := (tyOf_vd h1).symm.trans (tyOf_vd h2)
    exact Option.some.inj this
  rw [same hd v1] at ht
  cases v1 with
  | tup kk l => obtain ⟨a, c⟩ := s1.untup; exact ⟨_, _, l, c, a, by rw [l.len]; exact kk, fun _ _ => rfl⟩
  | lst kk hn hb g l => obtain ⟨a, c⟩ := s1.unlst; exact ⟨_, _, l, c, a, by rw [l.len]; exact kk, fun s' x => items_ref (x.at hn g)⟩
  | _ => simp [dTy, isaT] at ht
theorem step_q {T : Tg} {E : Fe} {r1 : Me} {Q : List Mv × Ms → Prop} (ha : T.asg w r = some r1) (h : Wp (E r1 s) fun y => Q ([y.1], y.2)) : Wp (mstep T myes E r w s) Q := by
  unfold mstep
  rw [ha, ob_of, wp_ob]
  refine .of rfl ?_
  rw [cond_true, wp_om]
  exact h
theorem lists_ok : ∀ (n : Nat) {k m : Nat} {s : Ms} {v : Mv}, Ok W k m b qq s v → k < n → W ≤ 1000 → b < s.sz → qq < s.sz → Wp (m__law_lists n [v] s) fun x => Ok W k m b qq x.2 x.1 ∧ Ex0 s x.2
  | 0, _, _, _, _, _, hk, _, _, _ => absurd hk (Nat.not_lt_zero _)
  | n + 1, k, m, s, v, h, hk, hW, hb, hq => by
    refine wp_fn [some v, none] rfl rfl ?_
    unfold b0__law_lists
    obtain ⟨d, dv, dsd⟩ := id h
    have ht : (mtst (misiT (mvar 0) [.list, .tuple])) [some v, none] s = some (isaT (dTy d) .list || isaT (dTy d) .tuple, s) := by
      unfold mtst misiT
      rw [show (mvar 0) [some v, none] s = some (v, s) from mvar_t rfl, ob_of]
      dsimp only
      rw [tyOf_vd dv, om_of, ob_of]
      show some ((isaT (dTy d) .list || (isaT (dTy d) .tuple || false)), s) = _
      rw [Bool.or_false]
    unfold sret mif
    rw [wp_om, wp_ob]
    refine .of ht ?_
    dsimp only
    cases hc : (isaT (dTy d) .list || isaT (dTy d) .tuple) with
    | false =>
      rw [cond_false]
      exact ⟨_, mvar_t rfl, _, rfl, h, Ex0.refl⟩
    | true =>
      rw [cond_true]
      obtain ⟨ws, ds, l, sd, k1, lw, it⟩ := seq_ok h dv hc
      refine wp_lc (wp_S' (.of (x := (v, s)) rfl ⟨ws, it s Ex0.refl, fun i gi => ?_⟩))
      refine (wp_flat ws (fun j acc s' => Oks W (k - 1) (PyData.weightAll (ds.take j)) b qq s' acc ∧ acc.length = j ∧ Ex0 s s') (fun j acc s' _ a => gi s' (it s' a.2.2)) ?_ 1000000000 0 [] s (by omega) (by omega) ⟨Oks.nil, rfl, Ex0.refl⟩).mono ?_
      · rintro j u acc s' hu ⟨o1, o2, x⟩
        obtain ⟨e, ed, ve⟩ := l.get hu
        have one := sd.one e (List.mem_of_getElem? ed)
        have ou : Ok W (k - 1) (PyData.weight e) b qq s' u := ⟨e, ve.ex0 x, one.sh, one.nd, one.dp, one.ls, Nat.le_refl _, one.lay⟩
        have R := lists_ok n ou (by omega) hW (Nat.lt_of_lt_of_le hb x.sz) (Nat.lt_of_lt_of_le hq x.sz)
        refine step_q rfl ?_
        show Wp (m__law_lists n [u] s') _
        refine R.mono fun y hy => ⟨?_, by rw [List.length_append, o2]; rfl, x.trans hy.2⟩
        have e1 : PyData.weightAll (ds.take (j + 1)) = PyData.weightAll (ds.take j) + (PyData.weight e + 1 + 0) := by
          rw [List.take_add_one, ed, w_app]; rfl
        rw [e1]
        exact (o1.ex0 hy.2).append (hy.1.cons Oks.nil)
      · rintro ⟨acc, s2⟩ ⟨o1, o2, x⟩
        simp only [List.nil_append] at o1 o2 x
        have o3 : Oks W (k - 1) m b qq s2 acc := o1.mono (Nat.le_refl _) (Nat.le_refl _) (by
          have : ds.take ws.length = ds := List.take_of_length_le (by rw [l.len]; exact Nat.le_refl _)
          rw [this]; exact sd.wt)
        have z := (o3.ex0 (Ex0.push (o := .lst acc))).lst (n := s2.sz) (by omega) (by rw [push_sz]; omega) ⟨by have := x.sz; omega, by have := x.sz; omega⟩ Ms.get_push
        rw [show k - 1 + 1 = k by omega] at z
        exact ⟨by show acc.length ≤ _; omega, _, rfl, z, x.trans Ex0.push⟩
theorem repr_ok (h : Ok W k m b qq s w) (hk : k ≤ 22) (hm : m ≤ 1000000) : ∃ t, ∀ s', Ex0 s s' → reprX [w] s' = some (.str t, s') := by
  obtain ⟨d, h1, h2⟩ := h
  have sh := (h2.mono (by omega : k ≤ 30) hm).show
  have dp := h2.dp
  cases h1 with
  | non => exact ⟨_, fun s' _ => rfl⟩
  | bl x => exact ⟨_, fun s' _ => rfl⟩
  | int i hi =>
    refine ⟨Str.ofString (toString i), fun s' _ => ?_⟩
    show cond (Nat.blt i.natAbs (2 ^ 64)) (some (Mv.str (Str.ofString (toString i)), s')) none = _
    rw [show Nat.blt i.natAbs (2 ^ 64) = true from Nat.ble_eq_true_of_le (by omega)]; rfl
  | @str x ho hz =>
    refine ⟨reprText x, fun s' _ => ?_⟩
    show cond (Nat.ble (reprText x).length 16777216) (some (Mv.str (reprText x), s')) none = _
    have : (reprText x).length ≤ 16777216 := by
      have := PyData.shown_le 13 (by decide) (.str x) h2.ls
      have e : PyData.shown (.str x) = reprText x := by simp [PyData.shown]
      rw [e] at this
      have w1 := h2.wt
      omega
    rw [Nat.ble_eq_true_of_le this]; rfl
  | @tup ws ds kk l =>
    refine ⟨PyData.shown (.tuple ds), fun s' x => ?_⟩
    show (toD 24 s' (.tup ws)).ob (fun d => cond (showD d) (some (Mv.str (PyData.shown d), s')) none) = _
    rw [toD_vd (.tup kk (l.ex0 x)) 24 (by omega), ob_of, sh]; rfl
  | @lst n ws ds kk hn hb g l =>
    refine ⟨PyData.shown (.list ds), fun s' x => ?_⟩
    show (toD 24 s' (.ref n)).ob (fun d => cond (showD d) (some (Mv.str (PyData.shown d), s')) none) = _
    rw [toD_vd (.lst kk (Nat.lt_of_lt_of_le hn x.sz) hb (x.at hn g) (l.ex0 x)) 24 (by omega), ob_of, sh]; rfl
theorem same_bl {n1 n2 : Nat} {x y : Bool} (g1 : s.get n1 = some (.lst [.bl x, .bl y])) (g2 : s.get n2 = some (.lst [.bl x, .bl y])) : m__law_same [.ref n1, .ref n2] s = some (.bl true, s) := by
  have t : ∀ n, s.get n = some (.lst [.bl x, .bl y]) → toD 24 s (.ref n) = some (.list [.bool x, .bool y]) := fun n g => by
    show (match s.get n with | some (.lst ws) => (toDL (toD 23 s) ws).om PyData.list | _ => none) = _
    rw [g]; rfl
  exact same_sp (t _ g1) (t _ g2) (by cases x <;> cases y <;> decide +kernel)
end
/-! closed values -/
mutual
def clo (W : Nat) : Mv → Option PyData
  | .non => some .none
  | .bl x => some (.bool x)
  | .int i => if i.natAbs < 1000000 then some (.int i) else none
  | .str x => if PyData.strOk x = true ∧ x.cps.size ≤ 20 then some (.str x) else none
  | .tup ws => if ws.length ≤ W then (match cloL W ws with | some ds => some (.tuple ds) | none => none) else none
  | _ => none
def cloL (W : Nat) : List Mv → Option (List PyData)
  | [] => some []
  | w :: ws => match clo W w, cloL W ws with
    | some d, some ds => some (d :: ds)
    | _, _ => none
end
def sdB (k m : Nat) (d : PyData) : Bool := PyData.showable d && (!PyData.hasDict d && (Nat.ble (PyData.depth d) k && (PyData.leavesShort 13 d && (Nat.ble (PyData.weight d) m && PyData.canLay0 d))))
def cloB (W k m : Nat) (w : Mv) : Bool := match clo W w with
  | some d => sdB k m d
  | none => false
theorem cloL_len {W : Nat} : ∀ {ws : List Mv} {ds : List PyData}, cloL W ws = some ds → ws.length = ds.length
  | [], ds, h => by simp [cloL] at h; subst h; rfl
  | w :: ws, ds, h => by
    simp only [cloL] at h
    split at h
    · rename_i e1 e2
      cases h
      rw [List.length_cons, List.length_cons, cloL_len e2]
    · cases h
mutual
theorem clo_vd {W b qq : Nat} {s : Ms} : ∀ (w : Mv) {d : PyData}, clo W w = some d → Vd W b qq s w d
  | .non, d, h => by simp [clo] at h; subst h; exact .non
  | .bl x, d, h => by simp [clo] at h; subst h; exact .bl x
  | .int i, d, h => by
    simp only [clo] at h
    split at h
    · cases h; exact .int i (by assumption)
    · cases h
  | .str x, d, h => by
    simp only [clo] at h
    split at h
    · rename_i hh; cases h; exact .str hh.1 hh.2
    · cases h
  | .tup ws, d, h => by
    simp only [clo] at h
    split at h
    · split at h
      · rename_i e; cases h; exact .tup (by rw [← cloL_len e]; assumption) (cloL_vd ws e)
      · cases h
    · cases h
  | .ref n, d, h => by simp [clo] at h
  | .ty t, d, h => by simp [clo] at h
  | .fl ws, d, h => by simp [clo] at h
  | .cls c, d, h => by simp [clo] at h
theorem cloL_vd {W b qq : Nat} {s : Ms} : ∀ (ws : List Mv) {ds : List PyData}, cloL W ws = some ds → VdL W b qq s ws ds
  | [], ds, h => by simp [cloL] at h; subst h; exact .nil
  | w :: ws, ds, h => by
    simp only [cloL] at h
    split at h
    · rename_i e1 e2
      cases h
      exact .cons (clo_vd w e1) (cloL_vd ws e2)
    · cases h
end
theorem sdB_ok {k m : Nat} {d : PyData} (h : sdB k m d = true) : SD k m d := by
  unfold sdB at h
  simp only [Bool.and_eq_true, Bool.not_eq_true'] at h
  exact ⟨h.1, h.2.1, Nat.le_of_ble_eq_true h.2.2.1, h.2.2.2.1, Nat.le_of_ble_eq_true h.2.2.2.2.1, h.2.2.2.2.2⟩
theorem cloB_ok {W k m b qq : Nat} {s : Ms} {w : Mv} (h : cloB W k m w = true) : Ok W k m b qq s w := by
  unfold cloB at h
  split at h
  · rename_i d e
    exact ⟨d, clo_vd w e, sdB_ok h⟩
  · cases h

end
section
section
variable {b qq m0 : Nat} {s : Ms} {r : Me}
abbrev PB (b qq : Nat) (s : Ms) (v : Mv) (ws : List Mv) : Prop := Pool 20 10 500000 b qq s v ws
theorem pe_clo {W k m : Nat} {r : Me} {E : Fe} {w : Mv} (e : ∀ (r : Me) (s : Ms), E r s = some (w, s)) (h : cloB W k m w = true) : Pe W k m b qq r s E := fun s' _ => .of (e r s') ⟨Ex0.refl, cloB_ok h⟩
theorem pool_addq {W k m : Nat} {v u : Mv} {ws us : List Mv} (h : Pool W k m b qq s v ws) (g : Pool W k m b qq s u us) (hl : ws.length + us.length ≤ 1000) (hb : b < s.sz) : Wp (addW v u s) fun y => Ex0 s y.2 ∧ y.1 = .ref s.sz ∧ y.2.sz = s.sz + 1 ∧ Pool W k m b s.sz y.2 (.ref s.sz) (ws ++ us) := by
  obtain ⟨n, rfl, n1, n2, g1⟩ := h.it
  obtain ⟨n', rfl, n1', n2', g2⟩ := g.it
  refine .of (x := (.ref s.sz, push s (.lst (ws ++ us)))) ?_ ⟨Ex0.push, rfl, push_sz, ⟨_, rfl, by rw [push_sz]; omega, by omega, Ms.get_push⟩, fun w hw => ?_⟩
  · unfold addW
    dsimp only
    rw [g1, g2]
    exact newL_of (by rw [List.length_append]; omega)
  · rcases List.mem_append.mp hw with hw | hw
    · exact ((h.ok w hw).fresh (Nat.le_refl _)).ex0 Ex0.push
    · exact ((g.ok w hw).fresh (Nat.le_refl _)).ex0 Ex0.push
theorem wp_mcons {A : Fe} {B : Fa} {r : Me} {s : Ms} {Q : List Mv × Ms → Prop} (h : Wp (A r s) fun x => Wp (B r x.2) fun y => Q (x.1 :: y.1, y.2)) : Wp (mcons A B r s) Q := by
  unfold mcons
  rw [wp_ob]
  refine h.mono fun x hx => ?_
  rw [wp_ob]
  exact hx.mono fun y hy => .of rfl hy
theorem wp_mnil {r : Me} {s : Ms} {Q : List Mv × Ms → Prop} (h : Q ([], s)) : Wp (mnil r s) Q := .of rfl h
theorem wp_call1 {f : Fn} {A : Fe} {r : Me} {s : Ms} {Q : Mv × Ms → Prop} (h : Wp (A r s) fun x => Wp (f [x.1] x.2) Q) : Wp (mcall f (mcons A mnil) r s) Q := by
  unfold mcall
  rw [wp_ob]
  exact wp_mcons (h.mono fun x hx => wp_mnil hx)
theorem Pool.ext {W k m : Nat} {s' : Ms} {v : Mv} {ws : List Mv} (h : Pool W k m b qq s v ws) (x : Ext b s s') : Pool W k m b qq s' v ws := by
  obtain ⟨n, e, n1, n2, g⟩ := h.it
  exact ⟨⟨n, e, Nat.lt_of_lt_of_le n1 x.sz, n2, x.at n1 n2 g⟩, fun w hw => (h.ok w hw).ext x⟩
theorem wp_set {i : Nat} {A : Fe} {r : Me} {Q : Fl × Me × Ms → Prop} (h : Wp (A r s) fun x => Q (.nx, lset r i (some x.1), x.2)) : Wp (sset i A r s) Q := by
  unfold sset
  rw [wp_om]; exact h
theorem wp_exp {A : Fe} {r : Me} {Q : Fl × Me × Ms → Prop} (h : Wp (A r s) fun x => Q (.nx, r, x.2)) : Wp (sexp A r s) Q := by
  unfold sexp
  rw [wp_om]; exact h
theorem two_bl {A B : Fe} {x y : Bool} (hA : ∀ s', Ex0 s s' → Wp (A r s') fun z => z.1 = .bl x ∧ Ex0 s' z.2) (hB : ∀ s', Ex0 s s' → Wp (B r s') fun z => z.1 = .bl y ∧ Ex0 s' z.2) : ∀ s', Ex0 s s' → Wp (mlst (mcons A (mcons B mnil)) r s') fun z => ∃ n, z.1 = .ref n ∧ n < z.2.sz ∧ z.2.get n = some (.lst [.bl x, .bl y]) ∧ Ex0 s' z.2 := fun s' x0 => by
  unfold mlst
  rw [wp_ob]
  refine wp_mcons ((hA s' x0).mono fun z hz => wp_mcons ((hB z.2 (x0.trans hz.2)).mono fun q hq => wp_mnil ?_))
  rw [wp_newL (by simp), hz.1, hq.1]
  exact ⟨_, rfl, by rw [push_sz]; omega, Ms.get_push, hz.2.trans (hq.2.trans Ex0.push)⟩
theorem same2 {A B C D : Fe} {x y : Bool} (hA : ∀ s', Ex0 s s' → Wp (A r s') fun z => z.1 = .bl x ∧ Ex0 s' z.2) (hB : ∀ s', Ex0 s s' → Wp (B r s') fun z => z.1 = .bl y ∧ Ex0 s' z.2) (hC : ∀ s', Ex0 s s' → Wp (C r s') fun z => z.1 = .bl x ∧ Ex0 s' z.2) (hD : ∀ s', Ex0 s s' → Wp (D r s') fun z => z.1 = .bl y ∧ Ex0 s' z.2) :
    Wp (mcall m__law_same (mcons (mlst (mcons A (mcons B mnil))) (mcons (mlst (mcons C (mcons D mnil))) mnil)) r s) fun z => z.1 = .bl true ∧ Ex0 s z.2 := by
  unfold mcall
  rw [wp_ob]
  refine wp_mcons ((two_bl hA hB s Ex0.refl).mono fun z hz => wp_mcons ?_)
  obtain ⟨n, e, lt, g, x1⟩ := hz
  refine (two_bl hC hD z.2 x1).mono fun q hq => wp_mnil ?_
  obtain ⟨n', e', _, g', x2⟩ := hq
  rw [e, e']
  exact .of (same_bl (x2.at lt g) g') ⟨rfl, x1.trans x2⟩
end

end
section
/-! ### texts in lists and tuples of texts; doors -/
def txIn (d : PyData) (ys : List Str) : Bool := match d with
  | .str x => decide (x ∈ ys)
  | _ => false
def MODESX : List Str := [x_global, x_local, x_deep]
def doorP (d : PyData) (ys : List Str) : Bool := (isTupD d && (decide ((itemsD d).length = 2) && (nameD (atD d 0) && txIn (atD d 0) ys))) && (isaT (dTy (atD d 1)) .str && txIn (atD d 1) MODESX)
section
variable {W b qq : Nat} {s : Ms} {r : Me} {w v : Mv} {d : PyData} {ys : List Str}
theorem toDL_strs : ∀ (ys : List Str) (n : Nat), (∀ y ∈ ys, PyData.strOk y = true) → toDL (toD (n + 1) s) (strV ys) = some (ys.map .str) := fun ys n h => strOk_all ys n h
theorem strs_of_strV : ∀ ys : List Str, strsOf (strV ys) = some ys
  | [] => rfl
  | y :: ys => by
    show (strsOf (strV ys)).om (fun r => y :: r) = _
    rw [strs_of_strV ys]; rfl
theorem inBo_vd (h : Vd W b qq s w d) (hd : PyData.depth d < 24) (hi : items v s = some (strV ys)) (ho : ∀ y ∈ ys, PyData.strOk y = true) : inBo w v s = some (txIn d ys) := by
  have far : (∀ x, w ≠ .str x) → (∀ y, PyData.eqv (.str y) d = false) → txIn d ys = false → inBo w v s = some (txIn d ys) := fun h1 h2 h3 => by
    unfold inBo
    rw [hi, ob_of, strs_of_strV]
    have e : (toD 24 s w).ob (fun d => (toDL (toD 23 s) (strV ys)).om fun ds => ds.any fun z => PyData.eqv z d) = some (txIn d ys) := by
      rw [toD_vd h 24 hd, ob_of, toDL_strs ys 22 ho, om_of, h3]
      congr 1
      rw [List.any_map]
      exact List.any_eq_false.mpr fun y hy => by simp [h2]
    cases w with
    | str x => exact absurd rfl (h1 x)
    | _ => exact e
  cases h with
  | str =>
    unfold inBo
    rw [hi, ob_of, strs_of_strV]
    dsimp only
    rw [any_str]; rfl
  | non => exact far (fun _ z => nomatch z) (fun y => by simp [PyData.eqv]) rfl
  | bl => exact far (fun _ z => nomatch z) (fun y => by simp [PyData.eqv]) rfl
  | int => exact far (fun _ z => nomatch z) (fun y => by simp [PyData.eqv]) rfl
  | tup => exact far (fun _ z => nomatch z) (fun y => by simp [PyData.eqv]) rfl
  | lst => exact far (fun _ z => nomatch z) (fun y => by simp [PyData.eqv]) rfl
theorem din_seq {neg : Bool} (hi : items v s = some (strV ys)) : dinW neg w v s = none := by
  cases v with
  | ref n =>
    unfold dinW
    dsimp only
    have g : s.get n = some (.lst (strV ys)) := by
      unfold items at hi
      dsimp only at hi
      split at hi
      · rename_i e; cases hi; exact e
      · cases hi
    rw [g]; rfl
  | _ => rfl
theorem in_vd (h : Vd W b qq s w d) (hd : PyData.depth d < 24) (hi : items v s = some (strV ys)) (ho : ∀ y ∈ ys, PyData.strOk y = true) : inA w v s = some (.bl (txIn d ys), s) := by
  unfold inA
  rw [din_seq hi]
  show inW w v s = _
  unfold inW
  rw [inBo_vd h hd hi ho]; rfl
theorem nin_vd (h : Vd W b qq s w d) (hd : PyData.depth d < 24) (hi : items v s = some (strV ys)) (ho : ∀ y ∈ ys, PyData.strOk y = true) : ninA w v s = some (.bl (!txIn d ys), s) := by
  unfold ninA
  rw [din_seq hi]
  show ninW w v s = _
  unfold ninW
  rw [inBo_vd h hd hi ho]; rfl
theorem at_dep {ds : List PyData} {k : Nat} (hd : PyData.depthAll ds < 24) : PyData.depth (atD (.tuple ds) k) < 24 := by
  show PyData.depth (ds.getD k .none) < 24
  rw [List.getD_eq_getElem?_getD]
  cases e : ds[k]? with
  | none => simp [PyData.depth]
  | some d =>
    have := dep_mem (List.mem_of_getElem? e)
    show PyData.depth d < 24
    omega
theorem door_vd (h : Vd W b qq s w d) (hd : PyData.depth d < 24) (hi : ∀ s', Ex0 s s' → items v s' = some (strV ys)) (ho : ∀ y ∈ ys, PyData.strOk y = true) : Wp (m_is_door [w, v] s) fun y => y.1 = .bl (doorP d ys) ∧ Ex0 s y.2 := by
  have e : doorP d ys = (!(!isTupD d || (!decide ((itemsD d).length = 2) || (!nameD (atD d 0) || !txIn (atD d 0) ys))) && (isaT (dTy (atD d 1)) .str && txIn (atD d 1) MODESX)) := by
    unfold doorP; cases isTupD d <;> simp
  rw [e]
  refine fn_sp (v := .bl _) [some w, some v] rfl rfl ?_
  unfold bd_is_door
  refine guard_sp (tor_sp (c_wp (n_of (t_of (ev_isi rfl h)))) fun hc s1 x1 => ?_) fun hc s1 x1 => ?_
  · obtain ⟨ws, ds, rfl, rfl, l, hdw⟩ := tup_vd h (by simpa using hc)
    have l1 := l.ex0 x1
    refine tor_sp (c_wp (b_of (op_e (ev_len rfl) rfl (by rw [l1.len]; exact ne_nat (n := 2))))) fun hc2 s2 x2 => ?_
    have h2 : (itemsD (.tuple ds)).length = 2 := of_decide_eq_true (by simpa using hc2)
    have h2 : ds.length = 2 := h2
    simp only [PyData.depth] at hd
    have A : ∀ s', Ex0 s2 s' → ∃ u, (mop2 ixA (mvar 0) (mcon (.int ((0 : Nat) : Int)))) [some (.tup ws), some v] s' = some (u, s') ∧ Vd W b qq s' u (atD (.tuple ds) 0) := fun s' x => at_vd ((l1.ex0 x2).ex0 x) (by omega) rfl
    refine tor_sp (not_sp (mt_tl ?_)) fun _ s3 x3 => mb_tl ?_
    · obtain ⟨u, f1, f2⟩ := A s2 Ex0.refl
      exact call_sp1 f1 (name_vd f2)
    · obtain ⟨u, f1, f2⟩ := A s3 x3
      exact e_wp (op_e f1 rfl (nin_vd f2 (at_dep (by omega)) (hi s3 (x1.trans (x2.trans x3))) ho))
  simp only [Bool.or_eq_false_iff, Bool.not_eq_false'] at hc
  obtain ⟨hc1, hc2, hc3, hc4⟩ := hc
  obtain ⟨ws, ds, rfl, rfl, l, hdw⟩ := tup_vd h hc1
  have h2 : (itemsD (.tuple ds)).length = 2 := of_decide_eq_true hc2
  have h2 : ds.length = 2 := h2
  simp only [PyData.depth] at hd
  have A : ∀ s', Ex0 s1 s' → ∃ u, (mop2 ixA (mvar 0) (mcon (.int ((1 : Nat) : Int)))) [some (.tup ws), some v] s' = some (u, s') ∧ Vd W b qq s' u (atD (.tuple ds) 1) := fun s' x => at_vd ((l.ex0 x1).ex0 x) (by omega) rfl
  refine ret_sp (and_sp ?_ fun _ s2 x2 => ?_)
  · obtain ⟨u, f1, f2⟩ := A s1 Ex0.refl
    refine e_wp ?_
    have f1 : (mop2 ixA (mvar 0) (mcon (.int 1))) [some (.tup ws), some v] s1 = some (u, s1) := f1
    simp only [mcall, mcons, mcon, mnil, ob_of, om_of, f1]
    exact isi_vd f2 _
  · obtain ⟨u, f1, f2⟩ := A s2 x2
    exact e_wp (op_e (v := .tup tw_MODES) f1 rfl (in_vd f2 (at_dep (by omega)) (ys := MODESX) rfl (by decide +kernel)))
end

end
section
/-! ### a comprehension of two loops; is_program -/
section
variable {I I1 : Fi} {T T1 : Tg} {E : Fe} {vs vs1 : List Nat} {r : Me} {s : Ms} {α β : Type}
theorem all_lc2 (xs : List α) (f : α → Mv) (r1 : α → Me) (zs : α → List β) (g : α → β → Mv) (r2 : α → β → Me) (c : α → β → Bool) (hl : xs.length ≤ 1000) (hz : ∀ x ∈ xs, (zs x).length ≤ 1000) (hI : Wp (I r s) fun y => Ex0 s y.2 ∧ ∀ s', Ex0 y.2 s' → Gives y.1 (xs.map f) s')
    (ha : ∀ x ∈ xs, T.asg (f x) (mwipe r vs) = some (r1 x)) (hI1 : ∀ x ∈ xs, ∀ s', Ex0 s s' → Wp (I1 (r1 x) s') fun y => Ex0 s' y.2 ∧ ∀ s2, Ex0 y.2 s2 → Gives y.1 ((zs x).map (g x)) s2) (ha1 : ∀ x ∈ xs, ∀ z ∈ zs x, T1.asg (g x z) (mwipe (r1 x) vs1) = some (r2 x z))
    (hE : ∀ x ∈ xs, ∀ z ∈ zs x, ∀ s', Ex0 s s' → Wp (E (r2 x z) s') fun y => y.1 = .bl (c x z) ∧ Ex0 s' y.2) : Wp (mcall allW (mcons (mlc2 I T myes I1 T1 myes E vs vs1) (mnil)) r s) fun y => y.1 = .bl (xs.all fun x => (zs x).all (c x)) ∧ Ex0 s y.2 := by
  refine wp_call1 (Wp.mono (Q := fun y => ∃ n, y.1 = .ref n ∧ y.2.get n = some (.lst ((xs.flatMap fun x => (zs x).map (c x)).map .bl)) ∧ Ex0 s y.2) ?_ fun y hy => ?_)
  · unfold mlc2
    rw [wp_ob]
    refine hI.mono fun y hy => ?_
    obtain ⟨it, s1⟩ := y
    obtain ⟨x1, gi⟩ := hy
    simp only at x1 gi
    rw [wp_ob]
    refine (wp_flat (xs.map f) (fun i acc s' => acc = ((xs.take i).flatMap fun x => (zs x).map (c x)).map .bl ∧ Ex0 s1 s') (fun i acc s' _ a => gi s' a.2) ?_ 1000000000 0 [] s1 (by rw [List.length_map]; omega) (by omega) ⟨rfl, Ex0.refl⟩).mono ?_
    · rintro i u acc s' hu ⟨rfl, xx⟩
      rw [List.getElem?_map] at hu
      obtain ⟨x, hx, rfl⟩ := Option.map_eq_some_iff.mp hu
      have hm := List.mem_of_getElem? hx
      rw [ha x hm, ob_of, wp_ob]
      refine .of (x := (true, s')) rfl ?_
      rw [cond_true, wp_ob]
      refine (hI1 x hm s' (x1.trans xx)).mono fun y hy => ?_
      obtain ⟨it1, s2⟩ := y
      obtain ⟨x2, gi1⟩ := hy
      simp only at x2 gi1
      refine (wp_flat ((zs x).map (g x)) (fun j acc s' => acc = (((zs x).take j).map (c x)).map .bl ∧ Ex0 s2 s') (fun j acc s' _ a => gi1 s' a.2) ?_ 1000000000 0 [] s2 (by rw [List.length_map]; have := hz x hm; omega) (by omega) ⟨rfl, Ex0.refl⟩).mono ?_
      · rintro j u acc s3 hu ⟨rfl, x3⟩
        rw [List.getElem?_map] at hu
        obtain ⟨z, hz', rfl⟩ := Option.map_eq_some_iff.mp hu
        have hmz := List.mem_of_getElem? hz'
        refine (step_e (ha1 x hm z hmz) (hE x hm z hmz s3 (x1.trans (xx.trans (x2.trans x3))))).mono fun y hy => ?_
        refine ⟨?_, x3.trans hy.2⟩
        rw [hy.1, List.take_add_one, hz', List.map_append, List.map_append]; rfl
      · rintro ⟨acc2, s3⟩ ⟨e2, x3⟩
        simp only [List.nil_append] at e2 x3
        rw [List.length_map, List.take_length] at e2
        refine ⟨?_, xx.trans (x2.trans x3)⟩
        rw [List.take_add_one, hx, List.flatMap_append, List.map_append, e2]
        congr 1
        show _ = (((zs x).map (c x)) ++ []).map Mv.bl
        rw [List.append_nil]
    · rintro ⟨acc, s2⟩ ⟨e2, x2⟩
      simp only [List.nil_append] at e2 x2
      rw [List.length_map, List.take_length] at e2
      subst e2
      have big : ((xs.flatMap fun x => (zs x).map (c x)).map Mv.bl).length ≤ 16777216 := by
        rw [List.length_map]
        have : ∀ l : List α, (∀ x ∈ l, (zs x).length ≤ 1000) → (l.flatMap fun x => (zs x).map (c x)).length ≤ 1000 * l.length := by
          intro l
          induction l with
          | nil => intro _; simp
          | cons x l ih =>
            intro h
            rw [List.flatMap_cons, List.length_append, List.length_map, List.length_cons]
            have := ih fun y hy => h y (List.mem_cons_of_mem _ hy)
            have := h x (List.mem_cons_self ..)
            omega
        have := this xs hz
        omega
      exact .of (newL_of big) ⟨_, rfl, Ms.get_push, x1.trans (x2.trans Ex0.push)⟩
  · obtain ⟨n, e, g, x⟩ := hy
    rw [e]
    have := all_map (b := id) g
    refine .of this ⟨?_, x⟩
    show Mv.bl _ = _
    rw [List.all_flatMap]
    congr 2
    funext x
    rw [List.all_map]; rfl
end

end
section
/-! ### is_program -/
def nmD (d : PyData) : Str := match atD d 0 with
  | .str x => x
  | _ => x_
def titles (d : PyData) : List Str := (itemsD d).map nmD
def txD2 (d : PyData) : Str := match d with
  | .str x => x
  | _ => x_
def prD (d : PyData) : List Str := [txD2 (atD d 0), txD2 (atD d 1)]
/-- how many different ones -/
def dlen (ds : List PyData) : Nat := match ds with
  | [] => 0
  | ds => (ddN ((ds.map prD).map prK)).length
def setOk (ys : List Str) : Bool := decide ((ddS ys).length = ys.length)
def needsIn (d : PyData) (ys : List Str) : Bool := (itemsD d).all fun l => (itemsD (atD l 1)).all fun x => txIn x ys
def progD (d : PyData) : Bool := (isTupD d && (decide ((itemsD d).length = 3) && (isTupD (atD d 0) && !decide ((itemsD (atD d 0)).length = 0)))) && ((itemsD (atD d 0)).all libD &&
  ((setOk (titles (atD d 0)) && (namesD (atD d 1) && isTupD (atD d 2))) && (needsIn (atD d 0) ((titles (atD d 0)).drop 1) &&
    (((itemsD (atD d 1)).all (fun x => txIn x ((titles (atD d 0)).drop 1)) && (itemsD (atD d 2)).all (fun x => doorP x ((titles (atD d 0)).drop 1))) && decide (dlen (itemsD (atD d 2)) = (itemsD (atD d 2)).length)))))
section
variable {W b qq : Nat} {s : Ms} {r : Me} {w v : Mv} {d : PyData}
theorem lib_parts {d : PyData} (h : libD d = true) : isTupD d = true ∧ (itemsD d).length = 4 ∧ nameD (atD d 0) = true ∧ namesD (atD d 1) = true := by
  unfold libD at h
  simp only [Bool.and_eq_true, decide_eq_true_eq] at h
  exact ⟨h.1.1, h.1.2.1, h.1.2.2, h.2.1.1⟩
theorem nm_name {d : PyData} (h : libD d = true) : atD d 0 = .str (nmD d) ∧ nameB (nmD d) = true := by
  obtain ⟨_, _, h3, _⟩ := lib_parts h
  obtain ⟨x, e⟩ := name_str h3
  unfold nmD
  rw [e] at h3 ⊢
  exact ⟨rfl, h3⟩
theorem nm_ok {w : Mv} {d : PyData} (hv : Vd W b qq s w d) (h : libD d = true) : PyData.strOk (nmD d) = true := by
  obtain ⟨h1, h2, h3, _⟩ := lib_parts h
  obtain ⟨ws, ds, rfl, rfl, l, _⟩ := tup_vd hv h1
  have e := (nm_name h).1
  have h2 : ds.length = 4 := h2
  obtain ⟨u, _, g⟩ := l.getd (List.getElem?_eq_getElem (by omega : 0 < ds.length))
  have e0 : atD (.tuple ds) 0 = ds[0] := by
    show ds.getD 0 .none = _
    rw [List.getD_eq_getElem?_getD, List.getElem?_eq_getElem (by omega : 0 < ds.length)]; rfl
  rw [← e0, e] at g
  cases g with
  | str o _ => exact o
theorem ded_txt (ys : List Str) : dedX (strV ys) = some (sortT (ddS ys)) := by
  unfold dedX
  rw [strs_of_strV]
theorem lenX_list {A : Fe} {v : Mv} {ys : List Str} (h : A r s = some (v, s)) (hv : seqOf v s = some (strV ys)) (hl : ys.length ≤ 63) : (mlenX A) r s = some (.int ((ddS ys).length : Nat), s) := by
  unfold mlenX
  rw [h, ob_of]
  have : dedY v s = some (sortT (ddS ys)) := by
    unfold dedY
    rw [hv, ob_of, Nat.ble_eq_true_of_le (by unfold strV; rw [List.length_map]; exact hl), cond_true, ded_txt]
  dsimp only
  rw [this, ob_of, sortT_len]
theorem door_tup {d : PyData} {ys : List Str} {w : Mv} (hv : Vd W b qq s w d) (h : doorP d ys = true) : ∃ x y, w = .tup [.str x, .str y] ∧ prD d = [x, y] := by
  unfold doorP at h
  simp only [Bool.and_eq_true, decide_eq_true_eq] at h
  obtain ⟨⟨h1, h2, h3, _⟩, h4, h5⟩ := h
  obtain ⟨ws, ds, rfl, rfl, l, _⟩ := tup_vd hv h1
  have h2 : ds.length = 2 := h2
  match ds, h2, l with
  | [d1, d2], _, .cons a (.cons c .nil) =>
    have e1 : nameD d1 = true := h3
    have e2 : txIn d2 MODESX = true := h5
    cases a with
    | str =>
      cases c with
      | str => exact ⟨_, _, rfl, rfl⟩
      | _ => cases e2
    | _ => cases e1
theorem keys_doors {ys : List Str} : ∀ {ws : List Mv} {ds : List PyData}, VdL W b qq s ws ds → ds.all (fun x => doorP x ys) = true → keysOf ws = some (ds.map prD)
  | _, _, .nil, _ => rfl
  | _, _, .cons (ws := ws) a l, h => by
    rw [List.all_cons, Bool.and_eq_true] at h
    obtain ⟨x, y, rfl, e⟩ := door_tup a h.1
    have i := keys_doors l h.2
    show (pairOf (.tup [.str x, .str y])).ob (fun k => (keysOf ws).om fun ks => k :: ks) = _
    rw [i, List.map_cons, e]; rfl
theorem ded_doors {ys : List Str} {ws : List Mv} {ds : List PyData} (l : VdL W b qq s ws ds) (h : ds.all (fun x => doorP x ys) = true) : ∃ L, dedX ws = some L ∧ L.length = dlen ds := by
  cases l with
  | nil => exact ⟨[], rfl, rfl⟩
  | @cons w d ws ds a l =>
    have k := keys_doors (VdL.cons a l) h
    rw [List.all_cons, Bool.and_eq_true] at h
    obtain ⟨x, y, rfl, e⟩ := door_tup a h.1
    refine ⟨sortN (ddN (((d :: ds).map prD).map prK)), ?_, by rw [sortN_len]; rfl⟩
    unfold dedX
    rw [show strsOf (Mv.tup [.str x, .str y] :: ws) = none from rfl]
    dsimp only
    rw [k]; rfl
theorem titles_list {ws : List Mv} {ds : List PyData} (l : VdL W b qq s ws ds) (h : ds.all libD = true) (hl : ds.length ≤ 1000) {o1 o3 o4 : Option Mv} {w1 w2 : Mv} : Wp ((mlc (miS (mop2 ixA (mvar 0) (mcon (.int 0)))) (.nm 2) (myes) (mop2 ixA (mvar 2) (mcon (.int 0))) [2]) [some (.tup [.tup ws, w1, w2]), o1, none, o3, o4] s) fun y => ∃ n, y.1 = .ref n ∧ s.sz ≤ n ∧ n < y.2.sz ∧ y.2.get n = some (.lst (strV (titles (.tuple ds)))) ∧ Ex0 s y.2 := by
  obtain ⟨z1, z2, z3⟩ := l.zip
  refine (lcI (I := miS (mop2 ixA (mvar 0) (mcon (.int 0)))) (T := .nm 2) (E := mop2 ixA (mvar 2) (mcon (.int 0))) (C := myes) (vs := [2]) (r := [some (.tup [.tup ws, w1, w2]), o1, none, o3, o4]) (s := s) (ws.zip ds) (fun q => q.1) (fun q => .str (nmD q.2)) (by rw [List.length_zip]; omega) (by rw [z1]; exact seqI (ev_ix (k := 0) rfl rfl)) fun q hq s1 x1 => step_e rfl ?_).mono fun y hy => ?_
  · have hq3 := (z3 q hq).ex0 x1
    have lb : libD q.2 = true := List.all_eq_true.mp h _ (List.of_mem_zip hq).2
    obtain ⟨h1, h2, _, _⟩ := lib_parts lb
    obtain ⟨us, es, e1, e2, l4, _⟩ := tup_vd hq3 h1
    have nm := (nm_name lb).1
    rw [e2] at h2 nm
    have h2 : es.length = 4 := h2
    obtain ⟨u, f1, f2⟩ := at_vd (s := s1) (r := [some (.tup [.tup ws, w1, w2]), o1, some (.tup us), o3, o4]) l4 (k := 0) (by omega) (i := 2) rfl
    rw [nm] at f2
    rw [e1]
    refine e_wp ?_
    cases f2
    rw [e2]
    exact f1
  · obtain ⟨n, e, n1, n2, g, x⟩ := hy
    refine ⟨n, e, n1, n2, ?_, x⟩
    rw [g]
    have : ((ws.zip ds).map fun q => Mv.str (nmD q.2)) = strV (titles (.tuple ds)) := by
      unfold strV titles
      show _ = ((ds.map nmD).map Mv.str)
      conv => rhs; rw [← z2]
      rw [List.map_map, List.map_map]; rfl
    rw [this]
end

end
section
theorem _root_.List.all_congr_mem {α : Type} {f g : α → Bool} : ∀ {l : List α}, (∀ x ∈ l, f x = g x) → l.all f = l.all g
  | [], _ => rfl
  | x :: l, h => by rw [List.all_cons, List.all_cons, h x (List.mem_cons_self ..), List.all_congr_mem fun y hy => h y (List.mem_cons_of_mem _ hy)]
def needW (w : Mv) : List Mv := match w with
  | .tup us => (match (us[1]? : Option Mv) with
    | some (.tup us') => us'
    | _ => [])
  | _ => []
theorem needW_of {us us' : List Mv} (h : us[1]? = some (.tup us')) : needW (.tup us) = us' := by
  unfold needW
  dsimp only
  rw [h]
section
variable {W b qq : Nat} {s : Ms} {r : Me} {w v : Mv} {d : PyData}
theorem sl_names {n : Nat} {ys : List Str} (e1 : r[1]? = some (some (.ref n))) (g : s.get n = some (.lst (strV ys))) (hl : ys.length ≤ 1000) : (mslice (mvar 1) (osome (mcon (.int 1))) (onone)) r s = some (.ref s.sz, push s (.lst (strV (ys.drop 1)))) := by
  unfold mslice
  rw [mvar_t e1, ob_of]
  show slW (.ref n) (some 1) none s = _
  unfold slW
  dsimp only
  rw [g]
  show newL (cutM (strV ys) (some 1) none) s = _
  rw [cut_tl, show (strV ys).drop 1 = strV (ys.drop 1) by unfold strV; rw [List.map_drop], newL_of (by unfold strV; rw [List.length_map, List.length_drop]; omega)]
theorem in_sl {n : Nat} {ys : List Str} {A : Fe} (e0 : A r s = some (w, s)) (hv : Vd W b qq s w d) (hd : PyData.depth d < 24) (e1 : r[1]? = some (some (.ref n))) (g : s.get n = some (.lst (strV ys))) (hl : ys.length ≤ 1000) (ho : ∀ y ∈ ys, PyData.strOk y = true) : Wp ((mop2 inA A (mslice (mvar 1) (osome (mcon (.int 1))) (onone))) r s) fun y => y.1 = .bl (txIn d (ys.drop 1)) ∧ Ex0 s y.2 := by
  unfold mop2
  rw [e0, ob_of]
  dsimp only
  rw [sl_names e1 g hl, ob_of]
  exact .of (in_vd (hv.ex0 Ex0.push) hd (items_ref Ms.get_push) fun y hy => ho y (List.mem_of_mem_drop hy)) ⟨rfl, Ex0.push⟩
theorem prog_vd (h : Vd W b qq s w d) (hW : W ≤ 63) (h2 : 2 ≤ W) (hd : PyData.depth d < 24) : Wp (m_is_program [w] s) fun y => y.1 = .bl (progD d) ∧ Ex0 s y.2 := by
  have e : progD d = (!(!isTupD d || (!decide ((itemsD d).length = 3) || (!isTupD (atD d 0) || decide ((itemsD (atD d 0)).length = 0)))) && (!(!(itemsD (atD d 0)).all libD) &&
    (!(!setOk (titles (atD d 0)) || (!namesD (atD d 1) || !isTupD (atD d 2))) && (!(!needsIn (atD d 0) ((titles (atD d 0)).drop 1)) &&
      (!(!(itemsD (atD d 1)).all (fun x => txIn x ((titles (atD d 0)).drop 1)) || !(itemsD (atD d 2)).all (fun x => doorP x ((titles (atD d 0)).drop 1))) && decide (dlen (itemsD (atD d 2)) = (itemsD (atD d 2)).length)))))) := by
    unfold progD
    cases isTupD d <;> simp
  rw [e]
  refine fn_sp (v := .bl _) [some w, none, none, none, none] rfl rfl ?_
  unfold bd_is_program
  refine guard_sp (tor_sp (c_wp (n_of (t_of (ev_isi rfl h)))) fun hc s1 x1 => ?_) fun hc s1 x1 => ?_
  · obtain ⟨ws, ds, rfl, rfl, l, hdw⟩ := tup_vd h (by simpa using hc)
    have l1 := l.ex0 x1
    refine tor_sp (c_wp (b_of (op_e (ev_len rfl) rfl (by rw [l1.len]; exact ne_nat (n := 3))))) fun hc2 s2 x2 => ?_
    have h3 : (itemsD (.tuple ds)).length = 3 := of_decide_eq_true (by simpa using hc2)
    have h3 : ds.length = 3 := h3
    have A : ∀ s', Ex0 s2 s' → ∃ u, (mop2 ixA (mvar 0) (mcon (.int ((0 : Nat) : Int)))) [some (.tup ws), none, none, none, none] s' = some (u, s') ∧ Vd W b qq s' u (atD (.tuple ds) 0) := fun s' x => at_vd ((l1.ex0 x2).ex0 x) (by omega) rfl
    refine tor_sp ?_ fun ht s3 x3 => ?_
    · obtain ⟨u, f1, f2⟩ := A s2 Ex0.refl
      have f1 : (mop2 ixA (mvar 0) (mcon (.int 0))) [some (.tup ws), none, none, none, none] s2 = some (u, s2) := f1
      refine c_wp (n_of (t_of ?_))
      simp only [mcall, mcons, mcon, mnil, ob_of, om_of, f1]
      exact isi_vd f2 _
    · obtain ⟨u, f1, f2⟩ := A s3 x3
      obtain ⟨us, es, rfl, ee, le, _⟩ := tup_vd f2 (by simpa using ht)
      rw [ee]
      have f1 : (mop2 ixA (mvar 0) (mcon (.int 0))) [some (.tup ws), none, none, none, none] s3 = some (.tup us, s3) := f1
      refine c_wp (b_of (op_e (u := .int (es.length : Nat)) (v := .int ((0 : Nat) : Int)) ?_ rfl eq_nat))
      simp only [mcall, mcons, mcon, mnil, ob_of, om_of, f1]
      show some (Mv.int (us.length : Nat), s3) = _
      rw [le.len]
  simp only [Bool.or_eq_false_iff, Bool.not_eq_false'] at hc
  obtain ⟨hc1, hc2, hc3, hc4⟩ := hc
  obtain ⟨ws, ds, rfl, rfl, l, hdw⟩ := tup_vd h hc1
  have h3 : (itemsD (.tuple ds)).length = 3 := of_decide_eq_true hc2
  have h3 : ds.length = 3 := h3
  simp only [PyData.depth] at hd
  match ds, h3, l.ex0 x1 with
  | [d0, d1, d2], _, .cons (w := w0) a0 (.cons (w := w1) a1 (.cons (w := w2) a2 .nil)) =>
    simp only [PyData.depthAll] at hd
    have hc3 : isTupD d0 = true := hc3
    obtain ⟨us0, es0, rfl, rfl, l0, k0⟩ := tup_vd a0 hc3
    have ix0 : ∀ {o1 o2 o3 o4 : Option Mv} (s' : Ms), (mop2 ixA (mvar 0) (mcon (.int 0))) [some (.tup [.tup us0, w1, w2]), o1, o2, o3, o4] s' = some (.tup us0, s') := fun s' => ev_ix (k := 0) rfl rfl
    have ix1 : ∀ {o1 o2 o3 o4 : Option Mv} (s' : Ms), (mop2 ixA (mvar 0) (mcon (.int 1))) [some (.tup [.tup us0, w1, w2]), o1, o2, o3, o4] s' = some (w1, s') := fun s' => ev_ix (k := 1) rfl rfl
    have ix2 : ∀ {o1 o2 o3 o4 : Option Mv} (s' : Ms), (mop2 ixA (mvar 0) (mcon (.int 2))) [some (.tup [.tup us0, w1, w2]), o1, o2, o3, o4] s' = some (w2, s') := fun s' => ev_ix (k := 2) rfl rfl
    show Wp (sseq _ _ [some (.tup [.tup us0, w1, w2]), none, none, none, none] s1) _
    have l1 := l0
    refine guard_sp (not_sp (mt_tl ?_)) fun hall s2 x2 => ?_
    · obtain ⟨z1, z2, z3⟩ := l1.zip
      rw [show (itemsD (atD (.tuple [.tuple es0, d1, d2]) 0)).all libD = _ from zall l1 libD]
      exact all_lcI (us0.zip es0) (fun q => q.1) (fun q => libD q.2) (by rw [List.length_zip]; omega) (by rw [z1]; exact seqI (ix0 s1)) fun q hq s3 x3 => step_e rfl (call_sp1 rfl (lib_vd ((z3 q hq).ex0 x3) (by omega) h2))
    have hall' : es0.all libD = true := by simpa [itemsD, atD] using hall
    have tl : (titles (.tuple es0)).length = es0.length := by unfold titles; rw [List.length_map]; rfl
    have l2 := l1.ex0 x2
    have tok : ∀ y ∈ titles (.tuple es0), PyData.strOk y = true := fun y hy => by
      obtain ⟨e0, he, rfl⟩ := List.mem_map.mp hy
      have he : e0 ∈ es0 := he
      obtain ⟨i, hi⟩ := List.mem_iff_getElem?.mp he
      obtain ⟨u, _, g⟩ := l2.getd hi
      exact nm_ok g (List.all_eq_true.mp hall' _ he)
    refine wp_seq (wp_set ((titles_list l2 hall' (by omega)).mono fun y hy => ⟨rfl, ?_⟩))
    obtain ⟨v, s3⟩ := y
    obtain ⟨n, e3, n0, n1, g, x3⟩ := hy
    simp only at e3 n1 g x3
    subst e3
    have X12 := x2.trans x3
    refine Wp.mono (Q := fun x : Fl × Me × Ms => x.1 = .rt (.bl (!(!setOk (titles (.tuple es0)) || (!namesD d1 || !isTupD d2)) && (!(!needsIn (.tuple es0) ((titles (.tuple es0)).drop 1)) && (!(!(itemsD d1).all (fun x => txIn x ((titles (.tuple es0)).drop 1)) || !(itemsD d2).all (fun x => doorP x ((titles (.tuple es0)).drop 1))) && decide (dlen (itemsD d2) = (itemsD d2).length))))) ∧ Ex0 s3 x.2.2) ?_ (fun x hx => ⟨hx.1, x3.trans hx.2⟩)
    show Wp (sseq _ _ [some (.tup [.tup us0, w1, w2]), some (.ref n), none, none, none] s3) _
    have a1' := a1.ex0 X12
    have a2' := a2.ex0 X12
    refine guard_sp (tor_sp (mb_tl ?_) fun _ s4 x4 => tor_sp (not_sp (mt_tl ?_)) fun _ s5 x5 => not_sp (mt_tl ?_)) fun hg s4 x4 => ?_
    · refine e_wp (op_e (lenX_list (A := mvar 1) rfl (items_ref g) (by omega)) (v := .int (((titles (.tuple es0)).length : Nat) : Int)) ?_ ne_nat)
      show lenW [.ref n] s3 = _
      rw [lenW_of (items_ref g)]
      unfold strV
      rw [List.length_map]
    · exact call_sp1 (ix1 s4) (names_vd (a1'.ex0 x4) (by omega))
    · have := isi_vd ((a2'.ex0 x4).ex0 x5) .tuple
      refine e_wp ?_
      simp only [mcall, mcons, mcon, mnil, ob_of, om_of, ix2 s5]
      exact this
    simp only [Bool.or_eq_false_iff, Bool.not_eq_false'] at hg
    obtain ⟨hg1, hg2, hg3⟩ := hg
    have hg2' : isTupD d1 = true := (Bool.and_eq_true_iff.mp hg2).1
    obtain ⟨us1, es1, rfl, rfl, lb1, k1⟩ := tup_vd a1 hg2'
    obtain ⟨us2, es2, rfl, rfl, lb2, k2⟩ := tup_vd a2 hg3
    simp only [PyData.depth] at hd
    have gx : ∀ {s' : Ms}, Ex0 s3 s' → s'.get n = some (.lst (strV (titles (.tuple es0)))) := fun x => x.at n1 g
    have lb : ∀ q ∈ us0.zip es0, ∃ us es, q.1 = .tup us ∧ q.2 = .tuple es ∧ es.length = 4 ∧ ∃ us' es', us[1]? = some (.tup us') ∧ atD q.2 1 = .tuple es' ∧ VdL W b qq s1 us' es' ∧ es'.length ≤ W ∧ PyData.depthAll es' < 24 := fun q hq => by
      obtain ⟨z1, z2, z3⟩ := l1.zip
      have lq : libD q.2 = true := List.all_eq_true.mp hall' _ (List.of_mem_zip hq).2
      obtain ⟨g1, g2, g3, g4⟩ := lib_parts lq
      obtain ⟨us, es, e1, e2, l4, _⟩ := tup_vd (z3 q hq) g1
      rw [e2] at g2 g4
      have g2 : es.length = 4 := g2
      obtain ⟨u, f1, f2⟩ := l4.getd (List.getElem?_eq_getElem (by omega : 1 < es.length))
      have ea : atD (.tuple es) 1 = es[1] := by
        show es.getD 1 .none = _
        rw [List.getD_eq_getElem?_getD, List.getElem?_eq_getElem (by omega : 1 < es.length)]; rfl
      rw [ea] at g4
      have g5 : isTupD es[1] = true := (Bool.and_eq_true_iff.mp g4).1
      obtain ⟨us', es', e3, e4, l5, k5⟩ := tup_vd f2 g5
      have dq : PyData.depth q.2 ≤ PyData.depthAll es0 := dep_mem (List.of_mem_zip hq).2
      rw [e2] at dq
      simp only [PyData.depth] at dq
      have d5 : PyData.depth es[1] ≤ PyData.depthAll es := dep_mem (List.getElem_mem _)
      rw [e4] at d5
      simp only [PyData.depth] at d5
      exact ⟨us, es, e1, e2, g2, us', es', by rw [f1, e3], by rw [e2, ea, e4], l5, k5, by omega⟩
    refine guard_sp (not_sp (mt_tl ?_)) fun hneed s5 x5 => guard_sp (tor_sp (not_sp (mt_tl ?_)) fun _ s6 x6 => not_sp (mt_tl ?_)) fun hdoor s6 x6 => ?_
    · -- all needs
      obtain ⟨z1, z2, z3⟩ := l1.zip
      have en : needsIn (.tuple es0) ((titles (.tuple es0)).drop 1) = (us0.zip es0).all fun q => ((needW q.1).zip (itemsD (atD q.2 1))).all fun z => txIn z.2 ((titles (.tuple es0)).drop 1) := by
        unfold needsIn
        rw [show (itemsD (.tuple es0)).all _ = _ from zall l1 _]
        refine List.all_congr_mem fun q hq => ?_
        obtain ⟨us, es, e1, e2, e3, us', es', f1, f2, f3, f4, f5⟩ := lb q hq
        rw [e1, f2, needW_of f1]
        exact zall f3 _
      rw [en]
      refine all_lc2 (us0.zip es0) (fun q => q.1) (fun q => [some (.tup [.tup us0, .tup us1, .tup us2]), some (.ref n), some q.1, none, none]) (fun q => (needW q.1).zip (itemsD (atD q.2 1))) (fun _ z => z.1) (fun q z => [some (.tup [.tup us0, .tup us1, .tup us2]), some (.ref n), some q.1, some z.1, none]) (fun _ z => txIn z.2 ((titles (.tuple es0)).drop 1)) (by rw [List.length_zip]; omega) ?_ (by rw [z1]; exact seqI (ix0 s4)) (fun _ _ => rfl) ?_ (fun _ _ _ _ => rfl) ?_
      · intro q hq
        obtain ⟨us, es, e1, e2, e3, us', es', f1, f2, f3, f4, f5⟩ := lb q hq
        rw [e1, needW_of f1, List.length_zip, f3.len]; omega
      · intro q hq s' x
        obtain ⟨us, es, e1, e2, e3, us', es', f1, f2, f3, f4, f5⟩ := lb q hq
        rw [e1, f2, needW_of f1]
        obtain ⟨y1, _, _⟩ := f3.zip
        rw [show (us'.zip (itemsD (.tuple es'))).map (fun z => z.1) = us' from y1]
        exact seqI (ev_ix (k := 1) (r := [some (.tup [.tup us0, .tup us1, .tup us2]), some (.ref n), some (.tup us), none, none]) rfl f1)
      · intro q hq z hz s' x
        obtain ⟨us, es, e1, e2, e3, us', es', f1, f2, f3, f4, f5⟩ := lb q hq
        rw [e1, f2, needW_of f1] at hz
        obtain ⟨_, _, y3⟩ := f3.zip
        have vz := y3 z hz
        have dz : PyData.depth z.2 ≤ PyData.depthAll es' := dep_mem (List.of_mem_zip hz).2
        exact in_sl rfl ((vz.ex0 (X12.trans x4)).ex0 x) (by omega) rfl (gx (x4.trans x)) (by omega) tok
    · have lb1' := ((lb1.ex0 X12).ex0 x4).ex0 x5
      obtain ⟨z1, z2, z3⟩ := lb1'.zip
      rw [show (itemsD (.tuple es1)).all (fun x => txIn x ((titles (.tuple es0)).drop 1)) = _ from zall lb1' fun x => txIn x ((titles (.tuple es0)).drop 1)]
      refine all_lcI (us1.zip es1) (fun q => q.1) (fun q => txIn q.2 ((titles (.tuple es0)).drop 1)) (by rw [List.length_zip]; omega) (by rw [z1]; exact seqI (ix1 s5)) fun q hq s' x => step_e rfl ?_
      have dz : PyData.depth q.2 ≤ PyData.depthAll es1 := dep_mem (List.of_mem_zip hq).2
      exact in_sl rfl ((z3 q hq).ex0 x) (by omega) rfl (gx (x4.trans (x5.trans x))) (by omega) tok
    · have lb2' := (((lb2.ex0 X12).ex0 x4).ex0 x5).ex0 x6
      obtain ⟨z1, z2, z3⟩ := lb2'.zip
      rw [show (itemsD (.tuple es2)).all (fun x => doorP x ((titles (.tuple es0)).drop 1)) = _ from zall lb2' fun x => doorP x ((titles (.tuple es0)).drop 1)]
      refine all_lcI (us2.zip es2) (fun q => q.1) (fun q => doorP q.2 ((titles (.tuple es0)).drop 1)) (by rw [List.length_zip]; omega) (by rw [z1]; exact seqI (ix2 s6)) fun q hq s' x => step_e rfl ?_
      have dz : PyData.depth q.2 ≤ PyData.depthAll es2 := dep_mem (List.of_mem_zip hq).2
      unfold mcall
      rw [wp_ob]
      refine wp_mcons (.of (x := (q.1, s')) rfl (wp_mcons (.of (sl_names (n := n) rfl (gx (x4.trans (x5.trans (x6.trans x)))) (by omega)) (wp_mnil ?_))))
      dsimp only
      exact (door_vd (((z3 q hq).ex0 x).ex0 Ex0.push) (by omega) (fun s'' x'' => items_ref (x''.at (by rw [push_sz]; omega) Ms.get_push)) fun y hy => tok y (List.mem_of_mem_drop hy)).mono fun z hz => ⟨hz.1, Ex0.push.trans hz.2⟩
    · simp only [Bool.or_eq_false_iff, Bool.not_eq_false'] at hdoor
      have lb2' := (((lb2.ex0 X12).ex0 x4).ex0 x5).ex0 x6
      obtain ⟨L, f1, f2⟩ := ded_doors lb2' hdoor.2
      refine ret_sp (e_wp (op_e (u := .int ((dlen es2 : Nat) : Int)) (v := .int ((es2.length : Nat) : Int)) ?_ ?_ eq_nat))
      · unfold mlenX
        rw [ix2 s6, ob_of]
        have : dedY (.tup us2) s6 = some L := by
          show (some us2).ob _ = _
          rw [ob_of, Nat.ble_eq_true_of_le (by rw [lb2.len]; omega), cond_true, f1]
        dsimp only
        rw [this, ob_of, f2]
      · simp only [mcall, mcons, mcon, mnil, ob_of, om_of, ix2 s6]
        show some (Mv.int (us2.length : Nat), s6) = _
        rw [lb2.len]
end

end
section
/-! ### programs, by the law's own look: the same -/
def doorL (x : PyData) (ys : List Str) : Bool := (isTupD x && (decide ((itemsD x).length = 2) && txIn (atD x 0) ys)) && txIn (atD x 1) MODESX
def dueP (d : PyData) : Bool := (isTupD d && (decide ((itemsD d).length = 3) && (itemsD d).all isTupD)) && ((!(itemsD (atD d 0)).isEmpty && (itemsD (atD d 0)).all libD) &&
  ((setOk (titles (atD d 0)) && (needsIn (atD d 0) ((titles (atD d 0)).drop 1) && (itemsD (atD d 1)).all (fun x => txIn x ((titles (atD d 0)).drop 1)))) && (lenOkD (atD d 1) &&
    ((itemsD (atD d 2)).all (fun x => doorL x ((titles (atD d 0)).drop 1)) && decide (dlen (itemsD (atD d 2)) = (itemsD (atD d 2)).length)))))
theorem tx_name {d : PyData} {ys : List Str} (hn : ∀ y ∈ ys, nameB y = true) (h : txIn d ys = true) : nameD d = true := by
  cases d with
  | str x => exact hn x (of_decide_eq_true h)
  | _ => cases h
theorem tx_str {d : PyData} {ys : List Str} (h : txIn d ys = true) : isaT (dTy d) .str = true := by
  cases d with
  | str x => rfl
  | _ => cases h
theorem doorL_eq {x : PyData} {ys : List Str} (hn : ∀ y ∈ ys, nameB y = true) : doorL x ys = doorP x ys := by
  unfold doorL doorP
  cases h1 : txIn (atD x 0) ys with
  | false => simp
  | true =>
    rw [tx_name hn h1]
    cases h2 : txIn (atD x 1) MODESX with
    | false => simp
    | true => rw [tx_str h2]; simp
theorem tits_name {d : PyData} (h : (itemsD d).all libD = true) : ∀ y ∈ (titles d).drop 1, nameB y = true := fun y hy => by
  obtain ⟨e, he, rfl⟩ := List.mem_map.mp (List.mem_of_mem_drop hy)
  exact (nm_name (List.all_eq_true.mp h e he)).2
theorem three_all {d : PyData} (h : (itemsD d).length = 3) : (itemsD d).all isTupD = (isTupD (atD d 0) && (isTupD (atD d 1) && isTupD (atD d 2))) := by
  unfold atD
  match itemsD d, h with
  | [a, b, c], _ => simp
theorem dueP_eq (d : PyData) : dueP d = progD d := by
  unfold dueP progD
  cases hl : decide ((itemsD d).length = 3) with
  | false => simp
  | true =>
    rw [three_all (of_decide_eq_true hl)]
    cases ha : (itemsD (atD d 0)).all libD with
    | false => simp
    | true =>
      have hn := tits_name (d := atD d 0) ha
      have e1 : (itemsD (atD d 2)).all (fun x => doorL x ((titles (atD d 0)).drop 1)) = (itemsD (atD d 2)).all (fun x => doorP x ((titles (atD d 0)).drop 1)) := by
        congr 1
        funext x
        exact doorL_eq hn
      have e2 : (!decide ((itemsD (atD d 0)).length = 0)) = !(itemsD (atD d 0)).isEmpty := by
        cases itemsD (atD d 0) <;> rfl
      rw [e1, e2]
      cases he : (itemsD (atD d 1)).all (fun x => txIn x ((titles (atD d 0)).drop 1)) with
      | false => simp
      | true =>
        have e3 : namesD (atD d 1) = (isTupD (atD d 1) && lenOkD (atD d 1)) := by
          unfold namesD lenOkD
          rw [ddF_eq, show (itemsD (atD d 1)).all nameD = true from List.all_eq_true.mpr fun x hx => tx_name hn (List.all_eq_true.mp he x hx), Bool.true_and]
        rw [e3]
        cases isTupD d <;> cases isTupD (atD d 0) <;> cases isTupD (atD d 1) <;> cases isTupD (atD d 2) <;> cases (itemsD (atD d 0)).isEmpty <;> cases lenOkD (atD d 1) <;> cases setOk (titles (atD d 0)) <;> simp

end
section
section
variable {W b qq : Nat} {s : Ms} {r : Me} {w v : Mv} {d : PyData}
abbrev E11 (o0 o1 o2 o3 o4 o5 o6 o7 o8 o9 o10 : Option Mv) : Me := [o0, o1, o2, o3, o4, o5, o6, o7, o8, o9, o10]
theorem titles11 {ws : List Mv} {ds : List PyData} (l : VdL W b qq s ws ds) (h : ds.all libD = true) (hl : ds.length ≤ 1000) {o0 o2 o3 o4 o5 o6 o8 o9 o10 : Option Mv} : Wp ((mlc (miS (mvar 1)) (.nm 7) (myes) (mop2 ixA (mvar 7) (mcon (.int 0))) [7]) (E11 o0 (some (.tup ws)) o2 o3 o4 o5 o6 none o8 o9 o10) s) fun y => ∃ n, y.1 = .ref n ∧ s.sz ≤ n ∧ n < y.2.sz ∧ y.2.get n = some (.lst (strV (titles (.tuple ds)))) ∧ Ex0 s y.2 := by
  obtain ⟨z1, z2, z3⟩ := l.zip
  refine (lcI (I := miS (mvar 1)) (T := .nm 7) (E := mop2 ixA (mvar 7) (mcon (.int 0))) (C := myes) (vs := [7]) (r := E11 o0 (some (.tup ws)) o2 o3 o4 o5 o6 none o8 o9 o10) (s := s) (ws.zip ds) (fun q => q.1) (fun q => .str (nmD q.2)) (by rw [List.length_zip]; omega) (by rw [z1]; exact seqI rfl) fun q hq s1 x1 => step_e rfl ?_).mono fun y hy => ?_
  · have hq3 := (z3 q hq).ex0 x1
    have lb : libD q.2 = true := List.all_eq_true.mp h _ (List.of_mem_zip hq).2
    obtain ⟨h1, h2, _, _⟩ := lib_parts lb
    obtain ⟨us, es, e1, e2, l4, _⟩ := tup_vd hq3 h1
    have nm := (nm_name lb).1
    rw [e2] at h2 nm
    have h2 : es.length = 4 := h2
    obtain ⟨u, f1, f2⟩ := at_vd (s := s1) (r := E11 o0 (some (.tup ws)) o2 o3 o4 o5 o6 (some (.tup us)) o8 o9 o10) l4 (k := 0) (by omega) (i := 7) rfl
    rw [nm] at f2
    rw [e1]
    refine e_wp ?_
    cases f2
    rw [e2]
    exact f1
  · obtain ⟨n, e, n1, n2, g, x⟩ := hy
    refine ⟨n, e, n1, n2, ?_, x⟩
    rw [g]
    have : ((ws.zip ds).map fun q => Mv.str (nmD q.2)) = strV (titles (.tuple ds)) := by
      unfold strV titles
      show _ = ((ds.map nmD).map Mv.str)
      conv => rhs; rw [← z2]
      rw [List.map_map, List.map_map]; rfl
    rw [this]
/-- what a valid library needs -/
theorem lib_needs {q : Mv × PyData} (hv : Vd W b qq s q.1 q.2) (lq : libD q.2 = true) : ∃ us es, q.1 = .tup us ∧ q.2 = .tuple es ∧ es.length = 4 ∧ ∃ us' es', us[1]? = some (.tup us') ∧ atD q.2 1 = .tuple es' ∧ VdL W b qq s us' es' ∧ es'.length ≤ W ∧ PyData.depthAll es' ≤ PyData.depth q.2 := by
  obtain ⟨g1, g2, g3, g4⟩ := lib_parts lq
  obtain ⟨us, es, e1, e2, l4, _⟩ := tup_vd hv g1
  rw [e2] at g2 g4
  have g2 : es.length = 4 := g2
  obtain ⟨u, f1, f2⟩ := l4.getd (List.getElem?_eq_getElem (by omega : 1 < es.length))
  have ea : atD (.tuple es) 1 = es[1] := by
    show es.getD 1 .none = _
    rw [List.getD_eq_getElem?_getD, List.getElem?_eq_getElem (by omega : 1 < es.length)]; rfl
  rw [ea] at g4
  have g5 : isTupD es[1] = true := (Bool.and_eq_true_iff.mp g4).1
  obtain ⟨us', es', e3, e4, l5, k5⟩ := tup_vd f2 g5
  have d5 : PyData.depth es[1] ≤ PyData.depthAll es := dep_mem (List.getElem_mem _)
  rw [e4] at d5
  simp only [PyData.depth] at d5
  exact ⟨us, es, e1, e2, g2, us', es', by rw [f1, e3], by rw [e2, ea, e4], l5, k5, by rw [e2]; simp only [PyData.depth]; omega⟩
/-- the loop that puts all needs together -/
theorem wanted_loop {us0 : List Mv} {es0 : List PyData} (l0 : VdL W b qq s us0 es0) (h : es0.all libD = true) (hW : W ≤ 63) (hl : es0.length ≤ W) {m : Nat} (hm : m < s.sz) (g : s.get m = some (.lst [])) {o0 o2 o3 o4 o5 o7 o8 o9 o10 : Option Mv} : Wp (sfor (miS (mvar 1)) (.nm 7) (sset 6 (mop2 addW (mvar 6) (mcall listW (mcons (mop2 ixA (mvar 7) (mcon (.int 1))) (mnil))))) (E11 o0 (some (.tup us0)) o2 o3 o4 o5 (some (.ref m)) o7 o8 o9 o10) s) fun y => y.1 = .nx ∧ ∃ n o7, y.2.1 = E11 o0 (some (.tup us0)) o2 o3 o4 o5 (some (.ref n)) o7 o8 o9 o10 ∧ n < y.2.2.sz ∧ y.2.2.get n = some (.lst ((us0.zip es0).flatMap fun q => needW q.1)) ∧ Ex0 s y.2.2 := by
  obtain ⟨z1, z2, z3⟩ := l0.zip
  have zl : (us0.zip es0).length = es0.length := by rw [List.length_zip, l0.len]; omega
  have small : ∀ l : List (Mv × PyData), (∀ q ∈ l, q ∈ us0.zip es0) → (l.flatMap fun q => needW q.1).length ≤ 63 * l.length := by
    intro l
    induction l with
    | nil => intro _; simp
    | cons q l ih =>
      intro hq
      have := ih fun y hy => hq y (List.mem_cons_of_mem _ hy)
      have hq1 := hq q (List.mem_cons_self ..)
      obtain ⟨us, es, e1, _, _, us', es', f1, _, f3, f4, _⟩ := lib_needs (z3 q hq1) (List.all_eq_true.mp h _ (List.of_mem_zip hq1).2)
      rw [List.flatMap_cons, List.length_append, List.length_cons, e1, needW_of f1, f3.len]
      omega
  refine wp_for (wp_S' (.of (x := (.tup us0, s)) rfl ⟨us0, rfl, fun it gi => ?_⟩))
  refine (wp_loop us0 (fun i r s' => ∃ n o7, r = E11 o0 (some (.tup us0)) o2 o3 o4 o5 (some (.ref n)) o7 o8 o9 o10 ∧ n < s'.sz ∧ s'.get n = some (.lst (((us0.zip es0).take i).flatMap fun q => needW q.1)) ∧ Ex0 s s') (fun i r s' _ _ => gi s' rfl) ?_ 1000000000 0 _ s (by rw [l0.len]; omega) (by omega) ⟨m, o7, rfl, hm, g, Ex0.refl⟩).mono ?_
  · rintro i w r s' hw ⟨n, o7, rfl, n1, g1, x⟩
    have hi := (List.getElem?_eq_some_iff.mp hw).1
    have hq : (us0.zip es0)[i]? = some (w, es0[i]'(by rw [← l0.len]; exact hi)) := by
      rw [List.getElem?_eq_getElem (by rw [zl, ← l0.len]; exact hi), List.getElem_zip]
      congr 2
      exact (List.getElem?_eq_some_iff.mp hw).2
    have hm := List.mem_of_getElem? hq
    obtain ⟨us, es, e1, _, _, us', es', f1, _, f3, f4, _⟩ := lib_needs (z3 _ hm) (List.all_eq_true.mp h _ (List.of_mem_zip hm).2)
    simp only at e1
    subst e1
    refine ⟨_, rfl, wp_set ?_⟩
    show Wp ((mop2 addW (mvar 6) (mcall listW (mcons (mop2 ixA (mvar 7) (mcon (.int 1))) (mnil)))) (E11 o0 (some (.tup us0)) o2 o3 o4 o5 (some (.ref n)) (some (.tup us)) o8 o9 o10) s') _
    unfold mop2
    rw [wp_ob]
    refine .of (x := (.ref n, s')) rfl ?_
    dsimp only
    rw [wp_ob]
    have e7 : (mop2 ixA (mvar 7) (mcon (.int 1))) (E11 o0 (some (.tup us0)) o2 o3 o4 o5 (some (.ref n)) (some (.tup us)) o8 o9 o10) s' = some (.tup us', s') := ev_ix (k := 1) rfl f1
    have ll : us'.length ≤ 63 := by rw [f3.len]; omega
    refine wp_call1 (.of e7 (.of (x := (.ref s'.sz, push s' (.lst us'))) (by show newL us' s' = _; exact newL_of (by omega)) ?_))
    dsimp only
    have big := small ((us0.zip es0).take i) fun q hq => List.mem_of_mem_take hq
    have ti : ((us0.zip es0).take i).length ≤ 63 := by rw [List.length_take]; omega
    have et : ((us0.zip es0).take (i + 1)).flatMap (fun q => needW q.1) = (((us0.zip es0).take i).flatMap fun q => needW q.1) ++ us' := by
      rw [List.take_add_one, hq, List.flatMap_append]
      congr 1
      show needW (.tup us) ++ [] = us'
      rw [needW_of f1, List.append_nil]
    refine .of (x := (.ref (s'.sz + 1), push (push s' (.lst us')) (.lst ((((us0.zip es0).take i).flatMap fun q => needW q.1) ++ us')))) ?_ ⟨rfl, s'.sz + 1, _, rfl, by rw [push_sz, push_sz]; omega, ?_, x.trans (Ex0.push.trans Ex0.push)⟩
    · unfold addW
      dsimp only
      rw [Ex0.push.at n1 g1, Ms.get_push]
      exact newL_of (by rw [List.length_append]; omega)
    · rw [et]
      exact Ms.get_push (s := push s' _)
  · rintro ⟨fl, r, s'⟩ ⟨e, n, o7, e1, n1, g1, x⟩
    rw [List.take_of_length_le (by rw [zl, ← l0.len]; exact Nat.le_refl _)] at g1
    exact ⟨e, n, o7, e1, n1, g1, x⟩
theorem flat_vd : ∀ {us0 : List Mv} {es0 : List PyData}, VdL W b qq s us0 es0 → es0.all libD = true → ∃ ds, VdL W b qq s ((us0.zip es0).flatMap fun q => needW q.1) ds ∧ (∀ f : PyData → Bool, ds.all f = es0.all fun l => (itemsD (atD l 1)).all f) ∧ (∀ x ∈ ds, ∃ e ∈ es0, PyData.depth x ≤ PyData.depth e) ∧ ds.length ≤ W * es0.length
  | _, _, .nil, _ => ⟨[], .nil, (fun f => rfl), (fun x hx => nomatch hx), by simp⟩
  | _, _, .cons (w := w) (d := d) (ws := us0) (ds := es0) a l, h => by
    rw [List.all_cons, Bool.and_eq_true] at h
    obtain ⟨ds, g1, g2, g3, g4⟩ := flat_vd l h.2
    obtain ⟨us, es, e1, e2, e3, us', es', f1, f2, f3, f4, f5⟩ := lib_needs (q := (w, d)) a h.1
    simp only at e1 e2 f2 f5
    refine ⟨es' ++ ds, ?_, fun f => ?_, fun x hx => ?_, ?_⟩
    · rw [List.zip_cons_cons, List.flatMap_cons]
      show VdL W b qq s (needW w ++ _) _
      rw [e1, needW_of f1]
      exact f3.append g1
    · rw [List.all_append, List.all_cons, g2 f, f2]; rfl
    · rcases List.mem_append.mp hx with hx | hx
      · exact ⟨d, List.mem_cons_self .., Nat.le_trans (dep_mem hx) f5⟩
      · obtain ⟨e, he, k⟩ := g3 x hx
        exact ⟨e, List.mem_cons_of_mem _ he, k⟩
    · rw [List.length_append, List.length_cons, Nat.mul_succ]
      omega
end

end
section
section
variable {W b qq : Nat} {s : Ms} {r : Me} {w v : Mv} {d : PyData}
theorem srtX_any {A : Fe} {ws L : List Mv} {v : Mv} (h : A r s = some (v, s)) (hv : seqOf v s = some ws) (hl : ws.length ≤ 63) (hd : dedX ws = some L) : (mcall lenW (mcons (msrtX A) mnil)) r s = some (.int (L.length : Nat), push s (.lst L)) := by
  have e1 : (msrtX A) r s = some (.ref s.sz, push s (.lst L)) := by
    unfold msrtX
    rw [h, ob_of]
    have : dedY v s = some L := by
      unfold dedY
      rw [hv, ob_of, Nat.ble_eq_true_of_le hl, cond_true, hd]
    dsimp only
    rw [this, ob_of]
    rfl
  simp only [mcall, mcons, mnil, e1, ob_of, om_of]
  rw [lenW_of (items_ref Ms.get_push)]
/-- len(sorted(set(x))) != len(x) -/
theorem ne_set {A : Fe} {ws L : List Mv} {v : Mv} {n : Nat} (h : ∀ s', Ex0 s s' → A r s' = some (v, s')) (hv : seqOf v s = some ws) (hi : ∀ s', Ex0 s s' → items v s' = some ws) (hl : ws.length ≤ 63) (hd : dedX ws = some L) (hn : ws.length = n) : Wp (mtB (mop2 neW (mcall lenW (mcons (msrtX A) (mnil))) (mcall lenW (mcons A (mnil)))) r s) fun y => y.1 = (!decide (L.length = n)) ∧ Ex0 s y.2 := by
  refine mb_tl ?_
  unfold mop2
  rw [wp_ob]
  refine .of (srtX_any (h s Ex0.refl) hv hl hd) ?_
  dsimp only
  rw [wp_ob]
  refine .of (x := (.int (n : Nat), push s (.lst L))) ?_ (.of ne_nat ⟨rfl, Ex0.push⟩)
  simp only [mcall, mcons, mnil, h _ Ex0.push, ob_of, om_of]
  rw [lenW_of (hi _ Ex0.push), hn]
theorem eq_set {A : Fe} {ws L : List Mv} {v : Mv} {n : Nat} (h : ∀ s', Ex0 s s' → A r s' = some (v, s')) (hv : seqOf v s = some ws) (hi : ∀ s', Ex0 s s' → items v s' = some ws) (hl : ws.length ≤ 63) (hd : dedX ws = some L) (hn : ws.length = n) : Wp (mop2 eqW (mcall lenW (mcons (msrtX A) (mnil))) (mcall lenW (mcons A (mnil))) r s) fun y => y.1 = .bl (decide (L.length = n)) ∧ Ex0 s y.2 := by
  unfold mop2
  rw [wp_ob]
  refine .of (srtX_any (h s Ex0.refl) hv hl hd) ?_
  dsimp only
  rw [wp_ob]
  refine .of (x := (.int (n : Nat), push s (.lst L))) ?_ (.of eq_nat ⟨rfl, Ex0.push⟩)
  simp only [mcall, mcons, mnil, h _ Ex0.push, ob_of, om_of]
  rw [lenW_of (hi _ Ex0.push), hn]
theorem tx_strs {ys : List Str} : ∀ {ws : List Mv} {ds : List PyData}, VdL W b qq s ws ds → ds.all (fun x => txIn x ys) = true → strsOf ws = some (strsD ds)
  | _, _, .nil, _ => rfl
  | _, _, .cons (ws := ws) (ds := ds) a l, h => by
    rw [List.all_cons, Bool.and_eq_true] at h
    have i1 := tx_strs l h.2
    have h1 := h.1
    cases a with
    | str o1 =>
      show (strsOf ws).om (fun r => _ :: r) = _
      rw [i1]; rfl
    | _ => cases h1
theorem dueP_vd (h : Vd W b qq s w d) (hW : W ≤ 60) (h2 : 2 ≤ W) (hd : PyData.depth d < 20) : Wp (m__law_is_due [w] s) fun y => y.1 = .bl (progD d) ∧ Ex0 s y.2 := by
  rw [← dueP_eq]
  have e : dueP d = (!(!isTupD d || (!decide ((itemsD d).length = 3) || !(itemsD d).all isTupD)) && (!((itemsD (atD d 0)).isEmpty || !(itemsD (atD d 0)).all libD) &&
    (!(!setOk (titles (atD d 0)) || !(needsIn (atD d 0) ((titles (atD d 0)).drop 1) && (itemsD (atD d 1)).all (fun x => txIn x ((titles (atD d 0)).drop 1)))) && (!(!lenOkD (atD d 1)) &&
      (!((itemsD (atD d 2)).any (fun x => !doorL x ((titles (atD d 0)).drop 1))) && decide (dlen (itemsD (atD d 2)) = (itemsD (atD d 2)).length)))))) := by
    unfold dueP
    rw [show (itemsD (atD d 2)).all (fun x => doorL x ((titles (atD d 0)).drop 1)) = !((itemsD (atD d 2)).any fun x => !doorL x ((titles (atD d 0)).drop 1)) by rw [← List.not_all_eq_any_not]; simp]
    cases isTupD d <;> simp
  rw [e]
  refine fn_sp (v := .bl _) (E11 (some w) none none none none none none none none none none) rfl rfl ?_
  unfold bd__law_is_due
  refine guard_sp (tor_sp (c_wp (n_of (t_of (ev_isi rfl h)))) fun hc s1 x1 => ?_) fun hc s1 x1 => ?_
  · obtain ⟨ws, ds, rfl, rfl, l, hdw⟩ := tup_vd h (by simpa using hc)
    have l1 := l.ex0 x1
    refine tor_sp (c_wp (b_of (op_e (ev_len rfl) rfl (by rw [l1.len]; exact ne_nat (n := 3))))) fun hc2 s2 x2 => ?_
    have l2 := l1.ex0 x2
    obtain ⟨z1, z2, z3⟩ := l2.zip
    rw [show (itemsD (.tuple ds)).all isTupD = _ from zall l2 isTupD]
    exact not_sp (mt_tl (all_lcI (ws.zip ds) (fun q => q.1) (fun q => isTupD q.2) (by rw [List.length_zip]; omega) (by rw [z1]; exact seqI rfl) fun q hq s3 x3 => step_e rfl (e_wp (ev_isi rfl ((z3 q hq).ex0 x3)))))
  simp only [Bool.or_eq_false_iff, Bool.not_eq_false'] at hc
  obtain ⟨hc1, hc2, hc3⟩ := hc
  obtain ⟨ws, ds, rfl, rfl, l, hdw⟩ := tup_vd h hc1
  have h3 : (itemsD (.tuple ds)).length = 3 := of_decide_eq_true hc2
  have h3 : ds.length = 3 := h3
  simp only [PyData.depth] at hd
  match ds, h3, l.ex0 x1 with
  | [d0, d1, d2], _, .cons (w := w0) a0 (.cons (w := w1) a1 (.cons (w := w2) a2 .nil)) =>
    simp only [PyData.depthAll] at hd
    have hc3 : isTupD d0 = true ∧ isTupD d1 = true ∧ isTupD d2 = true := by simpa [itemsD] using hc3
    obtain ⟨us0, es0, rfl, rfl, l0, k0⟩ := tup_vd a0 hc3.1
    obtain ⟨us1, es1, rfl, rfl, lb1, k1⟩ := tup_vd a1 hc3.2.1
    obtain ⟨us2, es2, rfl, rfl, lb2, k2⟩ := tup_vd a2 hc3.2.2
    simp only [PyData.depth] at hd
    refine Wp.mono (Q := fun x : Fl × Me × Ms => x.1 = .rt (.bl (!(es0.isEmpty || !es0.all libD) && (!(!setOk (titles (.tuple es0)) || !(needsIn (.tuple es0) ((titles (.tuple es0)).drop 1) && es1.all (fun x => txIn x ((titles (.tuple es0)).drop 1)))) && (!(!lenOkD (.tuple es1)) && (!(es2.any (fun x => !doorL x ((titles (.tuple es0)).drop 1))) && decide (dlen es2 = es2.length)))))) ∧ Ex0 s1 x.2.2) ?_ (fun x hx => hx)
    refine wp_seq (.of (x := (.nx, E11 (some (.tup [.tup us0, .tup us1, .tup us2])) (some (.tup us0)) (some (.tup us1)) (some (.tup us2)) none none none none none none none, s1)) rfl ⟨rfl, ?_⟩)
    refine guard_sp (tor_sp (c_wp (b_of (op_e (u := .tup us0) (v := .tup []) (z := .bl es0.isEmpty) rfl rfl ?_))) fun _ s2 x2 => not_sp (mt_tl ?_)) fun hall s2 x2 => ?_
    · -- libs == ()
      have e0 : eqBo (.tup us0) (.tup []) s1 = some us0.isEmpty := by
        show (toD 24 s1 (.tup us0)).ob (fun d => (toD 24 s1 (.tup [])).om fun e => PyData.eqv d e) = _
        rw [toD_vd (.tup k0 l0) 24 (by simp only [PyData.depth]; omega), ob_of, toD_vd (W := 0) (b := 0) (qq := 0) (d := .tuple []) (.tup (Nat.le_refl _) .nil) 24 (by simp [PyData.depth, PyData.depthAll]), om_of]
        have := l0.len
        cases us0 <;> cases es0 <;> simp [PyData.eqv, PyData.eqvAll] at this ⊢
      have ee : us0.isEmpty = es0.isEmpty := by
        have := l0.len
        cases us0 <;> cases es0 <;> simp at this ⊢
      show eqW (.tup us0) (.tup []) s1 = _
      unfold eqW
      rw [e0, ee]; rfl
    · have l2 := l0.ex0 x2
      obtain ⟨z1, z2, z3⟩ := l2.zip
      rw [show es0.all libD = _ from zall l2 libD]
      exact all_lcI (us0.zip es0) (fun q => q.1) (fun q => libD q.2) (by rw [List.length_zip]; omega) (by rw [z1]; exact seqI rfl) fun q hq s3 x3 => step_e rfl (call_sp1 rfl (due_vd ((z3 q hq).ex0 x3) (by omega) h2 (by have := dep_mem (List.of_mem_zip hq).2; omega)))
    simp only [Bool.or_eq_false_iff, Bool.not_eq_false'] at hall
    have hall' := hall.2
    have tl : (titles (.tuple es0)).length = es0.length := by unfold titles; rw [List.length_map]; rfl
    have l2 := l0.ex0 x2
    have tok : ∀ y ∈ titles (.tuple es0), PyData.strOk y = true := fun y hy => by
      obtain ⟨e0, he, rfl⟩ := List.mem_map.mp hy
      have he : e0 ∈ es0 := he
      obtain ⟨i, hi⟩ := List.mem_iff_getElem?.mp he
      obtain ⟨u, _, g⟩ := l2.getd hi
      exact nm_ok g (List.all_eq_true.mp hall' _ he)
    have tok1 : ∀ y ∈ (titles (.tuple es0)).drop 1, PyData.strOk y = true := fun y hy => tok y (List.mem_of_mem_drop hy)
    refine wp_seq (wp_set ((titles11 l2 hall' (by omega)).mono fun y hy => ⟨rfl, ?_⟩))
    obtain ⟨v, s3⟩ := y
    obtain ⟨n, e3, n0, n1, g, x3⟩ := hy
    simp only at e3 n1 g x3
    subst e3
    -- others, wanted
    refine wp_seq (.of (x := (.nx, E11 (some (.tup [.tup us0, .tup us1, .tup us2])) (some (.tup us0)) (some (.tup us1)) (some (.tup us2)) (some (.ref n)) (some (.ref s3.sz)) (some (.ref (s3.sz + 1))) none none none none, push (push s3 (.lst (strV ((titles (.tuple es0)).drop 1)))) (.lst []))) ?_ ⟨rfl, ?_⟩)
    · have e4 : (mslice (mvar 4) (osome (mcon (.int 1))) (onone)) (E11 (some (.tup [.tup us0, .tup us1, .tup us2])) (some (.tup us0)) (some (.tup us1)) (some (.tup us2)) (some (.ref n)) none none none none none none) s3 = some (.ref s3.sz, push s3 (.lst (strV ((titles (.tuple es0)).drop 1)))) := by
        unfold mslice
        rw [mvar_t (i := 4) (v := .ref n) rfl, ob_of]
        show slW (.ref n) (some 1) none s3 = _
        unfold slW
        dsimp only
        rw [g]
        show newL (cutM (strV (titles (.tuple es0))) (some 1) none) s3 = _
        rw [cut_tl, show (strV (titles (.tuple es0))).drop 1 = strV ((titles (.tuple es0)).drop 1) by unfold strV; rw [List.map_drop], newL_of (by unfold strV; rw [List.length_map, List.length_drop]; omega)]
      have e5 : (mtup (mcons (mslice (mvar 4) (osome (mcon (.int 1))) (onone)) (mcons (mlst (mnil)) (mnil)))) (E11 (some (.tup [.tup us0, .tup us1, .tup us2])) (some (.tup us0)) (some (.tup us1)) (some (.tup us2)) (some (.ref n)) none none none none none none) s3 = some (.tup [.ref s3.sz, .ref (s3.sz + 1)], push (push s3 (.lst (strV ((titles (.tuple es0)).drop 1)))) (.lst [])) := by
        show (((mslice (mvar 4) (osome (mcon (.int 1))) (onone)) _ s3).ob fun x => ((mcons (mlst (mnil)) (mnil)) _ x.2).ob fun y => some (x.1 :: y.1, y.2)).ob _ = _
        rw [e4, ob_of]; rfl
      unfold sasg
      rw [show ((mtup (mcons (mslice (mvar 4) (osome (mcon (.int 1))) (onone)) (mcons (mlst (mnil)) (mnil)))) (lset (E11 (some (.tup [.tup us0, .tup us1, .tup us2])) (some (.tup us0)) (some (.tup us1)) (some (.tup us2)) none none none none none none none) 4 (some (.ref n))) s3) = _ from e5, ob_of]
      rfl
    have x4 : Ex0 s3 (push (push s3 (.lst (strV ((titles (.tuple es0)).drop 1)))) (.lst [])) := Ex0.push.trans Ex0.push
    have go : (push (push s3 (.lst (strV ((titles (.tuple es0)).drop 1)))) (.lst [])).get s3.sz = some (.lst (strV ((titles (.tuple es0)).drop 1))) := Ex0.push.at (by rw [push_sz]; omega) Ms.get_push
    have lto : s3.sz < (push (push s3 (.lst (strV ((titles (.tuple es0)).drop 1)))) (.lst [])).sz := by rw [push_sz, push_sz]; omega
    have gw : (push (push s3 (.lst (strV ((titles (.tuple es0)).drop 1)))) (.lst [])).get (s3.sz + 1) = some (.lst []) := Ms.get_push (s := push s3 _)
    have ltw : s3.sz + 1 < (push (push s3 (.lst (strV ((titles (.tuple es0)).drop 1)))) (.lst [])).sz := by rw [push_sz, push_sz]; omega
    generalize push (push s3 (.lst (strV ((titles (.tuple es0)).drop 1)))) (.lst []) = s4 at x4 go lto gw ltw ⊢
    have l4 := (l2.ex0 x3).ex0 x4
    refine wp_seq ((wanted_loop l4 hall' (by omega) k0 ltw gw).mono fun y hy => ?_)
    obtain ⟨fl, r5, s5⟩ := y
    obtain ⟨e, nw, o7, e5, nwlt, gw5, x5⟩ := hy
    simp only at e e5 nwlt gw5 x5
    subst e e5
    refine ⟨rfl, ?_⟩
    have X := x2.trans (x3.trans (x4.trans x5))
    obtain ⟨fs, fv, fa, fd, fl'⟩ := flat_vd (l4.ex0 x5) hall'
    have lb1' := lb1.ex0 X
    have lb2' := lb2.ex0 X
    have fW : W * es0.length ≤ 3600 := Nat.le_trans (Nat.mul_le_mul hW (Nat.le_trans k0 hW)) (by decide)
    refine Wp.mono (Q := fun x : Fl × Me × Ms => x.1 = .rt (.bl (!(!setOk (titles (.tuple es0)) || !(needsIn (.tuple es0) ((titles (.tuple es0)).drop 1) && es1.all (fun x => txIn x ((titles (.tuple es0)).drop 1)))) && (!(!lenOkD (.tuple es1)) && (!(es2.any (fun x => !doorL x ((titles (.tuple es0)).drop 1))) && decide (dlen es2 = es2.length))))) ∧ Ex0 s5 x.2.2) ?_ (fun x hx => ⟨hx.1, x3.trans (x4.trans (x5.trans hx.2))⟩)
    have gn : ∀ {s' : Ms}, Ex0 s5 s' → s'.get n = some (.lst (strV (titles (.tuple es0)))) := fun x => (x4.trans (x5.trans x)).at n1 g
    have gO : ∀ {s' : Ms}, Ex0 s5 s' → items (.ref s3.sz) s' = some (strV ((titles (.tuple es0)).drop 1)) := fun x => items_ref ((x5.trans x).at lto go)
    have tok2 := tok1
    refine guard_sp (tor_sp (ne_set (v := .ref n) (fun s' _ => rfl) (items_ref (gn Ex0.refl)) (fun s' x => items_ref (gn x)) (by unfold strV; rw [List.length_map]; omega) (ded_txt _) (by unfold strV; rw [List.length_map]) |> fun z => z.mono fun y hy => ⟨by rw [hy.1]; unfold setOk; rw [sortT_len], hy.2⟩) fun _ s6 x6 => not_sp (mt_tl ?_)) fun hg s6 x6 => ?_
    · -- all wanted, all early
      have fv6 := (fv.append lb1').ex0 x6
      obtain ⟨z1, z2, z3⟩ := fv6.zip
      have ea : (needsIn (.tuple es0) ((titles (.tuple es0)).drop 1) && es1.all (fun x => txIn x ((titles (.tuple es0)).drop 1))) = ((((us0.zip es0).flatMap fun q => needW q.1) ++ us1).zip (fs ++ es1)).all fun q => txIn q.2 ((titles (.tuple es0)).drop 1) := by
        rw [← zall fv6 fun x => txIn x ((titles (.tuple es0)).drop 1), List.all_append, fa]
        rfl
      rw [ea]
      have len : ((((us0.zip es0).flatMap fun q => needW q.1) ++ us1).zip (fs ++ es1)).length ≤ 4000 := by
        rw [List.length_zip, List.length_append, List.length_append, fv.len, lb1'.len]
        omega
      refine all_lc (((((us0.zip es0).flatMap fun q => needW q.1) ++ us1).zip (fs ++ es1))) (fun q => q.1) (fun q => txIn q.2 ((titles (.tuple es0)).drop 1)) (by omega) ?_ fun q hq s7 x7 => step_e rfl (e_wp (op_e (v := .ref s3.sz) rfl rfl (in_vd ((z3 q hq).ex0 x7) ?_ (gO (x6.trans x7)) tok1)))
      · rw [z1]
        unfold mop2
        rw [wp_ob]
        refine .of (x := (.ref nw, s6)) rfl ?_
        dsimp only
        rw [wp_ob]
        have l1len : us1.length ≤ 60 := by rw [lb1'.len]; omega
        refine wp_call1 (.of (x := (.tup us1, s6)) rfl (.of (x := (.ref s6.sz, push s6 (.lst us1))) (by show newL us1 s6 = _; exact newL_of (by omega)) ?_))
        dsimp only
        refine .of (x := (.ref (s6.sz + 1), push (push s6 (.lst us1)) (.lst (((us0.zip es0).flatMap fun q => needW q.1) ++ us1)))) ?_ ⟨Ex0.push.trans Ex0.push, fun s' x => items_ref (x.at (by rw [push_sz, push_sz]; omega) (Ms.get_push (s := push s6 _)))⟩
        unfold addW
        dsimp only
        rw [Ex0.push.at (Nat.lt_of_lt_of_le nwlt x6.sz) (x6.at nwlt gw5), Ms.get_push]
        exact newL_of (by rw [List.length_append, fv.len]; omega)
      · have hm := (List.of_mem_zip hq).2
        rcases List.mem_append.mp hm with hm | hm
        · obtain ⟨e, he, k⟩ := fd _ hm
          have := dep_mem he
          omega
        · have := dep_mem hm
          omega
    simp only [Bool.or_eq_false_iff, Bool.not_eq_false'] at hg
    have hearly : es1.all (fun x => txIn x ((titles (.tuple es0)).drop 1)) = true := (Bool.and_eq_true_iff.mp hg.2).2
    have ds1 : dedX us1 = some (sortT (ddS (strsD es1))) := by
      unfold dedX
      rw [tx_strs lb1' hearly]
    refine guard_sp (ne_set (v := .tup us1) (fun s' _ => rfl) rfl (fun s' _ => rfl) (by rw [lb1'.len]; omega) ds1 lb1'.len |> fun z => z.mono fun y hy => ⟨by rw [hy.1]; unfold lenOkD; rw [sortT_len]; rfl, hy.2⟩) fun _ s7 x7 => ?_
    have X7 := x6.trans x7
    have lb7 := lb2'.ex0 X7
    obtain ⟨z1, z2, z3⟩ := lb7.zip
    have ez : es2.any (fun x => !doorL x ((titles (.tuple es0)).drop 1)) = (us2.zip es2).any fun q => !doorL q.2 ((titles (.tuple es0)).drop 1) := by
      conv => lhs; rw [← z2]
      rw [List.any_map]; rfl
    rw [ez]
    refine for_inv (us2.zip es2) (fun q => q.1) (fun q => !doorL q.2 ((titles (.tuple es0)).drop 1)) (fun r' : Me => ∃ o8 : Option Mv, r' = E11 (some (.tup [.tup us0, .tup us1, .tup us2])) (some (.tup us0)) (some (.tup us1)) (some (.tup us2)) (some (.ref n)) (some (.ref s3.sz)) (some (.ref nw)) o7 o8 none none) ⟨none, rfl⟩ (by rw [List.length_zip]; omega) (by rw [z1]; exact seqI rfl) ?_ ?_
    · rintro q hq _ s8 ⟨o8, rfl⟩ x8
      refine ⟨_, rfl, ?_⟩
      have hv := (z3 q hq).ex0 x8
      have dq : PyData.depth q.2 ≤ PyData.depthAll es2 := dep_mem (List.of_mem_zip hq).2
      have ed : (!doorL q.2 ((titles (.tuple es0)).drop 1)) = ((!isTupD q.2 || (!decide ((itemsD q.2).length = 2) || !txIn (atD q.2 0) ((titles (.tuple es0)).drop 1))) || !txIn (atD q.2 1) MODESX) := by
        unfold doorL; cases isTupD q.2 <;> simp
      rw [ed]
      refine gif2_sp (Er := fun r' : Me => ∃ o8 : Option Mv, r' = E11 (some (.tup [.tup us0, .tup us1, .tup us2])) (some (.tup us0)) (some (.tup us1)) (some (.tup us2)) (some (.ref n)) (some (.ref s3.sz)) (some (.ref nw)) o7 o8 none none) ⟨_, rfl⟩ (tor_sp (c_wp (n_of (t_of (ev_isi rfl hv)))) fun hc s9 x9 => ?_) fun hc s9 x9 => ?_
      · obtain ⟨ws, ds, e1, e2, ld, _⟩ := tup_vd hv (by simpa using hc)
        rw [e2] at dq
        simp only [PyData.depth] at dq
        rw [e1, e2]
        refine tor_sp (c_wp (b_of (op_e (ev_len rfl) rfl (by rw [ld.len]; exact ne_nat (n := 2))))) fun hc2 sa xa => mb_tl ?_
        have h2 : (itemsD (.tuple ds)).length = 2 := of_decide_eq_true (by simpa using hc2)
        have h2 : ds.length = 2 := h2
        obtain ⟨u, f1, f2⟩ := at_vd (s := sa) (r := E11 (some (.tup [.tup us0, .tup us1, .tup us2])) (some (.tup us0)) (some (.tup us1)) (some (.tup us2)) (some (.ref n)) (some (.ref s3.sz)) (some (.ref nw)) o7 (some (.tup ws)) none none) ((ld.ex0 x9).ex0 xa) (k := 0) (by omega) (i := 8) rfl
        exact e_wp (op_e (v := .ref s3.sz) f1 rfl (nin_vd f2 (at_dep (by omega)) (gO (X7.trans (x8.trans (x9.trans xa)))) tok1))
      · simp only [Bool.or_eq_false_iff, Bool.not_eq_false'] at hc
        obtain ⟨ws, ds, e1, e2, ld, _⟩ := tup_vd hv hc.1
        have h2 := of_decide_eq_true hc.2.1
        rw [e2] at dq h2
        simp only [PyData.depth] at dq
        have h2 : ds.length = 2 := h2
        rw [e1, e2]
        obtain ⟨u, f1, f2⟩ := at_vd (s := s9) (r := E11 (some (.tup [.tup us0, .tup us1, .tup us2])) (some (.tup us0)) (some (.tup us1)) (some (.tup us2)) (some (.ref n)) (some (.ref s3.sz)) (some (.ref nw)) o7 (some (.tup ws)) none none) (ld.ex0 x9) (k := 1) (by omega) (i := 8) rfl
        refine mb_tl ?_
        show Wp (((mop2 ixA (mvar 8) (mcon (.int ((1 : Nat) : Int)))) _ s9).ob fun x => ((mlst (mcons (mcon (.str x_global)) (mcons (mcon (.str x_local)) (mcons (mcon (.str x_deep)) (mnil))))) _ x.2).ob fun y => ninA x.1 y.1 y.2) _
        rw [show (mop2 ixA (mvar 8) (mcon (.int ((1 : Nat) : Int)))) (lset (E11 (some (.tup [.tup us0, .tup us1, .tup us2])) (some (.tup us0)) (some (.tup us1)) (some (.tup us2)) (some (.ref n)) (some (.ref s3.sz)) (some (.ref nw)) o7 o8 none none) 8 (some (.tup ws))) s9 = some (u, s9) from f1, ob_of]
        show Wp (ninA u (.ref s9.sz) (push s9 (.lst (strV MODESX)))) _
        exact .of (nin_vd (f2.ex0 Ex0.push) (at_dep (by omega)) (items_ref Ms.get_push) (by decide +kernel)) ⟨rfl, Ex0.push⟩
    · rintro no _ s8 ⟨o8, rfl⟩ x8
      have hd' : es2.all (fun x => doorP x ((titles (.tuple es0)).drop 1)) = true := by
        rw [zall lb7 fun x => doorP x ((titles (.tuple es0)).drop 1), List.all_eq_true]
        intro q hq
        have := List.any_eq_false.mp no q hq
        rw [← doorL_eq (tits_name (d := .tuple es0) hall')]
        simpa using this
      obtain ⟨L, f1, f2⟩ := ded_doors (lb7.ex0 x8) hd'
      refine ret_sp ((eq_set (v := .tup us2) (fun s' _ => rfl) rfl (fun s' _ => rfl) (by rw [lb7.len]; omega) f1 lb7.len).mono fun y hy => ⟨by rw [hy.1, f2], hy.2⟩)
end

end
section
/-! ### the great program -/
def repS (c : Str) (k : Nat) : Str := if k = 0 then Str.empty else if k = 1 then c else ⟨(List.replicate k c.cps).foldl (· ++ ·) #[]⟩
def aS (k : Nat) : Str := x_a ++ repS x_z k
def bS (k : Nat) : Str := x_b ++ repS x_y k
def folk : List Str := (List.range 8).map aS ++ (List.range 8).map bS
def leafM (x : Str) : Mv := .tup [.str x, .tup [], .tup [], .tup []]
def gateM (x : Str) : Mv := .tup [.str x, .str x_local]
def mainM : Mv := .tup [.str x_main, .tup (strV folk), .tup [], .tup []]
def greatM : Mv := .tup [.tup (mainM :: folk.map leafM), .tup (strV folk), .tup (folk.map gateM)]
def leafD (x : Str) : PyData := .tuple [.str x, .tuple [], .tuple [], .tuple []]
def greatD : PyData := .tuple [.tuple (.tuple [.str x_main, .tuple (folk.map .str), .tuple [], .tuple []] :: folk.map leafD), .tuple (folk.map .str), .tuple (folk.map fun x => .tuple [.str x, .str x_local])]
theorem great_clo : cloB 20 10 500000 greatM = true ∧ clo 20 greatM = some greatD := ⟨by decide +kernel, by kernel_rfl⟩
theorem gp1 : (isTupD greatD && (decide ((itemsD greatD).length = 3) && (isTupD (atD greatD 0) && !decide ((itemsD (atD greatD 0)).length = 0)))) = true := by decide +kernel
theorem gp2 : (itemsD (atD greatD 0)).all libD = true := by decide +kernel
theorem gp3 : setOk (titles (atD greatD 0)) = true := by decide +kernel
theorem gp4 : (namesD (atD greatD 1) && isTupD (atD greatD 2)) = true := by decide +kernel
theorem gp5 : needsIn (atD greatD 0) ((titles (atD greatD 0)).drop 1) = true := by decide +kernel
theorem gp6 : (itemsD (atD greatD 1)).all (fun x => txIn x ((titles (atD greatD 0)).drop 1)) = true := by decide +kernel
theorem gp7 : (itemsD (atD greatD 2)).all (fun x => doorP x ((titles (atD greatD 0)).drop 1)) = true := by decide +kernel
theorem ddN_nd2 : ∀ {l : List (List Key)}, l.Nodup → ddN l = l
  | [], _ => rfl
  | k :: l, h => by
    have h1 := List.nodup_cons.mp h
    have e : ddN (k :: l) = @ite _ (k ∈ ddN l) (Classical.propDecidable _) (ddN l) (k :: ddN l) := rfl
    rw [e, ddN_nd2 h1.2, if_neg h1.1]
theorem prK_nd {l : List (List Str)} (h : l.Nodup) : (l.map prK).Nodup := h.map prK fun a c hh e => hh (by
  unfold prK at e
  exact (List.map_inj_right fun x y he => Sum.inr.inj he).mp e)
theorem dlen_nd {ds : List PyData} (h : (ds.map prD).Nodup) : dlen ds = ds.length := by
  have e : dlen ds = (ddN ((ds.map prD).map prK)).length := by
    unfold dlen
    cases ds <;> rfl
  rw [e, ddN_nd2 (prK_nd h), List.length_map, List.length_map]
theorem gp8 : decide (dlen (itemsD (atD greatD 2)) = (itemsD (atD greatD 2)).length) = true := decide_eq_true (dlen_nd (by decide +kernel))
theorem great_prog : progD greatD = true := by
  unfold progD
  rw [gp1, gp2, gp3, gp4, gp5, gp6, gp7, gp8]; rfl
theorem great_dep : PyData.depth greatD < 20 := by decide +kernel
theorem folk_len : folk.length = 16 := by decide +kernel
section
variable {b qq : Nat} {s : Ms} {r : Me} {o1 o2 o3 o4 o5 o6 o7 o8 o9 o10 o11 o12 o13 : Option Mv}
abbrev E14 (b : Nat) (o1 o2 o3 o4 o5 o6 o7 o8 o9 o10 o11 o12 o13 : Option Mv) : Me := [some (.ref b), o1, o2, o3, o4, o5, o6, o7, o8, o9, o10, o11, o12, o13]
theorem smz_z : ∀ k : Nat, k < 8 → smzW (.str x_z) (.int (k : Int)) s = some (.str (repS x_z k), s)
  | 0, _ => rfl
  | 1, _ => rfl
  | 2, _ => rfl
  | 3, _ => rfl
  | 4, _ => rfl
  | 5, _ => rfl
  | 6, _ => rfl
  | 7, _ => rfl
  | n + 8, h => absurd h (by omega)
theorem smz_y : ∀ k : Nat, k < 8 → smzW (.str x_y) (.int (k : Int)) s = some (.str (repS x_y k), s)
  | 0, _ => rfl
  | 1, _ => rfl
  | 2, _ => rfl
  | 3, _ => rfl
  | 4, _ => rfl
  | 5, _ => rfl
  | 6, _ => rfl
  | 7, _ => rfl
  | n + 8, h => absurd h (by omega)
theorem rep_len : ∀ k : Nat, k < 8 → x_a.length + (repS x_z k).length ≤ 16777216 ∧ x_b.length + (repS x_y k).length ≤ 16777216 := by decide +kernel
theorem add_str {x y : Str} (h : x.length + y.length ≤ 16777216) : addW (.str x) (.str y) s = some (.str (x ++ y), s) := by
  unfold addW
  dsimp only
  rw [Nat.ble_eq_true_of_le h]; rfl
theorem e_cons {A : Fe} {B : Fa} {v : Mv} {vs : List Mv} (h1 : A r s = some (v, s)) (h2 : B r s = some (vs, s)) : mcons A B r s = some (v :: vs, s) := by
  unfold mcons
  rw [h1, ob_of]
  dsimp only
  rw [h2, ob_of]
theorem e_tup {A : Fa} {vs : List Mv} (h : A r s = some (vs, s)) (hl : vs.length ≤ 1000) : mtup A r s = some (.tup vs, s) := by
  unfold mtup
  rw [h, ob_of]
  exact newT_of (show vs.length ≤ _ by omega)
theorem e_tuple {i n : Nat} {ws : List Mv} (hr : r[i]? = some (some (.ref n))) (g : s.get n = some (.lst ws)) (hl : ws.length ≤ 1000) : (mcall tupleW (mcons (mvar i) mnil)) r s = some (.tup ws, s) := by
  have e : (mcons (mvar i) mnil) r s = some ([.ref n], s) := e_cons (mvar_t hr) rfl
  unfold mcall
  rw [e, ob_of]
  exact tup_of (items_ref g) (by omega)
theorem set_folk : Wp (sset 3 (mop2 addW (mlc (miR1 (mcons (mcon (.int 8)) (mnil))) (.nm 12) (myes) (mop2 addW (mcon (.str x_a)) (mop2 smzW (mcon (.str x_z)) (mvar 12))) [12]) (mlc (miR1 (mcons (mcon (.int 8)) (mnil))) (.nm 12) (myes) (mop2 addW (mcon (.str x_b)) (mop2 smzW (mcon (.str x_y)) (mvar 12))) [12])) (E14 b o1 o2 o3 o4 o5 o6 o7 o8 o9 o10 o11 o12 o13) s) fun y => y.1 = .nx ∧ ∃ n, y.2.1 = E14 b o1 o2 (some (.ref n)) o4 o5 o6 o7 o8 o9 o10 o11 o12 o13 ∧ n < y.2.2.sz ∧ y.2.2.get n = some (.lst (strV folk)) ∧ Ex0 s y.2.2 := by
  refine wp_set ?_
  unfold mop2
  rw [wp_ob]
  have A1 := lcI (I := miR1 (mcons (mcon (.int 8)) (mnil))) (T := .nm 12) (E := mop2 addW (mcon (.str x_a)) (mop2 smzW (mcon (.str x_z)) (mvar 12))) (C := myes) (vs := [12]) (r := E14 b o1 o2 o3 o4 o5 o6 o7 o8 o9 o10 o11 o12 o13) (s := s) (List.range 8) (fun j => .int (0 + (j : Int))) (fun j => .str (aS j)) (by simp) (.of (x := (.rng 0 8, s)) rfl ⟨Ex0.refl, fun s' _ => gives_rng⟩) fun j hj s1 x1 => step_e rfl (e_wp (op_e (u := .str x_a) (v := .str (repS x_z j)) rfl (op_e (u := .str x_z) (v := .int (j : Int)) rfl (by
    show some (Mv.int (0 + (j : Int)), s1) = _
    rw [Int.zero_add]) (smz_z j (List.mem_range.mp hj))) (add_str (rep_len j (List.mem_range.mp hj)).1)))
  refine Wp.mono A1 fun y hy => ?_
  obtain ⟨v, s1⟩ := y
  obtain ⟨n, e, _, lt, g1, x1⟩ := hy
  simp only at e lt g1 x1
  subst e
  rw [wp_ob]
  have A2 := lcI (I := miR1 (mcons (mcon (.int 8)) (mnil))) (T := .nm 12) (E := mop2 addW (mcon (.str x_b)) (mop2 smzW (mcon (.str x_y)) (mvar 12))) (C := myes) (vs := [12]) (r := E14 b o1 o2 o3 o4 o5 o6 o7 o8 o9 o10 o11 o12 o13) (s := s1) (List.range 8) (fun j => .int (0 + (j : Int))) (fun j => .str (bS j)) (by simp) (.of (x := (.rng 0 8, s1)) rfl ⟨Ex0.refl, fun s' _ => gives_rng⟩) fun j hj s1 x1 => step_e rfl (e_wp (op_e (u := .str x_b) (v := .str (repS x_y j)) rfl (op_e (u := .str x_y) (v := .int (j : Int)) rfl (by
    show some (Mv.int (0 + (j : Int)), s1) = _
    rw [Int.zero_add]) (smz_y j (List.mem_range.mp hj))) (add_str (rep_len j (List.mem_range.mp hj)).2)))
  refine Wp.mono A2 fun y hy => ?_
  obtain ⟨v, s2⟩ := y
  obtain ⟨n', e, _, lt2, g2, x2⟩ := hy
  simp only at e lt2 g2 x2
  subst e
  refine .of (x := (.ref s2.sz, push s2 (.lst (strV folk)))) ?_ ⟨rfl, s2.sz, rfl, by rw [push_sz]; omega, Ms.get_push, x1.trans (x2.trans Ex0.push)⟩
  unfold addW
  dsimp only
  rw [x2.at lt g1, g2]
  dsimp only
  rw [show (List.range 8).map (fun j => Mv.str (aS j)) ++ (List.range 8).map (fun j => Mv.str (bS j)) = strV folk by unfold strV folk; rw [List.map_append, List.map_map, List.map_map]; rfl]
  exact newL_of (by unfold strV; rw [List.length_map, folk_len]; omega)
theorem lc_folk {n : Nat} (hn : n < s.sz) (g : s.get n = some (.lst (strV folk))) {E : Fe} (f : Str → Mv) (hE : ∀ x s', E (E14 b o1 o2 (some (.ref n)) o4 o5 o6 o7 o8 o9 o10 o11 o12 (some (.str x))) s' = some (f x, s')) : Wp ((mcall tupleW (mcons (mlc (miS (mvar 3)) (.nm 13) (myes) E [13]) (mnil))) (E14 b o1 o2 (some (.ref n)) o4 o5 o6 o7 o8 o9 o10 o11 o12 o13) s) fun y => y.1 = .tup (folk.map f) ∧ Ex0 s y.2 := by
  have A2 := lcI (I := miS (mvar 3)) (T := .nm 13) (E := E) (C := myes) (vs := [13]) (r := E14 b o1 o2 (some (.ref n)) o4 o5 o6 o7 o8 o9 o10 o11 o12 o13) (s := s) folk (fun d => .str d) f (by rw [folk_len]; omega) (wp_S' (.of (x := (.ref n, s)) rfl ⟨strV folk, items_ref g, fun it gi => ⟨Ex0.refl, fun s' x => gi s' (items_ref (x.at hn g))⟩⟩)) fun d hd s2 x2 => step_e rfl (e_wp (hE d s2))
  refine wp_call1 (Wp.mono A2 fun y hy => ?_)
  obtain ⟨v, s2⟩ := y
  obtain ⟨n', e, _, _, g2, x2⟩ := hy
  simp only at e g2 x2
  subst e
  exact .of (tup_of (items_ref g2) (by rw [List.length_map, folk_len]; omega)) ⟨rfl, x2⟩
theorem sv_len : (strV folk).length ≤ 1000 := by unfold strV; rw [List.length_map, folk_len]; omega
theorem set_libs {n : Nat} (hn : n < s.sz) (g : s.get n = some (.lst (strV folk))) : Wp (sset 4 (mop2 addW (mtup (mcons (mtup (mcons (mcon (.str x_main)) (mcons (mcall tupleW (mcons (mvar 3) (mnil))) (mcons (mtup (mnil)) (mcons (mtup (mnil)) (mnil)))))) (mnil))) (mcall tupleW (mcons (mlc (miS (mvar 3)) (.nm 13) (myes) (mtup (mcons (mvar 13) (mcons (mtup (mnil)) (mcons (mtup (mnil)) (mcons (mtup (mnil)) (mnil)))))) [13]) (mnil)))) (E14 b o1 o2 (some (.ref n)) o4 o5 o6 o7 o8 o9 o10 o11 o12 o13) s) fun y => y.1 = .nx ∧ y.2.1 = E14 b o1 o2 (some (.ref n)) (some (.tup (mainM :: folk.map leafM))) o5 o6 o7 o8 o9 o10 o11 o12 o13 ∧ Ex0 s y.2.2 := by
  refine wp_set ?_
  unfold mop2
  rw [wp_ob]
  refine .of (x := (.tup [mainM], s)) (e_tup (e_cons (e_tup (e_cons rfl (e_cons (e_tuple rfl g sv_len) (e_cons rfl (e_cons rfl rfl)))) (by simp)) rfl) (by simp)) ?_
  dsimp only
  rw [wp_ob]
  refine (lc_folk hn g leafM (fun x s' => rfl)).mono fun y hy => ?_
  obtain ⟨v, s1⟩ := y
  obtain ⟨e, x1⟩ := hy
  simp only at e x1
  subst e
  refine .of (x := (.tup (mainM :: folk.map leafM), s1)) ?_ ⟨rfl, rfl, x1⟩
  show newT ([mainM] ++ folk.map leafM) s1 = _
  exact newT_of (by simp [folk_len])
theorem set_great {n : Nat} {w4 : Mv} (hn : n < s.sz) (g : s.get n = some (.lst (strV folk))) (h4 : w4 = .tup (mainM :: folk.map leafM)) : Wp (sset 4 (mtup (mcons (mvar 4) (mcons (mcall tupleW (mcons (mvar 3) (mnil))) (mcons (mcall tupleW (mcons (mlc (miS (mvar 3)) (.nm 13) (myes) (mtup (mcons (mvar 13) (mcons (mcon (.str x_local)) (mnil)))) [13]) (mnil))) (mnil))))) (E14 b o1 o2 (some (.ref n)) (some w4) o5 o6 o7 o8 o9 o10 o11 o12 o13) s) fun y => y.1 = .nx ∧ y.2.1 = E14 b o1 o2 (some (.ref n)) (some greatM) o5 o6 o7 o8 o9 o10 o11 o12 o13 ∧ Ex0 s y.2.2 := by
  refine wp_set ?_
  unfold mtup
  rw [wp_ob]
  refine wp_mcons (.of (x := (w4, s)) rfl (wp_mcons (.of (e_tuple rfl g sv_len) (wp_mcons ?_))))
  refine (lc_folk (o4 := some w4) hn g gateM (fun x s' => rfl)).mono fun y hy => wp_mnil ?_
  obtain ⟨v, s1⟩ := y
  obtain ⟨e, x1⟩ := hy
  simp only at e x1
  subst e h4
  exact .of (newT_of (by simp)) ⟨rfl, rfl, x1⟩
end

end
section
/-! ### a drawn program is a program -/
def plotY (P : Plot) : PyData := .tuple [.tuple (P.libs.map libY), .tuple (P.early.map .str), .tuple (P.doors.map pairY)]
theorem setOk_nd {ys : List Str} (h : ys.Nodup) : setOk ys = true := by
  unfold setOk
  rw [← ddF_eq, ddF_nd h]; simp
section
variable {b qq : Nat} {s : Ms} {P : Plot}
theorem plot_libs (h : PlotOk 4 3 P) : P.libs.length ≤ 5 := by have := h.len; unfold Plot.folk at this; rw [List.length_map] at this; omega
theorem plot_two (h : PlotOk 4 3 P) : 2 ≤ P.libs.length := by have := h.two; unfold Plot.folk at this; rw [List.length_map] at this; omega
theorem mode_ok : ∀ y ∈ MODESD, PyData.strOk y = true ∧ y.cps.size ≤ 20 ∧ y ∈ MODESX := by decide +kernel
theorem tail_pool (h : PlotOk 4 3 P) {x : Str} (hx : x ∈ P.folk.tail) : x ∈ POOL := h.pool x (List.mem_of_mem_tail hx)
theorem vd_plot (h : PlotOk 4 3 P) : Vd 10 b qq s P.mv (plotY P) := by
  have st : ∀ {y : Str}, y ∈ POOL → Vd 10 b qq s (.str y) (.str y) := fun hy => .str (ok_pool _ hy).2.1 (ok_pool _ hy).2.2
  refine .tup (by simp) (.cons (.tup ?_ (VdL.map fun l hl => (vd_lib (libG_of h hl)).wide (by omega))) (.cons (.tup ?_ (VdL.map fun x hx => st (tail_pool h (h.ein x hx)))) (.cons (.tup ?_ (VdL.map fun d hd => .tup (by simp) (.cons (st (tail_pool h (h.din d hd).1)) (.cons (.str (mode_ok _ (h.din d hd).2).1 (mode_ok _ (h.din d hd).2).2.1) .nil)))) .nil)))
  · rw [List.length_map]; have := plot_libs h; omega
  · rw [List.length_map]; have := h.elen; omega
  · rw [List.length_map]; have := h.dlen; omega
theorem sd_plot (h : PlotOk 4 3 P) : SD 5 12018 (plotY P) := by
  have st : ∀ {y : Str}, y ∈ POOL → SD 0 20 (.str y) := fun hy => sd_str (ok_pool _ hy).2.1 (ok_pool _ hy).2.2
  have e1 : SD 4 4005 (.tuple (P.libs.map libY)) := (sd_tup (n := 3) (m := 800) fun d hd => by
    obtain ⟨x, hx, rfl⟩ := List.mem_map.mp hd
    exact sd_lib (libG_of h hx)).mono (by omega) (by rw [List.length_map]; have := plot_libs h; omega)
  have e2 : SD 4 4005 (.tuple (P.early.map .str)) := (sd_tup (n := 0) (m := 20) fun d hd => by
    obtain ⟨x, hx, rfl⟩ := List.mem_map.mp hd
    exact st (tail_pool h (h.ein x hx))).mono (by omega) (by rw [List.length_map]; have := h.elen; omega)
  have e3 : SD 4 4005 (.tuple (P.doors.map pairY)) := (sd_tup (n := 1) (m := 42) fun d hd => by
    obtain ⟨x, hx, rfl⟩ := List.mem_map.mp hd
    exact (sd_tup (n := 0) (m := 20) (ds := [.str x.1, .str x.2]) fun y hy => by
      rcases List.mem_cons.mp hy with rfl | hy
      · exact st (tail_pool h (h.din x hx).1)
      · rw [List.mem_singleton.mp hy]; exact sd_str (mode_ok _ (h.din x hx).2).1 (mode_ok _ (h.din x hx).2).2.1)).mono (by omega) (by rw [List.length_map]; have := h.dlen; omega)
  refine (sd_tup (n := 4) (m := 4005) fun d hd => ?_).mono (Nat.le_refl 5) (by simp)
  simp only [List.mem_cons, List.not_mem_nil, or_false] at hd
  rcases hd with rfl | rfl | rfl
  · exact e1
  · exact e2
  · exact e3
theorem ok_plot (h : PlotOk 4 3 P) : Ok 10 5 12018 b qq s P.mv := ⟨_, vd_plot h, sd_plot h⟩
theorem tits_plot : titles (.tuple (P.libs.map libY)) = P.folk := by
  show (P.libs.map libY).map nmD = _
  rw [List.map_map]; rfl
theorem prog_plot (h : PlotOk 4 3 P) : progD (plotY P) = true := by
  have i0 : decide ((P.libs.map libY).length = 0) = false := decide_eq_false (by rw [List.length_map]; have := plot_two h; omega)
  have g2 : (P.libs.map libY).all libD = true := by
    rw [List.all_map, List.all_eq_true]
    exact fun l hl => lib_due (libG_of h hl)
  have g3 : setOk (titles (.tuple (P.libs.map libY))) = true := by rw [tits_plot]; exact setOk_nd h.nd
  have ed : (titles (.tuple (P.libs.map libY))).drop 1 = P.folk.tail := by rw [tits_plot, List.drop_one]
  have g4 : namesD (.tuple (P.early.map .str)) = true := by
    show ((P.early.map PyData.str).all nameD && decide ((ddF (strsD (P.early.map .str))).length = (P.early.map PyData.str).length)) = true
    rw [strsD_map, ddF_nd h.end_, List.length_map, List.all_map]
    simp only [decide_true, Bool.and_true, List.all_eq_true]
    exact fun x hx => (ok_pool x (tail_pool h (h.ein x hx))).1
  have g5 : needsIn (.tuple (P.libs.map libY)) P.folk.tail = true := by
    show (P.libs.map libY).all _ = true
    rw [List.all_map, List.all_eq_true]
    intro l hl
    show (l.needs.map PyData.str).all _ = true
    rw [List.all_map, List.all_eq_true]
    exact fun x hx => decide_eq_true ((h.libs l hl).nin x hx).1
  have g6 : (P.early.map PyData.str).all (fun x => txIn x P.folk.tail) = true := by
    rw [List.all_map, List.all_eq_true]
    exact fun x hx => decide_eq_true (h.ein x hx)
  have g7 : (P.doors.map pairY).all (fun x => doorP x P.folk.tail) = true := by
    rw [List.all_map, List.all_eq_true]
    intro d hd
    have a1 : nameB d.1 = true := (ok_pool _ (tail_pool h (h.din d hd).1)).1
    have a2 : decide (d.1 ∈ P.folk.tail) = true := decide_eq_true (h.din d hd).1
    have a3 : decide (d.2 ∈ MODESX) = true := decide_eq_true (mode_ok _ (h.din d hd).2).2.2
    show ((true && (true && (nameB d.1 && decide (d.1 ∈ P.folk.tail)))) && (true && decide (d.2 ∈ MODESX))) = true
    rw [a1, a2, a3]; rfl
  have g8 : dlen (P.doors.map pairY) = (P.doors.map pairY).length := dlen_nd (by
    rw [List.map_map]
    refine h.dnd.map _ fun x y hh e => hh ?_
    have e' : [x.1, x.2] = [y.1, y.2] := e
    simp only [List.cons.injEq, and_true] at e'
    exact Prod.ext e'.1 e'.2)
  show ((true && (true && (true && !decide ((P.libs.map libY).length = 0)))) && ((P.libs.map libY).all libD && ((setOk (titles (.tuple (P.libs.map libY))) && (namesD (.tuple (P.early.map .str)) && true)) && (needsIn (.tuple (P.libs.map libY)) ((titles (.tuple (P.libs.map libY))).drop 1) && (((P.early.map PyData.str).all (fun x => txIn x ((titles (.tuple (P.libs.map libY))).drop 1)) && (P.doors.map pairY).all (fun x => doorP x ((titles (.tuple (P.libs.map libY))).drop 1))) && decide (dlen (P.doors.map pairY) = (P.doors.map pairY).length)))))) = true
  rw [i0, g2, g3, ed, g4, g5, g6, g7, g8]; simp
end

end
section
/-! ### a drawn program, turned -/
section
variable {b qq m0 : Nat} {s : Ms} {r : Me} {P : Plot}
theorem pe_val {W k m : Nat} {E : Fe} {w : Mv} (e : ∀ s', E r s' = some (w, s')) (h : ∀ s', Ex0 s s' → Ok W k m b qq s' w) : Pe W k m b qq r s E := fun s' x => .of (e s') ⟨Ex0.refl, h s' x⟩
theorem tri_ok {W k m : Nat} {u v w : Mv} (hW : 3 ≤ W) (h1 : Ok W k m b qq s u) (h2 : Ok W k m b qq s v) (h3 : Ok W k m b qq s w) : Ok W (k + 1) (3 * m + 3) b qq s (.tup [u, v, w]) := ((h1.cons (h2.cons (h3.cons (Oks.nil (m := 0))))).tup (by simpa using hW)).mono (Nat.le_refl _) (Nat.le_refl _) (by omega)
theorem pe_tri {W k m : Nat} {A B C : Fe} {u v w : Mv} (hW : 3 ≤ W) (e1 : ∀ s', A r s' = some (u, s')) (e2 : ∀ s', B r s' = some (v, s')) (e3 : ∀ s', C r s' = some (w, s')) (h1 : ∀ s', Ex0 s s' → Ok W k m b qq s' u) (h2 : ∀ s', Ex0 s s' → Ok W k m b qq s' v) (h3 : ∀ s', Ex0 s s' → Ok W k m b qq s' w) : Pe W (k + 1) (3 * m + 3) b qq r s (mtup (mcons A (mcons B (mcons C mnil)))) :=
  pe_val (fun s' => e_tup (e_cons (e1 s') (e_cons (e2 s') (e_cons (e3 s') rfl))) (by simp)) fun s' x => tri_ok hW (h1 s' x) (h2 s' x) (h3 s' x)
theorem add_tup {xs ys : List Mv} {t : Ms} (hl : xs.length + ys.length ≤ 1000) : addW (.tup xs) (.tup ys) t = some (.tup (xs ++ ys), t) := newT_of (by rw [List.length_append]; omega)
theorem sl_to {A : Fe} {ws : List Mv} {i : Nat} {j : Nat} (e : ∀ s', A r s' = some (.tup ws, s')) (ej : r[j]? = some (some (.int (i : Int)))) (hi : i ≤ ws.length) (hl : ws.length ≤ 1000) : ∀ s', (mslice A (onone) (osome (mvar j))) r s' = some (.tup (ws.take i), s') := fun s' => by
  have e2 : slW (.tup ws) none (some (i : Int)) s' = some (.tup (ws.take i), s') := by
    show newT (cutM ws none (some (i : Int))) s' = _
    rw [cut_to ws hi, newT_of (by rw [List.length_take]; omega)]
  simp only [mslice, osome, onone, mvar_t ej, e, ob_of, e2]
theorem add1 {i : Nat} {j : Nat} (ej : r[j]? = some (some (.int (i : Int)))) : ∀ s', (mop2 addW (mvar j) (mcon (.int 1))) r s' = some (.int ((i + 1 : Nat) : Int), s') := fun s' => op_e (mvar_t ej) rfl rfl
theorem sl_from {A : Fe} {ws : List Mv} {i : Nat} {j : Nat} (e : ∀ s', A r s' = some (.tup ws, s')) (ej : r[j]? = some (some (.int (i : Int)))) (hi : i < ws.length) (hl : ws.length ≤ 1000) : ∀ s', (mslice A (osome (mop2 addW (mvar j) (mcon (.int 1)))) (onone)) r s' = some (.tup (ws.drop (i + 1)), s') := fun s' => by
  have e2 : slW (.tup ws) (some ((i + 1 : Nat) : Int)) none s' = some (.tup (ws.drop (i + 1)), s') := by
    show newT (cutM ws (some ((i + 1 : Nat) : Int)) none) s' = _
    rw [cut_from ws (by omega), newT_of (by rw [List.length_drop]; omega)]
  simp only [mslice, osome, onone, add1 ej, e, ob_of, e2]
theorem sl_mid {A : Fe} {ws : List Mv} {i : Nat} {j : Nat} (e : ∀ s', A r s' = some (.tup ws, s')) (ej : r[j]? = some (some (.int (i : Int)))) (hi : i < ws.length) (hl : ws.length ≤ 1000) : ∀ s', (mslice A (osome (mvar j)) (osome (mop2 addW (mvar j) (mcon (.int 1))))) r s' = some (.tup ((ws.drop i).take 1), s') := fun s' => by
  have e2 : slW (.tup ws) (some (i : Int)) (some ((i + 1 : Nat) : Int)) s' = some (.tup ((ws.drop i).take 1), s') := by
    show newT (cutM ws (some (i : Int)) (some ((i + 1 : Nat) : Int))) s' = _
    have h1 := cut_to ws (i := i + 1) (by omega)
    have h2 := cut_from ws (i := i) (by omega)
    have : cutM ws (some (i : Int)) (some ((i + 1 : Nat) : Int)) = (ws.drop i).take 1 := by
      unfold cutM
      rw [show HT.sIx ws.length 0 (some (i : Int)) = i from ?_, show HT.sIx ws.length ws.length (some ((i + 1 : Nat) : Int)) = i + 1 from ?_]
      · rw [show i + 1 - i = 1 by omega]
      · unfold HT.sIx
        simp only
        split <;> omega
      · unfold HT.sIx
        simp only
        split <;> omega
    rw [this, newT_of (by rw [List.length_take]; omega)]
  simp only [mslice, osome, mvar_t ej, add1 ej, e, ob_of, e2]
theorem sl_one {A : Fe} {ws : List Mv} (e : ∀ s', A r s' = some (.tup ws, s')) (h1 : 1 ≤ ws.length) (hl : ws.length ≤ 1000) : ∀ s', (mslice A (onone) (osome (mcon (.int 1)))) r s' = some (.tup (ws.take 1), s') := fun s' => by
  have e2 : slW (.tup ws) none (some 1) s' = some (.tup (ws.take 1), s') := by
    show newT (cutM ws none (some ((1 : Nat) : Int))) s' = _
    rw [cut_to ws h1, newT_of (by rw [List.length_take]; omega)]
  simp only [mslice, osome, onone, mcon, e, ob_of, e2]
theorem tmul2 {ws : List Mv} (h1 : 1 ≤ ws.length) (hl : ws.length ≤ 1000) : ∀ s' : Ms, tmulW (.tup ws) (.int 2) s' = some (.tup (ws ++ ws), s') := fun s' => by
  unfold tmulW
  dsimp only
  rw [Nat.ble_eq_true_of_le h1, Nat.ble_eq_true_of_le hl]
  show newT (ws ++ (ws ++ [])) s' = _
  rw [List.append_nil]
  exact newT_of (by rw [List.length_append]; omega)
theorem rev_tup {A : Fe} {ws : List Mv} (e : ∀ s', A r s' = some (.tup ws, s')) (hl : ws.length ≤ 1000) : ∀ s', (mrev A) r s' = some (.tup ws.reverse, s') := fun s' => by
  unfold mrev
  rw [e, ob_of]
  exact newT_of (by rw [List.length_reverse]; omega)
end

end
section
section
variable {b qq m0 : Nat} {s : Ms} {r : Me} {P : Plot} {W k m : Nat}
theorem wp_callE {f : Fn} {A : Fa} {vs : List Mv} {Q : Mv × Ms → Prop} (e : A r s = some (vs, s)) (h : Wp (f vs s) Q) : Wp (mcall f A r s) Q := by
  unfold mcall
  rw [e, ob_of]
  exact h
theorem set7_new {j : Nat} {A : Fa} (hb : b < s.sz) (hj : j ≤ 100) (hA : Pl W k m b qq j r s A) : ∀ s', Ex0 s s' → Wp (sset 7 (mlst A) r s') fun y => y.1 = .nx ∧ ∃ u ws, y.2.1 = lset r 7 (some u) ∧ ws.length = j ∧ Pool W k m b qq y.2.2 u ws ∧ Ex0 s' y.2.2 := fun s' x => by
  refine wp_set ((pl_lst hA (by omega) hb s' x).mono fun y hy => ?_)
  obtain ⟨x, ws, l, p⟩ := hy
  exact ⟨rfl, y.1, ws, rfl, l, p, x⟩
theorem set7_add {j : Nat} {A : Fa} {u : Mv} {ws : List Mv} (hb : b < s.sz) (hj : j ≤ 100) (hl : ws.length ≤ 800) (hr : r[7]? = some (some u)) (hA : Pl W k m b qq j r s A) : ∀ s', Ex0 s s' → Pool W k m b qq s' u ws → Wp (sset 7 (mop2 addW (mvar 7) (mlst A)) r s') fun y => y.1 = .nx ∧ ∃ u' ws', y.2.1 = lset r 7 (some u') ∧ ws'.length = ws.length + j ∧ Pool W k m b qq y.2.2 u' ws' ∧ Ex0 s' y.2.2 := fun s' x p => by
  refine wp_set ?_
  unfold mop2
  rw [wp_ob]
  refine .of (mvar_t hr) ?_
  dsimp only
  rw [wp_ob]
  refine (pl_lst hA (by omega) hb s' x).mono fun y hy => ?_
  obtain ⟨x1, ws2, l, p2⟩ := hy
  refine (pool_add (p.ex0 x1) p2 (by omega) (Nat.lt_of_lt_of_le hb (x.trans x1).sz)).mono fun z hz => ?_
  exact ⟨rfl, z.1, _, rfl, by rw [List.length_append, l], hz.2, x1.trans hz.1⟩
abbrev T8 (b : Nat) (v w2 w3 w4 : Mv) (o5 o6 o7 : Option Mv) : Me := [some (.ref b), some v, some w2, some w3, some w4, o5, o6, o7]
theorem word5 : ∀ y ∈ [x_global, x_local, x_deepest], PyData.strOk y = true ∧ y.cps.size ≤ 20 := by decide +kernel
theorem turned_sp (h : Bx' s b m0) (hm : m0 + 2 < 1000000) (pk : PlotOk 4 3 P) (hq : qq < s.sz) : Wp (m__law_turned [.ref b, P.mv] s) fun x => Ok 10 5 72303 b qq x.2 x.1 ∧ Ext b s x.2 ∧ Bx' x.2 b (m0 + 2) := by
  refine wp_fn [some (.ref b), some P.mv, none, none, none, none, none, none] rfl rfl ?_
  unfold bd__law_turned
  have l5 := plot_libs pk
  have l2 := plot_two pk
  have hLs : (P.libs.map PLib.mv).length = P.libs.length := List.length_map ..
  have hEs : (strV P.early).length = P.early.length := List.length_map ..
  have hDs : (pairV P.doors).length = P.doors.length := List.length_map ..
  have hel := pk.elen
  have hdl := pk.dlen
  have hd1 : 1 ≤ P.doors.length := List.length_pos_iff.mpr pk.dpos
  refine wp_seq (.of (x := (.nx, T8 b P.mv (.tup (P.libs.map PLib.mv)) (.tup (strV P.early)) (.tup (pairV P.doors)) none none none, s)) rfl ⟨rfl, ?_⟩)
  refine wp_seq (wp_set (wp_callE (vs := [.ref b, .int ((P.libs.map PLib.mv).length : Nat)]) (e_cons rfl (e_cons (ev_len rfl) rfl)) ?_))
  refine (take_sp h (by omega) (k := ((P.libs.map PLib.mv).length : Nat)) (by omega) (by omega)).mono fun y hy => ?_
  obtain ⟨v, s1⟩ := y
  obtain ⟨j, e, j0, j1, z1, x1, b1⟩ := hy
  simp only at e z1 x1 b1
  subst e
  obtain ⟨i, rfl⟩ : ∃ i : Nat, j = (i : Int) := ⟨j.toNat, by omega⟩
  have hi : i < P.libs.length := by omega
  have hi' : i < (P.libs.map PLib.mv).length := by omega
  refine ⟨rfl, ?_⟩
  obtain ⟨l, hl⟩ : ∃ l, P.libs[i]? = some l := ⟨_, List.getElem?_eq_getElem hi⟩
  obtain ⟨l0, hl0⟩ : ∃ l, P.libs[0]? = some l := ⟨_, List.getElem?_eq_getElem (by omega)⟩
  have gx : (P.libs.map PLib.mv)[i]? = some l.mv := by rw [List.getElem?_map, hl]; rfl
  have gx0 : (P.libs.map PLib.mv)[0]? = some l0.mv := by rw [List.getElem?_map, hl0]; rfl
  refine wp_seq (wp_set (.of (x := (.str l.own, s1)) (op_e (u := l.mv) (v := .int 0) (op_e (u := .tup (P.libs.map PLib.mv)) (v := .int (i : Int)) rfl rfl (ixA_of (ws := P.libs.map PLib.mv) rfl (atF_of gx))) rfl (ixA_of (ws := [.str l.own, .tup (strV l.needs), .tup (pairV l.defs), .tup (useV l.uses)]) rfl (atF_of (i := 0) rfl))) ⟨rfl, ?_⟩))
  show Wp _ _
  -- the parts, in all states to come
  have hb := b1.lt
  have hq1 : qq < s1.sz := by omega
  have ow : ∀ {l : PLib}, l ∈ P.libs → ∀ s', Ok 10 0 20 b qq s' (.str l.own) := fun hl s' => ok_str (ok_pool _ (pk.pool _ (List.mem_map_of_mem hl))).2.1 (ok_pool _ (pk.pool _ (List.mem_map_of_mem hl))).2.2
  have w1 := ow (List.mem_of_getElem? hl)
  have w0 := ow (List.mem_of_getElem? hl0)
  have wm : ∀ {y : Str}, y ∈ [x_global, x_local, x_deepest] → ∀ s', Ok 10 0 20 b qq s' (.str y) := fun hy s' => ok_str (word5 _ hy).1 (word5 _ hy).2
  have all3 : ∀ s', Oks 10 3 12018 b qq s' (P.libs.map PLib.mv) ∧ Oks 10 3 12018 b qq s' (strV P.early) ∧ Oks 10 3 12018 b qq s' (pairV P.doors) := fun s' => by
    have o := (ok_plot (b := b) (qq := qq) (s := s') pk).untup.2.2
    exact ⟨(o.get (i := 0) rfl).untup.2.2, (o.get (i := 1) rfl).untup.2.2, (o.get (i := 2) rfl).untup.2.2⟩
  have tp : ∀ {ws : List Mv} {m1 : Nat} {s' : Ms}, Oks 10 3 m1 b qq s' ws → m1 ≤ 24100 → ws.length ≤ 10 → Ok 10 4 24100 b qq s' (.tup ws) := fun o h1 h2 => (o.tup h2).mono (Nat.le_refl _) (Nat.le_refl _) h1
  have tL : ∀ s', Ex0 s1 s' → Ok 10 4 24100 b qq s' (.tup (P.libs.map PLib.mv)) := fun s' _ => tp (all3 s').1 (by omega) (by omega)
  have tE : ∀ s', Ex0 s1 s' → Ok 10 4 24100 b qq s' (.tup (strV P.early)) := fun s' _ => tp (all3 s').2.1 (by omega) (by omega)
  have tD : ∀ s', Ex0 s1 s' → Ok 10 4 24100 b qq s' (.tup (pairV P.doors)) := fun s' _ => tp (all3 s').2.2 (by omega) (by omega)
  have one : ∀ {w : Mv} {s' : Ms}, Ok 10 3 43 b qq s' w → Oks 10 3 44 b qq s' [w] := fun o => o.cons (Oks.nil (m := 0))
  have pair : ∀ {u v : Mv} {s' : Ms}, Ok 10 0 20 b qq s' u → Ok 10 0 20 b qq s' v → Ok 10 3 43 b qq s' (.tup [u, v]) := fun o1 o2 => ((o1.cons (o2.cons (Oks.nil (m := 0)))).tup (by simp)).mono (Nat.le_refl _) (by omega) (by omega)
  have eL : ∀ o7 s', (mvar 2) (T8 b P.mv (.tup (P.libs.map PLib.mv)) (.tup (strV P.early)) (.tup (pairV P.doors)) (some (.int (i : Int))) (some (.str l.own)) o7) s' = some (.tup (P.libs.map PLib.mv), s') := fun o7 s' => rfl
  have eE : ∀ o7 s', (mvar 3) (T8 b P.mv (.tup (P.libs.map PLib.mv)) (.tup (strV P.early)) (.tup (pairV P.doors)) (some (.int (i : Int))) (some (.str l.own)) o7) s' = some (.tup (strV P.early), s') := fun o7 s' => rfl
  have eD : ∀ o7 s', (mvar 4) (T8 b P.mv (.tup (P.libs.map PLib.mv)) (.tup (strV P.early)) (.tup (pairV P.doors)) (some (.int (i : Int))) (some (.str l.own)) o7) s' = some (.tup (pairV P.doors), s') := fun o7 s' => rfl
  have eO : ∀ o7 s', (mvar 6) (T8 b P.mv (.tup (P.libs.map PLib.mv)) (.tup (strV P.early)) (.tup (pairV P.doors)) (some (.int (i : Int))) (some (.str l.own)) o7) s' = some (.str l.own, s') := fun o7 s' => rfl
  have eZ : ∀ o7 s', (mop2 ixA (mop2 ixA (mvar 2) (mcon (.int 0))) (mcon (.int 0))) (T8 b P.mv (.tup (P.libs.map PLib.mv)) (.tup (strV P.early)) (.tup (pairV P.doors)) (some (.int (i : Int))) (some (.str l.own)) o7) s' = some (.str l0.own, s') := fun o7 s' => op_e (u := l0.mv) (v := .int 0) (op_e (u := .tup (P.libs.map PLib.mv)) (v := .int 0) rfl rfl (ixA_of (ws := P.libs.map PLib.mv) rfl (atF_of (i := 0) gx0))) rfl (ixA_of (ws := [.str l0.own, .tup (strV l0.needs), .tup (pairV l0.defs), .tup (useV l0.uses)]) rfl (atF_of (i := 0) rfl))
  have F1 : ∀ o7, Pl 10 5 72303 b qq 2 (T8 b P.mv (.tup (P.libs.map PLib.mv)) (.tup (strV P.early)) (.tup (pairV P.doors)) (some (.int (i : Int))) (some (.str l.own)) o7) s1 (mcons (mtup (mcons (mop2 addW (mslice (mvar 2) (onone) (osome (mvar 5))) (mslice (mvar 2) (osome (mop2 addW (mvar 5) (mcon (.int 1)))) (onone))) (mcons (mvar 3) (mcons (mvar 4) (mnil))))) (mcons (mtup (mcons (mop2 addW (mvar 2) (mslice (mvar 2) (osome (mvar 5)) (osome (mop2 addW (mvar 5) (mcon (.int 1)))))) (mcons (mvar 3) (mcons (mvar 4) (mnil))))) (mnil))) := fun o7 =>
    pl_cons (pe_tri (by omega) (fun s' => op_e (sl_to (eL o7) rfl (by omega) (by omega) s') (sl_from (eL o7) rfl hi' (by omega) s') (add_tup (by rw [List.length_take, List.length_drop]; omega))) (eE o7) (eD o7) (fun s' x => tp (((all3 s').1.take i).append ((all3 s').1.drop (i + 1))) (by omega) (by rw [List.length_append, List.length_take, List.length_drop]; omega)) tE tD)
    (pl_cons (pe_tri (by omega) (fun s' => op_e (eL o7 s') (sl_mid (eL o7) rfl hi' (by omega) s') (add_tup (by rw [List.length_take, List.length_drop]; omega))) (eE o7) (eD o7) (fun s' x => tp ((all3 s').1.append (((all3 s').1.drop i).take 1)) (by omega) (by rw [List.length_append, List.length_take, List.length_drop]; omega)) tE tD) pl_nil)
  have F2 : ∀ o7, Pl 10 5 72303 b qq 3 (T8 b P.mv (.tup (P.libs.map PLib.mv)) (.tup (strV P.early)) (.tup (pairV P.doors)) (some (.int (i : Int))) (some (.str l.own)) o7) s1 (mcons (mtup (mcons (mrev (mvar 2)) (mcons (mvar 3) (mcons (mvar 4) (mnil))))) (mcons (mtup (mcons (mvar 2) (mcons (mop2 addW (mvar 3) (mtup (mcons (mvar 6) (mnil)))) (mcons (mvar 4) (mnil))))) (mcons (mtup (mcons (mvar 2) (mcons (mvar 3) (mcons (mop2 addW (mvar 4) (mtup (mcons (mtup (mcons (mvar 6) (mcons (mcon (.str x_global)) (mnil)))) (mnil)))) (mnil))))) (mnil)))) := fun o7 =>
    pl_cons (pe_tri (by omega) (rev_tup (eL o7) (by omega)) (eE o7) (eD o7) (fun s' x => tp (all3 s').1.rev (by omega) (by rw [List.length_reverse]; omega)) tE tD)
    (pl_cons (pe_tri (by omega) (eL o7) (fun s' => op_e (eE o7 s') (e_tup (e_cons (eO o7 s') rfl) (by simp)) (add_tup (by simp; omega))) (eD o7) tL (fun s' x => tp ((all3 s').2.1.append (one ((w1 s').mono (Nat.le_refl _) (by omega) (by omega)))) (by omega) (by simp; omega)) tD)
    (pl_cons (pe_tri (by omega) (eL o7) (eE o7) (fun s' => op_e (eD o7 s') (e_tup (e_cons (e_tup (e_cons (eO o7 s') (e_cons rfl rfl)) (by simp)) rfl) (by simp)) (add_tup (by simp; omega))) tL tE (fun s' x => tp ((all3 s').2.2.append (one (pair (w1 s') (wm (by simp) s')))) (by omega) (by simp; omega))) pl_nil))
  have F3 : ∀ o7, Pl 10 5 72303 b qq 2 (T8 b P.mv (.tup (P.libs.map PLib.mv)) (.tup (strV P.early)) (.tup (pairV P.doors)) (some (.int (i : Int))) (some (.str l.own)) o7) s1 (mcons (mtup (mcons (mvar 2) (mcons (mvar 3) (mcons (mop2 tmulW (mslice (mvar 4) (onone) (osome (mcon (.int 1)))) (mcon (.int 2))) (mnil))))) (mcons (mtup (mcons (mvar 2) (mcons (mtup (mcons (mop2 ixA (mop2 ixA (mvar 2) (mcon (.int 0))) (mcon (.int 0))) (mnil))) (mcons (mvar 4) (mnil))))) (mnil))) := fun o7 =>
    pl_cons (pe_tri (by omega) (eL o7) (eE o7) (fun s' => op_e (sl_one (eD o7) (by omega) (by omega) s') rfl (tmul2 (by rw [List.length_take]; omega) (by rw [List.length_take]; omega) s')) tL tE (fun s' x => tp (((all3 s').2.2.take 1).append ((all3 s').2.2.take 1)) (by omega) (by rw [List.length_append, List.length_take]; omega)))
    (pl_cons (pe_tri (by omega) (eL o7) (fun s' => e_tup (e_cons (eZ o7 s') rfl) (by simp)) (eD o7) tL (fun s' x => tp (one ((w0 s').mono (Nat.le_refl _) (by omega) (by omega))) (by omega) (by simp)) tD) pl_nil)
  have F4 : ∀ o7, Pl 10 5 72303 b qq 2 (T8 b P.mv (.tup (P.libs.map PLib.mv)) (.tup (strV P.early)) (.tup (pairV P.doors)) (some (.int (i : Int))) (some (.str l.own)) o7) s1 (mcons (mtup (mcons (mvar 2) (mcons (mvar 3) (mcons (mtup (mcons (mtup (mcons (mop2 ixA (mop2 ixA (mvar 2) (mcon (.int 0))) (mcon (.int 0))) (mcons (mcon (.str x_local)) (mnil)))) (mnil))) (mnil))))) (mcons (mtup (mcons (mvar 2) (mcons (mvar 3) (mcons (mtup (mcons (mtup (mcons (mvar 6) (mcons (mcon (.str x_deepest)) (mnil)))) (mnil))) (mnil))))) (mnil))) := fun o7 =>
    pl_cons (pe_tri (by omega) (eL o7) (eE o7) (fun s' => e_tup (e_cons (e_tup (e_cons (eZ o7 s') (e_cons rfl rfl)) (by simp)) rfl) (by simp)) tL tE (fun s' x => tp (one (pair (w0 s') (wm (by simp) s'))) (by omega) (by simp)))
    (pl_cons (pe_tri (by omega) (eL o7) (eE o7) (fun s' => e_tup (e_cons (e_tup (e_cons (eO o7 s') (e_cons rfl rfl)) (by simp)) rfl) (by simp)) tL tE (fun s' x => tp (one (pair (w1 s') (wm (by simp) s'))) (by omega) (by simp))) pl_nil)
  refine wp_seq ((set7_new hb (by omega) (F1 none) s1 Ex0.refl).mono fun y hy => ?_)
  obtain ⟨fl, r2, s2⟩ := y
  obtain ⟨e, u2, ws2, e2, n2, p2, x2⟩ := hy
  simp only at e e2 p2 x2
  subst e e2
  refine ⟨rfl, wp_seq ((set7_add hb (by omega) (by omega) rfl (F2 (some u2)) s2 x2 p2).mono fun y hy => ?_)⟩
  obtain ⟨fl, r3, s3⟩ := y
  obtain ⟨e, u3, ws3, e3, n3, p3, x3⟩ := hy
  simp only at e e3 p3 x3
  subst e e3
  have x13 := x2.trans x3
  refine ⟨rfl, wp_seq ((set7_add hb (by omega) (by omega) rfl (F3 (some u3)) s3 x13 p3).mono fun y hy => ?_)⟩
  obtain ⟨fl, r4, s4⟩ := y
  obtain ⟨e, u4, ws4, e4, n4, p4, x4⟩ := hy
  simp only at e e4 p4 x4
  subst e e4
  have x14 := x13.trans x4
  refine ⟨rfl, wp_seq ((set7_add hb (by omega) (by omega) rfl (F4 (some u4)) s4 x14 p4).mono fun y hy => ?_)⟩
  obtain ⟨fl, r5, s5⟩ := y
  obtain ⟨e, u5, ws5, e5, n5, p5, x5⟩ := hy
  simp only at e e5 p5 x5
  subst e e5
  have x15 := x14.trans x5
  refine ⟨rfl, ?_⟩
  unfold sret
  rw [wp_om]
  refine wp_callE (vs := [.ref b, u5]) (e_cons rfl (e_cons rfl rfl)) ?_
  refine (pick_sp (b1.ex0 x15) (by omega) (Or.inr p5.it) (fun z => by rw [z] at n5; simp at n5) (by omega)).mono fun z hz => ?_
  obtain ⟨hz1, _, hz3, hz4⟩ := hz
  exact ⟨_, rfl, (p5.ok _ hz1).ext hz3, x1.trans (x15.ext.trans hz3), hz4⟩
end

end
section
/-! ### all that is made of one drawn program -/
section
variable {b qq m0 : Nat} {s : Ms} {P : Plot} {o1 o2 o3 o4 o5 o6 o7 o8 o9 o10 o11 o12 o13 : Option Mv}
theorem app_at {n i : Nat} {ws : List Mv} {A : Fe} {r : Me} {j : Nat} (hr : r[i]? = some (some (.ref n))) (p : PB b n s (.ref n) ws) (hl : ws.length ≤ 10000) (hA : Wp (A r s) fun x => Ok 20 10 500000 b n x.2 x.1 ∧ Ext b s x.2 ∧ Bx' x.2 b j) : Wp (sexp (mbmL appW (mvar i) (mcons A mnil)) r s) fun y => y.1 = .nx ∧ y.2.1 = r ∧ ∃ w, PB b n y.2.2 (.ref n) (ws ++ [w]) ∧ Bx' y.2.2 b j := by
  refine wp_exp ?_
  obtain ⟨n', e, n1, n2, g⟩ := p.it
  cases e
  refine wp_app (mvar_t hr) g (wp_mcons (hA.mono fun x hx => wp_mnil ?_))
  obtain ⟨ok, x1, b1⟩ := hx
  refine ⟨x.1, ws, rfl, x1.at n1 n2 g, by omega, rfl, rfl, x.1, ?_, b1.put n2⟩
  have p1 := p.ext x1
  refine ⟨⟨n, rfl, by rw [put_sz]; exact Nat.lt_of_lt_of_le n1 x1.sz, n2, by rw [put_get', if_pos rfl]⟩, fun w hw => ?_⟩
  rcases List.mem_append.mp hw with hw | hw
  · exact (p1.ok w hw).putq
  · rw [List.mem_singleton.mp hw]
    exact ok.putq
theorem turned_lc {n : Nat} (h : Bx' s b m0) (hm : m0 + 100 < 1000000) (pk : PlotOk 4 3 P) (hn : n < s.sz) : Wp (mlc (miR1 (mcons (mcon (.int 12)) (mnil))) (.nm 7) (myes) (mcall m__law_turned (mcons (mvar 0) (mcons (mvar 6) (mnil)))) [7] (E14 b o1 o2 o3 o4 o5 (some P.mv) o7 o8 o9 o10 o11 o12 o13) s) fun y => ∃ ws, ws.length = 12 ∧ Pool 20 10 500000 b n y.2 y.1 ws ∧ Ext b s y.2 ∧ Bx' y.2 b (m0 + 24) := by
  refine wp_lc (.of (x := (.rng 0 12, s)) rfl ?_)
  refine (wp_flat (rngL 0 12) (fun i acc s' => acc.length = i ∧ (∀ w ∈ acc, Ok 10 5 72303 b n s' w) ∧ Ext b s s' ∧ Bx' s' b (m0 + 2 * i)) (fun i acc s' _ _ => gives_rng) ?_ 1000000000 0 [] s (by rw [rngL_len]; omega) (by omega) ⟨rfl, (fun _ z => nomatch z), Ext.refl, h⟩).mono ?_
  · rintro i w acc s' hw ⟨la, oa, xx, bb⟩
    obtain ⟨hi, rfl⟩ := rngL_get hw
    refine step_q rfl (wp_callE (vs := [.ref b, P.mv]) (e_cons rfl (e_cons rfl rfl)) ?_)
    refine (turned_sp bb (by omega) pk (Nat.lt_of_lt_of_le hn xx.sz)).mono fun z hz => ?_
    obtain ⟨z1, z2, z3⟩ := hz
    refine ⟨by rw [List.length_append, la]; rfl, fun w hw => ?_, xx.trans z2, z3⟩
    rcases List.mem_append.mp hw with hw | hw
    · exact (oa w hw).ext z2
    · rw [List.mem_singleton.mp hw]; exact z1
  rintro ⟨acc, s2⟩ ⟨la, oa, xx, bb⟩
  simp only [List.nil_append] at la oa xx bb
  rw [rngL_len] at la bb
  have hb := bb.lt
  have hs := xx.sz
  refine ⟨show acc.length ≤ 16777216 by omega, acc, la, ⟨⟨s2.sz, rfl, show s2.sz < (push s2 (.lst acc)).sz by rw [push_sz]; omega, show s2.sz ≠ b by omega, Ms.get_push (s := s2)⟩, fun w hw => ?_⟩, xx.trans (Ex0.push (s := s2)).ext, bb.ex0 Ex0.push⟩
  exact ((oa w hw).ex0 (Ex0.push (s := s2))).mono (by omega) (by omega) (by omega)
theorem bends28 {n : Nat} {ws : List Mv} (pk : PlotOk 4 3 P) (p : PB b n s (.ref n) ws) (hw : ws.length ≤ 5000) (h : Bx' s b m0) (hm : m0 + 3000 < 1000000) : Wp (sfor (miR1 (mcons (mcon (.int 28)) (mnil))) (.nm 7) (sseq (sset 8 (mcall (m__law_bent 12) (mcons (mvar 0) (mcons (mvar 6) (mnil)))))
  (sexp (mbmL appW (mvar 2) (mcons (mif (mtB (mop2 eqW (mcall m__law_take (mcons (mvar 0) (mcons (mcon (.int 3)) (mnil)))) (mcon (.int 0)))) (mcall (m__law_bent 12) (mcons (mvar 0) (mcons (mvar 8) (mnil)))) (mvar 8)) (mnil))))) (E14 b o1 (some (.ref n)) o3 o4 o5 (some P.mv) o7 o8 o9 o10 o11 o12 o13) s) fun y => y.1 = .nx ∧ ∃ o7 o8 ws', y.2.1 = E14 b o1 (some (.ref n)) o3 o4 o5 (some P.mv) o7 o8 o9 o10 o11 o12 o13 ∧ ws'.length = ws.length + 28 ∧ PB b n y.2.2 (.ref n) ws' ∧ Bx' y.2.2 b (m0 + 2100) := by
  refine wp_for (.of (x := (.rng 0 28, s)) rfl ?_)
  refine (wp_loop (rngL 0 28) (fun i r s' => ∃ o7 o8 ws', r = E14 b o1 (some (.ref n)) o3 o4 o5 (some P.mv) o7 o8 o9 o10 o11 o12 o13 ∧ ws'.length = ws.length + i ∧ PB b n s' (.ref n) ws' ∧ Bx' s' b (m0 + 75 * i)) (fun i r s' _ _ => gives_rng) ?_ 1000000000 0 _ s (by rw [rngL_len]; omega) (by omega) ⟨o7, o8, ws, rfl, rfl, p, h⟩).mono ?_
  · rintro i w r s' hw' ⟨o7, o8, ws', rfl, l', p', h'⟩
    obtain ⟨hi, rfl⟩ := rngL_get hw'
    refine ⟨_, rfl, ?_⟩
    show Wp (sseq _ _ (E14 b o1 (some (.ref n)) o3 o4 o5 (some P.mv) (some (.int (0 + (i : Int)))) o8 o9 o10 o11 o12 o13) s') _
    have nlt : n < s'.sz := by obtain ⟨n', e, n1, _⟩ := p'.it; cases e; exact n1
    have b1 := bent_sp (W := 10) (qq := n) 12 h' (by omega) (ok_plot pk) (by omega) (by omega) (by omega) (by omega) nlt
    refine wp_seq (wp_set (wp_callE (vs := [.ref b, P.mv]) (e_cons rfl (e_cons rfl rfl)) ?_))
    refine b1.mono fun y hy => ⟨rfl, ?_⟩
    obtain ⟨v, s1⟩ := y
    obtain ⟨ok1, x1, bx1⟩ := hy
    simp only at ok1 x1 bx1
    show Wp (sexp _ (E14 b o1 (some (.ref n)) o3 o4 o5 (some P.mv) (some (.int (0 + (i : Int)))) (some v) o9 o10 o11 o12 o13) s1) _
    refine (app_at (i := 2) (j := m0 + 75 * (i + 1)) rfl (p'.ext x1) (by omega) ?_).mono fun y hy => ?_
    · unfold mif mtB mop2
      rw [wp_ob, wp_ob, wp_ob]
      refine wp_callE (vs := [.ref b, .int 3]) (e_cons rfl (e_cons rfl rfl)) ?_
      refine (take_sp bx1 (by omega) (k := 3) (by omega) (by omega)).mono fun z hz => ?_
      obtain ⟨jj, e, j0, j1, z1, z2, z3⟩ := hz
      rw [e, wp_ob]
      refine .of (x := (.int 0, z.2)) rfl ?_
      dsimp only
      refine .of eq_int ?_
      dsimp only
      refine .of rfl ?_
      dsimp only
      cases hc : decide (jj = 0) with
      | true =>
        rw [cond_true]
        refine wp_callE (vs := [.ref b, v]) (e_cons rfl (e_cons rfl rfl)) ?_
        refine (bent_sp (W := 11) (qq := n) 12 z3 (by omega) (ok1.ext z2) (by omega) (by omega) (by omega) (by omega) (Nat.lt_of_lt_of_le nlt (by rw [z1]; exact x1.sz))).mono fun q hq => ?_
        exact ⟨hq.1.mono (by omega) (by omega) (by omega), z2.trans hq.2.1, hq.2.2.mono (by omega)⟩
      | false =>
        rw [cond_false]
        exact .of (x := (v, z.2)) rfl ⟨(ok1.ext z2).mono (by omega) (by omega) (by omega), z2, z3.mono (by omega)⟩
    · obtain ⟨e, er, w, p2, b2⟩ := hy
      exact ⟨e, _, _, ws' ++ [w], er, by rw [List.length_append, l']; rfl, p2, b2⟩
  · rintro ⟨fl, r, s'⟩ ⟨e, o7, o8, ws', e1, l', p', h'⟩
    rw [rngL_len] at l' h'
    exact ⟨e, o7, o8, ws', e1, l', p', h'⟩
end

end
section
section
variable {b qq m0 : Nat} {s : Ms} {r : Me} {P : Plot} {o1 o2 o3 o4 o5 o6 o7 o8 o9 o10 o11 o12 o13 : Option Mv}
theorem wp_mop2 {f : Mv → Mv → Ms → Option (Mv × Ms)} {A B : Fe} {Q : Mv × Ms → Prop} (h : Wp (A r s) fun x => Wp (B r x.2) fun y => Wp (f x.1 y.1 y.2) Q) : Wp (mop2 f A B r s) Q := by
  unfold mop2
  rw [wp_ob]
  refine h.mono fun x hx => ?_
  rw [wp_ob]
  exact hx
theorem set2_plot {n : Nat} {ws : List Mv} (pk : PlotOk 4 3 P) (p : PB b n s (.ref n) ws) (hw : ws.length ≤ 500) (h : Bx' s b m0) (hm : m0 + 1000 < 1000000) :
    Wp (sset 2 (mop2 addW (mop2 addW (mvar 2) (mlst (mcons (mvar 6) (mcons (mcall (m__law_lists 8) (mcons (mvar 6) (mnil))) (mcons (mcall listW (mcons (mvar 6) (mnil))) (mnil)))))) (mlc (miR1 (mcons (mcon (.int 12)) (mnil))) (.nm 7) (myes) (mcall m__law_turned (mcons (mvar 0) (mcons (mvar 6) (mnil)))) [7])) (E14 b o1 (some (.ref n)) o3 o4 o5 (some P.mv) o7 o8 o9 o10 o11 o12 o13) s)
      fun y => y.1 = .nx ∧ ∃ n' ws', y.2.1 = E14 b o1 (some (.ref n')) o3 o4 o5 (some P.mv) o7 o8 o9 o10 o11 o12 o13 ∧ ws'.length = ws.length + 15 ∧ PB b n' y.2.2 (.ref n') ws' ∧ Bx' y.2.2 b (m0 + 24) := by
  have hb := h.lt
  have nlt : n < s.sz := by obtain ⟨n', e, n1, _⟩ := p.it; cases e; exact n1
  have P3 : Pl 20 10 500000 b n 3 (E14 b o1 (some (.ref n)) o3 o4 o5 (some P.mv) o7 o8 o9 o10 o11 o12 o13) s (mcons (mvar 6) (mcons (mcall (m__law_lists 8) (mcons (mvar 6) (mnil))) (mcons (mcall listW (mcons (mvar 6) (mnil))) (mnil)))) := by
    refine pl_cons (fun s' x => .of rfl ⟨Ex0.refl, (ok_plot pk).mono (by omega) (by omega) (by omega)⟩) (pl_cons (fun s' x => wp_call1 (.of rfl ?_)) (pl_cons (fun s' x => wp_call1 (.of rfl ?_)) pl_nil))
    · exact (lists_ok 8 (ok_plot pk) (by omega) (by omega) (Nat.lt_of_lt_of_le hb x.sz) (Nat.lt_of_lt_of_le nlt x.sz)).mono fun y hy => ⟨hy.2, hy.1.mono (by omega) (by omega) (by omega)⟩
    · have ol := ok_plot (b := b) (qq := n) (s := s') pk
      obtain ⟨k1, lw, oo⟩ := ol.untup
      unfold listW
      dsimp only
      refine .of (x := (.ref s'.sz, push s' (.lst [.tup (P.libs.map PLib.mv), .tup (strV P.early), .tup (pairV P.doors)]))) ?_ ⟨Ex0.push, ?_⟩
      · show newL _ s' = _
        exact newL_of (by simp)
      · have z := (oo.ex0 (Ex0.push (o := .lst [.tup (P.libs.map PLib.mv), .tup (strV P.early), .tup (pairV P.doors)]))).lst (n := s'.sz) (by simp) (by rw [push_sz]; omega) ⟨by have := x.sz; omega, by have := x.sz; omega⟩ Ms.get_push
        exact z.mono (by omega) (by omega) (by omega)
  refine wp_set (wp_mop2 (wp_mop2 (.of (x := (.ref n, s)) rfl ((pl_lst P3 (by omega) hb s Ex0.refl).mono fun y hy => ?_))))
  obtain ⟨x1, ws1, l1, p1⟩ := hy
  refine (pool_addq (p.ex0 x1) p1 (by omega) (Nat.lt_of_lt_of_le hb x1.sz)).mono fun y2 hy => ?_
  obtain ⟨x2, e2, z2, p2⟩ := hy
  obtain ⟨v2, s2⟩ := y2
  simp only at x2 e2 z2 p2
  subst e2
  have b2 := (h.ex0 x1).ex0 x2
  refine (turned_lc (n := y.2.sz) b2 (by omega) pk (by omega)).mono fun y3 hy => ?_
  obtain ⟨ws3, l3, p3, x3, b3⟩ := hy
  refine (pool_addq (p2.ext x3) p3 (by rw [List.length_append]; omega) b3.lt).mono fun y4 hy => ?_
  obtain ⟨x4, e4, z4, p4⟩ := hy
  refine ⟨rfl, y3.2.sz, ws ++ ws1 ++ ws3, ?_, by rw [List.length_append, List.length_append]; omega, p4, b3.ex0 x4⟩
  show E14 b o1 (some y4.1) o3 o4 o5 (some P.mv) o7 o8 o9 o10 o11 o12 o13 = _
  rw [e4]
theorem lap_plot {n : Nat} {ws : List Mv} (p : PB b n s (.ref n) ws) (hw : ws.length ≤ 500) (h : Bx' s b m0) (hm : m0 + 4000 < 1000000) :
    Wp ((sseq (sset 6 (mcall m__law_program (mcons (mvar 0) (mcons (mcon (.int 4)) (mcons (mcon (.int 3)) (mnil))))))
  (sseq (sif (mnot (mtst (mcall m__law_same (mcons (mlst (mcons (mcall m_is_program (mcons (mvar 6) (mnil))) (mcons (mcall m__law_is_due (mcons (mvar 6) (mnil))) (mnil)))) (mcons (mlst (mcons (mcon (.bl true)) (mcons (mcon (.bl true)) (mnil)))) (mnil)))))) (sret (mcon (.bl false))) (snx))
  (sseq (sset 2 (mop2 addW (mop2 addW (mvar 2) (mlst (mcons (mvar 6) (mcons (mcall (m__law_lists 8) (mcons (mvar 6) (mnil))) (mcons (mcall listW (mcons (mvar 6) (mnil))) (mnil)))))) (mlc (miR1 (mcons (mcon (.int 12)) (mnil))) (.nm 7) (myes) (mcall m__law_turned (mcons (mvar 0) (mcons (mvar 6) (mnil)))) [7])))
  (sfor (miR1 (mcons (mcon (.int 28)) (mnil))) (.nm 7) (sseq (sset 8 (mcall (m__law_bent 12) (mcons (mvar 0) (mcons (mvar 6) (mnil)))))
  (sexp (mbmL appW (mvar 2) (mcons (mif (mtB (mop2 eqW (mcall m__law_take (mcons (mvar 0) (mcons (mcon (.int 3)) (mnil)))) (mcon (.int 0)))) (mcall (m__law_bent 12) (mcons (mvar 0) (mcons (mvar 8) (mnil)))) (mvar 8)) (mnil)))))))))  (E14 b o1 (some (.ref n)) o3 o4 o5 o6 o7 o8 o9 o10 o11 o12 o13) s)
      fun y => y.1 = .nx ∧ ∃ n' o6 o7 o8 ws', y.2.1 = E14 b o1 (some (.ref n')) o3 o4 o5 o6 o7 o8 o9 o10 o11 o12 o13 ∧ ws'.length = ws.length + 43 ∧ PB b n' y.2.2 (.ref n') ws' ∧ Bx' y.2.2 b (m0 + 3000) := by
  refine wp_seq (wp_set (wp_callE (vs := [.ref b, .int 4, .int 3]) (e_cons rfl (e_cons rfl (e_cons rfl rfl))) ?_))
  refine Wp.mono (program_sp (most := 4) (gates := 3) h (by omega) (by omega) (by omega) (by omega) (by omega)) fun y hy => ?_
  obtain ⟨v, s1⟩ := y
  obtain ⟨P, e, pk, x1, b1⟩ := hy
  simp only at e x1 b1
  subst e
  refine ⟨rfl, ?_⟩
  show Wp _ _
  have p1 := p.ext x1
  have lv : ∀ s', Vd 10 b n s' P.mv (plotY P) := fun s' => vd_plot pk
  have dp : PyData.depth (plotY P) < 20 := by have := (sd_plot pk).dp; omega
  have S := same2 (r := E14 b o1 (some (.ref n)) o3 o4 o5 (some P.mv) o7 o8 o9 o10 o11 o12 o13) (s := s1) (A := mcall m_is_program (mcons (mvar 6) (mnil))) (B := mcall m__law_is_due (mcons (mvar 6) (mnil))) (C := mcon (.bl true)) (D := mcon (.bl true)) (x := true) (y := true)
    (fun s' _ => wp_call1 (.of rfl (by have := prog_vd (lv s') (by omega) (by omega) (by omega); rw [prog_plot pk] at this; exact this))) (fun s' _ => wp_call1 (.of rfl (by have := dueP_vd (lv s') (by omega) (by omega) dp; rw [prog_plot pk] at this; exact this))) (fun s' _ => ⟨_, rfl, rfl, Ex0.refl⟩) (fun s' _ => ⟨_, rfl, rfl, Ex0.refl⟩)
  refine wp_seq (wp_siff ?_)
  refine (not_sp (mt_tl S)).mono fun z hz => ⟨hz.1, .of rfl ⟨rfl, ?_⟩⟩
  refine wp_seq ((set2_plot pk (p1.ex0 hz.2) hw (b1.ex0 hz.2) (by omega)).mono fun y hy => ?_)
  obtain ⟨fl, r2, s2⟩ := y
  obtain ⟨e, n2, ws2, e2, l2, p2, b2⟩ := hy
  simp only at e e2 p2 b2
  subst e e2
  refine ⟨rfl, (bends28 pk p2 (by omega) b2 (by omega)).mono fun y hy => ?_⟩
  obtain ⟨e, o7, o8, ws', e1, l3, p3, b3⟩ := hy
  exact ⟨e, n2, _, o7, o8, ws', e1, by omega, p3, b3.mono (by omega)⟩
/-- all values, looked at by both -/
theorem last_loop {n : Nat} {ws : List Mv} (p : PB b n s (.ref n) ws) (hw : ws.length ≤ 5000) : Wp (sfor (miS (mvar 2)) (.nm 9) (sseq (spar 10 11 (mcons (mcall reprX (mcons (mvar 9) (mnil))) (mcons (mcall m__law_is_due (mcons (mvar 9) (mnil))) (mnil))))
  (sif (mor (mnot (mtst (mcall m__law_same (mcons (mlst (mcons (mcall m_is_program (mcons (mvar 9) (mnil))) (mcons (mcall m_is_program (mkw [0] (mcons (mvar 9) (mnil)))) (mnil)))) (mcons (mlst (mcons (mvar 11) (mcons (mvar 11) (mnil)))) (mnil)))))) (mtB (mop2 neW (mcall reprX (mcons (mvar 9) (mnil))) (mvar 10)))) (sret (mcon (.bl false))) (snx))) (E14 b o1 (some (.ref n)) o3 o4 o5 o6 o7 o8 o9 o10 o11 o12 o13) s) fun y => y.1 = .nx ∧ Ex0 s y.2.2 := by
  obtain ⟨n', e, n1, n2, g⟩ := p.it
  cases e
  refine wp_for (wp_S' (.of (x := (.ref n, s)) rfl ⟨ws, items_ref g, fun it gi => ?_⟩))
  refine (wp_loop ws (fun i r s' => ∃ o9 o10 o11, r = E14 b o1 (some (.ref n)) o3 o4 o5 o6 o7 o8 o9 o10 o11 o12 o13 ∧ Ex0 s s') (fun i r s' _ ⟨_, _, _, _, x⟩ => gi s' (items_ref (x.at n1 g))) ?_ 1000000000 0 _ s (by omega) (by omega) ⟨o9, o10, o11, rfl, Ex0.refl⟩).mono ?_
  · rintro i w r s' hwi ⟨o9, o10, o11, rfl, x⟩
    refine ⟨_, rfl, ?_⟩
    show Wp (sseq _ _ (E14 b o1 (some (.ref n)) o3 o4 o5 o6 o7 o8 (some w) o10 o11 o12 o13) s') _
    have ow : Ok 20 10 500000 b n s' w := (p.ok w (List.mem_of_getElem? hwi)).ex0 x
    obtain ⟨t, rt⟩ := repr_ok ow (by omega) (by omega)
    obtain ⟨d, vd, sd⟩ := ow
    have dp : PyData.depth d < 20 := by have := sd.dp; omega
    have D := dueP_vd vd (by omega) (by omega) dp
    refine wp_seq (Wp.mono (Q := fun y => y.1 = .nx ∧ y.2.1 = E14 b o1 (some (.ref n)) o3 o4 o5 o6 o7 o8 (some w) (some (.str t)) (some (.bl (progD d))) o12 o13 ∧ Ex0 s' y.2.2) ?_ ?_)
    · unfold spar
      rw [wp_ob]
      refine wp_mcons (wp_call1 (.of rfl (.of (rt s' Ex0.refl) (wp_mcons (wp_call1 (.of rfl ?_))))))
      show Wp (m__law_is_due [w] s') _
      refine D.mono fun z hz => wp_mnil (.of rfl ⟨rfl, ?_, hz.2⟩)
      show E14 b o1 (some (.ref n)) o3 o4 o5 o6 o7 o8 (some w) (some (.str t)) (some z.1) o12 o13 = _
      rw [hz.1]
    rintro ⟨fl, r2, s2⟩ ⟨e, e1, x2⟩
    simp only at e e1 x2
    subst e e1
    refine ⟨rfl, wp_siff ?_⟩
    have S := same2 (r := E14 b o1 (some (.ref n)) o3 o4 o5 o6 o7 o8 (some w) (some (.str t)) (some (.bl (progD d))) o12 o13) (s := s2) (A := mcall m_is_program (mcons (mvar 9) (mnil))) (B := mcall m_is_program (mkw [0] (mcons (mvar 9) (mnil)))) (C := mvar 11) (D := mvar 11) (x := progD d) (y := progD d)
      (fun s3 x3 => wp_call1 (.of rfl (prog_vd ((vd.ex0 x2).ex0 x3) (by omega) (by omega) (by omega)))) (fun s3 x3 => (by
        show Wp (((mkw [0] (mcons (mvar 9) (mnil))) _ s3).ob fun x => m_is_program x.1 x.2) _
        rw [show (mkw [0] (mcons (mvar 9) (mnil))) (E14 b o1 (some (.ref n)) o3 o4 o5 o6 o7 o8 (some w) (some (.str t)) (some (.bl (progD d))) o12 o13) s3 = some ([w], s3) from rfl, ob_of]
        exact prog_vd ((vd.ex0 x2).ex0 x3) (by omega) (by omega) (by omega))) (fun s3 _ => ⟨_, rfl, rfl, Ex0.refl⟩) (fun s3 _ => ⟨_, rfl, rfl, Ex0.refl⟩)
    refine wp_orf ((not_sp (mt_tl S)).mono fun z hz => ⟨hz.1, ?_⟩)
    refine .of (x := (false, z.2)) (b_of (op_e (u := .str t) (v := .str t) ?_ rfl (by rw [ne_str]; simp))) ⟨rfl, .of rfl ⟨rfl, _, _, _, rfl, x.trans (x2.trans hz.2)⟩⟩
    show (reprX [w] z.2) = _
    exact rt z.2 (x2.trans hz.2)
  · rintro ⟨fl, r, s'⟩ ⟨e, o9, o10, o11, e1, x⟩
    exact ⟨e, x⟩
end

end
section
section
variable {b qq m : Nat} {s : Ms} {r : Me} {o1 o2 o3 o4 o5 o6 o7 o8 o9 o10 o11 o12 o13 : Option Mv}
theorem lst_new {j : Nat} {A : Fa} (hb : b < s.sz) (hj : j ≤ 100) (hA : Pl 20 10 500000 b b j r s A) : Wp (mlst A r s) fun y => ∃ n ws, y.1 = .ref n ∧ ws.length = j ∧ PB b n y.2 (.ref n) ws ∧ Ex0 s y.2 := by
  unfold mlst
  rw [wp_ob]
  refine (hA s Ex0.refl).mono fun y hy => ?_
  rw [wp_newL (by rw [hy.2.1]; omega)]
  have := hy.1.sz
  exact ⟨y.2.sz, y.1, rfl, hy.2.1, ⟨⟨y.2.sz, rfl, by rw [push_sz]; omega, by omega, Ms.get_push⟩, fun w hw => ((hy.2.2 w hw).fresh (Nat.le_refl _)).ex0 Ex0.push⟩, hy.1.trans Ex0.push⟩
def bareM : Mv := .tup [.tup [.str x_main, .tup [], .tup [], .tup []]]
theorem bare_ok : cloB 20 10 500000 (.tup [bareM, .tup [], .tup []]) = true ∧ cloB 20 10 500000 (.tup [bareM, .tup []]) = true := ⟨by decide +kernel, by decide +kernel⟩
theorem right_sp (h : Bx' s b m) (hm : m + 10000 < 1000000) : Wp (m__law_right [.ref b] s) fun x => x.1 = .bl true ∧ Bx' x.2 b (m + 10000) := by
  refine wp_fn (E14 b none none none none none none none none none none none none none) rfl rfl ?_
  unfold bd__law_right
  have hb := h.lt
  refine wp_seq (wp_set (.of (x := (bareM, s)) rfl ⟨rfl, ?_⟩))
  have A0 : Pl 20 10 500000 b b 10 (E14 b (some bareM) none none none none none none none none none none none none) s (mcons (mcon .non) (mcons (mcon (.bl true)) (mcons (mcon (.int 0)) (mcons (mcon (.str x_)) (mcons (mtup (mnil)) (mcons (mlst (mnil)) (mcons (mtup (mcons (mtup (mnil)) (mcons (mtup (mnil)) (mcons (mtup (mnil)) (mnil))))) (mcons (mtup (mcons (mvar 1) (mcons (mtup (mnil)) (mcons (mtup (mnil)) (mnil))))) (mcons (mtup (mcons (mvar 1) (mcons (mtup (mnil)) (mnil)))) (mcons (mcon (.str x_main)) (mnil))))))))))) :=
    pl_cons (pe_clo (w := .non) (E := mcon .non) (fun _ _ => rfl) (by decide +kernel)) (pl_cons (pe_clo (w := .bl true) (E := mcon (.bl true)) (fun _ _ => rfl) (by decide +kernel)) (pl_cons (pe_clo (w := .int 0) (E := mcon (.int 0)) (fun _ _ => rfl) (by decide +kernel)) (pl_cons (pe_clo (w := .str x_) (E := mcon (.str x_)) (fun _ _ => rfl) (by decide +kernel)) (pl_cons (pe_clo (w := .tup []) (E := mtup (mnil)) (fun _ _ => rfl) (by decide +kernel)) (pl_cons (pe_of (n := b) (okE_lst (k := 0) okA_nil (by omega) (by omega)) hb hb (by omega) (by omega)) (pl_cons (pe_clo (w := .tup [.tup [], .tup [], .tup []]) (E := mtup (mcons (mtup (mnil)) (mcons (mtup (mnil)) (mcons (mtup (mnil)) (mnil))))) (fun _ _ => rfl) (by decide +kernel)) (pl_cons (pe_val (w := .tup [bareM, .tup [], .tup []]) (fun _ => rfl) fun _ _ => cloB_ok bare_ok.1) (pl_cons (pe_val (w := .tup [bareM, .tup []]) (fun _ => rfl) fun _ _ => cloB_ok bare_ok.2) (pl_cons (pe_clo (w := .str x_main) (E := mcon (.str x_main)) (fun _ _ => rfl) (by decide +kernel)) pl_nil)))))))))
  refine wp_seq (wp_set ((lst_new hb (by omega) A0).mono fun y hy => ?_))
  obtain ⟨v1, s1⟩ := y
  obtain ⟨n1, ws1, e1, l1, p1, x1⟩ := hy
  simp only at e1 p1 x1
  subst e1
  refine ⟨rfl, ?_⟩
  -- the great program
  refine wp_seq ((set_folk (o1 := some bareM) (o2 := some (.ref n1))).mono fun y hy => ?_)
  obtain ⟨fl, r2, s2⟩ := y
  obtain ⟨e, n2, e2, n2lt, g2, x2⟩ := hy
  simp only at e e2 n2lt g2 x2
  subst e e2
  refine ⟨rfl, wp_seq ((set_libs (o1 := some bareM) (o2 := some (.ref n1)) n2lt g2).mono fun y hy => ?_)⟩
  obtain ⟨fl, r3, s3⟩ := y
  obtain ⟨e, e3, x3⟩ := hy
  simp only at e e3 x3
  subst e e3
  refine ⟨rfl, wp_seq ((set_great (o1 := some bareM) (o2 := some (.ref n1)) (Nat.lt_of_lt_of_le n2lt x3.sz) (x3.at n2lt g2) rfl).mono fun y hy => ?_)⟩
  obtain ⟨fl, r4, s4⟩ := y
  obtain ⟨e, e4, x4⟩ := hy
  simp only at e e4 x4
  subst e e4
  refine ⟨rfl, ?_⟩
  have x14 := x2.trans (x3.trans x4)
  have p4 := p1.ex0 x14
  have b4 : Bx' s4 b m := h.ex0 (x1.trans x14)
  have gv : Vd 20 b b s4 greatM greatD := clo_vd _ great_clo.2
  have G := prog_vd gv (by omega) (by omega) (by have := great_dep; omega)
  rw [great_prog] at G
  refine wp_seq (wp_siff ?_)
  have G2 : Wp ((mtB (mop2 (isBW true) (mcall m_is_program (mcons (mvar 4) (mnil))) (mcon (.bl true)))) (E14 b (some bareM) (some (.ref n1)) (some (.ref n2)) (some greatM) none none none none none none none none none) s4) fun y => y.1 = false ∧ Ex0 s4 y.2 := by
    unfold mtB mop2
    rw [wp_ob, wp_ob]
    refine wp_call1 (.of rfl ?_)
    refine Wp.mono G fun z hz => ?_
    rw [hz.1, wp_ob]
    exact .of (x := (.bl true, z.2)) rfl (.of rfl (.of rfl ⟨rfl, hz.2⟩))
  refine G2.mono fun z hz => ⟨hz.1, .of rfl ⟨rfl, ?_⟩⟩
  obtain ⟨z1, s5⟩ := z
  obtain ⟨_, x5⟩ := hz
  simp only at x5
  have p5 := p4.ex0 x5
  have b5 := b4.ex0 x5
  refine wp_seq ((app_at (i := 2) (j := m) rfl p5 (by omega) (.of (x := (greatM, s5)) rfl ⟨cloB_ok great_clo.1, Ext.refl, b5⟩)).mono fun y hy => ?_)
  obtain ⟨fl, r6, s6⟩ := y
  obtain ⟨e, e6, w6, p6, b6⟩ := hy
  simp only at e e6 p6 b6
  subst e e6
  refine ⟨rfl, ?_⟩
  -- two drawn programs
  refine wp_seq (Wp.mono (Q := fun y => y.1 = .nx ∧ ∃ n o5 o6 o7 o8 ws, y.2.1 = E14 b (some bareM) (some (.ref n)) (some (.ref n2)) (some greatM) o5 o6 o7 o8 none none none none none ∧ ws.length ≤ 200 ∧ PB b n y.2.2 (.ref n) ws ∧ Bx' y.2.2 b (m + 10000)) ?_ ?_)
  · refine wp_for (.of (x := (.rng 0 2, s6)) rfl ?_)
    refine (wp_loop (rngL 0 2) (fun i r s' => ∃ n o5 o6 o7 o8 ws, r = E14 b (some bareM) (some (.ref n)) (some (.ref n2)) (some greatM) o5 o6 o7 o8 none none none none none ∧ ws.length = 11 + 43 * i ∧ PB b n s' (.ref n) ws ∧ Bx' s' b (m + 3000 * i)) (fun i r s' _ _ => gives_rng) ?_ 1000000000 0 _ s6 (by rw [rngL_len]; omega) (by omega) ⟨n1, none, none, none, none, ws1 ++ [w6], rfl, by rw [List.length_append, l1]; rfl, p6, b6⟩).mono ?_
    · rintro i w r s' hw ⟨n, o5, o6, o7, o8, ws, rfl, lw, pp, bb⟩
      obtain ⟨hi, rfl⟩ := rngL_get hw
      refine ⟨_, rfl, ?_⟩
      refine (lap_plot pp (by omega) bb (by omega)).mono fun y hy => ?_
      obtain ⟨e, n', o6, o7, o8, ws', e1, l', p', b'⟩ := hy
      exact ⟨e, n', _, o6, o7, o8, ws', e1, by omega, p', b'.mono (by omega)⟩
    · rintro ⟨fl, r, s'⟩ ⟨e, n, o5, o6, o7, o8, ws, e1, lw, pp, bb⟩
      rw [rngL_len] at lw bb
      exact ⟨e, n, o5, o6, o7, o8, ws, e1, by omega, pp, bb.mono (by omega)⟩
  rintro ⟨fl, r, s9⟩ ⟨e, n, o5, o6, o7, o8, ws, e1, lw, pp, bb⟩
  simp only at e e1 pp bb
  subst e e1
  refine ⟨rfl, wp_seq ((last_loop pp (by omega)).mono fun y hy => ⟨hy.1, ?_⟩)⟩
  exact .of rfl ⟨.bl true, rfl, rfl, bb.ex0 hy.2⟩
end

end
section
/-! ### the law -/
theorem cell_ok (ns : List Int) (k : Int) (s : Ms) (h0 : 0 ≤ k) : ∃ x : Int, m__law_cell_at [.fl (ns.map .int), .int k] s = some (.int x, s) := by
  have hc : ∃ x : Int, (mif (mtB (mop2 ltW (mvar 1) (mcall lenW (mcons (mvar 0) (mnil))))) (mop2 ixA (mvar 0) (mvar 1)) (mcon (.int 0))) [some (.fl (ns.map .int)), some (.int k)] s = some (.int x, s) := by
    by_cases h : k < (ns.length : Int)
    · have hx : ∃ x, atF (ns.map Mv.int) k = some (.int x) := by
        have hl : k.toNat < ns.length := by omega
        refine ⟨ns[k.toNat], ?_⟩
        rw [atF_eq]
        unfold L2.atI L2.ixN
        rw [if_pos h0, if_pos (by rw [List.length_map]; exact h)]
        simp [hl]
      obtain ⟨x, hx⟩ := hx
      have hI : ixA (.fl (ns.map Mv.int)) (.int k) s = some (.int x, s) := by
        have e : ixW (.fl (ns.map Mv.int)) (.int k) s = some (.int x, s) := by
          show (some (ns.map Mv.int)).ob (fun ws => (atF ws k).om fun w => (w, s)) = _
          rw [ob_of, hx]
          rfl
        unfold ixA
        rw [e]
      exact ⟨x, by simp [iLt_eq, iEq_eq, lget_eq, lset_eq, lsome_eq, llen_eq, mif, mtB, mop2, ltW, cmpI, mvar, mcall, mcons, mnil, lenW, lenB, hI, h]⟩
    · exact ⟨0, by simp [iLt_eq, iEq_eq, lget_eq, lset_eq, lsome_eq, llen_eq, mif, mtB, mop2, ltW, cmpI, mvar, mcall, mcons, mnil, lenW, lenB, mcon, h]⟩
  obtain ⟨x, hx⟩ := hc
  exact ⟨x, by simp [m__law_cell_at, fnM, bd__law_cell_at, sret, lsome_eq, hx]⟩
theorem box_ok : BoxFn m__law_box := by
  intro ns k s h0 h1
  obtain ⟨x, hx⟩ := cell_ok ns k s h0
  have sm0 : smI 41011 = true := by decide
  have sm2 : ∀ y : Int, smI (if 1000000000000000000 ≤ y then 1 else 0) = true := fun y => by split <;> decide
  have ge : ∀ b : Bool, (0 : Int) ≤ if b = true then 1 else 0 := fun b => by cases b <;> decide
  have sm3 : smI 10 = true := by decide
  refine ⟨(if x < 0 then -x else x) * (if (decide ((10 : Int) ^ 18 ≤ if x < 0 then -x else x)) = true then 1 else 0), x % 2305843009213693951 + 41011 * k + 19, ?_, ?_, ?_, ?_⟩
  · refine Int.mul_nonneg ?_ ?_
    · split <;> omega
    · exact ge _
  · have := Int.emod_nonneg x (b := 2305843009213693951) (by decide)
    omega
  · have := Int.emod_lt_of_pos x (b := 2305843009213693951) (by decide)
    omega
  · simp [iLt_eq, iEq_eq, lget_eq, lset_eq, lsome_eq, llen_eq, m__law_box, fnM, bd__law_box, sseq, sset, mcall, mcons, mvar, mnil, hx]
    simp [iLt_eq, iEq_eq, lget_eq, lset_eq, lsome_eq, llen_eq, mop2, modW, mcall, intW, mcons, mulW, addW, mvar, mcon, mnil, sm0, sm2, sm3, sret, mlst, absW, geW, cmpI, powW]
    generalize newL _ s = o
    cases o <;> rfl
theorem law_true (ns : List Int) : ∃ s', m_law [.fl (ns.map .int)] ⟨0, .nil⟩ = some (.bl true, s') := law_genW (bx := m__law_box) (rt := m__law_right) (R := 3) (L := 1) (D := 10000) box_ok (by decide) (by decide) (fun s b m h hm => right_sp h (by omega)) ns

end
theorem facts {P : Program} {w : World} {K : PySem.W.Frag} {h : Heap} {mg : Str → Option Value} {f : Addr} (X : K.In h) (G : h.Ns mainGlobals mg) (hfa : mg ("law" : Str) = some (.ref f)) (c : He.SaysX faAll fn [] tf exB w h K) :
    ∃ fd : FuncData, (∀ (s : Shared) (v : Value), BindsTo s fd ⟨[v], []⟩ [("_law_script", v)]) ∧ ∀ base : Heap, K.In base → base.Ns mainGlobals mg → (∀ p ∈ tf.map (He.cT K), LamX.TabB base mg p.1 p.2) → FnG P w K mg base 18 f fd ["_law_script"] (spM (GG P w K) m_law) := by
  have ex : ∀ i : Nat, ∃ fd : FuncData, ∀ d : He.DefD, fn[i]? = some d → FunD K d.name d.qual d.params d.body d.scope (d.dvs K) (d.kws K) (He.fAd K d.at_) fd := by
    intro i
    cases e : fn[i]? with
    | none =>
      obtain ⟨fd, _⟩ := c.t.d.def_ 0 (d := dd_law) rfl
      exact ⟨fd, fun d hd => by cases hd⟩
    | some d =>
      obtain ⟨fd, F⟩ := c.t.d.def_ i (d := d) e
      exact ⟨fd, fun d' hd => by cases hd; exact F⟩
  have fc : ∀ g, g ∈ faAll → g.ok K = true := fun g hg => He.SaysD.facts c.t.d hg
  let T : ∀ base : Heap, (∀ p ∈ tf.map (He.cT K), LamX.TabB base mg p.1 p.2) → Tx K mg base := fun base tb =>
    { fd := fun i => Classical.choose (ex i)
      df := fun i d hd => Classical.choose_spec (ex i) d hd
      gl := fun x hx => He.glo_ok X G (fc (.glo x) (List.mem_append_right _ (List.mem_append_left _ (List.mem_map_of_mem hx))))
      fr := fun x hx => He.free_ok X G (fc (.free x) (List.mem_append_right _ (List.mem_append_right _ (List.mem_map_of_mem hx))))
      fc := fun g hg => fc g (List.mem_append_left _ hg)
      gi := fun x i hx => He.int_ok X G (fc (.int x i) (List.mem_append_left _ hx))
      gs := fun x z hx => He.str_ok X G (fc (.str x z) (List.mem_append_left _ hx))
      ex := c.more
      tb := tb }
  have e := hfa.symm.trans (He.glo_ok X G (fc (.glo "law") (List.mem_append_right _ (List.mem_append_left _ (List.mem_map_of_mem (by simp [glos]))))))
  cases e
  have b := FunD.bindsA (ps := ["_law_script"]) (Classical.choose_spec (ex 0) dd_law rfl) fun _ _ _ _ _ _ us hl => match us, hl with | [_], _ => rfl
  exact ⟨Classical.choose (ex 0), fun s v => b s [v] rfl, fun base _ _ tb => ok_law (T base tb)⟩
theorem denInts {G : Mg} {p : List Addr} {H : Hp} : ∀ ns : List Int, DenL G p H (ns.map Mv.int) (ns.map V.int)
  | [] => .nil
  | n :: ns => .cons (.int n) (denInts ns)
theorem flOf {K : PySem.W.Frag} {H : Hp} {a : Addr} {vs : List V} (on : Only H) (h : SqL K H a vs) : FlAt K [] H a vs := by
  rcases h with h | h
  · rcases h with h | h
    · rcases on a with e | ⟨o, xs, e⟩
      · rw [e] at h; cases h
      · rw [e] at h; cases h
    · exact .inl h
  · exact .inr (.inr h)
theorem lawSp {P : Program} {w : World} {K : PySem.W.Frag} {H : Hp} {a : Addr} {ns : List Int} {E : XK} (hl : ns.length ≤ 63) (on : Only H) (hS : SqL K H a (ns.map V.int)) : spM (GG P w K) m_law [.ref a] H (fun v _ => v = .bl true) E := by
  obtain ⟨s', hs⟩ := law_true ns
  exact ⟨[], _, [.fl (ns.map Mv.int)], .bl true, s', Sim.nil, .cons (.fl (flOf on hS) (denInts ns)) .nil, hs, fun p v H' _ _ d => by cases d; rfl⟩
end Mi
open PySem PySem.W PySem.Calls PyProof.Rows
theorem PySem.Challenge.cw_latebound_k01_programs_or_none_holds : PySem.Challenge.rw_latebound_k01_programs_or_none.Holds := by
  w_on; o_law
  refine HandSHeadRun.head_any (r := OpenLaw.row PySem.Challenge.rw_latebound_k01_programs_or_none) (q := view (OpenLaw.row PySem.Challenge.rw_latebound_k01_programs_or_none).prog [36]) (H := Mi.hk) (ob := Mi.ob) (M := 12000) (loose := Mi.loose) (d := HandSHeadRun.topDef (OpenLaw.row PySem.Challenge.rw_latebound_k01_programs_or_none).prog 36) (kwd := []) Mi.obL_eq
    (by kernel_rfl) (fun s => by kernel_rfl) Mi.run (by kernel_rfl) (by kernel_rfl) (by kernel_rfl) (by rfl) (by first | assumption | decide +kernel) (by decide +kernel) ⟨rfl, rfl, rfl, rfl, rfl, by decide +kernel⟩ ?hw ?hc
  case hw => w_witness2
  case hc =>
    refine Mi.walk_ofG (l := PySem.Challenge.rw_latebound_k01_programs_or_none) (n := 63) (k := 18) (x := "_law_script") rfl (by decide) (by kernel_rfl) ⟨rfl, by decide, by decide⟩ ?F
    intro w mg fa h Y G hmg0
    obtain ⟨K, KX, c⟩ := Y
    have hmg : mg ("law" : PySem.Str) = some (.ref fa) := by
      have e : (HandSHeadRun.topDef (OpenLaw.row PySem.Challenge.rw_latebound_k01_programs_or_none).prog 36).name = ("law" : PySem.Str) := by kernel_rfl
      rw [← e]
      exact hmg0
    obtain ⟨fd, hb, hF⟩ := Mi.facts (P := (PySem.Challenge.rw_latebound_k01_programs_or_none).prog) (w := w) KX G hmg c
    exact ⟨K, fd, Mi.spM (Mi.GG (PySem.Challenge.rw_latebound_k01_programs_or_none).prog w K) Mi.m_law, KX, hb, fun H a ns hl on hS => Mi.lawSp hl on hS, fun base h1 h2 => hF base h1 h2 (fun p hp => by simp [Mi.tf] at hp)⟩
