import PyProof.Rows.All
import Wide.All
import OpenK.AllK
import Wide.FinOn
import HandS.ForMost
import HandS.IsInst
import HandS.TupAny
import HandS.Deep
import HandS.Style
import HandS.Defaults
import HandS.Lambda
import KE.KeyNested
import KE.KDictKeyed
import KE.DataMinMax
import HandS.Star
import HandS.Zip
import KE.DataCmp
import KE.GoesEnum
import HandS.Head0
import HandS.Head1
import HandS.Head2
import HandS.HeadEnd
import HandS.HeadHook1
import HandS.HeadHook2
import HandS.HeadHook3
import HandS.HeadHook4
import HandS.DictComp
import HandS.Small
import KE.KDictWalk
import HandS.SetFor
import KE.KDictDisplayH
import HandS.Conv
import KE.SortData
import PyProof.Claim2Refuses
import HandS.DictTup
import KE.LtSeq
import PyProof.P3Eq
import KE.DataMinKey
import KE.KLam
import HandS.Strs
import HandS.HeadWalk
import PyProof.ReprRoads
import HandS.More
import HandS.TupSets
import HandS.New
import PySem.Challenge.RW_latebound_k02_steps_or_none
set_option Elab.async false
set_option linter.all false
set_option maxRecDepth 100000
set_option maxHeartbeats 4000000
noncomputable section
namespace Mi
open PySem PySem.Spec PyProof.Rows L2
section
/-! ### values, objects, the store of the mirror -/
inductive Mty where
  | int | bool | str | list | tuple | dict | none
  deriving DecidableEq
def Mty.name : Mty → String
  | .int => "int" | .bool => "bool" | .str => "str" | .list => "list" | .tuple => "tuple" | .dict => "dict" | .none => "NoneType"
inductive Mv where
  | non | bl (b : Bool) | int (i : Int) | str (x : Str) | tup (ws : List Mv) | ref (n : Nat) | ty (t : Mty) | fl (ws : List Mv) | cls (c : Nat)
inductive Mo where
  | lst (ws : List Mv)
  | ins (c : Nat) (fs : List (Nat × Mv))
  | dk (kvs : List (Key × Mv))
  /-- a dict whose keys are tuples, each with its key, the tuple itself, its value -/
  | dn (kvs : List (NestedKey × Mv × Mv))
  /-- the same two, locked while they are walked -/
  | lk (kvs : List (Key × Mv))
  | ln (kvs : List (NestedKey × Mv × Mv))
  /-- a source of draws: the next ones, bound and draw -/
  | box (m : Nat) (ds : List (Int × Int))
  /-- a def's table of code objects: none yet, or one (its place in the text; where its code object stands) -/
  | tab (t : Nat) (o : Option (Nat × Nat × Nat))
  | cod (q : Str)
/-! ### fast words (by recursors), and what they are -/
noncomputable def _root_.Option.ob {α β : Type} (o : Option α) (f : α → Option β) : Option β := Option.rec (motive := fun _ => Option β) Option.none (fun a => f a) o
noncomputable def _root_.Option.om {α β : Type} (o : Option α) (f : α → β) : Option β := Option.rec (motive := fun _ => Option β) Option.none (fun a => some (f a)) o
theorem ob_eq {α β : Type} (o : Option α) (f : α → Option β) : o.ob f = o.bind f := by cases o <;> rfl
theorem om_eq' {α β : Type} (o : Option α) (f : α → β) : o.om f = o.map f := by cases o <;> rfl
theorem ob_some {α β : Type} {o : Option α} {f : α → Option β} {b : β} : o.ob f = some b ↔ ∃ a, o = some a ∧ f a = some b := by rw [ob_eq]; exact Option.bind_eq_some_iff
theorem omap_some {α β : Type} {o : Option α} {f : α → β} {b : β} : o.om f = some b ↔ ∃ a, o = some a ∧ f a = b := by rw [om_eq']; exact Option.map_eq_some_iff
@[simp] theorem ob_of {α β : Type} (a : α) (f : α → Option β) : (some a).ob f = f a := rfl
@[simp] theorem om_of {α β : Type} (a : α) (f : α → β) : (some a).om f = some (f a) := rfl
@[simp] theorem ob_no {α β : Type} (f : α → Option β) : (Option.none : Option α).ob f = Option.none := rfl
@[simp] theorem om_no {α β : Type} (f : α → β) : (Option.none : Option α).om f = Option.none := rfl
noncomputable def lget {α : Type} (r : List α) : Nat → Option α := List.rec (motive := fun _ => Nat → Option α) (fun _ => Option.none) (fun a _ ih n => Nat.rec (motive := fun _ => Option α) (some a) (fun m _ => ih m) n) r
theorem lget_eq {α : Type} : ∀ (r : List α) (i : Nat), lget r i = r[i]?
  | [], _ => rfl
  | _ :: _, 0 => rfl
  | _ :: as, i + 1 => lget_eq as i
noncomputable def lset {α : Type} (r : List α) (i : Nat) (v : α) : List α := List.rec (motive := fun _ => Nat → List α) (fun _ => []) (fun a as ih n => Nat.rec (motive := fun _ => List α) (v :: as) (fun m _ => a :: ih m) n) r i
theorem lset_eq {α : Type} (v : α) : ∀ (r : List α) (i : Nat), lset r i v = r.set i v
  | [], _ => rfl
  | _ :: _, 0 => rfl
  | a :: as, i + 1 => congrArg (a :: ·) (lset_eq v as i)
noncomputable def lapp {α : Type} (a b : List α) : List α := List.rec (motive := fun _ => List α) b (fun x _ ih => x :: ih) a
theorem lapp_eq {α : Type} : ∀ a b : List α, lapp a b = a ++ b
  | [], _ => rfl
  | x :: a, b => congrArg (x :: ·) (lapp_eq a b)
noncomputable def lsome {α : Type} (n : Nat) (a : List α) : List (Option α) := List.rec (motive := fun _ => List (Option α)) (Nat.rec (motive := fun _ => List (Option α)) [] (fun _ ih => Option.none :: ih) n) (fun x _ ih => some x :: ih) a
theorem lrep_eq {α : Type} : ∀ n : Nat, (Nat.rec (motive := fun _ => List (Option α)) [] (fun _ ih => Option.none :: ih) n : List (Option α)) = List.replicate n Option.none
  | 0 => rfl
  | n + 1 => by rw [List.replicate_succ, ← lrep_eq n]
theorem lsome_eq {α : Type} (n : Nat) : ∀ a : List α, lsome n a = a.map some ++ List.replicate n Option.none
  | [] => lrep_eq n
  | x :: a => congrArg (some x :: ·) (lsome_eq n a)
inductive Mt where
  | nil | nod (l : Mt) (o : Option Mo) (r : Mt)
noncomputable def Mt.get (t : Mt) : Nat → Option Mo := Mt.rec (motive := fun _ => Nat → Option Mo) (fun _ => Option.none)
  (fun _ o _ il ir n => Bool.rec (motive := fun _ => Option Mo) (Bool.rec (motive := fun _ => Option Mo) (ir (Nat.sub (Nat.div n 2) 1)) (il (Nat.div n 2)) (Nat.beq (Nat.mod n 2) 1)) o (Nat.beq n 0)) t
def Mt.fresh : Nat → Nat → Mo → Mt
  | 0, _, _ => .nil
  | f + 1, n, o => cond (Nat.beq n 0) (.nod .nil (some o) .nil) (cond (Nat.beq (n % 2) 1) (.nod (Mt.fresh f (n / 2) o) Option.none .nil) (.nod .nil Option.none (Mt.fresh f (n / 2 - 1) o)))
noncomputable def Mt.set (t : Mt) : Nat → Mo → Mt := Mt.rec (motive := fun _ => Nat → Mo → Mt) (fun n o => Mt.fresh (n + 1) n o)
  (fun l v r il ir n o => Bool.rec (motive := fun _ => Mt) (Bool.rec (motive := fun _ => Mt) (.nod l v (ir (Nat.sub (Nat.div n 2) 1) o)) (.nod (il (Nat.div n 2) o) v r) (Nat.beq (Nat.mod n 2) 1)) (.nod l (some o) r) (Nat.beq n 0)) t
theorem cond_t {α : Type} {b : Bool} {x y : α} (h : b = true) : cond b x y = x := by subst h; rfl
theorem cond_f {α : Type} {b : Bool} {x y : α} (h : b = false) : cond b x y = y := by subst h; rfl
theorem beq_f {a b : Nat} (h : a ≠ b) : Nat.beq a b = false := by
  cases e : Nat.beq a b with
  | false => rfl
  | true => exact absurd (Nat.eq_of_beq_eq_true e) h
theorem beq_t {a : Nat} : Nat.beq a a = true := Nat.beq_refl a
theorem Mt.get_nod (l : Mt) (o : Option Mo) (r : Mt) (n : Nat) : (Mt.nod l o r).get n = if n = 0 then o else if n % 2 = 1 then l.get (n / 2) else r.get (n / 2 - 1) := by
  show Bool.rec (motive := fun _ => Option Mo) (Bool.rec (motive := fun _ => Option Mo) (r.get (n / 2 - 1)) (l.get (n / 2)) (Nat.beq (n % 2) 1)) o (Nat.beq n 0) = _
  by_cases h : n = 0
  · subst h; rfl
  · rw [beq_f h, if_neg h]
    by_cases h1 : n % 2 = 1
    · rw [h1, if_pos rfl]; rfl
    · rw [beq_f h1, if_neg h1]
theorem Mt.set_nod (l : Mt) (v : Option Mo) (r : Mt) (n : Nat) (o : Mo) : (Mt.nod l v r).set n o = if n = 0 then .nod l (some o) r else if n % 2 = 1 then .nod (l.set (n / 2) o) v r else .nod l v (r.set (n / 2 - 1) o) := by
  show Bool.rec (motive := fun _ => Mt) (Bool.rec (motive := fun _ => Mt) (.nod l v (r.set (n / 2 - 1) o)) (.nod (l.set (n / 2) o) v r) (Nat.beq (n % 2) 1)) (.nod l (some o) r) (Nat.beq n 0) = _
  by_cases h : n = 0
  · subst h; rfl
  · rw [beq_f h, if_neg h]
    by_cases h1 : n % 2 = 1
    · rw [h1, if_pos rfl]; rfl
    · rw [beq_f h1, if_neg h1]
theorem Mt.get_nil (n : Nat) : Mt.get .nil n = Option.none := rfl
theorem Mt.get_fresh : ∀ (f n : Nat) (o : Mo), n < f → ∀ m, (Mt.fresh f n o).get m = if m = n then some o else Option.none
  | 0, _, _, h, _ => absurd h (by omega)
  | f + 1, n, o, h, m => by
    unfold Mt.fresh
    by_cases h0 : n = 0
    · subst h0
      rw [cond_t beq_t, Mt.get_nod, Mt.get_nil, Mt.get_nil]
      by_cases hm : m = 0
      · rw [if_pos hm, if_pos hm]
      · rw [if_neg hm, if_neg hm]; split <;> rfl
    · rw [cond_f (beq_f h0)]
      by_cases h1 : n % 2 = 1
      · rw [h1, cond_t beq_t, Mt.get_nod, Mt.get_nil]
        by_cases hm : m = 0
        · rw [if_pos hm, if_neg (by omega)]
        · rw [if_neg hm]
          by_cases hm1 : m % 2 = 1
          · rw [if_pos hm1, Mt.get_fresh f (n / 2) o (by omega)]
            by_cases e : m = n
            · rw [if_pos e, if_pos (by rw [e])]
            · rw [if_neg e, if_neg (by omega)]
          · rw [if_neg hm1, if_neg (by intro e; rw [e] at hm1; exact hm1 h1)]
      · rw [cond_f (beq_f h1), Mt.get_nod, Mt.get_nil]
        by_cases hm : m = 0
        · rw [if_pos hm, if_neg (by omega)]
        · rw [if_neg hm]
          by_cases hm1 : m % 2 = 1
          · rw [if_pos hm1, if_neg (by intro e; rw [e] at hm1; exact h1 hm1)]
          · rw [if_neg hm1, Mt.get_fresh f (n / 2 - 1) o (by omega)]
            by_cases e : m = n
            · rw [if_pos e, if_pos (by rw [e])]
            · rw [if_neg e, if_neg (by omega)]
theorem Mt.get_set : ∀ (t : Mt) (n : Nat) (o : Mo) (m : Nat), (t.set n o).get m = if m = n then some o else t.get m
  | .nil, n, o, m => Mt.get_fresh (n + 1) n o (Nat.lt_succ_self n) m
  | .nod l v r, n, o, m => by
    rw [Mt.set_nod]
    by_cases h0 : n = 0
    · subst h0
      rw [if_pos rfl, Mt.get_nod, Mt.get_nod]
      by_cases hm : m = 0
      · rw [if_pos hm, if_pos hm]
      · rw [if_neg hm, if_neg hm, if_neg hm]
    · rw [if_neg h0]
      by_cases h1 : n % 2 = 1
      · rw [if_pos h1, Mt.get_nod, Mt.get_nod]
        by_cases hm : m = 0
        · rw [if_pos hm, if_pos hm, if_neg (by omega)]
        · rw [if_neg hm, if_neg hm]
          by_cases hm1 : m % 2 = 1
          · rw [if_pos hm1, if_pos hm1, Mt.get_set l (n / 2) o]
            by_cases e : m = n
            · rw [if_pos e, if_pos (by rw [e])]
            · rw [if_neg e, if_neg (by omega)]
          · rw [if_neg hm1, if_neg hm1, if_neg (by intro e; rw [e] at hm1; exact hm1 h1)]
      · rw [if_neg h1, Mt.get_nod, Mt.get_nod]
        by_cases hm : m = 0
        · rw [if_pos hm, if_pos hm, if_neg (by omega)]
        · rw [if_neg hm, if_neg hm]
          by_cases hm1 : m % 2 = 1
          · rw [if_pos hm1, if_pos hm1, if_neg (by intro e; rw [e] at hm1; exact h1 hm1)]
          · rw [if_neg hm1, if_neg hm1, Mt.get_set r (n / 2 - 1) o]
            by_cases e : m = n
            · rw [if_pos e, if_pos (by rw [e])]
            · rw [if_neg e, if_neg (by omega)]
structure Ms where
  sz : Nat
  t : Mt
noncomputable def Ms.get (s : Ms) (n : Nat) : Option Mo := s.t.get n
noncomputable def Ms.alloc (s : Ms) (o : Mo) : Option (Nat × Ms) := some (s.sz, ⟨Nat.succ s.sz, s.t.set s.sz o⟩)
noncomputable def Ms.put (s : Ms) (n : Nat) (o : Mo) : Ms := ⟨s.sz, s.t.set n o⟩
abbrev Me := List (Option Mv)
abbrev Fe := Me → Ms → Option (Mv × Ms)
abbrev Ft := Me → Ms → Option (Bool × Ms)
abbrev Fa := Me → Ms → Option (List Mv × Ms)
abbrev Fn := List Mv → Ms → Option (Mv × Ms)

/-! ### what a value of the mirror stands for -/
structure Mg where
  P : Program
  w : World
  K : PySem.W.Frag
  cad : Nat → Addr
  nf : Nat
  nm : Nat → Str
  inj : ∀ i j, i < nf → j < nf → nm i = nm j → i = j
  /-- the next draw below k of a source that holds a, c, n: the draw, and what a and n become -/
  dr : Int → Int → Int → Int → Int × Int × Int
  /-- where a def's table of code objects stands -/
  tad : Nat → Addr
/-- the draws of a source -/
def Dr (dr : Int → Int → Int → Int → Int × Int × Int) : List (Int × Int) → Int → Int → Int → Prop
  | [], _, _, _ => True
  | (k, x) :: ds, a, c, n => (dr k a c n).1 = x ∧ Dr dr ds (dr k a c n).2.1 c (dr k a c n).2.2
/-- what a source holds -/
structure BoxOk (a c n : Int) : Prop where
  a0 : 0 ≤ a
  c0 : 0 ≤ c
  c1 : c < 2 ^ 62
  n0 : 0 ≤ n
/-- a list that nobody changes: known to the object or written -/
def FlAt (K : PySem.W.Frag) (p : List Addr) (H : Hp) (a : Addr) (vs : List V) : Prop := (∃ o, H a = some (.frz o (.lst vs))) ∨ SqL K (fun _ => Option.none) a vs
mutual
inductive Den (G : Mg) (p : List Addr) (H : Hp) : Mv → V → Prop
  | non : Den G p H .non .non
  | bl (b : Bool) : Den G p H (.bl b) (.bl b)
  | int (i : Int) : Den G p H (.int i) (.int i)
  | str (x : Str) : Den G p H (.str x) (.str x)
  | ty (t : Mty) : Den G p H (.ty t) (.ty t.name)
  | cls (c : Nat) : Den G p H (.cls c) (.ref (G.cad c))
  | ref {n : Nat} {a : Addr} : p[n]? = some a → Den G p H (.ref n) (.ref a)
  | tup {a : Addr} {ws : List Mv} {vs : List V} : SqT G.K H a vs → DenL G p H ws vs → Den G p H (.tup ws) (.ref a)
  | fl {a : Addr} {ws : List Mv} {vs : List V} : FlAt G.K p H a vs → DenL G p H ws vs → Den G p H (.fl ws) (.ref a)
inductive DenL (G : Mg) (p : List Addr) (H : Hp) : List Mv → List V → Prop
  | nil : DenL G p H [] []
  | cons {w : Mv} {v : V} {ws : List Mv} {vs : List V} : Den G p H w v → DenL G p H ws vs → DenL G p H (w :: ws) (v :: vs)
end
/-- a dict with tuples as keys, by its object -/
def NDo (P : Program) (w : World) (a : Addr) (xs : List (NestedKey × Addr × V)) : HO := .ext fun h => xs.length ≤ sizeLine ∧ (a == sysModules) = false ∧ ∃ ys : List (NestedKey × Addr × Value),
  Paired (fun (x : NestedKey × Addr × V) (y : NestedKey × Addr × Value) => x.1 = y.1 ∧ x.2.1 = y.2.1 ∧ RelV x.2.2 y.2.2) xs ys ∧
  ∃ o es ep, h.get? a = some o ∧ o.ExactDict ∧ o.data = .dict es ep ∧ es.toList = ys.map (entryOfKey (nestedKind P w)) ∧ (ys.map (·.1)).Nodup
mutual
/-- the key that a value is -/
inductive KeyM : NestedKey → Mv → Prop
  | non : KeyM .none .non
  | bl (b : Bool) : KeyM (.num (if b = true then 1 else 0)) (.bl b)
  | int (i : Int) : KeyM (.num i) (.int i)
  | str (x : Str) : KeyM (.text x) (.str x)
  | tup {ks : List NestedKey} {ws : List Mv} : KeyMs ks ws → KeyM (.tup ks) (.tup ws)
inductive KeyMs : List NestedKey → List Mv → Prop
  | nil : KeyMs [] []
  | cons {k : NestedKey} {w : Mv} {ks : List NestedKey} {ws : List Mv} : KeyM k w → KeyMs ks ws → KeyMs (k :: ks) (w :: ws)
end
/-- entries, one by one -/
inductive DenN (G : Mg) (p : List Addr) (H : Hp) : List (NestedKey × Mv × Mv) → List (NestedKey × Addr × V) → Prop
  | nil : DenN G p H [] []
  | cons {k : NestedKey} {kw w : Mv} {b : Addr} {v : V} {ks : List (NestedKey × Mv × Mv)} {xs : List (NestedKey × Addr × V)} : KeyM k kw → k.depth ≤ 8 → Den G p H kw (.ref b) → Den G p H w v → DenN G p H ks xs → DenN G p H ((k, kw, w) :: ks) ((k, b, v) :: xs)
def DenO (G : Mg) (p : List Addr) (H : Hp) (a : Addr) : Mo → HO → Prop
  | .lst ws, ho => ∃ vs, ho = .lst vs ∧ DenL G p H ws vs ∧ vs.length ≤ sizeLine
  | .ins c fs, ho => ∃ dx fs', ho = .ins (G.cad c) dx fs' ∧ fs'.map (·.1) = fs.map (fun q => G.nm q.1) ∧ DenL G p H (fs.map (·.2)) (fs'.map (·.2)) ∧ ∀ q ∈ fs, q.1 < G.nf
  | .dk kvs, ho => ∃ kvs', ho = .dK kvs' ∧ kvs'.map (·.1) = kvs.map (·.1) ∧ DenL G p H (kvs.map (·.2)) (kvs'.map (·.2))
  | .dn kvs, ho => ∃ xs, ho = NDo G.P G.w a xs ∧ DenN G p H kvs xs
  | .lk kvs, ho => ∃ od kvs', ho = .frz od (.dK kvs') ∧ kvs'.map (·.1) = kvs.map (·.1) ∧ DenL G p H (kvs.map (·.2)) (kvs'.map (·.2))
  | .ln kvs, ho => ∃ od xs, ho = .frz od (NDo G.P G.w a xs) ∧ DenN G p H kvs xs
  | .box m ds, ho => ∃ a c n, ho = .lst [.int a, .int c, .int n] ∧ BoxOk a c n ∧ n ≤ m ∧ m + ds.length ≤ 1000000 ∧ Dr G.dr ds a c n
  | .tab t Option.none, ho => a = G.tad t ∧ ho = .tbl #[]
  | .tab t (some (l, c, n)), ho => a = G.tad t ∧ ∃ b, p[n]? = some b ∧ ho = .tbl #[rawInt l, rawInt c, .ref b]
  | .cod q, ho => ho = LamX.CodeO a q
structure Sim (G : Mg) (p : List Addr) (s : Ms) (H : Hp) : Prop where
  len : p.length = s.sz
  nd : p.Nodup
  ob : ∀ n a, p[n]? = some a → ∃ o ho, s.get n = some o ∧ H a = some ho ∧ DenO G p H a o ho
  out : ∀ n, s.sz ≤ n → s.get n = Option.none
structure Fra (p : List Addr) (H : Hp) (p' : List Addr) (H' : Hp) : Prop where
  pre : ∃ q, p' = p ++ q ∧ ∀ a ∈ q, a ∉ p → H a = Option.none
  kee : ∀ a o, H a = some o → a ∉ p → H' a = some o
  frz : ∀ a o u, H a = some (.frz o u) → H' a = some (.frz o u)
theorem Fra.refl {p : List Addr} {H : Hp} : Fra p H p H := ⟨⟨[], by simp, fun a h => by simp at h⟩, fun _ _ e _ => e, fun _ _ _ e => e⟩
theorem Fra.notin {p p' : List Addr} {H H' : Hp} (f : Fra p H p' H') {a : Addr} {o : HO} (e : H a = some o) (n : a ∉ p) : a ∉ p' := by
  obtain ⟨q, rfl, hq⟩ := f.pre
  intro h
  rcases List.mem_append.mp h with h | h
  · exact n h
  · rw [hq a h n] at e; cases e
theorem Fra.trans {p p1 p2 : List Addr} {H H1 H2 : Hp} (f : Fra p H p1 H1) (g : Fra p1 H1 p2 H2) : Fra p H p2 H2 := by
  obtain ⟨q, e, hq⟩ := f.pre
  obtain ⟨q', e', hq'⟩ := g.pre
  refine ⟨⟨q ++ q', by rw [e', e, List.append_assoc], fun a ha np => ?_⟩, fun a o h n => g.kee a o (f.kee a o h n) (f.notin h n), fun a o u e => g.frz a o u (f.frz a o u e)⟩
  rcases List.mem_append.mp ha with h | h
  · exact hq a h np
  · cases h1 : H a with
    | none => rfl
    | some o =>
      have z := f.kee a o h1 np
      rw [hq' a h (f.notin h1 np)] at z
      cases z
theorem Fra.at {p p' : List Addr} {H H' : Hp} (f : Fra p H p' H') {n : Nat} {a : Addr} (h : p[n]? = some a) : p'[n]? = some a := by
  obtain ⟨q, rfl, _⟩ := f.pre
  rw [List.getElem?_append_left (List.getElem?_eq_some_iff.mp h).1]
  exact h
/-- a list or a tuple -/
def SqU : HO → Prop
  | .lst _ => True
  | .tup _ => True
  | _ => False
/-- no tuple, no locked list or tuple is among the changeable ones -/
theorem Sim.kind {G : Mg} {p : List Addr} {s : Ms} {H : Hp} (S : Sim G p s H) {a : Addr} (h : a ∈ p) : (∀ vs, H a ≠ some (.tup vs)) ∧ ∀ o u, SqU u → H a ≠ some (.frz o u) := by
  obtain ⟨n, hn⟩ := List.mem_iff_getElem?.mp h
  obtain ⟨o, ho, _, h2, d⟩ := S.ob n a hn
  constructor
  · intro vs e
    rw [e] at h2; cases h2
    cases o with
    | lst ws => obtain ⟨_, z, _⟩ := d; cases z
    | ins c fs => obtain ⟨_, _, z, _⟩ := d; cases z
    | dk kvs => obtain ⟨_, z, _⟩ := d; cases z
    | dn kvs => obtain ⟨_, z, _⟩ := d; cases z
    | lk kvs => obtain ⟨_, _, z, _⟩ := d; cases z
    | ln kvs => obtain ⟨_, _, z, _⟩ := d; cases z
    | box m ds => obtain ⟨_, _, _, z, _⟩ := d; cases z
    | tab t o =>
      rcases o with _ | ⟨l, c, n⟩
      · obtain ⟨_, z⟩ := d; cases z
      · obtain ⟨_, _, _, z⟩ := d; cases z
    | cod q => exact nomatch (show _ = LamX.CodeO a q from d)
  · intro ob u hu e
    rw [e] at h2; cases h2
    cases o with
    | lst ws => obtain ⟨_, z, _⟩ := d; cases z
    | ins c fs => obtain ⟨_, _, z, _⟩ := d; cases z
    | dk kvs => obtain ⟨_, z, _⟩ := d; cases z
    | dn kvs => obtain ⟨_, z, _⟩ := d; cases z
    | lk kvs => obtain ⟨_, _, z, _⟩ := d; cases z; exact hu
    | ln kvs => obtain ⟨_, _, z, _⟩ := d; cases z; exact hu
    | box m ds => obtain ⟨_, _, _, z, _⟩ := d; cases z
    | tab t o =>
      rcases o with _ | ⟨l, c, n⟩
      · obtain ⟨_, z⟩ := d; cases z
      · obtain ⟨_, _, _, z⟩ := d; cases z
    | cod q => exact nomatch (show _ = LamX.CodeO a q from d)
/-- what stays: tuples and locked things -/
structure Stays (p : List Addr) (H : Hp) (p' : List Addr) (H' : Hp) : Prop where
  ix : ∀ (n : Nat) (a : Addr), p[n]? = some a → p'[n]? = some a
  tp : ∀ a vs, H a = some (.tup vs) → H' a = some (.tup vs)
  fz : ∀ a o u, SqU u → H a = some (.frz o u) → H' a = some (.frz o u)
theorem Stays.refl {p : List Addr} {H : Hp} : Stays p H p H := ⟨fun _ _ e => e, fun _ _ e => e, fun _ _ _ _ e => e⟩
theorem Stays.trans {p p1 p2 : List Addr} {H H1 H2 : Hp} (a : Stays p H p1 H1) (b : Stays p1 H1 p2 H2) : Stays p H p2 H2 :=
  ⟨fun n x e => b.ix n x (a.ix n x e), fun x vs e => b.tp x vs (a.tp x vs e), fun x o u hu e => b.fz x o u hu (a.fz x o u hu e)⟩
theorem Fra.stays {G : Mg} {p p' : List Addr} {s : Ms} {H H' : Hp} (S : Sim G p s H) (f : Fra p H p' H') : Stays p H p' H' :=
  ⟨fun n a h => f.at h, fun a vs e => f.kee a _ e fun h => (S.kind h).1 vs e, fun a o u hu e => f.kee a _ e fun h => (S.kind h).2 o u hu e⟩
theorem Stays.tup {G : Mg} {p p' : List Addr} {H H' : Hp} {a : Addr} {vs : List V} (z : Stays p H p' H') (h : SqT G.K H a vs) : SqT G.K H' a vs := by
  rcases h with h | h
  · rcases h with h | ⟨o, h⟩
    · exact .inl (.inl (z.tp a vs h))
    · exact .inl (.inr ⟨o, z.fz a o _ trivial h⟩)
  · exact .inr h
theorem Stays.fl {K : PySem.W.Frag} {p p' : List Addr} {H H' : Hp} {a : Addr} {vs : List V} (z : Stays p H p' H') (h : FlAt K p H a vs) : FlAt K p' H' a vs := by
  rcases h with ⟨o, h⟩ | h
  · exact .inl ⟨o, z.fz a o _ trivial h⟩
  · exact .inr h
mutual
theorem Den.stay {G : Mg} {p p' : List Addr} {H H' : Hp} (z : Stays p H p' H') : ∀ {w : Mv} {v : V}, Den G p H w v → Den G p' H' w v
  | _, _, .non => .non
  | _, _, .bl b => .bl b
  | _, _, .int i => .int i
  | _, _, .str x => .str x
  | _, _, .ty t => .ty t
  | _, _, .cls c => .cls c
  | _, _, .ref h => .ref (z.ix _ _ h)
  | _, _, .tup h l => .tup (Stays.tup (G := G) z h) (DenL.stay z l)
  | _, _, .fl h l => .fl (Stays.fl z h) (DenL.stay z l)
theorem DenL.stay {G : Mg} {p p' : List Addr} {H H' : Hp} (z : Stays p H p' H') : ∀ {ws : List Mv} {vs : List V}, DenL G p H ws vs → DenL G p' H' ws vs
  | _, _, .nil => .nil
  | _, _, .cons h l => .cons (Den.stay z h) (DenL.stay z l)
end
theorem DenN.stay {G : Mg} {p p' : List Addr} {H H' : Hp} (z : Stays p H p' H') : ∀ {ks : List (NestedKey × Mv × Mv)} {xs : List (NestedKey × Addr × V)}, DenN G p H ks xs → DenN G p' H' ks xs
  | _, _, .nil => .nil
  | _, _, .cons a b c d l => .cons a b (c.stay z) (d.stay z) (l.stay z)
theorem DenO.stay {G : Mg} {p p' : List Addr} {H H' : Hp} (z : Stays p H p' H') {a : Addr} {o : Mo} {ho : HO} (h : DenO G p H a o ho) : DenO G p' H' a o ho := by
  cases o with
  | lst ws => obtain ⟨vs, e, l, n⟩ := h; exact ⟨vs, e, l.stay z, n⟩
  | ins c fs => obtain ⟨dx, fs', e, n, l, b⟩ := h; exact ⟨dx, fs', e, n, l.stay z, b⟩
  | dk kvs => obtain ⟨kvs', e, n, l⟩ := h; exact ⟨kvs', e, n, l.stay z⟩
  | dn kvs => obtain ⟨xs, e, l⟩ := h; exact ⟨xs, e, l.stay z⟩
  | lk kvs => obtain ⟨od, kvs', e, n, l⟩ := h; exact ⟨od, kvs', e, n, l.stay z⟩
  | ln kvs => obtain ⟨od, xs, e, l⟩ := h; exact ⟨od, xs, e, l.stay z⟩
  | box m ds => exact h
  | tab t o =>
    rcases o with _ | ⟨l, c, n⟩
    · exact h
    · obtain ⟨h0, b, h1, h2⟩ := h; exact ⟨h0, b, z.ix _ _ h1, h2⟩
  | cod q => exact h
theorem Den.fra {G : Mg} {p p' : List Addr} {s : Ms} {H H' : Hp} {w : Mv} {v : V} (h : Den G p H w v) (S : Sim G p s H) (f : Fra p H p' H') : Den G p' H' w v := h.stay (f.stays S)
theorem DenL.fra {G : Mg} {p p' : List Addr} {s : Ms} {H H' : Hp} {w : List Mv} {v : List V} (h : DenL G p H w v) (S : Sim G p s H) (f : Fra p H p' H') : DenL G p' H' w v := h.stay (f.stays S)
theorem DenL.length {G : Mg} {p : List Addr} {H : Hp} : ∀ {ws : List Mv} {vs : List V}, DenL G p H ws vs → ws.length = vs.length
  | _, _, .nil => rfl
  | _, _, .cons _ l => by rw [List.length_cons, List.length_cons, l.length]
theorem DenL.get {G : Mg} {p : List Addr} {H : Hp} : ∀ {ws : List Mv} {vs : List V}, DenL G p H ws vs → ∀ {i : Nat} {w : Mv}, ws[i]? = some w → ∃ v, vs[i]? = some v ∧ Den G p H w v
  | _, _, .nil, i, w, e => by simp at e
  | _, _, .cons h l, 0, w, e => by simp at e; subst e; exact ⟨_, rfl, h⟩
  | _, _, .cons h l, i + 1, w, e => by simpa using l.get (i := i) (by simpa using e)
theorem DenL.append {G : Mg} {p : List Addr} {H : Hp} : ∀ {ws ws' : List Mv} {vs vs' : List V}, DenL G p H ws vs → DenL G p H ws' vs' → DenL G p H (ws ++ ws') (vs ++ vs')
  | _, _, _, _, .nil, h => h
  | _, _, _, _, .cons a l, h => .cons a (l.append h)
theorem DenL.drop {G : Mg} {p : List Addr} {H : Hp} : ∀ (n : Nat) {ws : List Mv} {vs : List V}, DenL G p H ws vs → DenL G p H (ws.drop n) (vs.drop n)
  | 0, _, _, h => h
  | _ + 1, _, _, .nil => .nil
  | n + 1, _, _, .cons _ l => l.drop n
theorem DenL.take {G : Mg} {p : List Addr} {H : Hp} : ∀ (n : Nat) {ws : List Mv} {vs : List V}, DenL G p H ws vs → DenL G p H (ws.take n) (vs.take n)
  | 0, _, _, _ => .nil
  | _ + 1, _, _, .nil => .nil
  | n + 1, _, _, .cons h l => .cons h (l.take n)
theorem DenL.set {G : Mg} {p : List Addr} {H : Hp} {w : Mv} {v : V} (h : Den G p H w v) : ∀ {ws : List Mv} {vs : List V} (i : Nat), DenL G p H ws vs → DenL G p H (ws.set i w) (vs.set i v)
  | _, _, _, .nil => .nil
  | _, _, 0, .cons _ l => .cons h l
  | _, _, i + 1, .cons a l => .cons a (DenL.set h i l)
theorem DenL.erase {G : Mg} {p : List Addr} {H : Hp} : ∀ {ws : List Mv} {vs : List V} (i : Nat), DenL G p H ws vs → DenL G p H (ws.eraseIdx i) (vs.eraseIdx i)
  | _, _, _, .nil => .nil
  | _, _, 0, .cons _ l => l
  | _, _, i + 1, .cons a l => .cons a (l.erase i)
theorem nodup_at {α : Type} {l : List α} (hl : l.Nodup) {i j : Nat} {x : α} (a : l[i]? = some x) (b : l[j]? = some x) : i = j := by
  obtain ⟨h1, e1⟩ := List.getElem?_eq_some_iff.mp a
  obtain ⟨h2, e2⟩ := List.getElem?_eq_some_iff.mp b
  exact (List.getElem_inj hl).mp (e1.trans e2.symm)
/-! ### the store: new objects, changed ones -/
theorem Ms.alloc_eq {s s' : Ms} {o : Mo} {n : Nat} (h : s.alloc o = some (n, s')) : n = s.sz ∧ s'.sz = s.sz + 1 ∧ ∀ m, s'.get m = if m = s.sz then some o else s.get m := by
  cases h
  exact ⟨rfl, rfl, fun m => Mt.get_set s.t s.sz o m⟩
theorem Sim.new {G : Mg} {p : List Addr} {s s' : Ms} {H : Hp} {o : Mo} {ho : HO} {n : Nat} {a : Addr} {H' : Hp} (S : Sim G p s H) (e : s.alloc o = some (n, s')) (ha : H a = Option.none) (d : DenO G p H a o ho) (ha' : H' a = some ho) (hk : ∀ b u, H b = some u → H' b = some u) :
    Sim G (p ++ [a]) s' H' ∧ Fra p H (p ++ [a]) H' ∧ Den G (p ++ [a]) H' (.ref n) (.ref a) := by
  obtain ⟨rfl, h2, h4⟩ := Ms.alloc_eq e
  have nin : a ∉ p := fun h => by
    obtain ⟨k, hk'⟩ := List.mem_iff_getElem?.mp h
    obtain ⟨_, _, _, z, _⟩ := S.ob k a hk'
    rw [ha] at z; cases z
  have f : Fra p H (p ++ [a]) H' := ⟨⟨[a], rfl, fun b hb _ => by rw [List.mem_singleton.mp hb]; exact ha⟩, fun b u e _ => hk b u e, fun b o u e => hk b _ e⟩
  have st := f.stays S
  have hlen : (p ++ [a])[s.sz]? = some a := by rw [← S.len]; simp
  refine ⟨⟨by rw [List.length_append, S.len, h2]; rfl, ?_, fun m b hb => ?_, fun m hm => ?_⟩, f, .ref hlen⟩
  · rw [List.nodup_append]
    exact ⟨S.nd, by simp, fun x hx y hy => by rw [List.mem_singleton.mp hy]; rintro rfl; exact nin hx⟩
  · by_cases hmn : m = s.sz
    · subst hmn
      rw [hlen] at hb; cases hb
      exact ⟨o, ho, by rw [h4, if_pos rfl], ha', d.stay st⟩
    · have hlt : m < p.length := by
        have := (List.getElem?_eq_some_iff.mp hb).1
        rw [List.length_append] at this
        have := S.len
        simp at *
        omega
      rw [List.getElem?_append_left hlt] at hb
      obtain ⟨o1, ho1, q1, q2, q3⟩ := S.ob m b hb
      exact ⟨o1, ho1, by rw [h4, if_neg hmn]; exact q1, hk _ _ q2, q3.stay st⟩
  · rw [h4, if_neg (by omega)]
    exact S.out m (by omega)
theorem Sim.get {G : Mg} {p : List Addr} {s : Ms} {H : Hp} (S : Sim G p s H) {n : Nat} {a : Addr} {o : Mo} (h : p[n]? = some a) (e : s.get n = some o) : ∃ ho, H a = some ho ∧ DenO G p H a o ho := by
  obtain ⟨o', ho, q1, q2, q3⟩ := S.ob n a h
  rw [e] at q1; cases q1
  exact ⟨ho, q2, q3⟩
def unl : Mo → Bool
  | .lk _ => false
  | .ln _ => false
  | _ => true
theorem DenO.unl {G : Mg} {p : List Addr} {H : Hp} {a : Addr} {o : Mo} {ho : HO} (d : DenO G p H a o ho) (hu : unl o = true) : ∀ ob u, ho ≠ .frz ob u := by
  intro ob u e
  subst e
  cases o with
  | lst ws => obtain ⟨_, z, _⟩ := d; cases z
  | ins c fs => obtain ⟨_, _, z, _⟩ := d; cases z
  | dk kvs => obtain ⟨_, z, _⟩ := d; cases z
  | dn kvs => obtain ⟨_, z, _⟩ := d; cases z
  | lk kvs => cases hu
  | ln kvs => cases hu
  | box m ds => obtain ⟨_, _, _, z, _⟩ := d; cases z
  | tab t o =>
    rcases o with _ | ⟨l, c, n⟩
    · obtain ⟨_, z⟩ := d; cases z
    · obtain ⟨_, _, _, z⟩ := d; cases z
  | cod q => exact nomatch (show _ = LamX.CodeO a q from d)
theorem Sim.put {G : Mg} {p : List Addr} {s : Ms} {H : Hp} {o o0 : Mo} {ho : HO} {n : Nat} {a : Addr} (S : Sim G p s H) (h : p[n]? = some a) (e0 : s.get n = some o0) (hu : unl o0 = true) (nt : ∀ vs, ho ≠ .tup vs) (d : DenO G p H a o ho) : Sim G p (s.put n o) (upd H a ho) ∧ Fra p H p (upd H a ho) := by
  have hn : n < s.sz := by rw [← S.len]; exact (List.getElem?_eq_some_iff.mp h).1
  have ham : a ∈ p := List.mem_of_getElem? h
  have f : Fra p H p (upd H a ho) := ⟨⟨[], by simp, fun b hb => by simp at hb⟩, fun b u e nb => by
    have hne : b ≠ a := fun z => nb (by rw [z]; exact ham)
    rw [upd_ne hne]; exact e, fun b ob u e => by
    obtain ⟨ho0, q1, q2⟩ := S.get h e0
    have hne : b ≠ a := fun z => by
      subst z
      rw [q1] at e
      exact q2.unl hu ob u (Option.some.inj e)
    rw [upd_ne hne]; exact e⟩
  have st := f.stays S
  have g : ∀ m, (s.put n o).get m = if m = n then some o else s.get m := fun m => Mt.get_set s.t n o m
  refine ⟨⟨S.len, S.nd, fun m b hb => ?_, fun m hm => ?_⟩, f⟩
  · by_cases hmn : m = n
    · subst hmn
      rw [h] at hb; cases hb
      exact ⟨o, ho, by rw [g, if_pos rfl], upd_same, d.stay st⟩
    · obtain ⟨o1, ho1, q1, q2, q3⟩ := S.ob m b hb
      have hne : b ≠ a := fun z => hmn (nodup_at S.nd (z ▸ hb) h)
      exact ⟨o1, ho1, by rw [g, if_neg hmn]; exact q1, by rw [upd_ne hne]; exact q2, q3.stay st⟩
  · rw [g, if_neg (by have : s.sz ≤ m := hm; omega)]
    exact S.out m hm

end
section
/-! ### readings of mirrored functions -/
structure EnvR (G : Mg) (p : List Addr) (H : Hp) (r : Me) (σ : L2.St) : Prop where
  len : r.length = σ.length
  get : ∀ (i : Nat) (w : Mv), r[i]? = some (some w) → ∃ v, σ[i]? = some (some v) ∧ Den G p H w v
theorem EnvR.fra {G : Mg} {p p' : List Addr} {s : Ms} {H H' : Hp} {r : Me} {σ : L2.St} (e : EnvR G p H r σ) (S : Sim G p s H) (f : Fra p H p' H') : EnvR G p' H' r σ :=
  ⟨e.len, fun i w h => let ⟨v, q, d⟩ := e.get i w h; ⟨v, q, d.fra S f⟩⟩
theorem EnvR.set {G : Mg} {p : List Addr} {H : Hp} {r : Me} {σ : L2.St} {i : Nat} {w : Mv} {v : V} (e : EnvR G p H r σ) (d : Den G p H w v) : EnvR G p H (lset r i (some w)) (σ.set i (some v)) := by
  rw [lset_eq]
  refine ⟨by rw [List.length_set, List.length_set, e.len], fun j x h => ?_⟩
  by_cases hj : i = j
  · subst hj
    have hl : i < r.length := by
      have := (List.getElem?_eq_some_iff.mp h).1
      rwa [List.length_set] at this
    rw [List.getElem?_set_self hl] at h
    cases h
    exact ⟨v, List.getElem?_set_self (by rw [← e.len]; exact hl), d⟩
  · rw [List.getElem?_set_ne hj] at h
    rw [List.getElem?_set_ne hj]
    exact e.get j x h
noncomputable def After (G : Mg) (p : List Addr) (H : Hp) (w : Mv) (s' : Ms) (Q : VK) : Prop := ∀ p' v H', Sim G p' s' H' → Fra p H p' H' → Den G p' H' w v → Q v H'
noncomputable def tI (G : Mg) (F : Fe) : TE := fun σ H Q => ∃ p s r w s', Sim G p s H ∧ EnvR G p H r σ ∧ F r s = some (w, s') ∧ After G p H w s' Q
noncomputable def tT (G : Mg) (F : Ft) : TT := fun σ H Q => ∃ p s r b s', Sim G p s H ∧ EnvR G p H r σ ∧ F r s = some (b, s') ∧ ∀ p' H', Sim G p' s' H' → Fra p H p' H' → Q b H'
noncomputable def tA (G : Mg) (F : Fa) : TA := fun σ H Q => ∃ p s r ws s', Sim G p s H ∧ EnvR G p H r σ ∧ F r s = some (ws, s') ∧ ∀ p' vs H', Sim G p' s' H' → Fra p H p' H' → DenL G p' H' ws vs → Q vs H'
noncomputable def rF (G : Mg) (f : Fn) : List V → Hp → VK → Prop := fun vs H Q => ∃ p s ws w s', Sim G p s H ∧ DenL G p H ws vs ∧ f ws s = some (w, s') ∧ After G p H w s' Q
noncomputable def q1R (G : Mg) (f : Mv → Ms → Option (Mv × Ms)) : V → Hp → VK → Prop := fun x H Q => ∃ p s a w s', Sim G p s H ∧ Den G p H a x ∧ f a s = some (w, s') ∧ After G p H w s' Q
noncomputable def q2R (G : Mg) (f : Mv → Mv → Ms → Option (Mv × Ms)) : R2 := fun x y H Q => ∃ p s a b w s', Sim G p s H ∧ Den G p H a x ∧ Den G p H b y ∧ f a b s = some (w, s') ∧ After G p H w s' Q
/-- m(o, args) -/
noncomputable def rM (G : Mg) (f : Mv → List Mv → Ms → Option (Mv × Ms)) : V → List V → Hp → VK → Prop := fun x vs H Q => ∃ p s a ws w s', Sim G p s H ∧ Den G p H a x ∧ DenL G p H ws vs ∧ f a ws s = some (w, s') ∧ After G p H w s' Q
noncomputable def spM (G : Mg) (f : Fn) : Sp := fun vs H Q _ => rF G f vs H Q
theorem After.of {G : Mg} {p p1 : List Addr} {H H1 : Hp} {w : Mv} {s' : Ms} {Q : VK} (f : Fra p H p1 H1) (a : After G p H w s' Q) : After G p1 H1 w s' Q := fun p' v H' S' f' d => a p' v H' S' (f.trans f') d

/-! ### the mirror's words -/
noncomputable def mvar (i : Nat) : Fe := fun r s => Option.rec (motive := fun _ => Option (Mv × Ms)) none (fun o => Option.rec (motive := fun _ => Option (Mv × Ms)) none (fun w => some (w, s)) o) (lget r i)
noncomputable def mcon (w : Mv) : Fe := fun _ s => some (w, s)
noncomputable def mno : Fe := fun _ _ => none
noncomputable def mop1 (f : Mv → Ms → Option (Mv × Ms)) (A : Fe) : Fe := fun r s => (A r s).ob fun x => f x.1 x.2
noncomputable def mop2 (f : Mv → Mv → Ms → Option (Mv × Ms)) (A B : Fe) : Fe := fun r s => (A r s).ob fun x => (B r x.2).ob fun y => f x.1 y.1 y.2
noncomputable def mnil : Fa := fun _ s => some ([], s)
noncomputable def mcons (A : Fe) (B : Fa) : Fa := fun r s => (A r s).ob fun x => (B r x.2).ob fun y => some (x.1 :: y.1, y.2)
noncomputable def mcall (f : Fn) (A : Fa) : Fe := fun r s => (A r s).ob fun x => f x.1 x.2
noncomputable def mmth (f : Mv → List Mv → Ms → Option (Mv × Ms)) (A : Fe) (B : Fa) : Fe := fun r s => (A r s).ob fun x => (B r x.2).ob fun y => f x.1 y.1 y.2
noncomputable def mchain (f g : Mv → Mv → Ms → Option (Mv × Ms)) (A B C : Fe) : Fe := fun r s => (A r s).ob fun x => (B r x.2).ob fun y => (f x.1 y.1 y.2).ob fun z => match z.1 with
  | .bl true => (C r z.2).ob fun u => g y.1 u.1 u.2
  | .bl false => some (.bl false, z.2)
  | _ => none
noncomputable def tru : Mv → Ms → Option Bool
  | .non, _ => some false
  | .bl b, _ => some b
  | .int i, _ => some (i != 0)
  | .str x, _ => cond (Nat.ble x.length 16777216) (some (x.length != 0)) none
  | .tup ws, _ => some (!ws.isEmpty)
  | .ref n, s => match s.get n with
    | some (.lst ws) => some (!ws.isEmpty)
    | _ => none
  | _, _ => none
noncomputable def mtst (A : Fe) : Ft := fun r s => (A r s).ob fun x => (tru x.1 x.2).om fun b => (b, x.2)
noncomputable def mtB (A : Fe) : Ft := fun r s => (A r s).ob fun x => match x.1 with
  | .bl b => some (b, x.2)
  | _ => none
noncomputable def mand (A B : Ft) : Ft := fun r s => (A r s).ob fun x => cond x.1 (B r x.2) (some (false, x.2))
noncomputable def mor (A B : Ft) : Ft := fun r s => (A r s).ob fun x => cond x.1 (some (true, x.2)) (B r x.2)
noncomputable def mnot (A : Ft) : Ft := fun r s => (A r s).om fun x => (!x.1, x.2)
noncomputable def mandV (A B : Fe) : Fe := fun r s => (A r s).ob fun x => match x.1 with
  | .bl true => B r x.2
  | .bl false => some (.bl false, x.2)
  | _ => none
noncomputable def morV (A B : Fe) : Fe := fun r s => (A r s).ob fun x => match x.1 with
  | .bl false => B r x.2
  | .bl true => some (.bl true, x.2)
  | _ => none
noncomputable def mnotV (A : Fe) : Fe := fun r s => (A r s).ob fun x => match x.1 with
  | .bl b => some (.bl (!b), x.2)
  | _ => none
noncomputable def mif (T : Ft) (A B : Fe) : Fe := fun r s => (T r s).ob fun x => cond x.1 (A r x.2) (B r x.2)

/-! ### one lemma a construct -/
section
variable {X : Cx} {G : Mg} {e a b c : Expr} {pos : Pos}
theorem pe_imp {t t' : TE} (h : PE X e t) (i : ∀ σ H Q, t' σ H Q → t σ H Q) : PE X e t' := ⟨fun pins s σ H Q I q => h.run pins s σ H Q I (i σ H Q q)⟩
theorem pt_imp {t t' : TT} (h : PT X e t) (i : ∀ σ H Q, t' σ H Q → t σ H Q) : PT X e t' := ⟨fun pins s σ H Q I q => h.run pins s σ H Q I (i σ H Q q)⟩
theorem pw_imp {t t' : TT} (h : PW X e t) (i : ∀ σ H Q, t' σ H Q → t σ H Q) : PW X e t' := ⟨fun wh pins s σ H Q I q => h.run wh pins s σ H Q I (i σ H Q q)⟩
theorem pa_imp {es : List Expr} {t t' : TA} (h : PA X es t) (i : ∀ σ H Q, t' σ H Q → t σ H Q) : PA X es t' := ⟨fun ps pins s σ H Q I q => h.run ps pins s σ H Q I (i σ H Q q)⟩
theorem pm_no : PE X e (tI G mno) := ⟨fun pins s σ H Q I q => by obtain ⟨_, _, _, _, _, _, _, z, _⟩ := q; cases z⟩
theorem mvar_eq {i : Nat} {r : Me} {s s' : Ms} {w : Mv} (h : mvar i r s = some (w, s')) : r[i]? = some (some w) ∧ s' = s := by
  unfold mvar at h
  rw [lget_eq] at h
  cases e : r[i]? with
  | none => rw [e] at h; cases h
  | some o =>
    rw [e] at h
    cases o with
    | none => cases h
    | some w' =>
      have h' : some (w', s) = some (w, s') := h
      cases h'
      exact ⟨rfl, rfl⟩
theorem pm_var {i : Nat} (h : PE X e (tVar i)) : PE X e (tI G (mvar i)) := pe_imp h fun σ H Q ⟨p, s, r, w, s', S, E, q, k⟩ => by
  obtain ⟨h1, rfl⟩ := mvar_eq q
  obtain ⟨v, h2, d⟩ := E.get i w h1
  exact ⟨v, h2, k p v H S Fra.refl d⟩
theorem pm_con {v : V} {w : Mv} (h : PE X e (tC v)) (d : ∀ p s H, Sim G p s H → Den G p H w v) : PE X e (tI G (mcon w)) := pe_imp h fun σ H Q ⟨p, s, r, w', s', S, E, q, k⟩ => by
  cases q
  exact k p v H S Fra.refl (d p s H S)
theorem t_op1 {f : Mv → Ms → Option (Mv × Ms)} {A : Fe} {σ : L2.St} {H : Hp} {Q : VK} (h : tI G (mop1 f A) σ H Q) : tUn (q1R G f) (tI G A) σ H Q := by
  obtain ⟨p, s, r, w, s', S, E, q, k⟩ := h
  obtain ⟨⟨x, s1⟩, q1, q2⟩ := ob_some.mp q
  exact ⟨p, s, r, x, s1, S, E, q1, fun p1 v1 H1 S1 f1 d1 => ⟨p1, s1, x, w, s', S1, d1, q2, k.of f1⟩⟩
theorem t_op2 {f : Mv → Mv → Ms → Option (Mv × Ms)} {A B : Fe} {σ : L2.St} {H : Hp} {Q : VK} (h : tI G (mop2 f A B) σ H Q) : tOp (q2R G f) (tI G A) (tI G B) σ H Q := by
  obtain ⟨p, s, r, w, s', S, E, q, k⟩ := h
  obtain ⟨⟨x, s1⟩, q1, q2⟩ := ob_some.mp q
  obtain ⟨⟨y, s2⟩, q3, q4⟩ := ob_some.mp q2
  exact ⟨p, s, r, x, s1, S, E, q1, fun p1 v1 H1 S1 f1 d1 => ⟨p1, s1, r, y, s2, S1, E.fra S f1, q3, fun p2 v2 H2 S2 f2 d2 => ⟨p2, s2, x, y, w, s', S2, d1.fra S1 f2, d2, q4, k.of (f1.trans f2)⟩⟩⟩
theorem pm_un {op : UnaryOp} {f : Mv → Ms → Option (Mv × Ms)} {A : Fe} (ho : UnR X (unaryOp op) (q1R G f)) (ha : PE X a (tI G A)) : PE X (.UnaryOp op a pos) (tI G (mop1 f A)) := pe_imp (pe_un ho ha) fun _ _ _ h => t_op1 h
theorem pm_bin {op : Operator} {f : Mv → Mv → Ms → Option (Mv × Ms)} {A B : Fe} (ho : OpR X (binaryOp op) (q2R G f)) (ha : PE X a (tI G A)) (hb : PE X b (tI G B)) : PE X (.BinOp a op b pos) (tI G (mop2 f A B)) := pe_imp (pe_op ho ha hb) fun _ _ _ h => t_op2 h
theorem pm_cmp {op : CmpOp} {f : Mv → Mv → Ms → Option (Mv × Ms)} {A B : Fe} (ho : OpR X (compareOp op) (q2R G f)) (ha : PE X a (tI G A)) (hb : PE X b (tI G B)) (hm : behindInMarks op b = false) : PE X (.Compare a [op] [b] pos) (tI G (mop2 f A B)) := pe_imp (pe_cmpR ho ha hb hm) fun _ _ _ h => t_op2 h
theorem mtB_eq {A : Fe} {r : Me} {s s' : Ms} {b : Bool} (h : mtB A r s = some (b, s')) : A r s = some (.bl b, s') := by
  obtain ⟨⟨x, s1⟩, q1, q2⟩ := ob_some.mp h
  cases x with
  | bl c => cases q2; exact q1
  | _ => cases q2
theorem Den.bl_eq {p : List Addr} {H : Hp} {v : V} {b : Bool} (d : Den G p H (.bl b) v) : v = .bl b := by cases d; rfl
theorem t_B {A : Fe} {σ : L2.St} {H : Hp} {Q : Bool → Hp → Prop} (h : tT G (mtB A) σ H Q) : tTest (tI G A) σ H Q := by
  obtain ⟨p, s, r, b, s', S, E, q, k⟩ := h
  exact ⟨p, s, r, .bl b, s', S, E, mtB_eq q, fun p1 v1 H1 S1 f1 d1 => ⟨b, d1.bl_eq, k p1 H1 S1 f1⟩⟩
theorem pm_tcmp {op : CmpOp} {f : Mv → Mv → Ms → Option (Mv × Ms)} {A B : Fe} (ho : OpR X (compareOp op) (q2R G f)) (ha : PE X a (tI G A)) (hb : PE X b (tI G B)) (hm : behindInMarks op b = false) : PT X (.Compare a [op] [b] pos) (tT G (mtB (mop2 f A B))) :=
  pt_imp (pt_cmpR ho ha hb hm) fun σ H Q h => by
    obtain ⟨p, s, r, c, s', S, E, q, k⟩ := t_B h
    exact t_op2 ⟨p, s, r, c, s', S, E, q, k⟩
theorem t_chain {f g : Mv → Mv → Ms → Option (Mv × Ms)} {A B C : Fe} {σ : L2.St} {H : Hp} {Q : VK} (h : tI G (mchain f g A B C) σ H Q) : tChain (q2R G f) (q2R G g) (tI G A) (tI G B) (tI G C) σ H Q := by
  obtain ⟨p, s, r, w, s', S, E, q, k⟩ := h
  obtain ⟨⟨x, s1⟩, q1, q2⟩ := ob_some.mp q
  obtain ⟨⟨y, s2⟩, q3, q4⟩ := ob_some.mp q2
  obtain ⟨⟨z, s3⟩, q5, q6⟩ := ob_some.mp q4
  refine ⟨p, s, r, x, s1, S, E, q1, fun p1 v1 H1 S1 f1 d1 => ⟨p1, s1, r, y, s2, S1, E.fra S f1, q3, fun p2 v2 H2 S2 f2 d2 => ⟨p2, s2, x, y, z, s3, S2, d1.fra S1 f2, d2, q5, fun p3 v3 H3 S3 f3 d3 => ?_⟩⟩⟩
  cases z with
  | bl c =>
    cases d3
    refine ⟨c, rfl, ?_⟩
    cases c with
    | false => rw [if_neg Bool.false_ne_true]; cases q6; exact k p3 _ H3 S3 ((f1.trans f2).trans f3) (.bl false)
    | true =>
      rw [if_pos rfl]
      obtain ⟨⟨u, s4⟩, q7, q8⟩ := ob_some.mp q6
      exact ⟨p3, s3, r, u, s4, S3, ((E.fra S f1).fra S1 f2).fra S2 f3, q7, fun p4 v4 H4 S4 f4 d4 => ⟨p4, s4, y, u, w, s', S4, (d2.fra S2 f3).fra S3 f4, d4, q8, k.of (((f1.trans f2).trans f3).trans f4)⟩⟩
  | _ => cases q6
theorem pm_chain {op op' : CmpOp} {f g : Mv → Mv → Ms → Option (Mv × Ms)} {A B C : Fe} (ho : OpR X (compareOp op) (q2R G f)) (ho' : OpR X (compareOp op') (q2R G g)) (ha : PE X a (tI G A)) (hb : PE X b (tI G B)) (hc : PE X c (tI G C)) (hm : lastMarks [op, op'] [b, c] = false := by with_unfolding_all rfl) :
    PE X (.Compare a [op, op'] [b, c] pos) (tI G (mchain f g A B C)) := pe_imp (pe_chain ho ho' ha hb hc hm) fun _ _ _ h => t_chain h
theorem pm_tchain {op op' : CmpOp} {f g : Mv → Mv → Ms → Option (Mv × Ms)} {A B C : Fe} (ho : OpR X (compareOp op) (q2R G f)) (ho' : OpR X (compareOp op') (q2R G g)) (ha : PE X a (tI G A)) (hb : PE X b (tI G B)) (hc : PE X c (tI G C)) (hm : lastMarks [op, op'] [b, c] = false := by with_unfolding_all rfl) :
    PT X (.Compare a [op, op'] [b, c] pos) (tT G (mtB (mchain f g A B C))) :=
  pt_imp (pt_chain ho ho' ha hb hc hm) fun σ H Q h => by
    obtain ⟨p, s, r, c, s', S, E, q, k⟩ := t_B h
    exact t_chain ⟨p, s, r, c, s', S, E, q, k⟩
theorem pm_tB {A : Fe} (h : PE X e (tI G A)) (he : ∀ whole, isTrue e X.env whole = (do let v ← whole; standAt e.pos; holding [v] (truthy v)) := by intro _; rfl) : PT X e (tT G (mtB A)) := pt_imp (pt_val h he) fun σ H Q q => t_B q
/-! truth of any value -/
theorem tru_den {p : List Addr} {s : Ms} {H : Hp} {w : Mv} {v : V} {k : Bool} (S : Sim G p s H) (d : Den G p H w v) (h : tru w s = some k) (hK : X.K = G.K) : TruV X.K v H k := by
  cases d with
  | non => cases h; rfl
  | bl b => cases h; rfl
  | int i => cases h; rfl
  | str x =>
    simp only [tru] at h
    cases q : Nat.ble x.length 16777216 with
    | false => rw [q] at h; cases h
    | true =>
      rw [q] at h; cases h
      refine ⟨Nat.le_of_ble_eq_true q, ?_⟩
      cases x.length with
      | zero => rfl
      | succ n =>
        have h1 : (n + 1 != 0) = true := by simp
        have h2 : (((n + 1 : Nat) : Int) != 0) = true := by simp; omega
        rw [h1, h2]
  | tup h1 l =>
    cases h
    refine .inr (.inl ⟨_, by rw [hK]; exact h1, ?_⟩)
    cases l with
    | nil => rfl
    | cons _ _ => rfl
  | ref hn =>
    simp only [tru] at h
    split at h
    · rename_i ws e
      cases h
      obtain ⟨ho, h1, vs, rfl, l, _⟩ := S.get hn e
      refine .inl ⟨vs, SqL.of h1, ?_⟩
      cases l with
      | nil => rfl
      | cons _ _ => rfl
    · cases h
  | ty t => cases h
  | cls c => cases h
  | fl _ _ => cases h
theorem pm_tst {A : Fe} (h : PE X e (tI G A)) (hK : X.K = G.K := by rfl) (he : ∀ whole, isTrue e X.env whole = (do let v ← whole; standAt e.pos; holding [v] (truthy v)) := by intro _; rfl) : PT X e (tT G (mtst A)) :=
  pt_imp (pt_truth h he) fun σ H Q ⟨p, s, r, b, s', S, E, q, k⟩ => by
    obtain ⟨⟨x, s1⟩, q1, q2⟩ := ob_some.mp q
    obtain ⟨b', q3, q4⟩ := omap_some.mp q2
    cases q4
    exact ⟨p, s, r, x, s1, S, E, q1, fun p1 v1 H1 S1 f1 d1 => ⟨b, tru_den S1 d1 q3 hK, k p1 H1 S1 f1⟩⟩
/-! and, or, not, if -/
variable {rest : List Expr}
theorem t_and {A B : Ft} {σ : L2.St} {H : Hp} {Q : Bool → Hp → Prop} (h : tT G (mand A B) σ H Q) : tAnd (tT G A) (tT G B) σ H Q := by
  obtain ⟨p, s, r, c, s', S, E, q, k⟩ := h
  obtain ⟨⟨x, s1⟩, q1, q2⟩ := ob_some.mp q
  refine ⟨p, s, r, x, s1, S, E, q1, fun p1 H1 S1 f1 => ?_⟩
  cases x with
  | false => rw [if_neg Bool.false_ne_true]; cases q2; exact k p1 H1 S1 f1
  | true => rw [if_pos rfl]; exact ⟨p1, s1, r, c, s', S1, E.fra S f1, q2, fun p2 H2 S2 f2 => k p2 H2 S2 (f1.trans f2)⟩
theorem t_or {A B : Ft} {σ : L2.St} {H : Hp} {Q : Bool → Hp → Prop} (h : tT G (mor A B) σ H Q) : tOr (tT G A) (tT G B) σ H Q := by
  obtain ⟨p, s, r, c, s', S, E, q, k⟩ := h
  obtain ⟨⟨x, s1⟩, q1, q2⟩ := ob_some.mp q
  refine ⟨p, s, r, x, s1, S, E, q1, fun p1 H1 S1 f1 => ?_⟩
  cases x with
  | true => rw [if_pos rfl]; cases q2; exact k p1 H1 S1 f1
  | false => rw [if_neg Bool.false_ne_true]; exact ⟨p1, s1, r, c, s', S1, E.fra S f1, q2, fun p2 H2 S2 f2 => k p2 H2 S2 (f1.trans f2)⟩
theorem pm_wand1 {A : Ft} (ha : PT X a (tT G A)) : PW X (.BoolOp .And [a] pos) (tT G A) := pw_and1 ha
theorem pm_wor1 {A : Ft} (ha : PT X a (tT G A)) : PW X (.BoolOp .Or [a] pos) (tT G A) := pw_or1 ha
theorem pm_wand {A B : Ft} (ha : PT X a (tT G A)) (hb : PW X (.BoolOp .And (b :: rest) pos) (tT G B)) : PW X (.BoolOp .And (a :: b :: rest) pos) (tT G (mand A B)) := pw_imp (pw_and ha hb) fun _ _ _ h => t_and h
theorem pm_wor {A B : Ft} (ha : PT X a (tT G A)) (hb : PW X (.BoolOp .Or (b :: rest) pos) (tT G B)) : PW X (.BoolOp .Or (a :: b :: rest) pos) (tT G (mor A B)) := pw_imp (pw_or ha hb) fun _ _ _ h => t_or h
theorem pm_tnot {A : Ft} (ha : PT X a (tT G A)) : PT X (.UnaryOp .Not a pos) (tT G (mnot A)) := pt_imp (pt_not ha) fun σ H Q ⟨p, s, r, c, s', S, E, q, k⟩ => by
  obtain ⟨⟨x, s1⟩, q1, q2⟩ := omap_some.mp q
  cases q2
  exact ⟨p, s, r, x, s1, S, E, q1, k⟩
theorem pm_and {A B : Fe} (ha : PE X a (tI G A)) (hb : PE X (.BoolOp .And (b :: rest) pos) (tI G B)) : PE X (.BoolOp .And (a :: b :: rest) pos) (tI G (mandV A B)) := pe_imp (pe_and ha hb) fun σ H Q ⟨p, s, r, w, s', S, E, q, k⟩ => by
  obtain ⟨⟨x, s1⟩, q1, q2⟩ := ob_some.mp q
  refine ⟨p, s, r, x, s1, S, E, q1, fun p1 v1 H1 S1 f1 d1 => ?_⟩
  cases x with
  | bl c =>
    cases d1
    refine ⟨c, rfl, ?_⟩
    cases c with
    | false => rw [if_neg Bool.false_ne_true]; cases q2; exact k p1 _ H1 S1 f1 (.bl false)
    | true => rw [if_pos rfl]; exact ⟨p1, s1, r, w, s', S1, E.fra S f1, q2, k.of f1⟩
  | _ => cases q2
theorem pm_or {A B : Fe} (ha : PE X a (tI G A)) (hb : PE X (.BoolOp .Or (b :: rest) pos) (tI G B)) : PE X (.BoolOp .Or (a :: b :: rest) pos) (tI G (morV A B)) := pe_imp (pe_or ha hb) fun σ H Q ⟨p, s, r, w, s', S, E, q, k⟩ => by
  obtain ⟨⟨x, s1⟩, q1, q2⟩ := ob_some.mp q
  refine ⟨p, s, r, x, s1, S, E, q1, fun p1 v1 H1 S1 f1 d1 => ?_⟩
  cases x with
  | bl c =>
    cases d1
    refine ⟨c, rfl, ?_⟩
    cases c with
    | true => rw [if_pos rfl]; cases q2; exact k p1 _ H1 S1 f1 (.bl true)
    | false => rw [if_neg Bool.false_ne_true]; exact ⟨p1, s1, r, w, s', S1, E.fra S f1, q2, k.of f1⟩
  | _ => cases q2
theorem pm_not {A : Fe} (ha : PE X a (tI G A)) : PE X (.UnaryOp .Not a pos) (tI G (mnotV A)) := pe_imp (pe_not ha) fun σ H Q ⟨p, s, r, w, s', S, E, q, k⟩ => by
  obtain ⟨⟨x, s1⟩, q1, q2⟩ := ob_some.mp q
  refine ⟨p, s, r, x, s1, S, E, q1, fun p1 v1 H1 S1 f1 d1 => ?_⟩
  cases x with
  | bl c => cases d1; cases q2; exact ⟨c, rfl, k p1 _ H1 S1 f1 (.bl _)⟩
  | _ => cases q2
theorem pm_one {op} {A : Fe} (h : PE X a (tI G A)) : PE X (.BoolOp op [a] pos) (tI G A) := pe_one h
theorem pm_if {T : Ft} {A B : Fe} (hc : PT X c (tT G T)) (ha : PE X a (tI G A)) (hb : PE X b (tI G B)) : PE X (.IfExp c a b pos) (tI G (mif T A B)) := pe_imp (pe_ifExp hc ha hb) fun σ H Q ⟨p, s, r, w, s', S, E, q, k⟩ => by
  obtain ⟨⟨x, s1⟩, q1, q2⟩ := ob_some.mp q
  refine ⟨p, s, r, x, s1, S, E, q1, fun p1 H1 S1 f1 => ?_⟩
  cases x with
  | true => rw [if_pos rfl]; exact ⟨p1, s1, r, w, s', S1, E.fra S f1, q2, k.of f1⟩
  | false => rw [if_neg Bool.false_ne_true]; exact ⟨p1, s1, r, w, s', S1, E.fra S f1, q2, k.of f1⟩
/-! arguments, calls -/
theorem pm_nil : PA X [] (tA G mnil) := pa_imp pa_nil fun σ H Q ⟨p, s, r, ws, s', S, E, q, k⟩ => by cases q; exact k p [] H S Fra.refl .nil
theorem pm_cons {es : List Expr} {A : Fe} {B : Fa} (ha : PE X e (tI G A)) (hr : PA X es (tA G B)) (hs : starEach (e :: es) X.env = (false, eval e X.env) :: starEach es X.env := by rfl) : PA X (e :: es) (tA G (mcons A B)) :=
  pa_imp (pa_cons ha hr hs) fun σ H Q ⟨p, s, r, ws, s', S, E, q, k⟩ => by
    obtain ⟨⟨x, s1⟩, q1, q2⟩ := ob_some.mp q
    obtain ⟨⟨y, s2⟩, q3, q4⟩ := ob_some.mp q2
    cases q4
    exact ⟨p, s, r, x, s1, S, E, q1, fun p1 v1 H1 S1 f1 d1 => ⟨p1, s1, r, y, s2, S1, E.fra S f1, q3, fun p2 vs H2 S2 f2 d2 => k p2 _ H2 S2 (f1.trans f2) (.cons (d1.fra S1 f2) d2)⟩⟩
theorem t_call {f : Fn} {A : Fa} {σ : L2.St} {H : Hp} {Q : VK} (h : tI G (mcall f A) σ H Q) : tA G A σ H fun vs H1 => rF G f vs H1 Q := by
  obtain ⟨p, s, r, w, s', S, E, q, k⟩ := h
  obtain ⟨⟨x, s1⟩, q1, q2⟩ := ob_some.mp q
  exact ⟨p, s, r, x, s1, S, E, q1, fun p1 vs H1 S1 f1 d1 => ⟨p1, s1, x, w, s', S1, d1, q2, k.of f1⟩⟩
variable {x : Str} {p0 : Pos} {es : List Expr} {id T : String} {f : Fn} {A : Fa}
theorem pm_cB (hc : CallR X (.builtin id) (rF G f)) (hg : Gl X x) (hm : X.mg x = none) (hv : bootBuiltins x = some (.builtin id)) (ha : PA X (e :: es) (tA G A)) (hn : x ≠ "__name__" := by decide) (hdb : (x == ("__debug__" : Str)) = false := by decide)
    (he : starEach (e :: es) X.env = (false, eval e X.env) :: starEach es X.env := by rfl) (hpl : (backTo pos (starEach es X.env)).any (·.1) = false := by rfl) : PE X (.Call (.Name x p0) (e :: es) [] pos) (tI G (mcall f A)) := pe_imp (pe_callB hc hg hm hv ha hn hdb he hpl) fun _ _ _ h => t_call h
theorem pm_cT (hc : CallR X (.type T) (rF G f)) (hg : Gl X x) (hm : X.mg x = none) (hv : bootBuiltins x = some (.type T)) (ha : PA X (e :: es) (tA G A)) (hn : x ≠ "__name__" := by decide) (hdb : (x == ("__debug__" : Str)) = false := by decide)
    (he : starEach (e :: es) X.env = (false, eval e X.env) :: starEach es X.env := by rfl) (hpl : (backTo pos (starEach es X.env)).any (·.1) = false := by rfl) : PE X (.Call (.Name x p0) (e :: es) [] pos) (tI G (mcall f A)) := pe_imp (pe_callTy hc hg hm hv ha hn hdb he hpl) fun _ _ _ h => t_call h
theorem pm_call {CX : CXT} {k : Nat} {fa : Addr} {fd : FuncData} {ps : List Str} {E : XK} (F : FnOk X.prog X.w X.K X.mg X.base CX k fa fd ps (spM G f)) (hr : Room k X.A) (hg : Gl X x) (hm : X.mg x = some (.ref fa)) (hk : PySem.W.keepIn X.K (.ref fa) = true) (hb : Binds X.K fd ps []) (hx : Passes CX X E) (ha : PA X (e :: es) (tA G A))
    (hdb : (x == ("__debug__" : Str)) = false := by decide) (he : starEach (e :: es) X.env = (false, eval e X.env) :: starEach es X.env := by rfl) (hpl : (backTo pos (starEach es X.env)).any (·.1) = false := by rfl) :
    PE X (.Call (.Name x p0) (e :: es) [] pos) (tI G (mcall f A)) := pe_imp (pe_call F hr hg hm hk hb .nil hx ha hdb he hpl) fun σ H Q h => by
  obtain ⟨p, s, r, w, s', S, E, q, k⟩ := t_call h
  exact ⟨p, s, r, w, s', S, E, q, fun p1 vs H1 S1 f1 d1 => by
    show rF G f (vs ++ []) H1 Q
    rw [List.append_nil]
    exact k p1 vs H1 S1 f1 d1⟩
theorem pm_call0 {CX : CXT} {k : Nat} {fa : Addr} {fd : FuncData} {ps : List Str} {E : XK} (F : FnOk X.prog X.w X.K X.mg X.base CX k fa fd ps (spM G f)) (hr : Room k X.A) (hg : Gl X x) (hm : X.mg x = some (.ref fa)) (hk : PySem.W.keepIn X.K (.ref fa) = true) (hb : Binds X.K fd ps []) (hx : Passes CX X E)
    (hdb : (x == ("__debug__" : Str)) = false := by decide) : PE X (.Call (.Name x p0) [] [] pos) (tI G (mcall f mnil)) := pe_imp (pe_call0 F hr hg hm hk hb .nil hx hdb) fun σ H Q h => by
  obtain ⟨p, s, r, w, s', S, E, q, k⟩ := t_call h
  cases q
  exact k p [] H S Fra.refl .nil
end

end
section
/-! ### statements -/
inductive Fl where
  | nx | bk | ct | rt (w : Mv)
abbrev Fs := Me → Ms → Option (Fl × Me × Ms)
/-- what is wanted behind a statement that ends so -/
noncomputable def Ended (G : Mg) (D : Ends) (p : List Addr) (H : Hp) (r : Me) : Fl → Prop
  | .nx => ∀ σ, EnvR G p H r σ → D.nx σ H
  | .bk => ∀ σ, EnvR G p H r σ → D.bk σ H
  | .ct => ∀ σ, EnvR G p H r σ → D.ct σ H
  | .rt w => ∀ v, Den G p H w v → D.rt v H
noncomputable def tS (G : Mg) (F : Fs) : TS := fun D σ H => ∃ p s r f r' s', Sim G p s H ∧ EnvR G p H r σ ∧ F r s = some (f, r', s') ∧ ∀ p' H', Sim G p' s' H' → Fra p H p' H' → Ended G D p' H' r' f
noncomputable def snx : Fs := fun r s => some (.nx, r, s)
noncomputable def sno : Fs := fun _ _ => none
noncomputable def sbk : Fs := fun r s => some (.bk, r, s)
noncomputable def sct : Fs := fun r s => some (.ct, r, s)
noncomputable def sseq (A B : Fs) : Fs := fun r s => (A r s).ob fun x => match x.1 with
  | .nx => B x.2.1 x.2.2
  | .bk => some (.bk, x.2)
  | .ct => some (.ct, x.2)
  | .rt w => some (.rt w, x.2)
noncomputable def sret (A : Fe) : Fs := fun r s => (A r s).om fun x => (.rt x.1, r, x.2)
noncomputable def sexp (A : Fe) : Fs := fun r s => (A r s).om fun x => (.nx, r, x.2)
noncomputable def sif (T : Ft) (A B : Fs) : Fs := fun r s => (T r s).ob fun x => cond x.1 (A r x.2) (B r x.2)
section
variable {X : Cx} {G : Mg} {e : Expr} {pos : Pos} {st : Stmt} {rest : List Stmt}
theorem ps_imp {t t' : TS} (h : PS X st t) (i : ∀ D σ H, t' D σ H → t D σ H) : PS X st t' := ⟨fun pins s σ H D I q => h.run pins s σ H D I (i D σ H q)⟩
theorem pss_imp {st : List Stmt} {t t' : TS} (h : PSs X st t) (i : ∀ D σ H, t' D σ H → t D σ H) : PSs X st t' := ⟨fun pins s σ H D I q => h.run pins s σ H D I (i D σ H q)⟩
theorem sm_no : PS X st (tS G sno) := ⟨fun pins s σ H D I q => by obtain ⟨_, _, _, _, _, _, _, _, z, _⟩ := q; cases z⟩
theorem sm_nos {st : List Stmt} : PSs X st (tS G sno) := ⟨fun pins s σ H D I q => by obtain ⟨_, _, _, _, _, _, _, _, z, _⟩ := q; cases z⟩
theorem sm_nil : PSs X [] (tS G snx) := pss_imp pss_nil fun D σ H ⟨p, s, r, f, r', s', S, E, q, k⟩ => by
  cases q
  exact k p H S Fra.refl σ E
theorem sm_pass : PS X (.Pass pos) (tS G snx) := ps_imp ps_pass fun D σ H ⟨p, s, r, f, r', s', S, E, q, k⟩ => by
  cases q
  exact k p H S Fra.refl σ E
theorem sm_break : PS X (.Break pos) (tS G sbk) := ps_imp ps_break fun D σ H ⟨p, s, r, f, r', s', S, E, q, k⟩ => by
  cases q
  exact k p H S Fra.refl σ E
theorem sm_continue : PS X (.Continue pos) (tS G sct) := ps_imp ps_continue fun D σ H ⟨p, s, r, f, r', s', S, E, q, k⟩ => by
  cases q
  exact k p H S Fra.refl σ E
theorem t_seq {A B : Fs} {D : Ends} {σ : L2.St} {H : Hp} (h : tS G (sseq A B) D σ H) : tSeq (tS G A) (tS G B) D σ H := by
  obtain ⟨p, s, r, f, r', s', S, E, q, k⟩ := h
  obtain ⟨⟨fl, r1, s1⟩, q1, q2⟩ := ob_some.mp q
  refine ⟨p, s, r, fl, r1, s1, S, E, q1, fun p1 H1 S1 f1 => ?_⟩
  cases fl with
  | nx => exact fun σ1 E1 => ⟨p1, s1, r1, f, r', s', S1, E1, q2, fun p2 H2 S2 f2 => k p2 H2 S2 (f1.trans f2)⟩
  | bk => cases q2; exact k p1 H1 S1 f1
  | ct => cases q2; exact k p1 H1 S1 f1
  | rt w => cases q2; exact k p1 H1 S1 f1
theorem sm_cons {A B : Fs} (h1 : PS X st (tS G A)) (h2 : PSs X rest (tS G B)) : PSs X (st :: rest) (tS G (sseq A B)) := pss_imp (pss_cons h1 h2) fun _ _ _ h => t_seq h
theorem sm_one {A : Fs} (h1 : PS X st (tS G A)) : PSs X [st] (tS G A) := pss_one h1
theorem sm_ret {A : Fe} (h : PE X e (tI G A)) : PS X (.Return (some e) pos) (tS G (sret A)) := ps_imp (ps_ret h) fun D σ H ⟨p, s, r, f, r', s', S, E, q, k⟩ => by
  obtain ⟨⟨x, s1⟩, q1, q2⟩ := omap_some.mp q
  cases q2
  exact ⟨p, s, r, x, s1, S, E, q1, fun p1 v1 H1 S1 f1 d1 => k p1 H1 S1 f1 v1 d1⟩
theorem sm_exp {A : Fe} (h : PE X e (tI G A)) (hs : swapsWith e none pos.line X.env = pure false := by rfl) : PS X (.Expr e pos) (tS G (sexp A)) := ps_imp (ps_expr h hs) fun D σ H ⟨p, s, r, f, r', s', S, E, q, k⟩ => by
  obtain ⟨⟨x, s1⟩, q1, q2⟩ := omap_some.mp q
  cases q2
  exact ⟨p, s, r, x, s1, S, E, q1, fun p1 v1 H1 S1 f1 d1 => k p1 H1 S1 f1 σ (E.fra S f1)⟩
theorem sm_if {c : Expr} {a b : List Stmt} {T : Ft} {A B : Fs} (hc : PT X c (tT G T)) (ha : PSs X a (tS G A)) (hb : PSs X b (tS G B)) : PS X (.If c a b pos) (tS G (sif T A B)) := ps_imp (ps_if hc ha hb) fun D σ H ⟨p, s, r, f, r', s', S, E, q, k⟩ => by
  obtain ⟨⟨x, s1⟩, q1, q2⟩ := ob_some.mp q
  refine ⟨p, s, r, x, s1, S, E, q1, fun p1 H1 S1 f1 => ?_⟩
  cases x with
  | true => rw [if_pos rfl]; exact ⟨p1, s1, r, f, r', s', S1, E.fra S f1, q2, fun p2 H2 S2 f2 => k p2 H2 S2 (f1.trans f2)⟩
  | false => rw [if_neg Bool.false_ne_true]; exact ⟨p1, s1, r, f, r', s', S1, E.fra S f1, q2, fun p2 H2 S2 f2 => k p2 H2 S2 (f1.trans f2)⟩
end
/-! ### targets -/
inductive Tg where
  | nm (i : Nat) | tp (is : List Nat) | pr (a b : Tg)
noncomputable def asgs : List Nat → List Mv → Me → Option Me
  | [], [], r => some r
  | i :: is, w :: ws, r => asgs is ws (lset r i (some w))
  | _, _, _ => none
noncomputable def Tg.asg : Tg → Mv → Me → Option Me
  | .nm i, w, r => some (lset r i (some w))
  | .tp is, .tup ws, r => asgs is ws r
  | .pr a b, .tup [x, y], r => (a.asg x r).ob fun r' => b.asg y r'
  | _, _, _ => none
noncomputable def Tg.slots : Tg → List Nat
  | .nm i => [i]
  | .tp is => is
  | .pr a b => a.slots ++ b.slots
noncomputable def tG (G : Mg) (T : Tg) : TG := fun v σ H Q => ∃ p s r w r', Sim G p s H ∧ EnvR G p H r σ ∧ Den G p H w v ∧ T.asg w r = some r' ∧ ∀ σ', EnvR G p H r' σ' → (∀ i, i ∉ T.slots → σ'[i]? = σ[i]?) → Q σ' H
noncomputable def tGs (G : Mg) (is : List Nat) : TGs := fun vs σ H Q => ∃ p s r ws r', Sim G p s H ∧ EnvR G p H r σ ∧ DenL G p H ws vs ∧ asgs is ws r = some r' ∧ ∀ σ', EnvR G p H r' σ' → (∀ i, i ∉ is → σ'[i]? = σ[i]?) → Q σ' H
noncomputable def sasg (A : Fe) (T : Tg) : Fs := fun r s => (A r s).ob fun x => (T.asg x.1 r).om fun r' => (.nx, r', x.2)
noncomputable def sset (i : Nat) (A : Fe) : Fs := fun r s => (A r s).om fun x => (.nx, lset r i (some x.1), x.2)
noncomputable def spar (i j : Nat) (A : Fa) : Fs := fun r s => (A r s).ob fun x => match x.1 with
  | [a, b] => some (.nx, lset (lset r i (some a)) j (some b), x.2)
  | _ => none
noncomputable def spar3 (i j l : Nat) (A : Fa) : Fs := fun r s => (A r s).ob fun x => match x.1 with
  | [a, b, c] => some (.nx, lset (lset (lset r i (some a)) j (some b)) l (some c), x.2)
  | _ => none
section
variable {X : Cx} {G : Mg} {e : Expr} {pos : Pos}
theorem pg_imp {tg : Expr} {t t' : TG} (h : PG X tg t) (i : ∀ v σ H Q, t' v σ H Q → t v σ H Q) : PG X tg t' := ⟨fun pins s σ H v u Q I r q => h.run pins s σ H v u Q I r (i v σ H Q q)⟩
theorem pgs_imp {tg : List Expr} {t t' : TGs} (h : PGs X tg t) (i : ∀ v σ H Q, t' v σ H Q → t v σ H Q) : PGs X tg t' := ⟨fun pins s σ H v u Q I r q => h.run pins s σ H v u Q I r (i v σ H Q q)⟩
theorem gm_name {i : Nat} {tg : Expr} (h : PG X tg (gName i)) : PG X tg (tG G (.nm i)) := pg_imp h fun v σ H Q ⟨p, s, r, w, r', S, E, d, q, k⟩ => by
  cases q
  exact k _ (E.set d) fun j hj => by
    have hij : i ≠ j := fun z => hj (by simp [Tg.slots, z])
    rw [List.getElem?_set_ne hij]
theorem gm_nil : PGs X [] (tGs G []) := pgs_imp pgs_nil fun vs σ H Q ⟨p, s, r, ws, r', S, E, d, q, k⟩ => by
  cases d with
  | nil => cases q; exact ⟨rfl, k σ E fun _ _ => rfl⟩
  | cons a l => cases q
theorem gm_cons {es : List Expr} {i : Nat} {is : List Nat} (h1 : PG X e (gName i)) (h2 : PGs X es (tGs G is)) (hs : (assignEach (e :: es) X.env).map (·.2) = assign e X.env :: (assignEach es X.env).map (·.2) := by rfl) : PGs X (e :: es) (tGs G (i :: is)) :=
  pgs_imp (pgs_cons h1 h2 hs) fun vs σ H Q ⟨p, s, r, ws, r', S, E, d, q, k⟩ => by
    cases d with
    | nil => cases q
    | cons a l =>
      refine ⟨_, _, rfl, p, s, _, _, r', S, E.set (i := i) a, l, q, fun σ2 E2 h2 => k σ2 E2 fun j hj => ?_⟩
      have hj' : j ≠ i ∧ j ∉ is := by simpa using hj
      rw [h2 j hj'.2, List.getElem?_set_ne (Ne.symm hj'.1)]
theorem Den.tup_inv {p : List Addr} {H : Hp} {ws : List Mv} {v : V} (d : Den G p H (.tup ws) v) : ∃ a vs, v = .ref a ∧ SqT G.K H a vs ∧ DenL G p H ws vs := by
  cases d with
  | tup h l => exact ⟨_, _, rfl, h, l⟩
theorem asgs_len : ∀ {is : List Nat} {ws : List Mv} {r r' : Me}, asgs is ws r = some r' → ws.length = is.length
  | [], [], _, _, _ => rfl
  | [], _ :: _, _, _, h => by cases h
  | _ :: _, [], _, _, h => by cases h
  | i :: is, w :: ws, r, r', h => by rw [List.length_cons, List.length_cons, asgs_len (is := is) (ws := ws) h]
theorem gm_tup {es : List Expr} {k : Nat} {is : List Nat} (hc : X.calm = true) (h : PGs X es (tGs G is)) (hn : (assignEach es X.env).length = is.length := by rfl) (hst : (assignEach es X.env).findIdx? (·.1) = none := by rfl) (hK : X.K = G.K := by rfl) : PG X (.Tuple es k pos) (tG G (.tp is)) :=
  pg_imp (pg_tup hc h hn hst) fun v σ H Q ⟨p, s, r, w, r', S, E, d, q, kk⟩ => by
    cases w with
    | tup ws =>
      obtain ⟨a, vs, rfl, h1, l⟩ := d.tup_inv
      refine ⟨a, vs, rfl, by rw [hK]; exact h1, ?_, p, s, r, ws, r', S, E, l, q, fun σ' E' hh => kk σ' E' fun i hi => hh i hi⟩
      rw [← l.length]
      exact asgs_len q
    | _ => cases q
theorem asg_pr {a b : Tg} {w : Mv} {r r' : Me} (h : (Tg.pr a b).asg w r = some r') : ∃ x y r1, w = .tup [x, y] ∧ a.asg x r = some r1 ∧ b.asg y r1 = some r' := by
  cases w with
  | tup ws =>
    match ws, h with
    | [], h => cases h
    | [x], h => cases h
    | [x, y], h =>
      obtain ⟨r1, h1, h2⟩ := ob_some.mp (show (a.asg x r).ob (fun r' => b.asg y r') = some r' from h)
      exact ⟨x, y, r1, rfl, h1, h2⟩
    | _ :: _ :: _ :: _, h => cases h
  | _ => cases h
theorem gm_pr {ea eb : Expr} {k : Nat} {a b : Tg} (hc : X.calm = true) (h1 : PG X ea (tG G a)) (h2 : PG X eb (tG G b)) (hK : X.K = G.K := by rfl)
    (hs1 : (assignEach [ea, eb] X.env).map (·.2) = assign ea X.env :: (assignEach [eb] X.env).map (·.2) := by rfl) (hs2 : (assignEach [eb] X.env).map (·.2) = assign eb X.env :: (assignEach [] X.env).map (·.2) := by rfl)
    (hn : (assignEach [ea, eb] X.env).length = 2 := by rfl) (hst : (assignEach [ea, eb] X.env).findIdx? (·.1) = none := by rfl) : PG X (.Tuple [ea, eb] k pos) (tG G (.pr a b)) :=
  pg_imp (pg_tup hc (pgs_cons h1 (pgs_cons h2 pgs_nil hs2) hs1) hn hst) fun v σ H Q ⟨p, s, r, w, r', S, E, d, q, kk⟩ => by
    obtain ⟨x, y, r1, rfl, q1, q2⟩ := asg_pr q
    obtain ⟨ad, vs, rfl, h1, l⟩ := d.tup_inv
    cases l with
    | cons dx l => cases l with
      | cons dy l => cases l with
        | nil =>
          refine ⟨ad, _, rfl, by rw [hK]; exact h1, rfl, _, _, rfl, p, s, r, x, r1, S, E, dx, q1, fun σ1 E1 s1 => ⟨_, _, rfl, p, s, r1, y, r', S, E1, dy, q2, fun σ2 E2 s2 => ⟨rfl, kk σ2 E2 fun i hi => ?_⟩⟩⟩
          have hi' : i ∉ a.slots ∧ i ∉ b.slots := by simpa [Tg.slots] using hi
          rw [s2 i hi'.2, s1 i hi'.1]
theorem sm_set {i : Nat} {tg : Expr} {A : Fe} (h : PS X (.Assign [tg] e pos) (tAsg (tI G A) (gName i))) : PS X (.Assign [tg] e pos) (tS G (sset i A)) := ps_imp h fun D σ H ⟨p, s, r, f, r', s', S, E, q, k⟩ => by
  obtain ⟨⟨x, s1⟩, q1, q2⟩ := omap_some.mp q
  cases q2
  exact ⟨p, s, r, x, s1, S, E, q1, fun p1 v1 H1 S1 f1 d1 => k p1 H1 S1 f1 _ ((E.fra S f1).set d1)⟩
theorem sm_asg {tg : Expr} {A : Fe} {T : Tg} (he : PE X e (tI G A)) (hg : PG X tg (tG G T)) (hs : swapsWithSole [tg] e pos.line X.env = pure false := by rfl) (hw : swappedStores [tg] e X.env = pure none := by rfl)
    (h1 : (assignEach [tg] X.env).map (·.2) = [assign tg X.env] := by rfl) : PS X (.Assign [tg] e pos) (tS G (sasg A T)) := ps_imp (ps_asg he hg hs hw h1) fun D σ H ⟨p, s, r, f, r', s', S, E, q, k⟩ => by
  obtain ⟨⟨x, s1⟩, q1, q2⟩ := ob_some.mp q
  obtain ⟨r1, q3, q4⟩ := omap_some.mp q2
  cases q4
  exact ⟨p, s, r, x, s1, S, E, q1, fun p1 v1 H1 S1 f1 d1 => ⟨p1, s1, r, x, _, S1, E.fra S f1, d1, q3, fun σ' E' _ => k p1 H1 S1 f1 σ' E'⟩⟩
theorem sm_par {i j : Nat} {st : Stmt} {A : Fa} (h : PS X st (tPar i j (tA G A))) : PS X st (tS G (spar i j A)) := ps_imp h fun D σ H ⟨p, s, r, f, r', s', S, E, q, k⟩ => by
  obtain ⟨⟨x, s1⟩, q1, q2⟩ := ob_some.mp q
  refine ⟨p, s, r, x, s1, S, E, q1, fun p1 vs H1 S1 f1 d1 => ?_⟩
  match x, q2, d1 with
  | [a, b], q2, .cons da (.cons db .nil) =>
    cases q2
    exact ⟨_, _, rfl, k p1 H1 S1 f1 _ (((E.fra S f1).set da).set db)⟩
/-! ### for, while -/
inductive It0 where
  | lst (n : Nat) | seq (ws : List Mv) | rng (lo : Int) (n : Nat) | zl (n m : Nat)
noncomputable def It0.at : It0 → Nat → Ms → Option (Option Mv)
  | .lst n, i, s => match s.get n with
    | some (.lst ws) => some (lget ws i)
    | _ => none
  | .seq ws, i, _ => some (lget ws i)
  | .rng lo n, i, _ => some (cond (Nat.blt i n) (some (.int (lo + i))) none)
  | .zl n m, i, s => match s.get n, s.get m with
    | some (.lst xs), some (.lst ys) => some (match lget xs i, lget ys i with
      | some x, some y => some (.tup [x, y])
      | _, _ => none)
    | _, _ => none
abbrev Fi := Me → Ms → Option (It0 × Ms)
/-- the walker J does what the mirror's iterator says, as long as what may not change stays -/
noncomputable def ItR (G : Mg) (J : It) (it : It0) (p0 : List Addr) (H0 : Hp) : Prop := ∀ p s H i, Sim G p s H → Stays p0 H0 p H → (∀ a o u, H0 a = some (.frz o u) → H a = some (.frz o u)) → (it.at i s = some none → J.stop i H) ∧ ∀ w, it.at i s = some (some w) → J.go i H ∧ ∀ v H', J.yld i H v H' → Sim G p s H' ∧ Fra p H p H' ∧ Den G p H' w v
noncomputable def tIt (G : Mg) (F : Fi) : TI := fun σ H R => ∃ p s r it s', Sim G p s H ∧ EnvR G p H r σ ∧ F r s = some (it, s') ∧ ∀ p' H' J, Sim G p' s' H' → Fra p H p' H' → ItR G J it p' H' → R J H'

/-! iterators -/
theorem pi_imp {tg it : Expr} {t t' : TI} (h : PI X tg it t) (i : ∀ σ H R, t' σ H R → t σ H R) : PI X tg it t' := ⟨fun pins s σ H R I q => h.run pins s σ H R I (i σ H R q)⟩
noncomputable def iof (w : Mv) : Option It0 := match w with
  | .ref n => some (.lst n)
  | .tup ws => some (.seq ws)
  | .fl ws => some (.seq ws)
  | _ => none
noncomputable def miL (A : Fe) : Fi := fun r s => (A r s).ob fun x => match x.1 with
  | .ref n => (match x.2.get n with
    | some (.lst _) => some (.lst n, x.2)
    | _ => none)
  | .fl ws => some (.seq ws, x.2)
  | _ => none
noncomputable def miT (A : Fe) : Fi := fun r s => (A r s).ob fun x => match x.1 with
  | .tup ws => some (.seq ws, x.2)
  | _ => none
theorem itr_list {p0 : List Addr} {H0 : Hp} {n : Nat} {a : Addr} (h : p0[n]? = some a) (hK : X.K = G.K) : ItR G (Itl X.K a) (.lst n) p0 H0 := by
  intro p s H i S st fz
  have ha := st.ix n a h
  constructor
  · intro q
    simp only [It0.at] at q
    split at q
    · rename_i ws e
      obtain ⟨ho, h1, vs, rfl, l, _⟩ := S.get ha e
      have q' : ws[i]? = none := by simpa [lget_eq] using q
      refine ⟨vs, SqL.of h1, ?_⟩
      rw [← l.length]
      exact List.getElem?_eq_none_iff.mp q'
    · cases q
  · intro w q
    simp only [It0.at] at q
    split at q
    · rename_i ws e
      obtain ⟨ho, h1, vs, rfl, l, _⟩ := S.get ha e
      have q' : ws[i]? = some w := by simpa [lget_eq] using q
      obtain ⟨v, hv, d⟩ := l.get q'
      refine ⟨⟨vs, v, SqL.of h1, hv⟩, fun v' H' y => ?_⟩
      obtain ⟨rfl, y2⟩ := y
      have := y2 vs (SqL.of h1)
      rw [hv] at this; cases this
      exact ⟨S, Fra.refl, d⟩
    · cases q
theorem itr_tup {p0 : List Addr} {H0 : Hp} {a : Addr} {ws : List Mv} {vs : List V} (h : SqT G.K H0 a vs) (l0 : DenL G p0 H0 ws vs) (hK : X.K = G.K) : ItR G (Itt X.K a) (.seq ws) p0 H0 := by
  intro p s H i S st fz
  have h1 : SqT X.K H a vs := by rw [hK]; exact Stays.tup (G := G) st h
  have l := l0.stay st
  constructor
  · intro q
    have q' : ws[i]? = none := by simpa [It0.at, lget_eq] using q
    refine ⟨vs, h1, ?_⟩
    rw [← l.length]
    exact List.getElem?_eq_none_iff.mp q'
  · intro w q
    have q' : ws[i]? = some w := by simpa [It0.at, lget_eq] using q
    obtain ⟨v, hv, d⟩ := l.get q'
    refine ⟨⟨vs, v, h1, hv⟩, fun v' H' y => ?_⟩
    obtain ⟨rfl, y2⟩ := y
    have := y2 vs h1
    rw [hv] at this; cases this
    exact ⟨S, Fra.refl, d⟩
theorem FlAt.sq {K : PySem.W.Frag} {p : List Addr} {H : Hp} {a : Addr} {vs : List V} (h : FlAt K p H a vs) : SqL K H a vs := by
  rcases h with ⟨o, h⟩ | h
  · exact .inl (.inr ⟨o, h⟩)
  · rcases h with h | h
    · rcases h with h | ⟨o, h⟩ <;> cases h
    · exact .inr h
theorem itr_fl {p0 : List Addr} {H0 : Hp} {a : Addr} {ws : List Mv} {vs : List V} (h : FlAt G.K p0 H0 a vs) (l0 : DenL G p0 H0 ws vs) (hK : X.K = G.K) : ItR G (Itl X.K a) (.seq ws) p0 H0 := by
  intro p s H i S st fz
  have h1 : SqL X.K H a vs := by rw [hK]; exact (Stays.fl st h).sq
  have l := l0.stay st
  constructor
  · intro q
    have q' : ws[i]? = none := by simpa [It0.at, lget_eq] using q
    refine ⟨vs, h1, ?_⟩
    rw [← l.length]
    exact List.getElem?_eq_none_iff.mp q'
  · intro w q
    have q' : ws[i]? = some w := by simpa [It0.at, lget_eq] using q
    obtain ⟨v, hv, d⟩ := l.get q'
    refine ⟨⟨vs, v, h1, hv⟩, fun v' H' y => ?_⟩
    obtain ⟨rfl, y2⟩ := y
    have := y2 vs h1
    rw [hv] at this; cases this
    exact ⟨S, Fra.refl, d⟩
theorem itr_rng {p0 : List Addr} {H0 : Hp} {lo : Int} {n : Nat} : ItR G (Itr lo n) (.rng lo n) p0 H0 := by
  intro p s H i S st fz
  constructor
  · intro q
    show n ≤ i
    cases e : Nat.blt i n with
    | false =>
      have : ¬ i < n := fun h => by rw [Nat.blt_eq.mpr h] at e; cases e
      omega
    | true => simp [It0.at, e] at q
  · intro w q
    cases e : Nat.blt i n with
    | false => simp [It0.at, e] at q
    | true =>
      refine ⟨Nat.blt_eq.mp e, fun v' H' y => ?_⟩
      obtain ⟨rfl, rfl⟩ := y
      have : w = .int (lo + i) := by simpa [It0.at, e] using q.symm
      subst this
      exact ⟨S, Fra.refl, .int _⟩
theorem im_list {tg : Expr} {A : Fe} (h : PE X e (tI G A)) (hK : X.K = G.K := by rfl) : PI X tg e (tIt G (miL A)) := pi_imp (pi_list h) fun σ H R ⟨p, s, r, it, s', S, E, q, k⟩ => by
  obtain ⟨⟨x, s1⟩, q1, q2⟩ := ob_some.mp q
  refine ⟨p, s, r, x, s1, S, E, q1, fun p1 v1 H1 S1 f1 d1 => ?_⟩
  cases d1 with
  | ref hn =>
    simp only at q2
    split at q2
    · rename_i ws e
      cases q2
      obtain ⟨ho, h1, vs, rfl, l, _⟩ := S1.get hn e
      exact ⟨_, rfl, ⟨vs, SqL.of h1⟩, k p1 H1 _ S1 f1 (itr_list hn hK)⟩
    · cases q2
  | fl h1 l =>
    cases q2
    exact ⟨_, rfl, ⟨_, by rw [hK]; exact h1.sq⟩, k p1 H1 _ S1 f1 (itr_fl h1 l hK)⟩
  | _ => cases q2
theorem im_tup {tg : Expr} {A : Fe} (h : PE X e (tI G A)) (hK : X.K = G.K := by rfl) : PI X tg e (tIt G (miT A)) := pi_imp (pi_tup h) fun σ H R ⟨p, s, r, it, s', S, E, q, k⟩ => by
  obtain ⟨⟨x, s1⟩, q1, q2⟩ := ob_some.mp q
  refine ⟨p, s, r, x, s1, S, E, q1, fun p1 v1 H1 S1 f1 d1 => ?_⟩
  cases d1 with
  | tup h1 l =>
    cases q2
    exact ⟨_, rfl, ⟨_, by rw [hK]; exact h1⟩, k p1 H1 _ S1 f1 (itr_tup h1 l hK)⟩
  | _ => cases q2
/-- a list or a tuple: known only when it is met -/
noncomputable def iSeq (K : PySem.W.Frag) (tl : TE) : TI := fun σ H R => tl σ H fun x H1 => ∃ a, x = .ref a ∧ (((∃ xs, SqL K H1 a xs) ∧ R (Itl K a) H1) ∨ ((∃ xs, SqT K H1 a xs) ∧ R (Itt K a) H1))
theorem pi_seq {tg l : Expr} {tl : TE} (hl : PE X l tl) : PI X tg l (iSeq X.K tl) := by
  refine ⟨fun pins s σ H R I h => ?_⟩
  refine thn (hl.run pins s σ H _ I h) fun v s1 ⟨x, H1, I1, r1, q1⟩ => ?_
  obtain ⟨a, e, q⟩ := q1
  subst e
  cases r1
  have fresh := I1.fpOk (Nat.le_refl _) (I1.hok.fresh (Nat.le_refl s1.heap.objs.size))
  rcases q with ⟨⟨xs, hq⟩, q⟩ | ⟨⟨xs, hq⟩, q⟩
  · obtain ⟨its, rv, p, hz⟩ := I1.list hq
    refine wpAny_pyIter_list p.isList ?_
    refine ⟨s1.heap.objs.size, [s1.heap.objs.size], _, _, H1, rfl, I1.kept (t' := s1.toks) fun b o e => Heap.get?_push_of_some _ e, turn_list a _, ⟨_, Heap.get?_push_size _ rfl, rfl, rfl⟩, fun b hb => ?_, q⟩
    rw [List.mem_singleton.mp hb]
    exact fresh
  · obtain ⟨its, rv, p, hz⟩ := I1.tuple hq
    refine wpAny_pyIter_tuple (show s1.heap.IsTuple a its.toArray from p) ?_
    refine ⟨s1.heap.objs.size, [s1.heap.objs.size], _, _, H1, rfl, I1.kept (t' := s1.toks) fun b o e => Heap.get?_push_of_some _ e, turn_tuple a _, ⟨_, Heap.get?_push_size _ rfl, rfl, rfl⟩, fun b hb => ?_, q⟩
    rw [List.mem_singleton.mp hb]
    exact fresh
noncomputable def miS (A : Fe) : Fi := fun r s => (A r s).ob fun x => match x.1 with
  | .ref n => (match x.2.get n with
    | some (.lst _) => some (.lst n, x.2)
    | _ => none)
  | .fl ws => some (.seq ws, x.2)
  | .tup ws => some (.seq ws, x.2)
  | _ => none
theorem im_seq {tg : Expr} {A : Fe} (h : PE X e (tI G A)) (hK : X.K = G.K := by rfl) : PI X tg e (tIt G (miS A)) := pi_imp (pi_seq h) fun σ H R ⟨p, s, r, it, s', S, E, q, k⟩ => by
  obtain ⟨⟨x, s1⟩, q1, q2⟩ := ob_some.mp q
  refine ⟨p, s, r, x, s1, S, E, q1, fun p1 v1 H1 S1 f1 d1 => ?_⟩
  cases d1 with
  | ref hn =>
    simp only at q2
    split at q2
    · rename_i ws e
      cases q2
      obtain ⟨ho, h1, vs, rfl, l, _⟩ := S1.get hn e
      exact ⟨_, rfl, .inl ⟨⟨vs, SqL.of h1⟩, k p1 H1 _ S1 f1 (itr_list hn hK)⟩⟩
    · cases q2
  | fl h1 l =>
    cases q2
    exact ⟨_, rfl, .inl ⟨⟨_, by rw [hK]; exact h1.sq⟩, k p1 H1 _ S1 f1 (itr_fl h1 l hK)⟩⟩
  | tup h1 l =>
    cases q2
    exact ⟨_, rfl, .inr ⟨⟨_, by rw [hK]; exact h1⟩, k p1 H1 _ S1 f1 (itr_tup h1 l hK)⟩⟩
  | _ => cases q2
noncomputable def okI (i : Int) : Bool := decide (-(2 ^ 62) ≤ i) && decide (i < 2 ^ 62)
theorem okI_iff {i : Int} (h : okI i = true) : -(2 ^ 62) ≤ i ∧ i < 2 ^ 62 := by
  have := Bool.and_eq_true_iff.mp h
  exact ⟨of_decide_eq_true this.1, of_decide_eq_true this.2⟩
noncomputable def miR1 (A : Fa) : Fi := fun r s => (A r s).ob fun x => match x.1 with
  | [.int j] => cond (okI j) (some (.rng 0 j.toNat, x.2)) none
  | _ => none
noncomputable def miR2 (A : Fa) : Fi := fun r s => (A r s).ob fun x => match x.1 with
  | [.int i, .int j] => cond (okI i && okI j) (some (.rng i (j - i).toNat, x.2)) none
  | _ => none
theorem im_range1 {tg a : Expr} {A : Fa} {p pos : Pos} (hg : Gl X "range") (hm : X.mg "range" = none) (ha : PA X [a] (tA G A)) (hs : starEach [a] X.env = [(false, eval a X.env)] := by rfl) : PI X tg (.Call (.Name "range" p) [a] [] pos) (tIt G (miR1 A)) :=
  pi_imp (pi_range1 hg hm ha hs) fun σ H R ⟨p, s, r, it, s', S, E, q, k⟩ => by
    obtain ⟨⟨x, s1⟩, q1, q2⟩ := ob_some.mp q
    refine ⟨p, s, r, x, s1, S, E, q1, fun p1 v1 H1 S1 f1 d1 => ?_⟩
    match x, q2, d1 with
    | [.int j], q2, .cons (.int _) .nil =>
      cases e : okI j with
      | false => simp only [e] at q2; cases q2
      | true =>
        simp only [e] at q2; cases q2
        exact ⟨j, rfl, (okI_iff e).1, (okI_iff e).2, k p1 H1 _ S1 f1 itr_rng⟩
theorem im_range2 {tg a b : Expr} {A : Fa} {p pos : Pos} (hg : Gl X "range") (hm : X.mg "range" = none) (ha : PA X [a, b] (tA G A)) (hs : starEach [a, b] X.env = [(false, eval a X.env), (false, eval b X.env)] := by rfl) (hs2 : starEach [b] X.env = [(false, eval b X.env)] := by rfl) :
    PI X tg (.Call (.Name "range" p) [a, b] [] pos) (tIt G (miR2 A)) :=
  pi_imp (pi_range2 hg hm ha hs hs2) fun σ H R ⟨p, s, r, it, s', S, E, q, k⟩ => by
    obtain ⟨⟨x, s1⟩, q1, q2⟩ := ob_some.mp q
    refine ⟨p, s, r, x, s1, S, E, q1, fun p1 v1 H1 S1 f1 d1 => ?_⟩
    match x, q2, d1 with
    | [.int i, .int j], q2, .cons (.int _) (.cons (.int _) .nil) =>
      cases e : okI i && okI j with
      | false => simp only [e] at q2; cases q2
      | true =>
        simp only [e] at q2; cases q2
        have e' := Bool.and_eq_true_iff.mp e
        exact ⟨i, j, rfl, ⟨(okI_iff e'.1).1, (okI_iff e'.1).2, (okI_iff e'.2).1, (okI_iff e'.2).2⟩, k p1 H1 _ S1 f1 itr_rng⟩
noncomputable def mloop (it : It0) (T : Tg) (B : Fs) (m : Nat) : Nat → Me → Ms → Option (Fl × Me × Ms) := Nat.rec (motive := fun _ => Nat → Me → Ms → Option (Fl × Me × Ms)) (fun _ _ _ => none)
  (fun _ ih i r s => match it.at i s with
    | none => none
    | some none => some (.nx, r, s)
    | some (some w) => (T.asg w r).ob fun r1 => (B r1 s).ob fun x => match x.1 with
      | .nx => ih (Nat.succ i) x.2.1 x.2.2
      | .ct => ih (Nat.succ i) x.2.1 x.2.2
      | .bk => some (.nx, x.2)
      | .rt w => some (.rt w, x.2)) m
theorem mloop_zero {it : It0} {T : Tg} {B : Fs} {i : Nat} {r : Me} {s : Ms} : mloop it T B 0 i r s = none := rfl
theorem mloop_succ {it : It0} {T : Tg} {B : Fs} {m i : Nat} {r : Me} {s : Ms} : mloop it T B (m + 1) i r s = match it.at i s with
    | none => none
    | some none => some (.nx, r, s)
    | some (some w) => (T.asg w r).ob fun r1 => (B r1 s).ob fun x => match x.1 with
      | .nx => mloop it T B m (i + 1) x.2.1 x.2.2
      | .ct => mloop it T B m (i + 1) x.2.1 x.2.2
      | .bk => some (.nx, x.2)
      | .rt w => some (.rt w, x.2) := rfl
noncomputable def sfor (I : Fi) (T : Tg) (B : Fs) : Fs := fun r s => (I r s).ob fun x => mloop x.1 T B 100000 0 r x.2
theorem sm_for {tg iter : Expr} {body : List Stmt} {I : Fi} {T : Tg} {B : Fs} (hp : PassesOwn (model X.prog X.w) X.A X.env X.xe) (hc : X.calm = true) (hi : PI X tg iter (tIt G I)) (hg : PG X tg (tG G T)) (hb : PSs X body (tS G B)) (h : PS X (.For tg iter body [] pos) (tFor (tIt G I) (tG G T) (tS G B))) :
    PS X (.For tg iter body [] pos) (tS G (sfor I T B)) := ps_imp h fun D σ H ⟨p, s, r, f, r', s', S, E, q, k⟩ => by
  obtain ⟨⟨it, s1⟩, q1, q2⟩ := ob_some.mp q
  refine ⟨p, s, r, it, s1, S, E, q1, fun p1 H1 J S1 f1 R => ?_⟩
  refine ⟨fun i m σ2 H2 => ∃ p2 s2 r2, Sim G p2 s2 H2 ∧ EnvR G p2 H2 r2 σ2 ∧ Fra p1 H1 p2 H2 ∧ mloop it T B m i r2 s2 = some (f, r', s'), ⟨100000, p1, s1, r, S1, E.fra S f1, Fra.refl, q2⟩, ?_⟩
  rintro i m σ2 H2 ⟨p2, s2, r2, S2, E2, f2, q3⟩
  cases m with
  | zero => cases q3
  | succ m =>
    have R2 := R p2 s2 H2 i S2 (f2.stays S1) f2.frz
    rw [mloop_succ] at q3
    cases e : it.at i s2 with
    | none => rw [e] at q3; cases q3
    | some o =>
      cases o with
      | none =>
        rw [e] at q3
        have q3' : some (Fl.nx, r2, s2) = some (f, r', s') := q3
        cases q3'
        exact .inl ⟨R2.1 e, k p2 H2 S2 (f1.trans f2) σ2 E2⟩
      | some w =>
        rw [e] at q3
        obtain ⟨g, y⟩ := R2.2 w e
        obtain ⟨r3, q4, q5⟩ := ob_some.mp q3
        obtain ⟨⟨fl, r4, s4⟩, q6, q7⟩ := ob_some.mp q5
        refine .inr ⟨g, fun σ3 H3 => ∃ p3 s3 r5, Sim G p3 s3 H3 ∧ EnvR G p3 H3 r5 σ3 ∧ Fra p1 H1 p3 H3 ∧ mloop it T B m (i + 1) r5 s3 = some (f, r', s'), fun σ3 H3 h3 => ⟨m, Nat.lt_succ_self m, h3⟩, fun v H' hy => ?_⟩
        obtain ⟨S2', f2', d⟩ := y v H' hy
        refine ⟨p2, s2, r2, w, r3, S2', E2.fra S2 f2', d, q4, fun σ' E' _ => ⟨p2, s2, r3, fl, r4, s4, S2', E', q6, fun p4 H4 S4 f4 => ?_⟩⟩
        have ff := (f2.trans f2').trans f4
        cases fl with
        | nx => exact fun σ4 E4 => ⟨p4, s4, r4, S4, E4, ff, q7⟩
        | ct => exact fun σ4 E4 => ⟨p4, s4, r4, S4, E4, ff, q7⟩
        | bk =>
          have q7' : some (Fl.nx, r4, s4) = some (f, r', s') := q7
          cases q7'
          exact fun σ4 E4 => k p4 H4 S4 (f1.trans ff) σ4 E4
        | rt w' =>
          have q7' : some (Fl.rt w', r4, s4) = some (f, r', s') := q7
          cases q7'
          exact fun v' d' => k p4 H4 S4 (f1.trans ff) v' d'
noncomputable def mwhl (T : Ft) (B : Fs) (m : Nat) : Me → Ms → Option (Fl × Me × Ms) := Nat.rec (motive := fun _ => Me → Ms → Option (Fl × Me × Ms)) (fun _ _ => none)
  (fun _ ih r s => (T r s).ob fun t => cond t.1 ((B r t.2).ob fun x => match x.1 with
      | .nx => ih x.2.1 x.2.2
      | .ct => ih x.2.1 x.2.2
      | .bk => some (.nx, x.2)
      | .rt w => some (.rt w, x.2)) (some (.nx, r, t.2))) m
theorem mwhl_succ {T : Ft} {B : Fs} {m : Nat} {r : Me} {s : Ms} : mwhl T B (m + 1) r s = (T r s).ob fun t => cond t.1 ((B r t.2).ob fun x => match x.1 with
      | .nx => mwhl T B m x.2.1 x.2.2
      | .ct => mwhl T B m x.2.1 x.2.2
      | .bk => some (.nx, x.2)
      | .rt w => some (.rt w, x.2)) (some (.nx, r, t.2)) := rfl
noncomputable def swhl (T : Ft) (B : Fs) : Fs := mwhl T B 100000
theorem sm_while {c : Expr} {body : List Stmt} {T : Ft} {B : Fs} (hp : PassesOwn (model X.prog X.w) X.A X.env X.xe) (hc : PT X c (tT G T)) (hb : PSs X body (tS G B)) : PS X (.While c body [] pos) (tS G (swhl T B)) := ps_imp (ps_while hp hc hb) fun D σ H ⟨p, s, r, f, r', s', S, E, q, k⟩ => by
  refine ⟨fun m σ2 H2 => ∃ p2 s2 r2, Sim G p2 s2 H2 ∧ EnvR G p2 H2 r2 σ2 ∧ Fra p H p2 H2 ∧ mwhl T B m r2 s2 = some (f, r', s'), ⟨100000, p, s, r, S, E, Fra.refl, q⟩, ?_⟩
  rintro m σ2 H2 ⟨p2, s2, r2, S2, E2, f2, q3⟩
  cases m with
  | zero => cases q3
  | succ m =>
    rw [mwhl_succ] at q3
    obtain ⟨⟨t, s3⟩, q4, q5⟩ := ob_some.mp q3
    refine ⟨p2, s2, r2, t, s3, S2, E2, q4, fun p3 H3 S3 f3 => ?_⟩
    cases t with
    | false =>
      rw [if_neg Bool.false_ne_true]
      have q5' : some (Fl.nx, r2, s3) = some (f, r', s') := q5
      cases q5'
      exact k p3 H3 S3 (f2.trans f3) σ2 (E2.fra S2 f3)
    | true =>
      rw [if_pos rfl]
      obtain ⟨⟨fl, r4, s4⟩, q6, q7⟩ := ob_some.mp (show (B r2 s3).ob _ = _ from q5)
      refine ⟨fun σ5 H5 => ∃ p5 s5 r5, Sim G p5 s5 H5 ∧ EnvR G p5 H5 r5 σ5 ∧ Fra p H p5 H5 ∧ mwhl T B m r5 s5 = some (f, r', s'), fun σ5 H5 h5 => ⟨m, Nat.lt_succ_self m, h5⟩, p3, s3, r2, fl, r4, s4, S3, E2.fra S2 f3, q6, fun p4 H4 S4 f4 => ?_⟩
      have ff := (f2.trans f3).trans f4
      cases fl with
      | nx => exact fun σ4 E4 => ⟨p4, s4, r4, S4, E4, ff, q7⟩
      | ct => exact fun σ4 E4 => ⟨p4, s4, r4, S4, E4, ff, q7⟩
      | bk =>
        have q7' : some (Fl.nx, r4, s4) = some (f, r', s') := q7
        cases q7'
        exact fun σ4 E4 => k p4 H4 S4 ff σ4 E4
      | rt w' =>
        have q7' : some (Fl.rt w', r4, s4) = some (f, r', s') := q7
        cases q7'
        exact fun v' d' => k p4 H4 S4 ff v' d'
end
/-! ### defs -/
noncomputable def fnM (np nl : Nat) (B : Fs) : Fn := fun ws s => cond (Nat.beq ws.length np) ((B (lsome (nl - np) ws) s).ob fun x => match x.1 with
  | .rt w => some (w, x.2.2)
  | .nx => some (.non, x.2.2)
  | _ => none) none
theorem envR_start {G : Mg} {p : List Addr} {H : Hp} (n : Nat) : ∀ {ws : List Mv} {vs : List V}, DenL G p H ws vs → EnvR G p H (ws.map some ++ List.replicate n none) (vs.map some ++ List.replicate n none) := by
  intro ws vs l
  refine ⟨by simp [l.length], fun i w h => ?_⟩
  by_cases hi : i < ws.length
  · rw [List.getElem?_append_left (by simpa using hi)] at h
    rw [List.getElem?_append_left (by simpa [← l.length] using hi)]
    rw [List.getElem?_map] at h ⊢
    cases e : ws[i]? with
    | none => rw [e] at h; cases h
    | some w' =>
      rw [e] at h
      cases h
      obtain ⟨v, hv, d⟩ := l.get e
      exact ⟨v, by rw [hv]; rfl, d⟩
  · rw [List.getElem?_append_right (by simpa using hi)] at h
    have := List.mem_of_getElem? h
    have := List.eq_of_mem_replicate this
    cases this
section
variable {P : Program} {w : World} {K : PySem.W.Frag} {mg : Str → Option Value} {base : Heap} {G : Mg}
theorem fn_ok {x qual : Str} {st : Stmt} {f : Addr} {fd : FuncData} {N ps : List Str} {k : Nat} {B : Fs} (F : Fun K x qual st f fd) (sc : FnScope N ps (defScope st)) {np nl : Nat} (hnp : ps.length = np := by rfl) (hnl : N.length = nl := by rfl)
    (hb : ∀ (cdv : Value) (A : Around) (outer : List Env) (s : Shared) (H : Hp) (E : XK), Room k (A.deeper (envOfC qual (defScope st) s.heap.objs.size f cdv)) → PSs (cxOf CX0 P w K mg base N qual (defScope st) f cdv A outer s H E).nox (defBody st) (tS G B)) :
    FnOk P w K mg base CX0 (k + 1) f fd ps (spM G (fnM np nl B)) := by
  subst hnp hnl
  have len : ∀ vs H Q E, spM G (fnM ps.length N.length B) vs H Q E → vs.length = ps.length := by
    rintro vs H Q E ⟨p, s, ws, u, s', S, l, q, k'⟩
    rw [← l.length]
    unfold fnM at q
    cases e : Nat.beq ws.length ps.length with
    | false => rw [e] at q; cases q
    | true => exact Nat.eq_of_beq_eq_true e
  refine F.ok sc len fun cdv A outer s H vs Q E hr h => ⟨_, hb cdv A outer s H E hr, ?_⟩
  have hlen := len vs H Q E h
  obtain ⟨p, s0, ws, u, s', S, l, q, k'⟩ := h
  unfold fnM at q
  cases e : Nat.beq ws.length ps.length with
  | false => rw [e] at q; cases q
  | true =>
    rw [e] at q
    obtain ⟨⟨fl, r', s1⟩, q1, q2⟩ := ob_some.mp q
    refine ⟨p, s0, _, fl, r', s1, S, ?_, q1, fun p1 H1 S1 f1 => ?_⟩
    · show EnvR G p H _ (L2.start N vs)
      unfold L2.start
      rw [hlen]
      rw [lsome_eq]
      exact envR_start _ l
    · cases fl with
      | rt w' =>
        have q2' : some (w', s1) = some (u, s') := q2
        cases q2'
        exact fun v d => k' p1 v H1 S1 f1 d
      | nx =>
        have q2' : some (Mv.non, s1) = some (u, s') := q2
        cases q2'
        exact fun σ E => k' p1 _ H1 S1 f1 .non
      | bk => cases q2
      | ct => cases q2
end

end
section
/-! ### data -/
noncomputable def toDL (f : Mv → Option PyData) : List Mv → Option (List PyData)
  | [] => some []
  | w :: ws => (f w).ob fun d => (toDL f ws).om fun ds => d :: ds
noncomputable def toD : Nat → Ms → Mv → Option PyData
  | 0, _, _ => none
  | n + 1, s, w => match w with
    | .non => some .none
    | .bl b => some (.bool b)
    | .int i => some (.int i)
    | .str x => cond (PyData.strOk x) (some (.str x)) none
    | .tup ws => (toDL (toD n s) ws).om .tuple
    | .fl ws => (toDL (toD n s) ws).om .list
    | .ref k => match s.get k with
      | some (.lst ws) => (toDL (toD n s) ws).om .list
      | _ => none
    | _ => none
section
variable {G : Mg} {p : List Addr} {s : Ms} {H : Hp}
structure DOk (G : Mg) (H : Hp) (n : Nat) (v : V) (d : PyData) : Prop where
  dp : Dp G.K H v d
  lay : d.canLay0 = true
  dep : d.depth ≤ n
theorem toDL_ok {n : Nat} {f : Mv → Option PyData} (hf : ∀ w v d, Den G p H w v → f w = some d → DOk G H n v d) : ∀ {ws : List Mv} {vs : List V} {ds : List PyData}, DenL G p H ws vs → toDL f ws = some ds →
    DpAll G.K H vs ds ∧ PyData.canLayAll0 ds = true ∧ PyData.depthAll ds ≤ n
  | _, _, _, .nil, h => by
    cases h
    exact ⟨.nil, by simp [PyData.canLayAll0], by simp [PyData.depthAll]⟩
  | _, _, _, .cons (w := w) (ws := ws) d l, h => by
    obtain ⟨x, h1, h2⟩ := ob_some.mp (show (f w).ob (fun d => (toDL f ws).om fun ds => d :: ds) = _ from h)
    obtain ⟨xs, h3, h4⟩ := omap_some.mp h2
    cases h4
    have a := hf _ _ _ d h1
    obtain ⟨b1, b2, b3⟩ := toDL_ok hf l h3
    refine ⟨.cons a.dp b1, by simp [PyData.canLayAll0, a.lay, b2], ?_⟩
    have := a.dep
    simp only [PyData.depthAll]
    omega
theorem toD_ok (S : Sim G p s H) : ∀ (n : Nat) (w : Mv) (v : V) (d : PyData), Den G p H w v → toD n s w = some d → DOk G H n v d
  | 0, _, _, _, _, h => by cases h
  | n + 1, w, v, d, de, h => by
    have ih := toD_ok S n
    cases de with
    | non => cases h; exact ⟨.non, rfl, by simp [PyData.depth]⟩
    | bl b => cases h; exact ⟨.bl b, rfl, by simp [PyData.depth]⟩
    | int i => cases h; exact ⟨.int i, rfl, by simp [PyData.depth]⟩
    | str x =>
      have h' : cond (PyData.strOk x) (some (PyData.str x)) none = some d := h
      cases e : PyData.strOk x with
      | false => rw [e] at h'; cases h'
      | true =>
        rw [e] at h'; cases h'
        exact ⟨.str x, by simp [PyData.canLay0, e], by simp [PyData.depth]⟩
    | ty t => cases h
    | cls c => cases h
    | ref hn =>
      rename_i k a
      have h' : (match s.get k with
        | some (.lst ws) => (toDL (toD n s) ws).om PyData.list
        | _ => none) = some d := h
      split at h'
      · rename_i ws e
        obtain ⟨ho, h1, vs, rfl, l, _⟩ := S.get hn e
        obtain ⟨ds, h3, h4⟩ := omap_some.mp h'
        cases h4
        obtain ⟨b1, b2, b3⟩ := toDL_ok ih l h3
        exact ⟨.lst (SqL.of h1) b1, by simp [PyData.canLay0, b2], by simp only [PyData.depth]; omega⟩
      · cases h'
    | tup h1 l =>
      obtain ⟨ds, h3, h4⟩ := omap_some.mp (show (toDL (toD n s) _).om PyData.tuple = some d from h)
      cases h4
      obtain ⟨b1, b2, b3⟩ := toDL_ok ih l h3
      exact ⟨.tup h1 b1, by simp [PyData.canLay0, b2], by simp only [PyData.depth]; omega⟩
    | fl h1 l =>
      obtain ⟨ds, h3, h4⟩ := omap_some.mp (show (toDL (toD n s) _).om PyData.list = some d from h)
      cases h4
      obtain ⟨b1, b2, b3⟩ := toDL_ok ih l h3
      exact ⟨.lst h1.sq b1, by simp [PyData.canLay0, b2], by simp only [PyData.depth]; omega⟩
theorem DOk.shaped {n : Nat} {v : V} {d : PyData} (h : DOk G H n v d) (hn : n ≤ 64) : SeqAt.shaped d = true := by
  unfold SeqAt.shaped
  rw [h.lay, Bool.true_and]
  exact decide_eq_true (Nat.le_trans h.dep hn)
end
/-! ### operations -/
noncomputable def opr (o : Option Mv) (s : Ms) : Option (Mv × Ms) := o.om fun w => (w, s)
noncomputable def llen {α : Type} (r : List α) : Nat := List.rec (motive := fun _ => Nat) 0 (fun _ _ ih => Nat.succ ih) r
theorem llen_eq {α : Type} : ∀ r : List α, llen r = r.length
  | [] => rfl
  | _ :: r => congrArg Nat.succ (llen_eq r)
noncomputable def newL (ws : List Mv) (s : Ms) : Option (Mv × Ms) := cond (Nat.ble (llen ws) 16777216) ((s.alloc (.lst ws)).om fun q => (.ref q.1, q.2)) none
noncomputable def newT (ws : List Mv) (s : Ms) : Option (Mv × Ms) := cond (Nat.ble (llen ws) 16777216) (some (.tup ws, s)) none
/-- the items of a list, a tuple -/
noncomputable def items (w : Mv) (s : Ms) : Option (List Mv) := match w with
  | .tup ws => some ws
  | .fl ws => some ws
  | .ref n => match s.get n with
    | some (.lst ws) => some ws
    | _ => none
  | _ => none
noncomputable def iEq (i j : Int) : Bool := Int.rec (motive := fun _ => Bool) (fun n => Int.rec (motive := fun _ => Bool) (fun m => Nat.beq n m) (fun _ => false) j) (fun n => Int.rec (motive := fun _ => Bool) (fun _ => false) (fun m => Nat.beq n m) j) i
theorem nbeq (n m : Nat) : Nat.beq n m = decide (n = m) := by
  cases e : Nat.beq n m with
  | true => rw [decide_eq_true (Nat.eq_of_beq_eq_true e)]
  | false => rw [decide_eq_false (fun h => by subst h; rw [Nat.beq_refl] at e; cases e)]
theorem nblt (n m : Nat) : Nat.blt n m = decide (n < m) := by
  cases e : Nat.blt n m with
  | true => rw [decide_eq_true (Nat.blt_eq.mp e)]
  | false => rw [decide_eq_false (fun h => by rw [Nat.blt_eq.mpr h] at e; cases e)]
theorem iEq_eq (i j : Int) : iEq i j = decide (i = j) := by
  cases i with
  | ofNat n => cases j with
    | ofNat m => show Nat.beq n m = _; rw [nbeq]; exact decide_eq_decide.mpr ⟨fun h => by rw [h], fun h => Int.ofNat.inj h⟩
    | negSucc m => exact (decide_eq_false (fun h => by cases h)).symm
  | negSucc n => cases j with
    | ofNat m => exact (decide_eq_false (fun h => by cases h)).symm
    | negSucc m => show Nat.beq n m = _; rw [nbeq]; exact decide_eq_decide.mpr ⟨fun h => by rw [h], fun h => Int.negSucc.inj h⟩
noncomputable def iLt (i j : Int) : Bool := Int.rec (motive := fun _ => Bool) (fun n => Int.rec (motive := fun _ => Bool) (fun m => Nat.blt n m) (fun _ => false) j) (fun n => Int.rec (motive := fun _ => Bool) (fun _ => true) (fun m => Nat.blt m n) j) i
theorem iLt_eq (i j : Int) : iLt i j = decide (i < j) := by
  cases i with
  | ofNat n => cases j with
    | ofNat m => show Nat.blt n m = _; rw [nblt]; exact decide_eq_decide.mpr ⟨fun h => Int.ofNat_lt.mpr h, fun h => Int.ofNat_lt.mp h⟩
    | negSucc m => exact (decide_eq_false (fun h => by have : (0 : Int) ≤ Int.ofNat n := Int.natCast_nonneg n; have : Int.negSucc m < 0 := Int.negSucc_lt_zero m; omega)).symm
  | negSucc n => cases j with
    | ofNat m => exact (decide_eq_true (by have : (0 : Int) ≤ Int.ofNat m := Int.natCast_nonneg m; have : Int.negSucc n < 0 := Int.negSucc_lt_zero n; omega)).symm
    | negSucc m => show Nat.blt m n = _; rw [nblt]; exact decide_eq_decide.mpr ⟨fun h => by omega, fun h => by omega⟩
noncomputable def natsEq : List Nat → List Nat → Bool
  | [], [] => true
  | a :: as, b :: bs => cond (Nat.beq a b) (natsEq as bs) false
  | _, _ => false
theorem natsEq_eq : ∀ a b : List Nat, natsEq a b = decide (a = b)
  | [], [] => rfl
  | [], _ :: _ => by simp [natsEq]
  | _ :: _, [] => by simp [natsEq]
  | a :: as, b :: bs => by
    unfold natsEq
    by_cases h : a = b
    · subst h
      rw [Nat.beq_refl, cond_true, natsEq_eq as bs]
      simp
    · have : Nat.beq a b = false := by
        cases e : Nat.beq a b with
        | false => rfl
        | true => exact absurd (Nat.eq_of_beq_eq_true e) h
      rw [this, cond_false]
      simp [h]
noncomputable def strEq (x y : Str) : Bool := natsEq x.cps.toList y.cps.toList
theorem strEq_eq (x y : Str) : strEq x y = decide (x = y) := by
  unfold strEq
  rw [natsEq_eq]
  obtain ⟨a⟩ := x
  obtain ⟨b⟩ := y
  simp [Array.toList_inj]
noncomputable def sqEq (a b : Mv) : Option Bool := match a, b with
  | .int i, .int j => some (iEq i j)
  | .str x, .str y => some (strEq x y)
  | .bl x, .bl y => some (decide (x = y))
  | .non, .non => some true
  | .non, .int _ | .int _, .non | .non, .bl _ | .bl _, .non | .non, .str _ | .str _, .non => some false
  | .int _, .str _ | .str _, .int _ | .bl _, .str _ | .str _, .bl _ => some false
  | _, _ => none
noncomputable def eqBo (a b : Mv) (s : Ms) : Option Bool := match sqEq a b with
  | some k => some k
  | none => (toD 24 s a).ob fun d => (toD 24 s b).om fun e => PyData.eqv d e
noncomputable def eqW (a b : Mv) (s : Ms) : Option (Mv × Ms) := (eqBo a b s).om fun k => (.bl k, s)
noncomputable def neW (a b : Mv) (s : Ms) : Option (Mv × Ms) := (eqBo a b s).om fun k => (.bl (!k), s)
noncomputable def addW (a b : Mv) (s : Ms) : Option (Mv × Ms) := match a, b with
  | .int i, .int j => some (.int (Int.add i j), s)
  | .str x, .str y => cond (Nat.ble (x.length + y.length) 16777216) (some (.str (x ++ y), s)) none
  | .tup x, .tup y => newT (x ++ y) s
  | .ref n, .ref m => match s.get n, s.get m with
    | some (.lst x), some (.lst y) => newL (x ++ y) s
    | _, _ => none
  | _, _ => none
noncomputable def subW (a b : Mv) (s : Ms) : Option (Mv × Ms) := match a, b with
  | .int i, .int j => some (.int (Int.sub i j), s)
  | _, _ => none
noncomputable def smI (i : Int) : Bool := decide (-(2 ^ 64) < i) && decide (i < 2 ^ 64)
noncomputable def mulW (a b : Mv) (s : Ms) : Option (Mv × Ms) := match a, b with
  | .int i, .int j => cond (smI i || smI j) (some (.int (i * j), s)) none
  | _, _ => none
noncomputable def modW (a b : Mv) (s : Ms) : Option (Mv × Ms) := match a, b with
  | .int i, .int j => cond (decide (0 < j)) (some (.int (i % j), s)) none
  | _, _ => none
noncomputable def divW (a b : Mv) (s : Ms) : Option (Mv × Ms) := match a, b with
  | .int i, .int j => cond (decide (0 < j) && decide (j < 1073741824)) (some (.int (i / j), s)) none
  | _, _ => none
noncomputable def powW (a b : Mv) (s : Ms) : Option (Mv × Ms) := match a, b with
  | .int i, .int j => cond (decide (0 ≤ j) && decide (j ≤ 1000000) && smI i) (some (.int (i ^ j.toNat), s)) none
  | _, _ => none
noncomputable def cmpI (f : Int → Int → Bool) (g : List Nat → List Nat → Bool) (a b : Mv) (s : Ms) : Option (Mv × Ms) := match a, b with
  | .int i, .int j => some (.bl (f i j), s)
  | .str x, .str y => some (.bl (g x.cps.toList y.cps.toList), s)
  | _, _ => none
noncomputable def ltW := cmpI (fun i j => iLt i j) fun x y => decide (x < y)
noncomputable def leW := cmpI (fun i j => !iLt j i) fun x y => !decide (y < x)
noncomputable def gtW := cmpI (fun i j => iLt j i) fun x y => decide (y < x)
noncomputable def geW := cmpI (fun i j => !iLt i j) fun x y => !decide (x < y)
noncomputable def isW (neg : Bool) (a b : Mv) (s : Ms) : Option (Mv × Ms) := match b with
  | .non => some (.bl (neg != (match a with | .non => true | _ => false)), s)
  | _ => none
theorem sz_eq : sizeLine = 16777216 := sizeLine_eq
theorem ble_sz {n : Nat} (h : Nat.ble n 16777216 = true) : n ≤ sizeLine := by rw [sz_eq]; exact Nat.le_of_ble_eq_true h
section
variable {X : Cx} {G : Mg}
theorem newL_ok {p : List Addr} {s s' : Ms} {H : Hp} {ws : List Mv} {vs : List V} {w : Mv} {Q : VK} (S : Sim G p s H) (l : DenL G p H ws vs) (h : newL ws s = some (w, s')) (k : After G p H w s' Q) : vs.length ≤ sizeLine ∧ ∀ a, H a = none → Q (.ref a) (upd H a (.lst vs)) := by
  unfold newL at h
  rw [llen_eq] at h
  cases e : Nat.ble ws.length 16777216 with
  | false => rw [e] at h; cases h
  | true =>
    rw [e, cond_true] at h
    obtain ⟨⟨n, s1⟩, h1, h2⟩ := omap_some.mp h
    cases h2
    have hl : vs.length ≤ sizeLine := by rw [← l.length]; exact ble_sz e
    refine ⟨hl, fun a ha => ?_⟩
    obtain ⟨S', f', d'⟩ := S.new h1 ha (ho := .lst vs) ⟨vs, rfl, l, hl⟩ (H' := upd H a (.lst vs)) upd_same fun b u eb => by rw [upd_ne (ne_of_none eb ha)]; exact eb
    exact k _ _ _ S' f' d'
theorem fra_new {p : List Addr} {H : Hp} {a : Addr} {o : HO} (ha : H a = none) : Fra p H p (upd H a o) := ⟨⟨[], by simp, fun b hb => by simp at hb⟩, fun b u eb _ => by rw [upd_ne (ne_of_none eb ha)]; exact eb, fun b ob u eb => by rw [upd_ne (ne_of_none eb ha)]; exact eb⟩
theorem Sim.fra_new {p : List Addr} {s : Ms} {H : Hp} {a : Addr} {o : HO} (S : Sim G p s H) (ha : H a = none) : Sim G p s (upd H a o) := by
  have st := (Mi.fra_new (p := p) (o := o) ha).stays S
  refine ⟨S.len, S.nd, fun n b hb => ?_, S.out⟩
  obtain ⟨o1, ho, q1, q2, q3⟩ := S.ob n b hb
  exact ⟨o1, ho, q1, by rw [upd_ne (ne_of_none q2 ha)]; exact q2, q3.stay st⟩
theorem newT_ok {p : List Addr} {s s' : Ms} {H : Hp} {ws : List Mv} {vs : List V} {w : Mv} {Q : VK} (S : Sim G p s H) (l : DenL G p H ws vs) (h : newT ws s = some (w, s')) (k : After G p H w s' Q) : vs.length ≤ sizeLine ∧ (∀ a, H a = none → Q (.ref a) (upd H a (.tup vs))) ∧ ∀ a, SqT G.K H a vs → Q (.ref a) H := by
  unfold newT at h
  rw [llen_eq] at h
  cases e : Nat.ble ws.length 16777216 with
  | false => rw [e] at h; cases h
  | true =>
    rw [e] at h
    have h' : some (Mv.tup ws, s) = some (w, s') := h
    cases h'
    refine ⟨by rw [← l.length]; exact ble_sz e, fun a ha => ?_, fun a ha => k _ _ _ S Fra.refl (.tup ha l)⟩
    have f := Mi.fra_new (p := p) (o := HO.tup vs) ha
    exact k _ _ _ (S.fra_new ha) f (.tup (SqT.of upd_same) (l.fra S f))
noncomputable def mtup (A : Fa) : Fe := fun r s => (A r s).ob fun x => newT x.1 x.2
noncomputable def mlst (A : Fa) : Fe := fun r s => (A r s).ob fun x => newL x.1 x.2
theorem pm_tup {es : List Expr} {k : Nat} {pos : Pos} {A : Fa} (h : PA X es (tA G A)) : PE X (.Tuple es k pos) (tI G (mtup A)) := pe_imp (pe_tup h) fun σ H Q ⟨p, s, r, w, s', S, E, q, k⟩ => by
  obtain ⟨⟨x, s1⟩, q1, q2⟩ := ob_some.mp q
  exact ⟨p, s, r, x, s1, S, E, q1, fun p1 vs H1 S1 f1 l => let ⟨a, b, _⟩ := newT_ok S1 l q2 (k.of f1); ⟨a, b⟩⟩
theorem pm_lst {es : List Expr} {pos : Pos} {A : Fa} (h : PA X es (tA G A)) : PE X (.List es pos) (tI G (mlst A)) := pe_imp (pe_lst h) fun σ H Q ⟨p, s, r, w, s', S, E, q, k⟩ => by
  obtain ⟨⟨x, s1⟩, q1, q2⟩ := ob_some.mp q
  exact ⟨p, s, r, x, s1, S, E, q1, fun p1 vs H1 S1 f1 l => newL_ok S1 l q2 (k.of f1)⟩
theorem items_ok {p : List Addr} {s : Ms} {H : Hp} {w : Mv} {v : V} {ws : List Mv} (S : Sim G p s H) (d : Den G p H w v) (h : items w s = some ws) : ∃ a vs, v = .ref a ∧ (SqL G.K H a vs ∨ SqT G.K H a vs) ∧ DenL G p H ws vs := by
  cases d with
  | tup h1 l => cases h; exact ⟨_, _, rfl, .inr h1, l⟩
  | fl h1 l => cases h; exact ⟨_, _, rfl, .inl h1.sq, l⟩
  | ref hn =>
    simp only [items] at h
    split at h
    · rename_i ws' e
      cases h
      obtain ⟨ho, h1, vs, rfl, l, _⟩ := S.get hn e
      exact ⟨_, _, rfl, .inl (SqL.of h1), l⟩
    · cases h
  | _ => cases h
theorem opr_imp {f : Value → Value → Sem Value} {r r' : R2} (h : OpR X f r) (i : ∀ x y H Q, r' x y H Q → r x y H Q) : OpR X f r' := fun pins s σ H x y v u Q I rx ry q => h pins s σ H x y v u Q I rx ry (i x y H Q q)
theorem cal_imp {f : Value} {r r' : List V → Hp → VK → Prop} (h : CallR X f r) (i : ∀ x H Q, r' x H Q → r x H Q) : CallR X f r' := fun pins s σ H xs us Q I rv q => h pins s σ H xs us Q I rv (i xs H Q q)
theorem sqEq_ok {a b : Mv} {k : Bool} (h : sqEq a b = some k) {p : List Addr} {H : Hp} {x y : V} (da : Den G p H a x) (db : Den G p H b y) : scal x y = true ∧ decide (x = y) = k := by
  cases da <;> cases db <;> first
    | (cases h; done)
    | (cases h; exact ⟨rfl, by simp [strEq_eq, iEq_eq]⟩)
    | (cases h; exact ⟨rfl, by simp⟩)
    | (cases h; exact ⟨rfl, rfl⟩)
theorem om_eq (hu : X.A.units + 64 < cLine) (hK : X.K = G.K := by rfl) : OpR X (compareOp .Eq) (q2R G eqW) := opr_imp (OpR.or op_eq (op_eqD hu)) fun x y H Q ⟨p, s, a, b, w, s', S, da, db, q, k⟩ => by
  obtain ⟨c, q1, q2⟩ := omap_some.mp q
  cases q2
  unfold eqBo at q1
  split at q1
  · rename_i c' e
    cases q1
    obtain ⟨h1, h2⟩ := sqEq_ok e da db
    exact .inl ⟨h1, by rw [h2]; exact k p _ H S Fra.refl (.bl _)⟩
  · obtain ⟨d, h1, h2⟩ := ob_some.mp q1
    obtain ⟨e, h3, h4⟩ := omap_some.mp h2
    subst h4
    have o1 := toD_ok S 24 _ _ _ da h1
    have o2 := toD_ok S 24 _ _ _ db h3
    exact .inr ⟨d, e, by rw [hK]; exact o1.dp, by rw [hK]; exact o2.dp, o1.shaped (by decide), o2.shaped (by decide), k p _ H S Fra.refl (.bl _)⟩
theorem om_ne (hu : X.A.units + 64 < cLine) (hK : X.K = G.K := by rfl) : OpR X (compareOp .NotEq) (q2R G neW) := opr_imp (OpR.or op_ne (op_neD hu)) fun x y H Q ⟨p, s, a, b, w, s', S, da, db, q, k⟩ => by
  obtain ⟨c, q1, q2⟩ := omap_some.mp q
  cases q2
  unfold eqBo at q1
  split at q1
  · rename_i c' e
    cases q1
    obtain ⟨h1, h2⟩ := sqEq_ok e da db
    exact .inl ⟨h1, by rw [h2]; exact k p _ H S Fra.refl (.bl _)⟩
  · obtain ⟨d, h1, h2⟩ := ob_some.mp q1
    obtain ⟨e, h3, h4⟩ := omap_some.mp h2
    subst h4
    have o1 := toD_ok S 24 _ _ _ da h1
    have o2 := toD_ok S 24 _ _ _ db h3
    exact .inr ⟨d, e, by rw [hK]; exact o1.dp, by rw [hK]; exact o2.dp, o1.shaped (by decide), o2.shaped (by decide), k p _ H S Fra.refl (.bl _)⟩
theorem om_add (hK : X.K = G.K := by rfl) : OpR X (binaryOp .Add) (q2R G addW) := opr_imp (OpR.or (OpR.or op_add op_add_str) (OpR.or op_cat op_catA)) fun x y H Q ⟨p, s, a, b, w, s', S, da, db, q, k⟩ => by
  cases da <;> cases db <;> try (cases q; done)
  · cases q
    exact .inl (.inl ⟨_, _, rfl, rfl, k p _ H S Fra.refl (.int _)⟩)
  · rename_i x y _
    have q' : cond (Nat.ble (x.length + y.length) 16777216) (some (Mv.str (x ++ y), s)) none = some (w, s') := q
    cases e : Nat.ble (x.length + y.length) 16777216 with
    | false => rw [e] at q'; cases q'
    | true =>
      rw [e] at q'; cases q'
      exact .inl (.inr ⟨_, _, rfl, rfl, ble_sz e, k p _ H S Fra.refl (.str _)⟩)
  · rename_i n a h1 m b h2 _
    simp only [addW] at q
    split at q
    · rename_i u v e1 e2
      obtain ⟨ho, g1, vs, rfl, l1, _⟩ := S.get h1 e1
      obtain ⟨ho, g2, us, rfl, l2, _⟩ := S.get h2 e2
      obtain ⟨z1, z2⟩ := newL_ok S (l1.append l2) q k
      exact .inr (.inl ⟨_, _, _, _, rfl, rfl, g1, g2, by rw [← List.length_append]; exact z1, z2⟩)
    · cases q
  · rename_i a u vs h1 l1 b v us h2 l2 _
    obtain ⟨z1, z2, z3⟩ := newT_ok S (l1.append l2) q k
    refine .inr (.inr ⟨_, _, _, _, rfl, rfl, by rw [hK]; exact h1, by rw [hK]; exact h2, by rw [← List.length_append]; exact z1, fun e => ?_, fun _ e => ?_, fun _ _ => z2⟩)
    · subst e; exact z3 _ h2
    · subst e; exact z3 _ (by rw [List.append_nil]; exact h1)
theorem om_sub : OpR X (binaryOp .Sub) (q2R G subW) := opr_imp op_sub fun x y H Q ⟨p, s, a, b, w, s', S, da, db, q, k⟩ => by
  cases da <;> cases db <;> try (cases q; done)
  cases q
  exact ⟨_, _, rfl, rfl, k p _ H S Fra.refl (.int _)⟩
theorem smI_iff {i : Int} (h : smI i = true) : -(2 ^ 64) < i ∧ i < 2 ^ 64 := by
  have := Bool.and_eq_true_iff.mp h
  exact ⟨of_decide_eq_true this.1, of_decide_eq_true this.2⟩
theorem om_mul : OpR X (binaryOp .Mult) (q2R G mulW) := opr_imp op_mul fun x y H Q ⟨p, s, a, b, w, s', S, da, db, q, k⟩ => by
  cases da <;> cases db <;> try (cases q; done)
  rename_i i j _
  have q' : cond (smI i || smI j) (some (Mv.int (i * j), s)) none = some (w, s') := q
  cases e : (smI i || smI j) with
  | false => rw [e] at q'; cases q'
  | true =>
    rw [e] at q'; cases q'
    refine ⟨_, _, rfl, rfl, ?_, k p _ H S Fra.refl (.int _)⟩
    rcases Bool.or_eq_true_iff.mp e with e | e
    · exact .inl (smI_iff e)
    · exact .inr (smI_iff e)
theorem om_mod : OpR X (binaryOp .Mod) (q2R G modW) := opr_imp op_mod fun x y H Q ⟨p, s, a, b, w, s', S, da, db, q, k⟩ => by
  cases da <;> cases db <;> try (cases q; done)
  rename_i i j _
  have q' : cond (decide (0 < j)) (some (Mv.int (i % j), s)) none = some (w, s') := q
  cases e : decide (0 < j) with
  | false => rw [e] at q'; cases q'
  | true =>
    rw [e] at q'; cases q'
    exact ⟨_, _, rfl, rfl, of_decide_eq_true e, k p _ H S Fra.refl (.int _)⟩
theorem om_div : OpR X (binaryOp .FloorDiv) (q2R G divW) := opr_imp op_fdiv fun x y H Q ⟨p, s, a, b, w, s', S, da, db, q, k⟩ => by
  cases da <;> cases db <;> try (cases q; done)
  rename_i i j _
  have q' : cond (decide (0 < j) && decide (j < 1073741824)) (some (Mv.int (i / j), s)) none = some (w, s') := q
  cases e : (decide (0 < j) && decide (j < 1073741824)) with
  | false => rw [e] at q'; cases q'
  | true =>
    rw [e] at q'; cases q'
    have e' := Bool.and_eq_true_iff.mp e
    exact ⟨_, _, rfl, rfl, ⟨of_decide_eq_true e'.1, of_decide_eq_true e'.2⟩, k p _ H S Fra.refl (.int _)⟩
theorem om_pow : OpR X (binaryOp .Pow) (q2R G powW) := opr_imp op_pow fun x y H Q ⟨p, s, a, b, w, s', S, da, db, q, k⟩ => by
  cases da <;> cases db <;> try (cases q; done)
  rename_i i j _
  have q' : cond (decide (0 ≤ j) && decide (j ≤ 1000000) && smI i) (some (Mv.int (i ^ j.toNat), s)) none = some (w, s') := q
  cases e : (decide (0 ≤ j) && decide (j ≤ 1000000) && smI i) with
  | false => rw [e] at q'; cases q'
  | true =>
    rw [e] at q'; cases q'
    have e' := Bool.and_eq_true_iff.mp e
    have e2 := Bool.and_eq_true_iff.mp e'.1
    have h3 := smI_iff e'.2
    exact ⟨_, _, rfl, rfl, ⟨of_decide_eq_true e2.1, of_decide_eq_true e2.2, by omega⟩, k p _ H S Fra.refl (.int _)⟩
theorem den_bl {p : List Addr} {H : Hp} {a b : Bool} (e : a = b) : Den G p H (.bl a) (.bl b) := e ▸ .bl a
theorem om_lt : OpR X (compareOp .Lt) (q2R G ltW) := opr_imp (OpR.or op_lt op_lt_str) fun x y H Q ⟨p, s, a, b, w, s', S, da, db, q, k⟩ => by
  cases da <;> cases db <;> try (cases q; done)
  · cases q; exact .inl ⟨_, _, rfl, rfl, k p _ H S Fra.refl (den_bl (by simp [iLt_eq, ← decide_not, Int.not_lt]))⟩
  · cases q; exact .inr ⟨_, _, rfl, rfl, k p _ H S Fra.refl (.bl _)⟩
theorem om_le : OpR X (compareOp .LtE) (q2R G leW) := opr_imp (OpR.or op_le op_le_str) fun x y H Q ⟨p, s, a, b, w, s', S, da, db, q, k⟩ => by
  cases da <;> cases db <;> try (cases q; done)
  · cases q; exact .inl ⟨_, _, rfl, rfl, k p _ H S Fra.refl (den_bl (by simp [iLt_eq, ← decide_not, Int.not_lt]))⟩
  · cases q; exact .inr ⟨_, _, rfl, rfl, k p _ H S Fra.refl (.bl _)⟩
theorem om_gt : OpR X (compareOp .Gt) (q2R G gtW) := opr_imp (OpR.or op_gt op_gt_str) fun x y H Q ⟨p, s, a, b, w, s', S, da, db, q, k⟩ => by
  cases da <;> cases db <;> try (cases q; done)
  · cases q; exact .inl ⟨_, _, rfl, rfl, k p _ H S Fra.refl (den_bl (by simp [iLt_eq, ← decide_not, Int.not_lt]))⟩
  · cases q; exact .inr ⟨_, _, rfl, rfl, k p _ H S Fra.refl (.bl _)⟩
theorem om_ge : OpR X (compareOp .GtE) (q2R G geW) := opr_imp (OpR.or op_ge op_ge_str) fun x y H Q ⟨p, s, a, b, w, s', S, da, db, q, k⟩ => by
  cases da <;> cases db <;> try (cases q; done)
  · cases q; exact .inl ⟨_, _, rfl, rfl, k p _ H S Fra.refl (den_bl (by simp [iLt_eq, ← decide_not, Int.not_lt]))⟩
  · cases q; exact .inr ⟨_, _, rfl, rfl, k p _ H S Fra.refl (.bl _)⟩
theorem om_is : OpR X (compareOp .Is) (q2R G (isW false)) := opr_imp op_isN fun x y H Q ⟨p, s, a, b, w, s', S, da, db, q, k⟩ => by
  cases db <;> try (cases q; done)
  refine ⟨rfl, ?_⟩
  cases da <;> (cases q; exact k p _ H S Fra.refl (.bl _))
theorem om_isnot : OpR X (compareOp .IsNot) (q2R G (isW true)) := opr_imp op_notN fun x y H Q ⟨p, s, a, b, w, s', S, da, db, q, k⟩ => by
  cases db <;> try (cases q; done)
  refine ⟨rfl, ?_⟩
  cases da <;> (cases q; exact k p _ H S Fra.refl (.bl _))
end

end
section
/-! ### comprehensions -/
theorem itF {P Q : Prop} (h : Q) : if false = true then P else Q := by rw [if_neg Bool.false_ne_true]; exact h
theorem itT {P Q : Prop} (h : P) : if true = true then P else Q := by rw [if_pos rfl]; exact h
noncomputable def mwipe (r : Me) : List Nat → Me
  | [] => r
  | v :: vs => lset (mwipe r vs) v none
theorem EnvR.unset {G : Mg} {p : List Addr} {H : Hp} {r : Me} {σ : L2.St} {i : Nat} (e : EnvR G p H r σ) : EnvR G p H (lset r i none) (σ.set i none) := by
  rw [lset_eq]
  refine ⟨by rw [List.length_set, List.length_set, e.len], fun j x h => ?_⟩
  by_cases hj : i = j
  · subst hj
    have hl : i < r.length := by
      have := (List.getElem?_eq_some_iff.mp h).1
      rwa [List.length_set] at this
    rw [List.getElem?_set_self hl] at h
    cases h
  · rw [List.getElem?_set_ne hj] at h
    rw [List.getElem?_set_ne hj]
    exact e.get j x h
theorem EnvR.wipe {G : Mg} {p : List Addr} {H : Hp} {r : Me} {σ : L2.St} (e : EnvR G p H r σ) : ∀ vs : List Nat, EnvR G p H (mwipe r vs) (L2.wipe σ vs)
  | [] => e
  | v :: vs => (e.wipe vs).unset
/-- the items of all turns, one turn giving some -/
noncomputable def mflat (it : It0) (st : Mv → Ms → Option (List Mv × Ms)) (m : Nat) : Nat → Ms → Option (List Mv × Ms) := Nat.rec (motive := fun _ => Nat → Ms → Option (List Mv × Ms)) (fun _ _ => none)
  (fun _ ih i s => match it.at i s with
    | none => none
    | some none => some ([], s)
    | some (some w) => (st w s).ob fun x => (ih (Nat.succ i) x.2).om fun y => (lapp x.1 y.1, y.2)) m
theorem mflat_succ {it : It0} {st : Mv → Ms → Option (List Mv × Ms)} {m i : Nat} {s : Ms} : mflat it st (m + 1) i s = match it.at i s with
    | none => none
    | some none => some ([], s)
    | some (some w) => (st w s).ob fun x => (mflat it st m (i + 1) x.2).om fun y => (x.1 ++ y.1, y.2) := by
  show (match it.at i s with
    | none => none
    | some none => some ([], s)
    | some (some w) => (st w s).ob fun x => (mflat it st m (i + 1) x.2).om fun y => (lapp x.1 y.1, y.2)) = _
  cases it.at i s with
  | none => rfl
  | some o => cases o with
    | none => rfl
    | some w => simp only [lapp_eq]
noncomputable def mstep (T : Tg) (C : Ft) (E : Fe) (r : Me) (w : Mv) (s : Ms) : Option (List Mv × Ms) := (T.asg w r).ob fun r1 => (C r1 s).ob fun c => cond c.1 ((E r1 c.2).om fun x => ([x.1], x.2)) (some ([], c.2))
noncomputable def mlc (I : Fi) (T : Tg) (C : Ft) (E : Fe) (vs : List Nat) : Fe := fun r s => (I r s).ob fun x => (mflat x.1 (mstep T C E (mwipe r vs)) 100000 0 x.2).ob fun y => newL y.1 y.2
noncomputable def myes : Ft := fun _ s => some (true, s)
section
variable {X : Cx} {G : Mg}
theorem t_yes {σ : L2.St} {H : Hp} {Q : Bool → Hp → Prop} (h : tT G myes σ H Q) : tYes σ H Q := by
  obtain ⟨p, s, r, b, s', S, E, q, k⟩ := h
  cases q
  exact k p H S Fra.refl
theorem pts_imp {ifs : List Expr} {t t' : TT} (h : PTs X ifs t) (i : ∀ σ H Q, t' σ H Q → t σ H Q) : PTs X ifs t' := ⟨fun pins s σ H Q I q => h.run pins s σ H Q I (i σ H Q q)⟩
theorem tm_nil : PTs X [] (tT G myes) := pts_imp pts_nil fun _ _ _ h => t_yes h
theorem tm_one {c : Expr} {C : Ft} (h : PT X c (tT G C)) : PTs X [c] (tT G C) := pts_one h
theorem getElem?_wipe {σ : L2.St} {i : Nat} : ∀ {vs : List Nat}, i ∉ vs → (L2.wipe σ vs)[i]? = σ[i]?
  | [], _ => rfl
  | v :: vs, h => by
    have h' : i ≠ v ∧ i ∉ vs := by simpa using h
    show ((L2.wipe σ vs).set v none)[i]? = _
    rw [List.getElem?_set_ne (Ne.symm h'.1), getElem?_wipe h'.2]
theorem getElem?_wipe_in {σ : L2.St} {i : Nat} (hi : i < σ.length) : ∀ {vs : List Nat}, i ∈ vs → (L2.wipe σ vs)[i]? = some none
  | [], h => by cases h
  | v :: vs, h => by
    show ((L2.wipe σ vs).set v none)[i]? = _
    by_cases e : v = i
    · subst e
      rw [List.getElem?_set_self (by rw [wipe_length]; exact hi)]
    · rw [List.getElem?_set_ne e]
      exact getElem?_wipe_in hi (by simpa [Ne.symm e] using h)
theorem wipe_same {σ σ2 : L2.St} {vs : List Nat} (hl : σ2.length = σ.length) (h : ∀ i, i ∉ vs → σ2[i]? = (L2.wipe σ vs)[i]?) : L2.wipe σ2 vs = L2.wipe σ vs := by
  apply List.ext_getElem?
  intro i
  by_cases hi : i ∈ vs
  · by_cases hl2 : i < σ.length
    · rw [getElem?_wipe_in hl2 hi, getElem?_wipe_in (by omega) hi]
    · rw [List.getElem?_eq_none (by rw [wipe_length]; omega), List.getElem?_eq_none (by rw [wipe_length]; omega)]
  · rw [getElem?_wipe hi, h i hi]
theorem Sim.upd_out {p : List Addr} {s : Ms} {H : Hp} {D : Addr} {xs ys : List V} (S : Sim G p s H) (hD : H D = some (.lst xs)) (n : D ∉ p) : Sim G p s (upd H D (.lst ys)) ∧ Stays p H p (upd H D (.lst ys)) := by
  have st : Stays p H p (upd H D (.lst ys)) := by
    refine ⟨fun _ _ e => e, fun a vs e => ?_, fun a o u _ e => ?_⟩
    · rw [upd_ne (by rintro rfl; rw [hD] at e; cases e)]; exact e
    · rw [upd_ne (by rintro rfl; rw [hD] at e; cases e)]; exact e
  refine ⟨⟨S.len, S.nd, fun m b hb => ?_, S.out⟩, st⟩
  obtain ⟨o1, ho, q1, q2, q3⟩ := S.ob m b hb
  have hne : b ≠ D := by rintro rfl; exact n (List.mem_of_getElem? hb)
  exact ⟨o1, ho, q1, by rw [upd_ne hne]; exact q2, q3.stay st⟩
theorem Sim.adopt {p : List Addr} {s s' : Ms} {H : Hp} {D : Addr} {ws : List Mv} {vs : List V} {n : Nat} (S : Sim G p s H) (hD : H D = some (.lst vs)) (nin : D ∉ p) (l : DenL G p H ws vs) (hz : vs.length ≤ sizeLine) (e : s.alloc (.lst ws) = some (n, s')) : Sim G (p ++ [D]) s' H ∧ Den G (p ++ [D]) H (.ref n) (.ref D) := by
  obtain ⟨rfl, h2, h4⟩ := Ms.alloc_eq e
  have st : Stays p H (p ++ [D]) H := ⟨fun n a h => by rw [List.getElem?_append_left (List.getElem?_eq_some_iff.mp h).1]; exact h, fun _ _ e => e, fun _ _ _ _ e => e⟩
  have hlen : (p ++ [D])[s.sz]? = some D := by rw [← S.len]; simp
  refine ⟨⟨by rw [List.length_append, S.len, h2]; rfl, ?_, fun m b hb => ?_, fun m hm => ?_⟩, .ref hlen⟩
  · rw [List.nodup_append]
    exact ⟨S.nd, by simp, fun x hx y hy => by rw [List.mem_singleton.mp hy]; rintro rfl; exact nin hx⟩
  · by_cases hmn : m = s.sz
    · subst hmn
      rw [hlen] at hb; cases hb
      exact ⟨.lst ws, .lst vs, by rw [h4, if_pos rfl], hD, vs, rfl, l.stay st, hz⟩
    · have hlt : m < p.length := by
        have := (List.getElem?_eq_some_iff.mp hb).1
        rw [List.length_append] at this
        have := S.len
        simp at *
        omega
      rw [List.getElem?_append_left hlt] at hb
      obtain ⟨o1, ho1, q1, q2, q3⟩ := S.ob m b hb
      exact ⟨o1, ho1, by rw [h4, if_neg hmn]; exact q1, q2, q3.stay st⟩
  · rw [h4, if_neg (by omega)]
    exact S.out m (by omega)
theorem asgs_rlen : ∀ {is : List Nat} {ws : List Mv} {r r' : Me}, asgs is ws r = some r' → r'.length = r.length
  | [], [], _, _, h => by cases h; rfl
  | [], _ :: _, _, _, h => by cases h
  | _ :: _, [], _, _, h => by cases h
  | i :: is, w :: ws, r, r', h => by rw [asgs_rlen (is := is) (ws := ws) h, lset_eq, List.length_set]
theorem asg_len {T : Tg} {w : Mv} {r r' : Me} (h : T.asg w r = some r') : r'.length = r.length := by
  induction T generalizing w r r' with
  | nm i => cases h; rw [lset_eq, List.length_set]
  | tp is =>
    cases w with
    | tup ws => exact asgs_rlen h
    | _ => cases h
  | pr a b iha ihb =>
    obtain ⟨x, y, r1, rfl, h1, h2⟩ := asg_pr h
    exact (ihb h2).trans (iha h1)
/-- while a comprehension runs: its list at D stands outside -/
structure Mid (G : Mg) (D : Addr) (p1 : List Addr) (H1 : Hp) (acc : List Mv) (p : List Addr) (s : Ms) (H : Hp) : Prop where
  S : Sim G p s H
  f : Fra p1 H1 p H
  n : D ∉ p
  a : ∃ vs, H D = some (.lst vs) ∧ DenL G p H acc vs
theorem Mid.fra {D : Addr} {p1 p p' : List Addr} {H1 H H' : Hp} {acc : List Mv} {s s' : Ms} (M : Mid G D p1 H1 acc p s H) (S' : Sim G p' s' H') (f : Fra p H p' H') : Mid G D p1 H1 acc p' s' H' := by
  obtain ⟨vs, h1, h2⟩ := M.a
  exact ⟨S', M.f.trans f, f.notin h1 M.n, vs, f.kee D _ h1 M.n, h2.fra M.S f⟩
theorem Mid.app {D : Addr} {p1 p : List Addr} {H1 H : Hp} {acc : List Mv} {s : Ms} {w : Mv} {v : V} (M : Mid G D p1 H1 acc p s H) (hD : H1 D = none) (d : Den G p H w v) : ∃ vs, H D = some (.lst vs) ∧ vs.length = acc.length ∧ Mid G D p1 H1 (acc ++ [w]) p s (upd H D (.lst (vs ++ [v]))) := by
  obtain ⟨vs, h1, h2⟩ := M.a
  obtain ⟨S', st⟩ := M.S.upd_out (ys := vs ++ [v]) h1 M.n
  refine ⟨vs, h1, h2.length.symm, S', ⟨M.f.pre, fun a o e n => ?_, fun a o u e => ?_⟩, M.n, _, upd_same, (h2.stay st).append (.cons (d.stay st) .nil)⟩
  · rw [upd_ne (by rintro rfl; rw [hD] at e; cases e)]
    exact M.f.kee a o e n
  · rw [upd_ne (by rintro rfl; rw [hD] at e; cases e)]
    exact M.f.frz a o u e
theorem newL_end {D : Addr} {p1 p : List Addr} {H1 H : Hp} {acc : List Mv} {s s' : Ms} {w : Mv} {Q : VK} (M : Mid G D p1 H1 acc p s H) (hD : H1 D = none) (h : newL acc s = some (w, s')) (k : After G p1 H1 w s' Q) : Q (.ref D) H := by
  obtain ⟨vs, h1, h2⟩ := M.a
  unfold newL at h
  rw [llen_eq] at h
  cases e : Nat.ble acc.length 16777216 with
  | false => rw [e] at h; cases h
  | true =>
    rw [e, cond_true] at h
    obtain ⟨⟨n, s1⟩, g1, g2⟩ := omap_some.mp h
    cases g2
    obtain ⟨S', d'⟩ := M.S.adopt h1 M.n h2 (by rw [← h2.length]; exact ble_sz e) g1
    obtain ⟨q, eq, hq⟩ := M.f.pre
    refine k _ _ _ S' ⟨⟨q ++ [D], by rw [eq, List.append_assoc], fun a ha np => ?_⟩, M.f.kee, M.f.frz⟩ d'
    rcases List.mem_append.mp ha with z | z
    · exact hq a z np
    · rw [List.mem_singleton.mp z]; exact hD
theorem newL_len {acc : List Mv} {s s' : Ms} {w : Mv} (h : newL acc s = some (w, s')) : acc.length ≤ sizeLine := by
  unfold newL at h
  rw [llen_eq] at h
  cases e : Nat.ble acc.length 16777216 with
  | false => rw [e] at h; cases h
  | true => exact ble_sz e
theorem Sim.free {p : List Addr} {s : Ms} {H : Hp} {D : Addr} (S : Sim G p s H) (hD : H D = none) : D ∉ p := fun h => by
  obtain ⟨k, hk⟩ := List.mem_iff_getElem?.mp h
  obtain ⟨_, _, _, z, _⟩ := S.ob k D hk
  rw [hD] at z; cases z
theorem Mid.start {D : Addr} {p1 : List Addr} {H1 : Hp} {s1 : Ms} (S : Sim G p1 s1 H1) (hD : H1 D = none) : Mid G D p1 H1 [] p1 s1 (upd H1 D (.lst [])) :=
  ⟨S.fra_new hD, fra_new hD, S.free hD, ⟨[], upd_same, .nil⟩⟩
theorem t_lc {I : Fi} {T : Tg} {C : Ft} {E : Fe} {vs : List Nat} (hT : ∀ i ∈ T.slots, i ∈ vs) {σ : L2.St} {H : Hp} {Q : VK} (h : tI G (mlc I T C E vs) σ H Q) : tLc (tIt G I) (tG G T) (tT G C) (tI G E) vs σ H Q := by
  obtain ⟨p, s, r, w, s', S, Er, q, k⟩ := h
  obtain ⟨⟨it, s1⟩, q1, q2⟩ := ob_some.mp q
  obtain ⟨⟨tot, s9⟩, q3, q4⟩ := ob_some.mp q2
  have hlen : tot.length ≤ sizeLine := newL_len q4
  refine ⟨p, s, r, it, s1, S, Er, q1, fun p1 H1 J S1 f1 R D hD => ?_⟩
  have k1 := k.of f1
  have E1 := Er.fra S f1
  refine ⟨fun i m H2 => ∃ p2 s2 acc rest, Mid G D p1 H1 acc p2 s2 H2 ∧ mflat it (mstep T C E (mwipe r vs)) m i s2 = some (rest, s9) ∧ acc ++ rest = tot, ⟨100000, p1, s1, [], tot, Mid.start S1 hD, q3, rfl⟩, ?_⟩
  rintro i m H2 ⟨p2, s2, acc, rest, M, q5, e5⟩
  cases m with
  | zero => cases q5
  | succ m =>
    have st2 := M.f.stays S1
    have R2 := R p2 s2 H2 i M.S st2 M.f.frz
    rw [mflat_succ] at q5
    cases e : it.at i s2 with
    | none => rw [e] at q5; cases q5
    | some o =>
      cases o with
      | none =>
        rw [e] at q5
        have q5' : some (([] : List Mv), s2) = some (rest, s9) := q5
        cases q5'
        rw [List.append_nil] at e5
        subst e5
        exact .inl ⟨R2.1 e, newL_end M hD q4 k1⟩
      | some x =>
        rw [e] at q5
        obtain ⟨⟨xs, s3⟩, q6, q7⟩ := ob_some.mp q5
        obtain ⟨⟨ys, s4⟩, q8, q9⟩ := omap_some.mp q7
        cases q9
        obtain ⟨g, y⟩ := R2.2 x e
        refine .inr ⟨g, fun H3 => ∃ p3 s3', Mid G D p1 H1 (acc ++ xs) p3 s3' H3 ∧ s3' = s3, fun H3 ⟨p3, s3', M3, e3⟩ => ⟨m, Nat.lt_succ_self m, p3, s3', acc ++ xs, ys, M3, by rw [e3]; exact q8, by rw [List.append_assoc]; exact e5⟩, fun v H' hy => ?_⟩
        obtain ⟨S2', f2', d⟩ := y v H' hy
        have M2 := M.fra S2' f2'
        unfold mstep at q6
        obtain ⟨r1, a1, a2⟩ := ob_some.mp q6
        obtain ⟨⟨c, s5⟩, a3, a4⟩ := ob_some.mp a2
        have E2 : EnvR G p2 H' (mwipe r vs) (L2.wipe σ vs) := (((E1.fra S1 M.f).fra M.S f2').wipe vs)
        refine ⟨p2, s2, _, x, r1, S2', E2, d, a1, fun σ2 E3 hs => ⟨?_, p2, s2, r1, c, s5, S2', E3, a3, fun p5 H5 S5 f5 => ?_⟩⟩
        · refine wipe_same ?_ fun i hi => hs i fun z => hi (hT i z)
          rw [← E3.len, asg_len a1]
          have := E2.len
          rw [wipe_length] at this
          exact this
        · have M5 := M2.fra S5 f5
          cases c with
          | false =>
            refine itF ?_
            have a4' : some (([] : List Mv), s5) = some (xs, s3) := a4
            cases a4'
            exact ⟨p5, _, by rw [List.append_nil]; exact M5, rfl⟩
          | true =>
            refine itT ?_
            obtain ⟨⟨z, s6⟩, a5, a6⟩ := omap_some.mp (show (E r1 s5).om _ = some (xs, s3) from a4)
            cases a6
            refine ⟨p5, s5, r1, z, s6, S5, E3.fra S2' f5, a5, fun p6 v6 H6 S6 f6 d6 => ?_⟩
            obtain ⟨vs', b1, b2, b3⟩ := (M5.fra S6 f6).app hD d6
            refine ⟨vs', b1, ?_, p6, _, b3, rfl⟩
            rw [b2]
            have : (acc ++ ([z] ++ ys)).length = tot.length := by rw [e5]
            simp at this
            omega
theorem pm_lc {elt tg iter : Expr} {ifs : List Expr} {scope : Scope} {own : List (Str × Nat)} {pos : Pos} {I : Fi} {T : Tg} {C : Ft} {E : Fe} (hc : X.calm = true) (hN : X.N.Nodup) (hi : PI X tg iter (tIt G I)) (ok : BlkOk X.N X.env.scope scope own)
    (hg : ∀ (s : Shared) (H : Hp) (C : Addr) (cl : List (Str × Addr)) (fp : List Addr), PG (X.blk s H scope (compEnvC scope cl C X.env) fp) tg (tG G T)) (ht : ∀ (s : Shared) (H : Hp) (C0 : Addr) (cl : List (Str × Addr)) (fp : List Addr), PTs (X.blk s H scope (compEnvC scope cl C0 X.env) fp) ifs (tT G C))
    (he : ∀ (s : Shared) (H : Hp) (C : Addr) (cl : List (Str × Addr)) (fp : List Addr), PE (X.blk s H scope (compEnvC scope cl C X.env) fp) elt (tI G E)) (hT : ∀ i ∈ T.slots, i ∈ own.map (·.2) := by decide) (hs : ∀ x, foldedSetIterable iter X.env x = pure x := by intro _; rfl) :
    PE X (.ListComp elt [⟨tg, iter, ifs, 0⟩] scope pos) (tI G (mlc I T C E (own.map (·.2)))) := pe_imp (pe_lc hc hN hi ok hg ht he hs) fun _ _ _ h => t_lc hT h
theorem sm_setLc {i : Nat} {y : Str} {py : Pos} {elt tg iter : Expr} {ifs : List Expr} {scope : Scope} {own : List (Str × Nat)} {pos spos : Pos} {I : Fi} {T : Tg} {C : Ft} {E : Fe} (hc : X.calm = true) (hN : X.N.Nodup) (hy : X.N[i]? = some y) (hyl : X.env.scope.names.lookup y = some .local)
    (hsw : swapsWith (.ListComp elt [⟨tg, iter, ifs, 0⟩] scope pos) (some (.Name y py)) spos.line X.env = pure true) (hi : PI X tg iter (tIt G I)) (ok : BlkOk X.N X.env.scope scope own)
    (hg : ∀ (s : Shared) (H : Hp) (C : Addr) (cl : List (Str × Addr)) (fp : List Addr), PG (X.blk s H scope (compEnvC scope cl C X.env) fp) tg (tG G T)) (ht : ∀ (s : Shared) (H : Hp) (C0 : Addr) (cl : List (Str × Addr)) (fp : List Addr), PTs (X.blk s H scope (compEnvC scope cl C0 X.env) fp) ifs (tT G C))
    (he : ∀ (s : Shared) (H : Hp) (C : Addr) (cl : List (Str × Addr)) (fp : List Addr), PE (X.blk s H scope (compEnvC scope cl C X.env) fp) elt (tI G E)) (hT : ∀ i ∈ T.slots, i ∈ own.map (·.2) := by decide) (hs : ∀ x, foldedSetIterable iter X.env x = pure x := by intro _; rfl) :
    PS X (.Assign [.Name y py] (.ListComp elt [⟨tg, iter, ifs, 0⟩] scope pos) spos) (tS G (sset i (mlc I T C E (own.map (·.2))))) :=
  ps_imp (ps_setLc hc hN hy hyl hsw hi ok hg ht he hs) fun D σ H ⟨p, s, r, f, r', s', S, E, q, k⟩ => by
    obtain ⟨⟨x, s1⟩, q1, q2⟩ := omap_some.mp q
    cases q2
    exact t_lc hT ⟨p, s, r, x, s1, S, E, q1, fun p1 v1 H1 S1 f1 d1 => k p1 H1 S1 f1 _ ((E.fra S f1).set d1)⟩
/-! two fors -/
noncomputable def mlc2 (I : Fi) (T : Tg) (C : Ft) (I1 : Fi) (T1 : Tg) (C1 : Ft) (E : Fe) (vs vs1 : List Nat) : Fe := fun r s => (I r s).ob fun x => (mflat x.1 (fun w s => (T.asg w (mwipe r vs)).ob fun r1 => (C r1 s).ob fun c => cond c.1 ((I1 r1 c.2).ob fun z => mflat z.1 (mstep T1 C1 E (mwipe r1 vs1)) 100000 0 z.2) (some ([], c.2))) 100000 0 x.2).ob fun y => newL y.1 y.2
theorem Mid.eqv {D : Addr} {p1 p : List Addr} {H1 H : Hp} {acc acc' : List Mv} {s : Ms} (M : Mid G D p1 H1 acc p s H) (e : acc = acc') : Mid G D p1 H1 acc' p s H := e ▸ M
/-- what stays, with all that is locked -/
abbrev StF (p0 : List Addr) (H0 : Hp) (p : List Addr) (H : Hp) : Prop := Stays p0 H0 p H ∧ ∀ a o u, H0 a = some (.frz o u) → H a = some (.frz o u)
theorem t_lc2 {I : Fi} {T : Tg} {C : Ft} {I1 : Fi} {T1 : Tg} {C1 : Ft} {E : Fe} {vs vs1 : List Nat} (hT : ∀ i ∈ T.slots, i ∈ vs) (hT1 : ∀ i ∈ T1.slots, i ∈ vs1) {σ : L2.St} {H : Hp} {Q : VK} (h : tI G (mlc2 I T C I1 T1 C1 E vs vs1) σ H Q) :
    tLc2 (tIt G I) (tG G T) (tT G C) (tIt G I1) (tG G T1) (tT G C1) (tI G E) vs vs1 σ H Q := by
  obtain ⟨p, s, r, w, s', S, Er, q, k⟩ := h
  obtain ⟨⟨it, s1⟩, q1, q2⟩ := ob_some.mp q
  obtain ⟨⟨tot, s9⟩, q3, q4⟩ := ob_some.mp q2
  have hlen : tot.length ≤ sizeLine := newL_len q4
  refine ⟨p, s, r, it, s1, S, Er, q1, fun p1 H1 J S1 f1 R D hD => ?_⟩
  have k1 := k.of f1
  have E1 := Er.fra S f1
  refine ⟨fun i m H2 => ∃ p2 s2 acc rest, Mid G D p1 H1 acc p2 s2 H2 ∧ mflat it _ m i s2 = some (rest, s9) ∧ acc ++ rest = tot, ⟨100000, p1, s1, [], tot, Mid.start S1 hD, q3, rfl⟩, ?_⟩
  rintro i m H2 ⟨p2, s2, acc, rest, M, q5, e5⟩
  cases m with
  | zero => cases q5
  | succ m =>
    have st2 := M.f.stays S1
    have R2 := R p2 s2 H2 i M.S st2 M.f.frz
    rw [mflat_succ] at q5
    cases e : it.at i s2 with
    | none => rw [e] at q5; cases q5
    | some o =>
      cases o with
      | none =>
        rw [e] at q5
        have q5' : some (([] : List Mv), s2) = some (rest, s9) := q5
        cases q5'
        rw [List.append_nil] at e5
        subst e5
        exact .inl ⟨R2.1 e, newL_end M hD q4 k1⟩
      | some x =>
        rw [e] at q5
        obtain ⟨⟨xs, s3⟩, q6, q7⟩ := ob_some.mp q5
        obtain ⟨⟨ys, s4⟩, q8, q9⟩ := omap_some.mp q7
        cases q9
        obtain ⟨g, y⟩ := R2.2 x e
        have htot : acc.length + (xs.length + ys.length) = tot.length := by rw [← e5]; simp
        refine .inr ⟨g, fun H3 => ∃ p3 s3', Mid G D p1 H1 (acc ++ xs) p3 s3' H3 ∧ s3' = s3, fun H3 ⟨p3, s3', M3, e3⟩ => ⟨m, Nat.lt_succ_self m, p3, s3', acc ++ xs, ys, M3, by rw [e3]; exact q8, by rw [List.append_assoc]; exact e5⟩, fun v H' hy => ?_⟩
        obtain ⟨S2', f2', d⟩ := y v H' hy
        have M2 := M.fra S2' f2'
        obtain ⟨r1, a1, a2⟩ := ob_some.mp q6
        obtain ⟨⟨c, s5⟩, a3, a4⟩ := ob_some.mp a2
        have E2 : EnvR G p2 H' (mwipe r vs) (L2.wipe σ vs) := (((E1.fra S1 M.f).fra M.S f2').wipe vs)
        refine ⟨p2, s2, _, x, r1, S2', E2, d, a1, fun σ2 E3 hs => ⟨?_, p2, s2, r1, c, s5, S2', E3, a3, fun p5 H5 S5 f5 => ?_⟩⟩
        · refine wipe_same ?_ fun i hi => hs i fun z => hi (hT i z)
          rw [← E3.len, asg_len a1]
          have := E2.len
          rw [wipe_length] at this
          exact this
        · have M5 := M2.fra S5 f5
          have E5 := E3.fra S2' f5
          cases c with
          | false =>
            refine itF ?_
            have a4' : some (([] : List Mv), s5) = some (xs, s3) := a4
            cases a4'
            exact ⟨p5, _, M5.eqv (by rw [List.append_nil]), rfl⟩
          | true =>
            refine itT ?_
            obtain ⟨⟨it1, s6⟩, a5, a6⟩ := ob_some.mp (show (I1 r1 s5).ob _ = some (xs, s3) from a4)
            refine ⟨p5, s5, r1, it1, s6, S5, E5, a5, fun p6 H6 J1 S6 f6 R6 => ?_⟩
            have M6 := M5.fra S6 f6
            have E6 := E5.fra S5 f6
            refine ⟨fun j n H7 => ∃ p7 s7 acc7 rest7, Mid G D p1 H1 acc7 p7 s7 H7 ∧ StF p6 H6 p7 H7 ∧ mflat it1 (mstep T1 C1 E (mwipe r1 vs1)) n j s7 = some (rest7, s3) ∧ acc7 ++ rest7 = acc ++ xs, ⟨100000, p6, s6, acc, xs, M6, ⟨Stays.refl, fun _ _ _ e => e⟩, a6, rfl⟩, ?_⟩
            rintro j n H7 ⟨p7, s7, acc7, rest7, M7, st7, b5, be⟩
            cases n with
            | zero => cases b5
            | succ n =>
              have R7 := R6 p7 s7 H7 j M7.S st7.1 st7.2
              rw [mflat_succ] at b5
              cases e7 : it1.at j s7 with
              | none => rw [e7] at b5; cases b5
              | some o7 =>
                cases o7 with
                | none =>
                  rw [e7] at b5
                  have b5' : some (([] : List Mv), s7) = some (rest7, s3) := b5
                  cases b5'
                  rw [List.append_nil] at be
                  exact .inl ⟨R7.1 e7, p7, _, M7.eqv be, rfl⟩
                | some x7 =>
                  rw [e7] at b5
                  obtain ⟨⟨xs8, s8⟩, b6, b7⟩ := ob_some.mp b5
                  obtain ⟨⟨ys8, s10⟩, b8, b9⟩ := omap_some.mp b7
                  cases b9
                  obtain ⟨g7, y7⟩ := R7.2 x7 e7
                  refine .inr ⟨g7, fun H3 => ∃ p3 s3', Mid G D p1 H1 (acc7 ++ xs8) p3 s3' H3 ∧ StF p6 H6 p3 H3 ∧ s3' = s8, fun H3 ⟨p3, s3', M3, st3, e3⟩ => ⟨n, Nat.lt_succ_self n, p3, s3', acc7 ++ xs8, ys8, M3, st3, by rw [e3]; exact b8, by rw [List.append_assoc]; exact be⟩, fun v7 H' hy7 => ?_⟩
                  obtain ⟨S7', f7', d7⟩ := y7 v7 H' hy7
                  have M8 := M7.fra S7' f7'
                  have st8 : StF p6 H6 p7 H' := ⟨st7.1.trans (f7'.stays M7.S), fun a o u e => f7'.frz a o u (st7.2 a o u e)⟩
                  obtain ⟨r9, c1, c2⟩ := ob_some.mp b6
                  obtain ⟨⟨cc, s11⟩, c3, c4⟩ := ob_some.mp c2
                  have E8 : EnvR G p7 H' (mwipe r1 vs1) (L2.wipe σ2 vs1) := EnvR.wipe ⟨E6.len, fun i w h => let ⟨v, q, d⟩ := E6.get i w h; ⟨v, q, d.stay st8.1⟩⟩ vs1
                  refine ⟨p7, s7, _, x7, r9, S7', E8, d7, c1, fun σ3 E9 hs9 => ⟨?_, p7, s7, r9, cc, s11, S7', E9, c3, fun p10 H10 S10 f10 => ?_⟩⟩
                  · refine wipe_same ?_ fun i hi => hs9 i fun z => hi (hT1 i z)
                    rw [← E9.len, asg_len c1]
                    have := E8.len
                    rw [wipe_length] at this
                    exact this
                  · have M10 := M8.fra S10 f10
                    have st10 : StF p6 H6 p10 H10 := ⟨st8.1.trans (f10.stays S7'), fun a o u e => f10.frz a o u (st8.2 a o u e)⟩
                    cases cc with
                    | false =>
                      refine itF ?_
                      have c4' : some (([] : List Mv), s11) = some (xs8, s8) := c4
                      cases c4'
                      exact ⟨p10, _, M10.eqv (by rw [List.append_nil]), st10, rfl⟩
                    | true =>
                      refine itT ?_
                      obtain ⟨⟨z, s12⟩, c5, c6⟩ := omap_some.mp (show (E r9 s11).om _ = some (xs8, s8) from c4)
                      cases c6
                      refine ⟨p10, s11, r9, z, s12, S10, E9.fra S7' f10, c5, fun p12 v12 H12 S12 f12 d12 => ?_⟩
                      obtain ⟨vs', g1, g2, g3⟩ := (M10.fra S12 f12).app hD d12
                      refine ⟨vs', g1, ?_, p12, _, g3, ?_, rfl⟩
                      · rw [g2]
                        have : (acc7 ++ ([z] ++ ys8)).length = (acc ++ xs).length := by rw [be]
                        simp at this
                        omega
                      · refine ⟨(st10.1.trans (f12.stays S10)).trans (S12.upd_out g1 (M10.fra S12 f12).n).2, fun a o u e => ?_⟩
                        have q := f12.frz a o u (st10.2 a o u e)
                        rw [upd_ne (by rintro rfl; rw [g1] at q; cases q)]
                        exact q
theorem pm_lc2 {elt tg iter tg1 iter1 : Expr} {ifs ifs1 : List Expr} {scope : Scope} {own : List (Str × Nat)} {vs1 : List Nat} {pos : Pos} {I I1 : Fi} {T T1 : Tg} {C C1 : Ft} {E : Fe} (hc : X.calm = true) (hN : X.N.Nodup) (hi : PI X tg iter (tIt G I)) (ok : BlkOk X.N X.env.scope scope own)
    (hg : ∀ (s : Shared) (H : Hp) (C : Addr) (cl : List (Str × Addr)) (fp : List Addr), PG (X.blk s H scope (compEnvC scope cl C X.env) fp) tg (tG G T)) (ht : ∀ (s : Shared) (H : Hp) (C0 : Addr) (cl : List (Str × Addr)) (fp : List Addr), PTs (X.blk s H scope (compEnvC scope cl C0 X.env) fp) ifs (tT G C))
    (hi1 : ∀ (s : Shared) (H : Hp) (C : Addr) (cl : List (Str × Addr)) (fp : List Addr), PI (X.blk s H scope (compEnvC scope cl C X.env) fp) tg1 iter1 (tIt G I1))
    (hg1 : ∀ (s : Shared) (H : Hp) (C : Addr) (cl : List (Str × Addr)) (fp : List Addr), PG (X.blk s H scope (compEnvC scope cl C X.env) fp) tg1 (tG G T1)) (ht1 : ∀ (s : Shared) (H : Hp) (C0 : Addr) (cl : List (Str × Addr)) (fp : List Addr), PTs (X.blk s H scope (compEnvC scope cl C0 X.env) fp) ifs1 (tT G C1))
    (he : ∀ (s : Shared) (H : Hp) (C : Addr) (cl : List (Str × Addr)) (fp : List Addr), PE (X.blk s H scope (compEnvC scope cl C X.env) fp) elt (tI G E)) (hv : ∀ i ∈ vs1, i ∈ own.map (·.2) := by decide) (hT : ∀ i ∈ T.slots, i ∈ own.map (·.2) := by decide) (hT1 : ∀ i ∈ T1.slots, i ∈ vs1 := by decide)
    (hs : ∀ x, foldedSetIterable iter X.env x = pure x := by intro _; rfl) (hs1 : ∀ env x, foldedSetIterable iter1 env x = pure x := by intro _ _; rfl) :
    PE X (.ListComp elt [⟨tg, iter, ifs, 0⟩, ⟨tg1, iter1, ifs1, 0⟩] scope pos) (tI G (mlc2 I T C I1 T1 C1 E (own.map (·.2)) vs1)) := pe_imp (pe_lc2 hc hN hi ok hv hg ht hi1 hg1 ht1 he hs hs1) fun _ _ _ h => t_lc2 hT hT1 h
theorem sm_setLc2 {i : Nat} {y : Str} {py : Pos} {elt tg iter tg1 iter1 : Expr} {ifs ifs1 : List Expr} {scope : Scope} {own : List (Str × Nat)} {vs1 : List Nat} {pos spos : Pos} {I I1 : Fi} {T T1 : Tg} {C C1 : Ft} {E : Fe}
    (h : PS X (.Assign [.Name y py] (.ListComp elt [⟨tg, iter, ifs, 0⟩, ⟨tg1, iter1, ifs1, 0⟩] scope pos) spos) (tAsg (tLc2 (tIt G I) (tG G T) (tT G C) (tIt G I1) (tG G T1) (tT G C1) (tI G E) (own.map (·.2)) vs1) (gName i))) (hT : ∀ i ∈ T.slots, i ∈ own.map (·.2) := by decide) (hT1 : ∀ i ∈ T1.slots, i ∈ vs1 := by decide) :
    PS X (.Assign [.Name y py] (.ListComp elt [⟨tg, iter, ifs, 0⟩, ⟨tg1, iter1, ifs1, 0⟩] scope pos) spos) (tS G (sset i (mlc2 I T C I1 T1 C1 E (own.map (·.2)) vs1))) :=
  ps_imp h fun D σ H ⟨p, s, r, f, r', s', S, E, q, k⟩ => by
    obtain ⟨⟨x, s1⟩, q1, q2⟩ := omap_some.mp q
    cases q2
    exact t_lc2 hT hT1 ⟨p, s, r, x, s1, S, E, q1, fun p1 v1 H1 S1 f1 d1 => k p1 H1 S1 f1 _ ((E.fra S f1).set d1)⟩
end

end
section
/-! ### subscripts, slices, membership -/
noncomputable def atF {α : Type} (ws : List α) (i : Int) : Option α := Int.rec (motive := fun _ => Option α) (fun n => lget ws n) (fun n => cond (Nat.blt n (llen ws)) (lget ws (Nat.sub (llen ws) (Nat.succ n))) none) i
theorem atF_eq {α : Type} (ws : List α) (i : Int) : atF ws i = L2.atI ws i := by
  unfold L2.atI L2.ixN
  cases i with
  | ofNat n =>
    show lget ws n = _
    rw [lget_eq, if_pos (show (0 : Int) ≤ Int.ofNat n from Int.natCast_nonneg n)]
    by_cases h : n < ws.length
    · rw [if_pos (show (Int.ofNat n : Int) < (ws.length : Int) from Int.ofNat_lt.mpr h)]; rfl
    · rw [if_neg (show ¬ (Int.ofNat n : Int) < (ws.length : Int) from fun z => h (Int.ofNat_lt.mp z))]
      exact List.getElem?_eq_none_iff.mpr (by omega)
  | negSucc n =>
    show cond (Nat.blt n (llen ws)) (lget ws (llen ws - (n + 1))) none = _
    rw [llen_eq, if_neg (by simp)]
    cases e : Nat.blt n ws.length with
    | false =>
      have h : ¬ n < ws.length := fun z => by rw [Nat.blt_eq.mpr z] at e; cases e
      rw [cond_false]
      split
      · omega
      · rfl
    | true =>
      have h : n < ws.length := Nat.blt_eq.mp e
      rw [cond_true, lget_eq]
      split
      · rename_i z
        have : (ws.length : Int) + Int.negSucc n = ((ws.length - (n + 1) : Nat) : Int) := by omega
        show _ = ws[(((ws.length : Int) + Int.negSucc n).toNat)]?
        rw [this]; rfl
      · rename_i z
        exfalso; apply z; omega
theorem DenL.atI {G : Mg} {p : List Addr} {H : Hp} {ws : List Mv} {vs : List V} (l : DenL G p H ws vs) {i : Int} {w : Mv} (h : L2.atI ws i = some w) : ∃ v, L2.atI vs i = some v ∧ Den G p H w v := by
  unfold L2.atI at h ⊢
  rw [← l.length]
  obtain ⟨j, h1, h2⟩ := Option.bind_eq_some_iff.mp h
  obtain ⟨v, h3, d⟩ := l.get h2
  exact ⟨v, by rw [h1]; exact h3, d⟩
noncomputable def ixW (a b : Mv) (s : Ms) : Option (Mv × Ms) := match b with
  | .int i => (items a s).ob fun ws => (atF ws i).om fun w => (w, s)
  | _ => none
noncomputable def cutM (ws : List Mv) (lo hi : Option Int) : List Mv := (ws.drop (HT.sIx ws.length 0 lo)).take (HT.sIx ws.length ws.length hi - HT.sIx ws.length 0 lo)
noncomputable def slW (w : Mv) (lo hi : Option Int) (s : Ms) : Option (Mv × Ms) := match w with
  | .tup ws => newT (cutM ws lo hi) s
  | .fl ws => newL (cutM ws lo hi) s
  | .ref n => match s.get n with
    | some (.lst ws) => newL (cutM ws lo hi) s
    | _ => none
  | _ => none
abbrev Fo := Me → Ms → Option (Option Int × Ms)
noncomputable def onone : Fo := fun _ s => some (none, s)
noncomputable def osome (A : Fe) : Fo := fun r s => (A r s).ob fun x => match x.1 with
  | .int i => some (some i, x.2)
  | _ => none
noncomputable def mslice (A : Fe) (L U : Fo) : Fe := fun r s => (A r s).ob fun x => (L r x.2).ob fun l => (U r l.2).ob fun u => slW x.1 l.1 u.1 u.2
noncomputable def tO (G : Mg) (F : Fo) : TO := fun σ H Q => ∃ p s r o s', Sim G p s H ∧ EnvR G p H r σ ∧ F r s = some (o, s') ∧ ∀ p' H', Sim G p' s' H' → Fra p H p' H' → Q o H'
/-- a text in a list of texts -/
noncomputable def strsOf : List Mv → Option (List Str)
  | [] => some []
  | .str x :: ws => (strsOf ws).om fun r => x :: r
  | _ => none
noncomputable def inBo (x : Mv) (y : Mv) (s : Ms) : Option Bool := (items y s).ob fun ws => match x, strsOf ws with
  | .str z, some ys => some (ys.any fun y => strEq y z)
  | _, _ => (toD 24 s x).ob fun d => (toDL (toD 23 s) ws).om fun ds => ds.any fun z => PyData.eqv z d
noncomputable def inW (x y : Mv) (s : Ms) : Option (Mv × Ms) := (inBo x y s).om fun k => (.bl k, s)
noncomputable def ninW (x y : Mv) (s : Ms) : Option (Mv × Ms) := (inBo x y s).om fun k => (.bl (!k), s)
section
variable {X : Cx} {G : Mg} {e a b : Expr} {pos : Pos}
theorem ixr_imp {r r' : R2} (h : IxR X r) (i : ∀ x y H Q, r' x y H Q → r x y H Q) : IxR X r' := fun v sl pins s σ H x y u w Q I rx ry q => h v sl pins s σ H x y u w Q I rx ry (i x y H Q q)
theorem ixm (hK : X.K = G.K := by rfl) : IxR X (q2R G ixW) := ixr_imp ix_seq fun x y H Q ⟨p, s, a, b, w, s', S, da, db, q, k⟩ => by
  cases db <;> try (cases q; done)
  rename_i i _
  obtain ⟨ws, q1, q2⟩ := ob_some.mp (show (items a s).ob _ = some (w, s') from q)
  obtain ⟨w', q3, q4⟩ := omap_some.mp q2
  cases q4
  obtain ⟨ad, vs, rfl, h1, l⟩ := items_ok S da q1
  obtain ⟨v, h2, d⟩ := l.atI (atF_eq ws _ ▸ q3)
  rcases h1 with h1 | h1
  · exact .inl ⟨ad, vs, i, v, rfl, rfl, by rw [hK]; exact h1, h2, k p v H S Fra.refl d⟩
  · exact .inr (.inl ⟨ad, vs, i, v, rfl, rfl, by rw [hK]; exact h1, h2, k p v H S Fra.refl d⟩)
theorem pm_ix {A B : Fe} (ha : PE X a (tI G A)) (hb : PE X b (tI G B)) (hs : PlainIx b := by exact fun _ _ => rfl) (hK : X.K = G.K := by rfl) : PE X (.Subscript a b pos) (tI G (mop2 ixW A B)) := pe_imp (pe_ix (ixm hK) ha hb hs) fun _ _ _ h => t_op2 h
theorem po_imp {e : Option Expr} {t t' : TO} (h : PO X e t) (i : ∀ σ H Q, t' σ H Q → t σ H Q) : PO X e t' := ⟨fun pins s σ H Q I q => h.run pins s σ H Q I (i σ H Q q)⟩
theorem om_none : PO X none (tO G onone) := po_imp po_none fun σ H Q ⟨p, s, r, o, s', S, E, q, k⟩ => by cases q; exact k p H S Fra.refl
theorem om_some {A : Fe} (h : PE X e (tI G A)) : PO X (some e) (tO G (osome A)) := po_imp (po_some h) fun σ H Q ⟨p, s, r, o, s', S, E, q, k⟩ => by
  obtain ⟨⟨x, s1⟩, q1, q2⟩ := ob_some.mp q
  refine ⟨p, s, r, x, s1, S, E, q1, fun p1 v1 H1 S1 f1 d1 => ?_⟩
  cases d1 <;> try (cases q2; done)
  cases q2
  exact ⟨_, rfl, k p1 H1 S1 f1⟩
theorem cut_den {p : List Addr} {H : Hp} {ws : List Mv} {vs : List V} (l : DenL G p H ws vs) (lo hi : Option Int) : DenL G p H (cutM ws lo hi) (cutV vs lo hi) := by
  unfold cutM cutV
  rw [← l.length]
  exact (l.drop _).take _
theorem cut_whole {vs : List V} {lo hi : Option Int} (h : HT.sIx vs.length 0 lo = 0 ∧ HT.sIx vs.length vs.length hi = vs.length) : cutV vs lo hi = vs := by
  unfold cutV
  rw [h.1, h.2]
  simp
theorem pm_slice {A : Fe} {L U : Fo} {lo hi : Option Expr} {p2 : Pos} (he : PE X e (tI G A)) (hl : PO X lo (tO G L)) (hu : PO X hi (tO G U)) (hK : X.K = G.K := by rfl) : PE X (.Subscript e (.Slice lo hi none p2) pos) (tI G (mslice A L U)) :=
  pe_imp (pe_slice (SlR.or sl_list sl_tupA) he hl hu) fun σ H Q ⟨p, s, r, w, s', S, E, q, k⟩ => by
    obtain ⟨⟨x, s1⟩, q1, q2⟩ := ob_some.mp q
    obtain ⟨⟨l, s2⟩, q3, q4⟩ := ob_some.mp q2
    obtain ⟨⟨u, s3⟩, q5, q6⟩ := ob_some.mp q4
    refine ⟨p, s, r, x, s1, S, E, q1, fun p1 v1 H1 S1 f1 d1 => ⟨p1, s1, r, l, s2, S1, E.fra S f1, q3, fun p2 H2 S2 f2 => ⟨p2, s2, r, u, s3, S2, (E.fra S f1).fra S1 f2, q5, fun p3 H3 S3 f3 => ?_⟩⟩⟩
    have d3 := (d1.fra S1 f2).fra S2 f3
    have k3 := k.of ((f1.trans f2).trans f3)
    cases d3 with
    | tup h1 ll =>
      obtain ⟨z1, z2, z3⟩ := newT_ok S3 (cut_den ll l u) q6 k3
      refine .inr ⟨_, _, rfl, by rw [hK]; exact h1, fun e => ?_, fun _ => z2⟩
      rw [cut_whole e] at z3
      exact z3 _ h1
    | fl h1 ll =>
      obtain ⟨z1, z2⟩ := newL_ok S3 (cut_den ll l u) q6 k3
      exact .inl ⟨_, _, rfl, by rw [hK]; exact h1.sq, z2⟩
    | ref hn =>
      simp only [slW] at q6
      split at q6
      · rename_i ws e
        obtain ⟨ho, h1, vs, rfl, ll, _⟩ := S3.get hn e
        obtain ⟨z1, z2⟩ := newL_ok S3 (cut_den ll l u) q6 k3
        exact .inl ⟨_, _, rfl, SqL.of h1, z2⟩
      · cases q6
    | _ => cases q6
theorem strsOf_ok {p : List Addr} {H : Hp} : ∀ {ws : List Mv} {vs : List V} {ys : List Str}, DenL G p H ws vs → strsOf ws = some ys → vs = ys.map V.str ∧ ws = ys.map Mv.str
  | _, _, _, .nil, h => by cases h; exact ⟨rfl, rfl⟩
  | _, _, _, .cons (w := w) (ws := ws) d l, h => by
    cases d <;> try (cases h; done)
    rename_i x
    obtain ⟨r, h1, h2⟩ := omap_some.mp (show (strsOf ws).om _ = _ from h)
    cases h2
    obtain ⟨e1, e2⟩ := strsOf_ok l h1
    exact ⟨by rw [e1]; rfl, by rw [e2]; rfl⟩
/-- x in a tuple of data -/
noncomputable def rInDT (K : PySem.W.Frag) (neg : Bool) : R2 := fun x y H Q => ∃ d ds, Dp K H x d ∧ Dp K H y (.tuple ds) ∧ SeqAt.shaped d = true ∧ SeqAt.shaped (.tuple ds) = true ∧ Q (.bl (neg != ds.any fun z => PyData.eqv z d)) H
theorem op_inDT (hu : X.A.units + 65 < cLine) : OpR X (compareOp .In) (rInDT X.K false) := by
  intro pins s σ H x y v u Q I rx ry h
  obtain ⟨d, ds, hd, he, sd, se, q⟩ := h
  obtain ⟨as, r1⟩ := Dp.reads I d x v hd rx
  obtain ⟨bs, r2⟩ := Dp.reads I (.tuple ds) y u he ry
  exact SeqAt.in_tuple_reads r2 r1 (SeqAt.canLay_of_shaped se) (SeqAt.canLay_of_shaped sd) (room_in_shaped sd hu) ⟨.bl _, H, I, rfl, by simpa using q⟩
theorem op_ninDT (hu : X.A.units + 65 < cLine) : OpR X (compareOp .NotIn) (rInDT X.K true) := by
  intro pins s σ H x y v u Q I rx ry h
  obtain ⟨d, ds, hd, he, sd, se, q⟩ := h
  obtain ⟨as, r1⟩ := Dp.reads I d x v hd rx
  obtain ⟨bs, r2⟩ := Dp.reads I (.tuple ds) y u he ry
  exact SeqAt.notIn_tuple_reads r2 r1 (SeqAt.canLay_of_shaped se) (SeqAt.canLay_of_shaped sd) (room_in_shaped sd hu) ⟨.bl _, H, I, rfl, by simpa using q⟩
theorem in_core (hK : X.K = G.K) {p : List Addr} {s : Ms} {H : Hp} {x y : Mv} {vx vy : V} {c : Bool} {neg : Bool} {Q : VK} (S : Sim G p s H) (dx : Den G p H x vx) (dy : Den G p H y vy) (h : inBo x y s = some c) (q : Q (.bl (neg != c)) H) :
    rIn X.K neg vx vy H Q ∨ (∃ d ds, Dp X.K H vx d ∧ Dp X.K H vy (.list ds) ∧ SeqAt.shaped d = true ∧ SeqAt.shaped (.list ds) = true ∧ Q (.bl (neg != ds.any fun z => PyData.eqv z d)) H) ∨ rInDT X.K neg vx vy H Q := by
  obtain ⟨ws, h1, h2⟩ := ob_some.mp h
  obtain ⟨ad, vs, rfl, hs, l⟩ := items_ok S dy h1
  split at h2
  · rename_i z ys e
    cases h2
    obtain ⟨e1, e2⟩ := strsOf_ok l e
    cases dx
    refine .inl ⟨ad, vs, rfl, by rw [hK]; exact hs, rfl, by rw [e1]; simp [flatV], ?_⟩
    have e3 : inV (V.str z) vs = ys.any fun y => decide (y = z) := by
      rw [e1]
      unfold inV
      rw [List.any_map]
      have e4 : ((fun y => eqV y (V.str z)) ∘ V.str) = fun y => decide (y = z) := by
        funext y
        exact Bool.beq_eq_decide_eq y z
      rw [e4]
    rw [e3]
    simp only [strEq_eq] at q
    cases neg
    · simpa using q
    · simpa using q
  · obtain ⟨d, g1, g2⟩ := ob_some.mp h2
    obtain ⟨ds, g3, g4⟩ := omap_some.mp g2
    subst g4
    have o1 := toD_ok S 24 _ _ _ dx g1
    obtain ⟨b1, b2, b3⟩ := toDL_ok (toD_ok S 23) l g3
    have sh : ∀ c : List PyData → PyData, (c = PyData.list ∨ c = PyData.tuple) → SeqAt.shaped (c ds) = true := fun c hc => by
      unfold SeqAt.shaped
      rcases hc with rfl | rfl
      · simp only [PyData.canLay0, b2, PyData.depth, Bool.true_and]; exact decide_eq_true (by omega)
      · simp only [PyData.canLay0, b2, PyData.depth, Bool.true_and]; exact decide_eq_true (by omega)
    rcases hs with hs | hs
    · exact .inr (.inl ⟨d, ds, by rw [hK]; exact o1.dp, by rw [hK]; exact .lst hs b1, o1.shaped (by decide), sh _ (.inl rfl), q⟩)
    · exact .inr (.inr ⟨d, ds, by rw [hK]; exact o1.dp, by rw [hK]; exact .tup hs b1, o1.shaped (by decide), sh _ (.inr rfl), q⟩)
theorem om_in (hu : X.A.units + 65 < cLine) (hK : X.K = G.K := by rfl) : OpR X (compareOp .In) (q2R G inW) := opr_imp (OpR.or op_in_seq (OpR.or (op_inD hu) (op_inDT hu))) fun x y H Q ⟨p, s, a, b, w, s', S, da, db, q, k⟩ => by
  obtain ⟨c, q1, q2⟩ := omap_some.mp q
  cases q2
  rcases in_core hK (neg := false) S da db q1 (Q := Q) (by simpa using k p _ H S Fra.refl (.bl _)) with h | ⟨d, ds, h1, h2, h3, h4, h5⟩ | h
  · exact .inl h
  · exact .inr (.inl ⟨d, ds, h1, h2, h3, h4, by simpa using h5⟩)
  · exact .inr (.inr h)
theorem om_nin (hu : X.A.units + 65 < cLine) (hK : X.K = G.K := by rfl) : OpR X (compareOp .NotIn) (q2R G ninW) := opr_imp (OpR.or op_notIn_seq (OpR.or (op_notInD hu) (op_ninDT hu))) fun x y H Q ⟨p, s, a, b, w, s', S, da, db, q, k⟩ => by
  obtain ⟨c, q1, q2⟩ := omap_some.mp q
  cases q2
  rcases in_core hK (neg := true) S da db q1 (Q := Q) (by simpa using k p _ H S Fra.refl (.bl _)) with h | ⟨d, ds, h1, h2, h3, h4, h5⟩ | h
  · exact .inl h
  · exact .inr (.inl ⟨d, ds, h1, h2, h3, h4, by simpa using h5⟩)
  · exact .inr (.inr h)
/-! ### stars -/
noncomputable def mstar (A : Fe) (B : Fa) : Fa := fun r s => (A r s).ob fun x => (items x.1 x.2).ob fun ws => (B r x.2).ob fun y => some (ws ++ y.1, y.2)
end
/-! ### built-ins -/
noncomputable def lenB (w : Mv) (s : Ms) : Option Nat := match w with
  | .str x => cond (Nat.ble x.length 16777216) (some x.length) none
  | .tup ws => some ws.length
  | .fl ws => some ws.length
  | .ref n => match s.get n with
    | some (.lst ws) => some ws.length
    | _ => none
  | _ => none
noncomputable def lenW : Fn := fun ws s => match ws with
  | [w] => (lenB w s).om fun (n : Nat) => (Mv.int (n : Int), s)
  | _ => none
noncomputable def listW : Fn := fun ws s => match ws with
  | [w] => (items w s).ob fun xs => newL xs s
  | _ => none
noncomputable def tupleW : Fn := fun ws s => match ws with
  | [w] => (items w s).ob fun xs => newT xs s
  | _ => none
noncomputable def boolsOf : List Mv → Option (List Bool)
  | [] => some []
  | .bl x :: ws => (boolsOf ws).om fun r => x :: r
  | _ => none
noncomputable def lstOf (w : Mv) (s : Ms) : Option (List Mv) := match w with
  | .tup _ => none
  | _ => items w s
noncomputable def allW : Fn := fun ws s => match ws with
  | [w] => (lstOf w s).ob fun xs => (boolsOf xs).om fun bs => (.bl (bs.all id), s)
  | _ => none
noncomputable def anyW : Fn := fun ws s => match ws with
  | [w] => (lstOf w s).ob fun xs => (boolsOf xs).om fun bs => (.bl (bs.any id), s)
  | _ => none
noncomputable def absW : Fn := fun ws s => match ws with
  | [.int i] => some (.int (if i < 0 then -i else i), s)
  | _ => none
noncomputable def min2W : Fn := fun ws s => match ws with
  | [.int i, .int j] => some (.int (if j < i then j else i), s)
  | _ => none
noncomputable def intW : Fn := fun ws s => match ws with
  | [.int i] => some (.int i, s)
  | [.bl k] => some (.int (if k then 1 else 0), s)
  | _ => none
noncomputable def tyOf : Mv → Ms → Option Mty
  | .non, _ => some .none
  | .bl _, _ => some .bool
  | .int _, _ => some .int
  | .str _, _ => some .str
  | .tup _, _ => some .tuple
  | .fl _, _ => some .list
  | .ref n, s => match s.get n with
    | some (.lst _) => some .list
    | some (.dk _) => some .dict
    | _ => none
  | _, _ => none
noncomputable def isaT (t c : Mty) : Bool := decide (t = c) || (decide (t = .bool) && decide (c = .int))
noncomputable def tysOf : List Mv → Option (List Mty)
  | [] => some []
  | .ty t :: ws => (tysOf ws).om fun r => t :: r
  | _ => none
noncomputable def isiW : Fn := fun ws s => match ws with
  | [w, .ty c] => (tyOf w s).om fun t => (.bl (isaT t c), s)
  | _ => none
noncomputable def insS (x : Str) : List Str → List Str
  | [] => [x]
  | y :: r => cond (decide (y.cps.toList < x.cps.toList)) (y :: insS x r) (x :: y :: r)
noncomputable def sortS (l : List Str) : List Str := l.foldr insS []
noncomputable def sortedW : Fn := fun ws s => match ws with
  | [w] => (lstOf w s).ob fun xs => (strsOf xs).ob fun ys => cond (Nat.blt ys.length 64) (newL ((sortS ys).map .str) s) none
  | _ => none
noncomputable def minS (x : Str) (xs : List Str) : Str := xs.foldl (fun a y => if decide (y.cps.toList < a.cps.toList) = true then y else a) x
noncomputable def minW : Fn := fun ws s => match ws with
  | [w] => (lstOf w s).ob fun xs => match strsOf xs with
    | some (y :: ys) => some (.str (minS y ys), s)
    | _ => none
  | _ => none
section
variable {X : Cx} {G : Mg} {e a b : Expr} {pos : Pos}
theorem lstOf_ok {p : List Addr} {s : Ms} {H : Hp} {w : Mv} {v : V} {ws : List Mv} (S : Sim G p s H) (d : Den G p H w v) (h : lstOf w s = some ws) : ∃ a vs, v = .ref a ∧ SqL G.K H a vs ∧ DenL G p H ws vs := by
  cases d with
  | tup h1 l => cases h
  | fl h1 l => cases h; exact ⟨_, _, rfl, h1.sq, l⟩
  | ref hn =>
    simp only [lstOf, items] at h
    split at h
    · rename_i ws' e
      cases h
      obtain ⟨ho, h1, vs, rfl, l, _⟩ := S.get hn e
      exact ⟨_, _, rfl, SqL.of h1, l⟩
    · cases h
  | _ => cases h
theorem pm_star {A : Fe} {B : Fa} {es : List Expr} {q : Pos} (ha : PE X e (tI G A)) (hr : PA X es (tA G B)) (hs : starEach (.Starred e q :: es) X.env = (true, eval e X.env) :: starEach es X.env := by rfl) (hK : X.K = G.K := by rfl) : PA X (.Starred e q :: es) (tA G (mstar A B)) :=
  pa_imp (StX.pa_star ha hr hs) fun σ H Q ⟨p, s, r, ws, s', S, E, q, k⟩ => by
    obtain ⟨⟨x, s1⟩, q1, q2⟩ := ob_some.mp q
    obtain ⟨xs, q3, q4⟩ := ob_some.mp q2
    obtain ⟨⟨y, s2⟩, q5, q6⟩ := ob_some.mp q4
    cases q6
    refine ⟨p, s, r, x, s1, S, E, q1, fun p1 v1 H1 S1 f1 d1 => ?_⟩
    obtain ⟨ad, vs, rfl, hs, l⟩ := items_ok S1 d1 q3
    exact ⟨ad, vs, rfl, by rw [hK]; exact hs.symm, p1, s1, r, y, s2, S1, E.fra S f1, q5, fun p2 us H2 S2 f2 d2 => k p2 _ H2 S2 (f1.trans f2) ((l.fra S1 f2).append d2)⟩
theorem lenB_ok {p : List Addr} {s : Ms} {H : Hp} {w : Mv} {v : V} {n : Nat} (S : Sim G p s H) (d : Den G p H w v) (h : lenB w s = some n) : LenV G.K v H n := by
  cases d with
  | str x =>
    have q' : cond (Nat.ble x.length 16777216) (some x.length) none = some n := h
    cases e : Nat.ble x.length 16777216 with
    | false => rw [e] at q'; cases q'
    | true => rw [e] at q'; cases q'; exact ⟨ble_sz e, rfl⟩
  | tup h1 l => cases h; exact .inr ⟨_, h1, l.length⟩
  | fl h1 l => cases h; exact .inl ⟨_, h1.sq, l.length⟩
  | ref hn =>
    simp only [lenB] at h
    split at h
    · rename_i ws e
      cases h
      obtain ⟨ho, h1, vs, rfl, l, _⟩ := S.get hn e
      exact .inl ⟨_, SqL.of h1, l.length⟩
    · cases h
  | _ => cases h
theorem cm_len (hK : X.K = G.K := by rfl) : CallR X (.builtin "len") (rF G lenW) := cal_imp call_len fun xs H Q ⟨p, s, ws, w, s', S, l, q, k⟩ => by
  match ws, l, q with
  | [w0], .cons d .nil, q =>
    obtain ⟨n, g1, g2⟩ := omap_some.mp (show (lenB w0 s).om (fun (n : Nat) => (Mv.int (n : Int), s)) = some (w, s') from q)
    cases g2
    exact ⟨_, n, rfl, by rw [hK]; exact lenB_ok S d g1, k p _ H S Fra.refl (.int _)⟩
theorem cm_list (hK : X.K = G.K := by rfl) : CallR X (.type "list") (rF G listW) := cal_imp call_list_of fun xs H Q ⟨p, s, ws, w, s', S, l, q, k⟩ => by
  match ws, l, q with
  | [w0], .cons d .nil, q =>
    obtain ⟨ys, g1, g2⟩ := ob_some.mp (show (items w0 s).ob _ = some (w, s') from q)
    obtain ⟨ad, vs, rfl, hs, ll⟩ := items_ok S d g1
    exact ⟨ad, vs, rfl, by rw [hK]; exact hs, (newL_ok S ll g2 k).2⟩
theorem cm_tuple (hK : X.K = G.K := by rfl) : CallR X (.type "tuple") (rF G tupleW) := cal_imp call_tuple_of fun xs H Q ⟨p, s, ws, w, s', S, l, q, k⟩ => by
  match ws, l, q with
  | [w0], .cons d .nil, q =>
    obtain ⟨ys, g1, g2⟩ := ob_some.mp (show (items w0 s).ob _ = some (w, s') from q)
    obtain ⟨ad, vs, rfl, hs, ll⟩ := items_ok S d g1
    obtain ⟨z1, z2, z3⟩ := newT_ok S ll g2 k
    refine ⟨ad, vs, rfl, ?_⟩
    rcases hs with hs | hs
    · exact .inl ⟨by rw [hK]; exact hs, z2⟩
    · exact .inr ⟨by rw [hK]; exact hs, z3 _ hs⟩
theorem boolsOf_ok {p : List Addr} {H : Hp} : ∀ {ws : List Mv} {vs : List V} {ys : List Bool}, DenL G p H ws vs → boolsOf ws = some ys → vs = ys.map V.bl
  | _, _, _, .nil, h => by cases h; rfl
  | _, _, _, .cons (w := w) (ws := ws) d l, h => by
    cases d <;> try (cases h; done)
    obtain ⟨r, h1, h2⟩ := omap_some.mp (show (boolsOf ws).om _ = _ from h)
    cases h2
    rw [boolsOf_ok l h1]
    rfl
theorem cm_all (hc : X.calm = true := by rfl) (hK : X.K = G.K := by rfl) : CallR X (.builtin "all") (rF G allW) := cal_imp (cr_all hc) fun xs H Q ⟨p, s, ws, w, s', S, l, q, k⟩ => by
  match ws, l, q with
  | [w0], .cons d .nil, q =>
    obtain ⟨ys, g1, g2⟩ := ob_some.mp (show (lstOf w0 s).ob _ = some (w, s') from q)
    obtain ⟨bs, g3, g4⟩ := omap_some.mp g2
    cases g4
    obtain ⟨ad, vs, rfl, hs, ll⟩ := lstOf_ok S d g1
    refine ⟨ad, bs, rfl, ?_, k p _ H S Fra.refl (.bl _)⟩
    rw [hK, ← boolsOf_ok ll g3]
    exact hs
theorem cm_any (hc : X.calm = true := by rfl) (hK : X.K = G.K := by rfl) : CallR X (.builtin "any") (rF G anyW) := cal_imp (cr_any hc) fun xs H Q ⟨p, s, ws, w, s', S, l, q, k⟩ => by
  match ws, l, q with
  | [w0], .cons d .nil, q =>
    obtain ⟨ys, g1, g2⟩ := ob_some.mp (show (lstOf w0 s).ob _ = some (w, s') from q)
    obtain ⟨bs, g3, g4⟩ := omap_some.mp g2
    cases g4
    obtain ⟨ad, vs, rfl, hs, ll⟩ := lstOf_ok S d g1
    refine ⟨ad, bs, rfl, ?_, k p _ H S Fra.refl (.bl _)⟩
    rw [hK, ← boolsOf_ok ll g3]
    exact hs
theorem cm_abs : CallR X (.builtin "abs") (rF G absW) := cal_imp call_abs fun xs H Q ⟨p, s, ws, w, s', S, l, q, k⟩ => by
  match ws, l, q with
  | [.int i], .cons (.int _) .nil, q => cases q; exact ⟨i, rfl, k p _ H S Fra.refl (.int _)⟩
theorem cm_min2 (hc : X.calm = true := by rfl) : CallR X (.builtin "min") (rF G min2W) := cal_imp (call_min2 hc) fun xs H Q ⟨p, s, ws, w, s', S, l, q, k⟩ => by
  match ws, l, q with
  | [.int i, .int j], .cons (.int _) (.cons (.int _) .nil), q => cases q; exact ⟨i, j, rfl, k p _ H S Fra.refl (.int _)⟩
theorem cm_int : CallR X (.type "int") (rF G intW) := cal_imp call_int1 fun xs H Q ⟨p, s, ws, w, s', S, l, q, k⟩ => by
  match ws, l, q with
  | [.int i], .cons (.int _) .nil, q => cases q; exact .inl ⟨i, rfl, k p _ H S Fra.refl (.int _)⟩
  | [.bl b], .cons (.bl _) .nil, q => cases q; exact .inr ⟨b, rfl, k p _ H S Fra.refl (.int _)⟩
/-! isinstance -/
theorem tyOf_ok {p : List Addr} {s : Ms} {H : Hp} {w : Mv} {v : V} {t : Mty} (S : Sim G p s H) (d : Den G p H w v) (h : tyOf w s = some t) : TyX G.K H v (.type t.name) := by
  cases d with
  | non => cases h; exact .base .non
  | bl b => cases h; exact .base (.bl b)
  | int i => cases h; exact .base (.int i)
  | str x => cases h; exact .base (.str x)
  | tup h1 l =>
    cases h
    rcases h1 with h1 | ⟨o, its, n, h1, h2, _⟩
    · rcases h1 with h1 | ⟨o, h1⟩
      · exact .base (.tup h1)
      · exact .fTuple h1
    · exact .kTuple h1 h2
  | fl h1 l =>
    cases h
    rcases h1.sq with h1 | ⟨o, its, n, h1, h2, _⟩
    · rcases h1 with h1 | ⟨o, h1⟩
      · exact .base (.lst h1)
      · exact .base (.frz h1)
    · exact .kList h1 h2
  | ref hn =>
    simp only [tyOf] at h
    split at h
    · rename_i ws e
      cases h
      obtain ⟨ho, h1, vs, rfl, _⟩ := S.get hn e
      exact .base (.lst h1)
    · rename_i ws e
      cases h
      obtain ⟨ho, h1, vs, rfl, _⟩ := S.get hn e
      exact .base (.dK h1)
    · cases h
  | ty t => cases h
  | cls c => cases h
theorem isaT_ok (t c : Mty) : kitB t.name c.name = some (isaT t c) := by cases t <;> cases c <;> decide +kernel
theorem tysOf_ok {p : List Addr} {H : Hp} : ∀ {ws : List Mv} {vs : List V} {ts : List Mty}, DenL G p H ws vs → tysOf ws = some ts → Paired ClsV vs (ts.map fun t => Value.type t.name)
  | _, _, _, .nil, h => by cases h; exact .nil
  | _, _, _, .cons (w := w) (ws := ws) d l, h => by
    cases d <;> try (cases h; done)
    obtain ⟨r, h1, h2⟩ := omap_some.mp (show (tysOf ws).om _ = _ from h)
    cases h2
    exact .cons (.ty _) (tysOf_ok l h1)
theorem kitAny_ok {K : PySem.W.Frag} (t : Mty) : ∀ ts : List Mty, PySem.W.kitAny K (.type t.name) (ts.map fun t => Value.type t.name) = some (ts.any fun c => isaT t c)
  | [] => kitAny_nil
  | c :: ts => by
    refine kitAny_cons (b := isaT t c) (kit_ty (isaT_ok t c)) (fun h => ?_) (fun h => ?_)
    · rw [kitAny_ok t ts]; simp [h]
    · simp [h]
theorem cm_isi (hK : X.K = G.K := by rfl) : CallR X (.builtin "isinstance") (rF G isiW) := cal_imp call_isi fun xs H Q ⟨p, s, ws, w, s', S, l, q, k⟩ => by
  match ws, l, q with
  | [w0, .ty c], .cons d (.cons (.ty _) .nil), q =>
    obtain ⟨t, g1, g2⟩ := omap_some.mp (show (tyOf w0 s).om _ = some (w, s') from q)
    cases g2
    exact ⟨_, _, _, _, _, rfl, .ty _, by rw [hK]; exact tyOf_ok S d g1, kit_ty (isaT_ok t c), k p _ H S Fra.refl (.bl _)⟩
noncomputable def tTys (ts : List Mty) : TA := fun _ H Q => Q (ts.map fun t => V.ty t.name) H
theorem py_nil : PA X [] (tTys []) := pa_nil
theorem py_cons {es : List Expr} {t : Mty} {ts : List Mty} (h : PE X e (tC (.ty t.name))) (hr : PA X es (tTys ts)) (hs : starEach (e :: es) X.env = (false, eval e X.env) :: starEach es X.env := by rfl) : PA X (e :: es) (tTys (t :: ts)) := pa_imp (pa_cons h hr hs) fun σ H Q q => q
noncomputable def misiT (A : Fe) (ts : List Mty) : Fe := fun r s => (A r s).ob fun x => (tyOf x.1 x.2).om fun t => (.bl (ts.any fun c => isaT t c), x.2)
theorem paired_ty : ∀ ts : List Mty, Paired ClsV (ts.map fun t => V.ty t.name) (ts.map fun t => Value.type t.name)
  | [] => .nil
  | t :: ts => .cons (.ty _) (paired_ty ts)
theorem pm_isiT {A : Fe} {ts : List Mty} {es : List Expr} {k0 : Nat} {p1 p2 : Pos} (ha : PE X a (tI G A)) (hes : PA X es (tTys ts)) (hg : Gl X "isinstance") (hm : X.mg "isinstance" = none) (hl : ts.length ≤ 1000 := by decide) (hs : starEach [a, .Tuple es k0 p2] X.env = (false, eval a X.env) :: starEach [.Tuple es k0 p2] X.env := by rfl) (hK : X.K = G.K := by rfl) (hpl : (backTo pos (starEach [.Tuple es k0 p2] X.env)).any (·.1) = false := by rfl) :
    PE X (.Call (.Name "isinstance" p1) [a, .Tuple es k0 p2] [] pos) (tI G (misiT A ts)) :=
  pe_imp (pe_callB call_isiT hg hm (by decide +kernel) (pa_cons ha (pa_cons (pe_tup hes) pa_nil) hs) (he := hs) (hpl := hpl)) fun σ H Q ⟨p, s, r, w, s', S, E, q, k⟩ => by
    obtain ⟨⟨x, s1⟩, q1, q2⟩ := ob_some.mp q
    obtain ⟨t, q3, q4⟩ := omap_some.mp q2
    cases q4
    refine ⟨p, s, r, x, s1, S, E, q1, fun p1 v1 H1 S1 f1 d1 => ⟨by rw [List.length_map]; exact Nat.le_trans hl (by rw [sz_eq]; decide), fun T hT => ?_⟩⟩
    have f2 := Mi.fra_new (p := p1) (o := HO.tup (ts.map fun t => V.ty t.name)) hT
    have S2 := S1.fra_new (o := HO.tup (ts.map fun t => V.ty t.name)) hT
    exact ⟨_, T, _, _, _, _, rfl, upd_same, paired_ty ts, by rw [hK]; exact tyOf_ok S2 (d1.fra S1 f2) q3, kitAny_ok t ts, k _ _ _ S2 (f1.trans f2) (.bl _)⟩
/-! sorted texts, the least text -/
theorem ltCps_eq : ∀ x y : List Nat, ltCps x y = decide (x < y)
  | [], [] => by simp [ltCps]
  | [], _ :: _ => by simp [ltCps]
  | _ :: _, [] => by simp [ltCps]
  | a :: x, b :: y => by
    have ih := ltCps_eq x y
    unfold ltCps
    rw [ih]
    by_cases h1 : a < b
    · simp [h1, List.cons_lt_cons_iff]
    · by_cases h2 : a = b
      · simp [h2, List.cons_lt_cons_iff]
      · simp [h1, h2, List.cons_lt_cons_iff]
noncomputable def leS (a b : Str) : Prop := ¬ b.cps.toList < a.cps.toList
theorem leS_trans {a b c : Str} (h1 : leS a b) (h2 : leS b c) : leS a c := fun h => absurd h (List.not_lt.mpr (List.le_trans (List.not_lt.mp h1) (List.not_lt.mp h2)))
theorem leS_anti {a b : Str} (h1 : leS a b) (h2 : leS b a) : a = b := PySem.W.str_of_cps (List.le_antisymm (List.not_lt.mp h1) (List.not_lt.mp h2))
theorem leS_of {a b : Str} (h : b.cps.toList < a.cps.toList) : leS b a := fun z => absurd h (List.lt_asymm z)
theorem rising_pw : ∀ (x : Str) (l : List Str), risingS x l = true → (x :: l).Pairwise leS
  | x, [], _ => by simp
  | x, y :: l, h => by
    simp only [risingS, Bool.and_eq_true, Bool.not_eq_true'] at h
    have hxy : leS x y := fun z => by
      have := h.1
      rw [ltCps_eq, decide_eq_true z] at this
      cases this
    have ih := rising_pw y l h.2
    refine List.pairwise_cons.mpr ⟨fun z hz => ?_, ih⟩
    rcases List.mem_cons.mp hz with rfl | hz
    · exact hxy
    · exact leS_trans hxy (List.rel_of_pairwise_cons ih hz)
theorem sorted_pw : ∀ (l : List Str), sortedS l = true → l.Pairwise leS
  | [], _ => List.Pairwise.nil
  | x :: l, h => rising_pw x l h
theorem ins_perm (x : Str) : ∀ l : List Str, (insS x l).Perm (x :: l)
  | [] => List.Perm.refl _
  | y :: r => by
    unfold insS
    cases decide (y.cps.toList < x.cps.toList) with
    | true => exact ((ins_perm x r).cons y).trans (List.Perm.swap x y r)
    | false => exact List.Perm.refl _
theorem ins_pw (x : Str) : ∀ l : List Str, l.Pairwise leS → (insS x l).Pairwise leS
  | [], _ => by simp [insS]
  | y :: r, h => by
    unfold insS
    cases e : decide (y.cps.toList < x.cps.toList) with
    | true =>
      have hyx : leS y x := leS_of (of_decide_eq_true e)
      show (y :: insS x r).Pairwise leS
      refine List.pairwise_cons.mpr ⟨fun z hz => ?_, ins_pw x r (List.pairwise_cons.mp h).2⟩
      rcases List.mem_cons.mp ((ins_perm x r).mem_iff.mp hz) with rfl | hz
      · exact hyx
      · exact List.rel_of_pairwise_cons h hz
    | false =>
      have hxy : leS x y := of_decide_eq_false e
      show (x :: y :: r).Pairwise leS
      refine List.pairwise_cons.mpr ⟨fun z hz => ?_, h⟩
      rcases List.mem_cons.mp hz with rfl | hz
      · exact hxy
      · exact leS_trans hxy (List.rel_of_pairwise_cons h hz)
theorem sortS_perm : ∀ l : List Str, (sortS l).Perm l
  | [] => List.Perm.refl _
  | x :: l => (ins_perm x (sortS l)).trans ((sortS_perm l).cons x)
theorem sortS_pw : ∀ l : List Str, (sortS l).Pairwise leS
  | [] => List.Pairwise.nil
  | x :: l => ins_pw x _ (sortS_pw l)
theorem sortS_uniq {ys l : List Str} (hp : ys.Perm l) (hs : sortedS ys = true) : ys = sortS l :=
  List.Perm.eq_of_pairwise (fun a b _ _ h1 h2 => leS_anti h1 h2) (sorted_pw ys hs) (sortS_pw l) (hp.trans (sortS_perm l).symm)
theorem denL_strs {p : List Addr} {H : Hp} : ∀ ys : List Str, DenL G p H (ys.map .str) (ys.map .str)
  | [] => .nil
  | y :: ys => .cons (.str y) (denL_strs ys)
theorem cm_sorted (hK : X.K = G.K := by rfl) : CallR X (.builtin "sorted") (rF G sortedW) := cal_imp cr_sortedS fun xs H Q ⟨p, s, ws, w, s', S, l, q, k⟩ => by
  match ws, l, q with
  | [w0], .cons d .nil, q =>
    obtain ⟨ys, g1, g2⟩ := ob_some.mp (show (lstOf w0 s).ob _ = some (w, s') from q)
    obtain ⟨zs, g3, g4⟩ := ob_some.mp g2
    obtain ⟨ad, vs, rfl, hs, ll⟩ := lstOf_ok S d g1
    have e1 := (strsOf_ok ll g3).1
    cases e : Nat.blt zs.length 64 with
    | false => rw [e] at g4; cases g4
    | true =>
      rw [e] at g4
      refine ⟨ad, zs, rfl, by rw [hK, ← e1]; exact hs, Nat.blt_eq.mp e, fun us P hp hsrt hP => ?_⟩
      rw [sortS_uniq hp hsrt]
      exact (newL_ok S (denL_strs (sortS zs)) g4 k).2 P hP
theorem min_ok : ∀ (xs : List Str) (x : Str), PySem.W.minD (.str x) (xs.map PyData.str) = .str (minS x xs)
  | [], x => rfl
  | y :: xs, x => by
    have h1 : PySem.W.minD (.str x) ((y :: xs).map PyData.str) = PySem.W.minD (if PySem.W.dataLt (.str y) (.str x) then .str y else .str x) (xs.map PyData.str) := rfl
    have h2 : minS x (y :: xs) = minS (if decide (y.cps.toList < x.cps.toList) = true then y else x) xs := rfl
    rw [h1, h2, PySem.W.dataLt_str]
    cases e : decide (y.cps.toList < x.cps.toList) with
    | true => simpa using min_ok xs y
    | false => simpa using min_ok xs x
theorem alike_strs (xs : List Str) : PySem.W.AlikeAll (xs.map PyData.str) := by
  refine ⟨fun x hx y hy => ?_, fun x hx => ?_⟩
  · obtain ⟨a, _, rfl⟩ := List.mem_map.mp hx
    obtain ⟨b, _, rfl⟩ := List.mem_map.mp hy
    rfl
  · obtain ⟨a, _, rfl⟩ := List.mem_map.mp hx
    intro z; cases z
theorem depth_strs : ∀ xs : List Str, PyData.depthAll (xs.map PyData.str) ≤ 1
  | [] => by simp [PyData.depthAll]
  | x :: xs => by
    have := depth_strs xs
    simp only [List.map_cons, PyData.depthAll, PyData.depth]
    omega
theorem dp_strs {K : PySem.W.Frag} {H : Hp} : ∀ xs : List Str, DpAll K H (xs.map V.str) (xs.map PyData.str)
  | [] => .nil
  | x :: xs => .cons (.str x) (dp_strs xs)
theorem cm_min (hc : X.calm = true := by rfl) (hu : X.A.units + 64 < cLine) (hK : X.K = G.K := by rfl) : CallR X (.builtin "min") (rF G minW) := by
  intro pins s σ H xs us Q I rv h
  obtain ⟨p, s0, ws, w, s', S, l, q, k⟩ := h
  match ws, l, q with
  | [w0], .cons d .nil, q =>
    obtain ⟨ys, g1, g2⟩ := ob_some.mp (show (lstOf w0 s0).ob _ = some (w, s') from q)
    obtain ⟨ad, vs, rfl, hs, ll⟩ := lstOf_ok S d g1
    split at g2
    · rename_i y zs e
      cases g2
      have e1 := (strsOf_ok ll e).1
      subst e1
      obtain ⟨its, r1, hl, _⟩ := I.list (show SqL X.K H ad ((y :: zs).map V.str) by rw [hK]; exact hs)
      rw [Vals.ref1 rv]
      obtain ⟨as, hr⟩ := Dp.readsAll I ((y :: zs).map PyData.str) ((y :: zs).map V.str) its (dp_strs (y :: zs)) r1
      have hdep := depth_strs (y :: zs)
      refine PySem.W.min_list_data (I.ok.hd hc) hl.isList (x := .str y) (xs := zs.map PyData.str) (as := as) (by simpa using hr) (alike_strs (y :: zs)) (by have : PyData.depthAll (PyData.str y :: zs.map PyData.str) ≤ 1 := hdep; omega) fun i v h' tk bs hv hrd hk => ?_
      rw [min_ok] at hrd
      cases hrd with
      | str x t => exact ⟨.str (minS y zs), H, I.kept hk, ⟨t, rfl⟩, k p _ H S Fra.refl (.str _)⟩
    · cases g2
end

end
section
/-! ### instances: fields by number -/
noncomputable def getM (k : Nat) : List (Nat × Mv) → Option Mv
  | [] => none
  | (j, w) :: r => cond (Nat.beq j k) (some w) (getM k r)
noncomputable def putM (k : Nat) (w : Mv) : List (Nat × Mv) → List (Nat × Mv)
  | [] => [(k, w)]
  | (j, x) :: r => cond (Nat.beq j k) ((j, w) :: r) ((j, x) :: putM k w r)
noncomputable def fldW (c k : Nat) (a : Mv) (s : Ms) : Option (Mv × Ms) := match a with
  | .ref n => match s.get n with
    | some (.ins c' fs) => cond (Nat.beq c' c) ((getM k fs).om fun w => (w, s)) none
    | _ => none
  | _ => none
noncomputable def sfld (c k : Nat) (O A : Fe) : Fs := fun r s => (A r s).ob fun y => (O r y.2).ob fun x => match x.1 with
  | .ref n => match x.2.get n with
    | some (.ins c' fs) => cond (Nat.beq c' c && Nat.blt fs.length 1000) (some (.nx, r, x.2.put n (.ins c (putM k y.1 fs)))) none
    | _ => none
  | _ => none
/-- o.m(args): the receiver is of class c -/
noncomputable def mmeth (c : Nat) (f : Fn) (O : Fe) (A : Fa) : Fe := fun r s => (O r s).ob fun x => match x.1 with
  | .ref n => match x.2.get n with
    | some (.ins c' _) => cond (Nat.beq c' c) ((A r x.2).ob fun y => f (.ref n :: y.1) y.2) none
    | _ => none
  | _ => none
noncomputable def mmake (c : Nat) (f : Fn) (A : Fa) : Fe := fun r s => (A r s).ob fun y => (y.2.alloc (.ins c [])).ob fun q => (f (.ref q.1 :: y.1) q.2).ob fun z => match z.1 with
  | .non => some (.ref q.1, z.2)
  | _ => none
section
variable {X : Cx} {G : Mg} {e o : Expr} {pos : Pos}
/-- the fields of the mirror and of the object -/
noncomputable def FsR (G : Mg) (p : List Addr) (H : Hp) (fs : List (Nat × Mv)) (fs' : List (Str × V)) : Prop := fs'.map (·.1) = fs.map (fun q => G.nm q.1) ∧ DenL G p H (fs.map (·.2)) (fs'.map (·.2)) ∧ ∀ q ∈ fs, q.1 < G.nf
theorem FsR.cons {p : List Addr} {H : Hp} {q : Nat × Mv} {q' : Str × V} {fs : List (Nat × Mv)} {fs' : List (Str × V)} (h : FsR G p H (q :: fs) (q' :: fs')) : q'.1 = G.nm q.1 ∧ Den G p H q.2 q'.2 ∧ q.1 < G.nf ∧ FsR G p H fs fs' := by
  obtain ⟨h1, h2, h3⟩ := h
  simp only [List.map_cons, List.cons.injEq] at h1
  cases h2 with
  | cons d l => exact ⟨h1.1, d, h3 q (by simp), h1.2, l, fun z hz => h3 z (by simp [hz])⟩
theorem FsR.mk {p : List Addr} {H : Hp} {q : Nat × Mv} {q' : Str × V} {fs : List (Nat × Mv)} {fs' : List (Str × V)} (h1 : q'.1 = G.nm q.1) (d : Den G p H q.2 q'.2) (hb : q.1 < G.nf) (h : FsR G p H fs fs') : FsR G p H (q :: fs) (q' :: fs') := by
  obtain ⟨g1, g2, g3⟩ := h
  refine ⟨by simp [h1, g1], .cons d g2, fun z hz => ?_⟩
  rcases List.mem_cons.mp hz with rfl | hz
  · exact hb
  · exact g3 z hz
theorem FsR.get {p : List Addr} {H : Hp} {k : Nat} (hk : k < G.nf) : ∀ {fs : List (Nat × Mv)} {fs' : List (Str × V)} {w : Mv}, FsR G p H fs fs' → getM k fs = some w → ∃ v, fs'.lookup (G.nm k) = some v ∧ Den G p H w v
  | [], fs', w, h, e => by cases e
  | (j, x) :: fs, [], w, h, e => by simp [FsR] at h
  | (j, x) :: fs, (n, v) :: fs', w, h, e => by
    obtain ⟨h1, d, hb, h2⟩ := h.cons
    have h1' : n = G.nm j := h1
    unfold getM at e
    by_cases hjk : j = k
    · subst hjk
      rw [cond_t beq_t] at e
      cases e
      exact ⟨v, by rw [h1']; simp [List.lookup], d⟩
    · rw [cond_f (beq_f hjk)] at e
      obtain ⟨v', g1, g2⟩ := FsR.get hk h2 e
      refine ⟨v', ?_, g2⟩
      have hne : (G.nm k == n) = false := by
        rw [h1']
        exact beq_eq_false_iff_ne.mpr fun z => hjk (G.inj j k hb hk z.symm)
      simp only [List.lookup, hne]
      exact g1
theorem FsR.put {p : List Addr} {H : Hp} {k : Nat} {w : Mv} {v : V} (hk : k < G.nf) (d : Den G p H w v) : ∀ {fs : List (Nat × Mv)} {fs' : List (Str × V)}, FsR G p H fs fs' → FsR G p H (putM k w fs) (putF (G.nm k) v fs')
  | [], [], h => .mk rfl d hk ⟨rfl, .nil, fun z hz => by cases hz⟩
  | [], _ :: _, h => by simp [FsR] at h
  | _ :: _, [], h => by simp [FsR] at h
  | (j, x) :: fs, (n, u) :: fs', h => by
    obtain ⟨h1, d1, hb, h2⟩ := h.cons
    have h1' : n = G.nm j := h1
    unfold putM putF
    by_cases hjk : j = k
    · subst hjk
      rw [cond_t beq_t, if_pos h1']
      exact .mk h1 d hb h2
    · have hne : ¬ n = G.nm k := fun z => hjk (G.inj j k hb hk (h1'.symm.trans z))
      rw [cond_f (beq_f hjk), if_neg hne]
      exact .mk h1 d1 hb (FsR.put hk d h2)
theorem FsR.len {p : List Addr} {H : Hp} {fs : List (Nat × Mv)} {fs' : List (Str × V)} (h : FsR G p H fs fs') : fs'.length = fs.length := by
  have := congrArg List.length h.1
  simpa using this
theorem FsR.no {p : List Addr} {H : Hp} {m : Str} (hm : ∀ k, k < G.nf → G.nm k ≠ m) : ∀ {fs : List (Nat × Mv)} {fs' : List (Str × V)}, FsR G p H fs fs' → fs'.lookup m = none
  | _, [], _ => rfl
  | [], _ :: _, h => by simp [FsR] at h
  | (j, x) :: fs, (n, u) :: fs', h => by
    obtain ⟨h1, d1, hb, h2⟩ := h.cons
    have h1' : n = G.nm j := h1
    have hne : (m == n) = false := beq_eq_false_iff_ne.mpr fun z => hm j hb (h1'.symm.trans z.symm)
    simp only [List.lookup, hne]
    exact FsR.no hm h2
theorem pm_fld {A : Fe} {f : Str} {c k : Nat} (ha : PE X o (tI G A)) (cl : Cls X.K (G.cad c)) (na : NoAttr X.K (G.cad c) f) (hf : f = G.nm k) (hk : k < G.nf) (hb : attributeBase o f X.env (eval o X.env) = eval o X.env := by rfl) : PE X (.Attribute o f pos) (tI G (mop1 (fldW c k) A)) :=
  pe_imp (pe_fld ha hb) fun σ H Q h => by
    obtain ⟨p, s, r, w, s', S, E, q, kk⟩ := t_op1 h
    refine ⟨p, s, r, w, s', S, E, q, fun p1 v1 H1 S1 f1 d1 => ?_⟩
    obtain ⟨p2, s2, a2, w2, s3, S2, d2, q2, k2⟩ := kk p1 v1 H1 S1 f1 d1
    cases d2 <;> try (cases q2; done)
    rename_i n a hn
    simp only [fldW] at q2
    split at q2
    · rename_i c' fs e
      cases ec : Nat.beq c' c with
      | false => rw [ec] at q2; cases q2
      | true =>
        rw [ec] at q2
        have hc := Nat.eq_of_beq_eq_true ec
        subst hc
        obtain ⟨w', g1, g2⟩ := omap_some.mp (show (getM k fs).om _ = some (w2, s3) from q2)
        cases g2
        obtain ⟨ho, h1, dx, fs', rfl, hfs⟩ := S2.get hn e
        obtain ⟨v, h2, d⟩ := FsR.get (G := G) hk hfs g1
        exact ⟨a, _, dx, fs', v, rfl, h1, cl, na, by rw [hf]; exact h2, k2 p2 v H1 S2 Fra.refl d⟩
    · cases q2
theorem sm_fld {A O : Fe} {f : Str} {c k : Nat} {value : Expr} {pos' : Pos} (ha : PE X o (tI G O)) (hv : PE X value (tI G A)) (hs : swapsWith value (some (.Attribute o f pos')) pos.line X.env = pure false) (cl : Cls X.K (G.cad c)) (na : NoAttr X.K (G.cad c) f) (hf : f = G.nm k) (hk : k < G.nf) :
    PS X (.Assign [.Attribute o f pos'] value pos) (tS G (sfld c k O A)) := ps_imp (ps_fld ha hv hs) fun D σ H ⟨p, s, r, fl, r', s', S, E, q, kk⟩ => by
  obtain ⟨⟨y, s1⟩, q1, q2⟩ := ob_some.mp q
  obtain ⟨⟨x, s2⟩, q3, q4⟩ := ob_some.mp q2
  refine ⟨p, s, r, y, s1, S, E, q1, fun p1 v1 H1 S1 f1 d1 => ⟨p1, s1, r, x, s2, S1, E.fra S f1, q3, fun p2 v2 H2 S2 f2 d2 => ?_⟩⟩
  cases d2 <;> try (cases q4; done)
  rename_i n a hn
  simp only at q4
  split at q4
  · rename_i c' fs e
    cases ec : (Nat.beq c' c && Nat.blt fs.length 1000) with
    | false => rw [ec] at q4; cases q4
    | true =>
      rw [ec] at q4
      have q4' : some (Fl.nx, r, s2.put n (.ins c (putM k y fs))) = some (fl, r', s') := q4
      cases q4'
      have ec' := Bool.and_eq_true_iff.mp ec
      have hc := Nat.eq_of_beq_eq_true ec'.1
      subst hc
      obtain ⟨ho, h1, dx, fs', rfl, hfs⟩ := S2.get hn e
      have hfs' : FsR G p2 H2 fs fs' := hfs
      have hp := hfs'.put hk (d1.fra S1 f2)
      obtain ⟨S3, f3⟩ := S2.put hn e rfl (ho := .ins (G.cad c') dx (putF (G.nm k) v1 fs')) (o := .ins c' (putM k y fs)) (fun vs z => by cases z) ⟨dx, _, rfl, hp⟩
      refine ⟨a, _, dx, fs', rfl, h1, cl, na, by rw [hfs'.len]; exact Nat.blt_eq.mp ec'.2, ?_⟩
      rw [hf]
      exact kk p2 _ S3 ((f1.trans f2).trans f3) σ (((E.fra S f1).fra S1 f2).fra S2 f3)
  · cases q4
theorem mmeth_inv {c : Nat} {f : Fn} {O : Fe} {A : Fa} {σ : L2.St} {H : Hp} {Q : VK} (h : tI G (mmeth c f O A) σ H Q) : tI G O σ H fun x H1 => ∃ a dx fs, x = .ref a ∧ H1 a = some (.ins (G.cad c) dx fs) ∧ (∃ p fs0, FsR G p H1 fs0 fs) ∧ tA G A σ H1 fun vs H2 => rF G f (x :: vs) H2 Q := by
  obtain ⟨p, s, r, w, s', S, E, q, k⟩ := h
  obtain ⟨⟨x, s1⟩, q1, q2⟩ := ob_some.mp q
  refine ⟨p, s, r, x, s1, S, E, q1, fun p1 v1 H1 S1 f1 d1 => ?_⟩
  cases d1 <;> try (cases q2; done)
  rename_i n a hn
  simp only at q2
  split at q2
  · rename_i c' fs e
    cases ec : Nat.beq c' c with
    | false => rw [ec] at q2; cases q2
    | true =>
      rw [ec] at q2
      have hc := Nat.eq_of_beq_eq_true ec
      subst hc
      obtain ⟨⟨ys, s2⟩, q3, q4⟩ := ob_some.mp (show (A r s1).ob _ = some (w, s') from q2)
      obtain ⟨ho, h1, dx, fs', rfl, hfs⟩ := S1.get hn e
      exact ⟨a, dx, fs', rfl, h1, ⟨p1, fs, hfs⟩, p1, s1, r, ys, s2, S1, E.fra S f1, q3, fun p2 vs H2 S2 f2 l2 => ⟨p2, s2, .ref n :: ys, w, s', S2, .cons (.ref (f2.at hn)) l2, q4, k.of (f1.trans f2)⟩⟩
  · cases q2
variable {CX : CXT} {k : Nat} {fa : Addr} {fd : FuncData} {ps : List Str} {E : XK} {f : Fn} {A : Fa} {c : Nat}
theorem pm_meth {O : Fe} {m : Str} {es : List Expr} {apos : Pos} (h : PE X (.Call (.Attribute o m apos) (e :: es) [] pos) (tMeth (G.cad c) m (spM G f) [] E (tI G O) (tA G A))) (hno : ∀ j, j < G.nf → G.nm j ≠ m) : PE X (.Call (.Attribute o m apos) (e :: es) [] pos) (tI G (mmeth c f O A)) :=
  pe_imp h fun σ H Q q => by
    obtain ⟨p, s, r, w, s', S, E, q, kk⟩ := mmeth_inv q
    refine ⟨p, s, r, w, s', S, E, q, fun p1 v1 H1 S1 f1 d1 => ?_⟩
    obtain ⟨a, dx, fs, rfl, h1, ⟨p0, fs0, hfs⟩, h2⟩ := kk p1 v1 H1 S1 f1 d1
    refine ⟨a, dx, fs, rfl, h1, FsR.no hno hfs, ?_⟩
    obtain ⟨p2, s2, r2, ws, s3, S2, E2, q2, k2⟩ := h2
    exact ⟨p2, s2, r2, ws, s3, S2, E2, q2, fun p3 vs H3 S3 f3 l3 => by
      show rF G f (.ref a :: (vs ++ [])) H3 Q
      rw [List.append_nil]
      exact k2 p3 vs H3 S3 f3 l3⟩
theorem pm_meth0 {O : Fe} {m : Str} {apos : Pos} (h : PE X (.Call (.Attribute o m apos) [] [] pos) (tMeth (G.cad c) m (spM G f) [] E (tI G O) tNil)) (hno : ∀ j, j < G.nf → G.nm j ≠ m) : PE X (.Call (.Attribute o m apos) [] [] pos) (tI G (mmeth c f O mnil)) :=
  pe_imp h fun σ H Q q => by
    obtain ⟨p, s, r, w, s', S, E, q, kk⟩ := mmeth_inv q
    refine ⟨p, s, r, w, s', S, E, q, fun p1 v1 H1 S1 f1 d1 => ?_⟩
    obtain ⟨a, dx, fs, rfl, h1, ⟨p0, fs0, hfs⟩, h2⟩ := kk p1 v1 H1 S1 f1 d1
    refine ⟨a, dx, fs, rfl, h1, FsR.no hno hfs, ?_⟩
    obtain ⟨p2, s2, r2, ws, s3, S2, E2, q2, k2⟩ := h2
    cases q2
    exact k2 p2 [] H1 S2 Fra.refl .nil
theorem pm_make {x : Str} {p0 : Pos} {es : List Expr} (h : PE X (.Call (.Name x p0) (e :: es) [] pos) (tMake (G.cad c) (spM G f) [] E (tA G A))) : PE X (.Call (.Name x p0) (e :: es) [] pos) (tI G (mmake c f A)) :=
  pe_imp h fun σ H Q ⟨p, s, r, w, s', S, E, q, kk⟩ => by
    obtain ⟨⟨ys, s1⟩, q1, q2⟩ := ob_some.mp q
    obtain ⟨⟨n, s2⟩, q3, q4⟩ := ob_some.mp q2
    obtain ⟨⟨z, s3⟩, q5, q6⟩ := ob_some.mp q4
    refine ⟨p, s, r, ys, s1, S, E, q1, fun p1 vs H1 S1 f1 l1 x dx hx hdx hne => ?_⟩
    have hkeep : ∀ b u, H1 b = some u → upd (upd H1 dx (.own x)) x (.ins (G.cad c) dx []) b = some u := fun b u eb => by
      rw [upd_ne (ne_of_none eb hx), upd_ne (ne_of_none eb hdx)]; exact eb
    obtain ⟨S2, f2, d2⟩ := S1.new q3 hx (ho := .ins (G.cad c) dx []) ⟨dx, [], rfl, rfl, .nil, fun q hq => by cases hq⟩ upd_same hkeep
    have hfr : Den G (p1 ++ [x]) _ (.ref n) (.ref x) := d2
    refine ⟨p1 ++ [x], s2, .ref n :: ys, z, s3, S2, ?_, q5, fun p3 v3 H3 S3 f3 d3 => ?_⟩
    · show DenL G _ _ (.ref n :: ys) (.ref x :: (vs ++ []))
      rw [List.append_nil]
      exact .cons d2 (l1.fra S1 f2)
    · cases z <;> try (cases q6; done)
      cases q6
      cases d3
      exact ⟨rfl, kk p3 _ H3 S3 ((f1.trans f2).trans f3) (hfr.fra S2 f3)⟩
end

end
section
/-! ### methods of lists, stores by place -/
noncomputable def mbmL (f : Nat → List Mv → List Mv → Ms → Option (Mv × Ms)) (O : Fe) (A : Fa) : Fe := fun r s => (O r s).ob fun x => match x.1 with
  | .ref n => match x.2.get n with
    | some (.lst _) => (A r x.2).ob fun y => match y.2.get n with
      | some (.lst xs) => f n xs y.1 y.2
      | _ => none
    | _ => none
  | _ => none
noncomputable def appW (n : Nat) (xs ws : List Mv) (s : Ms) : Option (Mv × Ms) := match ws with
  | [w] => cond (Nat.blt xs.length 16777216) (some (.non, s.put n (.lst (xs ++ [w])))) none
  | _ => none
noncomputable def popW (n : Nat) (xs ws : List Mv) (s : Ms) : Option (Mv × Ms) := match ws with
  | [.int i] => (ixN xs.length i).ob fun j => (xs[j]?).om fun w => (w, s.put n (.lst (xs.eraseIdx j)))
  | _ => none
noncomputable def ssub (O I A : Fe) : Fs := fun r s => (A r s).ob fun v => (O r v.2).ob fun o => (I r o.2).ob fun i => match o.1, i.1 with
  | .ref n, .int k => match i.2.get n with
    | some (.lst xs) => (ixN xs.length k).om fun j => (.nx, r, i.2.put n (.lst (xs.set j v.1)))
    | _ => none
  | _, _ => none
noncomputable def saug (i : Nat) (f : Mv → Mv → Ms → Option (Mv × Ms)) (A : Fe) : Fs := fun r s => match lget r i with
  | some (some x) => (A r s).ob fun y => (f x y.1 y.2).om fun z => (.nx, lset r i (some z.1), z.2)
  | _ => none
section
variable {X : Cx} {G : Mg} {e o : Expr} {pos : Pos}
/-- what the mirror's list method must be, over the abstract heap -/
noncomputable def LmR (G : Mg) (f : Nat → List Mv → List Mv → Ms → Option (Mv × Ms)) (r : V → List V → Hp → VK → Prop) : Prop := ∀ p s H n a xs vs ws us w s' Q, Sim G p s H → p[n]? = some a → s.get n = some (.lst xs) → H a = some (.lst vs) → DenL G p H xs vs → vs.length ≤ sizeLine → DenL G p H ws us → f n xs ws s = some (w, s') → After G p H w s' Q → r (.ref a) us H Q
theorem pm_bmL {f : Nat → List Mv → List Mv → Ms → Option (Mv × Ms)} {r : V → List V → Hp → VK → Prop} {O : Fe} {A : Fa} {name : Str} {es : List Expr} {apos : Pos} (hf : LmR G f r)
    (h : PE X (.Call (.Attribute o name apos) (e :: es) [] pos) (tBM X.K "list" r (tI G O) (tA G A))) : PE X (.Call (.Attribute o name apos) (e :: es) [] pos) (tI G (mbmL f O A)) := pe_imp h fun σ H Q ⟨p, s, rr, w, s', S, E, q, k⟩ => by
  obtain ⟨⟨x, s1⟩, q1, q2⟩ := ob_some.mp q
  refine ⟨p, s, rr, x, s1, S, E, q1, fun p1 v1 H1 S1 f1 d1 => ?_⟩
  cases d1 <;> try (cases q2; done)
  rename_i n a hn
  simp only at q2
  split at q2
  · rename_i zs e
    obtain ⟨ho, h1, vs, rfl, _, _⟩ := S1.get hn e
    obtain ⟨⟨ys, s2⟩, q3, q4⟩ := ob_some.mp q2
    refine ⟨.inl ⟨rfl, vs, SqL.of h1⟩, p1, s1, rr, ys, s2, S1, E.fra S f1, q3, fun p2 us H2 S2 f2 l2 => ?_⟩
    simp only at q4
    split at q4
    · rename_i xs e2
      obtain ⟨ho, h2, vs2, rfl, ll, hz⟩ := S2.get (f2.at hn) e2
      exact hf p2 s2 H2 n a xs vs2 ys us w s' Q S2 (f2.at hn) e2 h2 ll hz l2 q4 (k.of (f1.trans f2))
    · cases q4
  · cases q2
theorem lm_app : LmR G appW rAppend := by
  intro p s H n a xs vs ws us w s' Q S hn en ha l hz lw q k
  match ws, lw, q with
  | [w0], .cons d .nil, q =>
    have q' : cond (Nat.blt xs.length 16777216) (some (Mv.non, s.put n (.lst (xs ++ [w0])))) none = some (w, s') := q
    cases e : Nat.blt xs.length 16777216 with
    | false => rw [e] at q'; cases q'
    | true =>
      rw [e] at q'; cases q'
      have hlt : vs.length < sizeLine := by rw [← l.length, sz_eq]; exact Nat.blt_eq.mp e
      obtain ⟨S2, f2⟩ := S.put hn en rfl (ho := .lst (vs ++ [_])) (o := .lst (xs ++ [w0])) (fun _ z => by cases z) ⟨_, rfl, l.append (.cons d .nil), by rw [List.length_append]; exact hlt⟩
      exact ⟨a, vs, _, rfl, rfl, ha, hlt, k p _ _ S2 f2 .non⟩
theorem lm_pop : LmR G popW rPopAt := by
  intro p s H n a xs vs ws us w s' Q S hn en ha l hz lw q k
  match ws, lw, q with
  | [.int i], .cons (.int _) .nil, q =>
    obtain ⟨j, g1, g2⟩ := ob_some.mp (show (ixN xs.length i).ob _ = some (w, s') from q)
    obtain ⟨x, g3, g4⟩ := omap_some.mp g2
    cases g4
    obtain ⟨v, g5, d⟩ := l.get g3
    rw [l.length] at g1
    obtain ⟨h1, h2, h3, h4⟩ := ixN_seq g1
    have hl := line63
    obtain ⟨S2, f2⟩ := S.put hn en rfl (ho := .lst (vs.eraseIdx j)) (o := .lst (xs.eraseIdx j)) (fun _ z => by cases z) ⟨_, rfl, l.erase j, Nat.le_trans (List.length_eraseIdx_le ..) hz⟩
    exact ⟨a, vs, i, j, v, rfl, rfl, ha, by omega, by omega, h1, g5, k p _ _ S2 f2 (d.fra S f2)⟩
theorem sm_sub {O I A : Fe} {i v : Expr} {tp : Pos} (h : PS X (.Assign [.Subscript o i tp] v pos) (tAsg (tI G A) (gSub (tI G O) (tI G I) rSetL))) : PS X (.Assign [.Subscript o i tp] v pos) (tS G (ssub O I A)) := ps_imp h fun D σ H ⟨p, s, r, fl, r', s', S, E, q, k⟩ => by
  obtain ⟨⟨y, s1⟩, q1, q2⟩ := ob_some.mp q
  obtain ⟨⟨x, s2⟩, q3, q4⟩ := ob_some.mp q2
  obtain ⟨⟨z, s3⟩, q5, q6⟩ := ob_some.mp q4
  refine ⟨p, s, r, y, s1, S, E, q1, fun p1 v1 H1 S1 f1 d1 => ⟨p1, s1, r, x, s2, S1, E.fra S f1, q3, fun p2 v2 H2 S2 f2 d2 => ⟨p2, s2, r, z, s3, S2, (E.fra S f1).fra S1 f2, q5, fun p3 v3 H3 S3 f3 d3 => ?_⟩⟩⟩
  simp only at q6
  split at q6
  · rename_i n k0
    cases d3
    have d2' := d2.fra S2 f3
    cases d2'
    rename_i a hn
    split at q6
    · rename_i xs e
      obtain ⟨j, g1, g2⟩ := omap_some.mp q6
      cases g2
      obtain ⟨ho, h1, vs, rfl, l, hz⟩ := S3.get hn e
      rw [l.length] at g1
      obtain ⟨S4, f4⟩ := S3.put hn e rfl (ho := .lst (vs.set j v1)) (o := .lst (xs.set j y)) (fun _ z => by cases z) ⟨_, rfl, DenL.set ((d1.fra S1 f2).fra S2 f3) j l, by rw [List.length_set]; exact hz⟩
      refine ⟨a, vs, k0, j, rfl, rfl, h1, g1, ?_⟩
      exact k p3 _ S4 (((f1.trans f2).trans f3).trans f4) σ ((((E.fra S f1).fra S1 f2).fra S2 f3).fra S3 f4)
    · cases q6
  · cases q6
theorem sm_aug {i : Nat} {tg : Expr} {op : Operator} {f : Mv → Mv → Ms → Option (Mv × Ms)} {A : Fe} (h : PS X (.AugAssign tg op e pos) (tAug i (tI G A) (q2R G f))) : PS X (.AugAssign tg op e pos) (tS G (saug i f A)) := ps_imp h fun D σ H ⟨p, s, r, fl, r', s', S, E, q, k⟩ => by
  unfold saug at q
  split at q
  · rename_i x ex
    rw [lget_eq] at ex
    obtain ⟨⟨y, s1⟩, q1, q2⟩ := ob_some.mp q
    obtain ⟨⟨z, s2⟩, q3, q4⟩ := omap_some.mp q2
    cases q4
    obtain ⟨v, hv, d⟩ := E.get i x ex
    refine ⟨v, hv, p, s, r, y, s1, S, E, q1, fun p1 v1 H1 S1 f1 d1 => ⟨p1, s1, x, y, z, s2, S1, d.fra S f1, d1, q3, fun p2 v2 H2 S2 f2 d2 => ?_⟩⟩
    exact k p2 H2 S2 (f1.trans f2) _ (((E.fra S f1).fra S1 f2).set d2)
  · cases q
theorem pip_add0 : PIp X .Add (q2R G (fun a b s => match a, b with
  | .int i, .int j => some (.int (i + j), s)
  | _, _ => none)) := by
  intro pins s σ H x y v u Q I rx ry h
  obtain ⟨p, s0, a, b, w, s', S, da, db, q, k⟩ := h
  cases da <;> cases db <;> try (cases q; done)
  cases q
  exact ip_add pins s σ H _ _ v u Q I rx ry ⟨_, _, rfl, rfl, k p _ H S Fra.refl (.int _)⟩
/-! ### zip -/
noncomputable def zipM : List Mv → List Mv → List Mv
  | a :: x, b :: y => .tup [a, b] :: zipM x y
  | _, _ => []
end

end
section
theorem new_tup {G : Mg} {p : List Addr} {s : Ms} {H : Hp} {T : Addr} {ws : List Mv} {vs : List V} (S : Sim G p s H) (hT : H T = none) (l : DenL G p H ws vs) : Sim G p s (upd H T (.tup vs)) ∧ Fra p H p (upd H T (.tup vs)) ∧ Den G p (upd H T (.tup vs)) (.tup ws) (.ref T) := by
  have f := Mi.fra_new (p := p) (o := HO.tup vs) hT
  exact ⟨S.fra_new hT, f, .tup (SqT.of upd_same) (l.fra S f)⟩
theorem zipM_get : ∀ (xs ys : List Mv) (i : Nat), (zipM xs ys)[i]? = match xs[i]?, ys[i]? with
    | some x, some y => some (.tup [x, y])
    | _, _ => none
  | [], ys, i => by simp [zipM]
  | x :: xs, [], i => by simp [zipM]
  | x :: xs, y :: ys, 0 => by simp [zipM]
  | x :: xs, y :: ys, i + 1 => by simpa [zipM] using zipM_get xs ys i
section
variable {X : Cx} {G : Mg} {e : Expr} {pos : Pos}
theorem itr_zl {p0 : List Addr} {H0 : Hp} {n m : Nat} {a b : Addr} (h : p0[n]? = some a) (h' : p0[m]? = some b) : ItR G (Itz X.K a b) (.zl n m) p0 H0 := by
  intro p s H i S st fz
  have ha := st.ix n a h
  have hb := st.ix m b h'
  have key : ∀ o, It0.at (.zl n m) i s = some o → ∃ xs ys vs us, s.get n = some (.lst xs) ∧ s.get m = some (.lst ys) ∧ H a = some (.lst vs) ∧ H b = some (.lst us) ∧ DenL G p H xs vs ∧ DenL G p H ys us ∧ o = match xs[i]?, ys[i]? with
      | some x, some y => some (.tup [x, y])
      | _, _ => none := by
    intro o q
    simp only [It0.at, lget_eq] at q
    split at q
    · rename_i xs ys e1 e2
      obtain ⟨ho, h1, vs, rfl, l1, _⟩ := S.get ha e1
      obtain ⟨ho, h2, us, rfl, l2, _⟩ := S.get hb e2
      exact ⟨xs, ys, vs, us, e1, e2, h1, h2, l1, l2, (Option.some.inj q).symm⟩
    · cases q
  constructor
  · intro q
    obtain ⟨xs, ys, vs, us, e1, e2, h1, h2, l1, l2, eo⟩ := key _ q
    refine ⟨vs, us, SqL.of h1, SqL.of h2, ?_⟩
    cases ex : xs[i]? with
    | none => exact .inl (by rw [← l1.length]; exact List.getElem?_eq_none_iff.mp ex)
    | some x =>
      cases ey : ys[i]? with
      | none => exact .inr (by rw [← l2.length]; exact List.getElem?_eq_none_iff.mp ey)
      | some y => rw [ex, ey] at eo; cases eo
  · intro w q
    obtain ⟨xs, ys, vs, us, e1, e2, h1, h2, l1, l2, eo⟩ := key _ q
    cases ex : xs[i]? with
    | none => rw [ex] at eo; cases eo
    | some x =>
      cases ey : ys[i]? with
      | none => rw [ex, ey] at eo; cases eo
      | some y =>
        rw [ex, ey] at eo
        cases eo
        obtain ⟨v, hv, dv⟩ := l1.get ex
        obtain ⟨u, hu, du⟩ := l2.get ey
        refine ⟨⟨vs, us, v, u, SqL.of h1, SqL.of h2, hv, hu⟩, fun v' H' yl => ?_⟩
        obtain ⟨T, x', y', rfl, hT, rfl, g1, g2⟩ := yl
        have e3 := g1 vs (SqL.of h1)
        have e4 := g2 us (SqL.of h2)
        rw [hv] at e3; cases e3
        rw [hu] at e4; cases e4
        exact new_tup S hT (.cons dv (.cons du .nil))
theorem itr_zt {p0 : List Addr} {H0 : Hp} {xs ys : List Mv} {a b : Addr} {vs us : List V} (h : SqT G.K H0 a vs) (h' : SqT G.K H0 b us) (l : DenL G p0 H0 xs vs) (l' : DenL G p0 H0 ys us) (hK : X.K = G.K) : ItR G (RZ.ItzT X.K a b) (.seq (zipM xs ys)) p0 H0 := by
  intro p s H i S st fz
  have h1 : SqT X.K H a vs := by rw [hK]; exact Stays.tup (G := G) st h
  have h2 : SqT X.K H b us := by rw [hK]; exact Stays.tup (G := G) st h'
  have l1 := l.stay st
  have l2 := l'.stay st
  constructor
  · intro q
    have q' : (zipM xs ys)[i]? = none := by simpa [It0.at, lget_eq] using q
    rw [zipM_get] at q'
    refine ⟨vs, us, h1, h2, ?_⟩
    cases ex : xs[i]? with
    | none => exact .inl (by rw [← l1.length]; exact List.getElem?_eq_none_iff.mp ex)
    | some x =>
      cases ey : ys[i]? with
      | none => exact .inr (by rw [← l2.length]; exact List.getElem?_eq_none_iff.mp ey)
      | some y => rw [ex, ey] at q'; cases q'
  · intro w q
    have q' : (zipM xs ys)[i]? = some w := by simpa [It0.at, lget_eq] using q
    rw [zipM_get] at q'
    cases ex : xs[i]? with
    | none => rw [ex] at q'; cases q'
    | some x =>
      cases ey : ys[i]? with
      | none => rw [ex, ey] at q'; cases q'
      | some y =>
        rw [ex, ey] at q'
        cases q'
        obtain ⟨v, hv, dv⟩ := l1.get ex
        obtain ⟨u, hu, du⟩ := l2.get ey
        refine ⟨⟨vs, us, v, u, h1, h2, hv, hu⟩, fun v' H' yl => ?_⟩
        obtain ⟨T, x', y', rfl, hT, rfl, g1, g2⟩ := yl
        have e3 := g1 vs h1
        have e4 := g2 us h2
        rw [hv] at e3; cases e3
        rw [hu] at e4; cases e4
        exact new_tup S hT (.cons dv (.cons du .nil))
noncomputable def miZ (A : Fa) : Fi := fun r s => (A r s).ob fun x => match x.1 with
  | [.ref n, .ref m] => match x.2.get n, x.2.get m with
    | some (.lst _), some (.lst _) => some (.zl n m, x.2)
    | _, _ => none
  | [.tup xs, .tup ys] => some (.seq (zipM xs ys), x.2)
  | _ => none
theorem im_zip {e2 : Expr} {A : Fa} {q tpos : Pos} {elts : List Expr} {kk : Nat} (hg : Gl X "zip") (hm : X.mg "zip" = none) (ha : PA X [e, e2] (tA G A))
    (hs : starEach [e, e2] X.env = (false, eval e X.env) :: starEach [e2] X.env := by rfl) (hpl : (backTo pos (starEach [e2] X.env)).any (·.1) = false := by rfl) (hK : X.K = G.K := by rfl) :
    PI X (.Tuple elts kk tpos) (.Call (.Name "zip" q) [e, e2] [] pos) (tIt G (miZ A)) := pi_imp (RZ.pi_zipA hg hm ha hs hpl) fun σ H R ⟨p, s, r, it, s', S, E, q, k⟩ => by
  obtain ⟨⟨x, s1⟩, q1, q2⟩ := ob_some.mp q
  refine ⟨p, s, r, x, s1, S, E, q1, fun p1 vs H1 S1 f1 l1 => ?_⟩
  simp only at q2
  split at q2
  · rename_i n m
    match l1 with
    | .cons (.ref hn) (.cons (.ref hm') .nil) =>
      split at q2
      · rename_i xs ys e1 e2
        cases q2
        obtain ⟨ho, h1, vs, rfl, _, _⟩ := S1.get hn e1
        obtain ⟨ho, h2, us, rfl, _, _⟩ := S1.get hm' e2
        exact ⟨_, _, vs, us, rfl, .inl ⟨SqL.of h1, SqL.of h2, k p1 H1 _ S1 f1 (itr_zl hn hm')⟩⟩
      · cases q2
  · rename_i xs ys
    cases q2
    match l1 with
    | .cons (.tup h1 l2) (.cons (.tup h2 l3) .nil) => exact ⟨_, _, _, _, rfl, .inr ⟨by rw [hK]; exact h1, by rw [hK]; exact h2, k p1 H1 _ S1 f1 (itr_zt h1 h2 l2 l3 hK)⟩⟩
  · cases q2
/-! ### enumerate of a tuple -/
theorem newT_meets (t : Addr) (its : Array Value) (o : Obj) (hc : o.cls = .type "tuple") (n : Nat) (hd : o.data = .seq its n) :
    Meets (Builtin.«enumerate.__new__» ⟨[.type "enumerate", .ref t], []⟩) (fun _ R s => s.heap.get? t = some o ∧
      R (.ok (.ret (.ref (s.heap.push { cls := .type "tuple_iterator", data := .fields #[.ref t, .int 0 0] }).objs.size)))
        { s with heap := (s.heap.push { cls := .type "tuple_iterator", data := .fields #[.ref t, .int 0 0] }).push { cls := .type "enumerate", data := .fields #[.none, .bool false, .ref s.heap.objs.size, rawInt 0, .none, .none] } }) := by
  obtain ⟨c, dc, dt, sl⟩ := o
  simp only at hc hd
  subst hc hd
  refine .of_wp fun prog w A R s h => ?_
  obtain ⟨hp, g, d, tk, os⟩ := s
  obtain ⟨hl, h⟩ := h
  have hsub := sub_enumerate
  have hT : Heap.IsTuple (Shared.heap ⟨hp, g, d, tk, os⟩) t its := ⟨_, hl, rfl, n, rfl⟩
  wp_walk using AutoSeq1.wpAny_loadPart' hl
  refine wpAny_stack_any fun st => wpAny_pure ?_
  split
  · rename_i c _ _ _ _ _
    cases (c == Value.type "enumerate") <;> (wp_walk using AutoSeq1.wpAny_loadPart' hl, wpAny_pyIter_tuple hT; exact ⟨_, rfl, h⟩)
  · wp_walk using AutoSeq1.wpAny_loadPart' hl, wpAny_pyIter_tuple hT
    exact ⟨_, rfl, h⟩
theorem call_enumT {prog : Program} {w : World} {A : Around} {E : Value → Shared → Prop} {s : Shared} {t : Addr} {its : Array Value} {Q : Value → Shared → Prop} (hT : s.heap.IsTuple t its)
    (h : ∀ h', IsEnum h' (s.heap.objs.size + 1) s.heap.objs.size 0 .none → h'.IsTupleIter s.heap.objs.size t 0 → (∀ b o, s.heap.get? b = some o → h'.get? b = some o) → Q (.ref (s.heap.objs.size + 1)) { s with heap := h' }) :
    wpAny (model prog w) A (call (.type "enumerate") [.ref t]) Q E s := by
  obtain ⟨o, ho, hc, n, hd⟩ := hT
  refine callType_new F.called_enumerate (by decide) (F.typeCall_enumerate_1 _) (F.newCall_enumerate_1 _) (fun obj => F.args_object_init_2 obj _) F.entry_enumerate_new (newT_meets t its o hc n hd) ⟨ho, ?_⟩
  generalize hi : ({ cls := .type "tuple_iterator", data := .fields #[.ref t, .int 0 0] } : Obj) = oi
  have hz : (s.heap.push oi).objs.size = s.heap.objs.size + 1 := Heap.size_push ..
  show _ ∧ _
  rw [hz]
  have he : IsEnum ((s.heap.push oi).push { cls := .type "enumerate", data := .fields #[.none, .bool false, .ref s.heap.objs.size, rawInt 0, .none, .none] }) (s.heap.objs.size + 1) s.heap.objs.size 0 .none := by
    have q := Heap.get?_push_size (s.heap.push oi) (o := { cls := .type "enumerate", data := .fields #[.none, .bool false, .ref s.heap.objs.size, rawInt 0, .none, .none] }) rfl
    rw [hz] at q
    exact q
  refine ⟨⟨_, he, rfl⟩, h _ he ⟨oi, Heap.get?_push_of_some _ (Heap.get?_push_size _ (by rw [← hi]; rfl)), by rw [← hi], by rw [← hi]; rfl⟩ fun b o x => Heap.get?_push_of_some _ (Heap.get?_push_of_some _ x)⟩
theorem enumT_end {prog : Program} {w : World} {A : Around} {E : Value → Shared → Prop} {s : Shared} {e it t : Addr} {its : Array Value} {i : Nat} {k : Int} {old : Value} {Q : Option Value → Shared → Prop} (hh : A.handled = none) (he : IsEnum s.heap e it k old) (hit : s.heap.IsTupleIter it t i) (p : s.heap.IsTuple t its) (hle : its.size ≤ i)
    (hQ : ∀ h', Heap.ExtBut it s.heap h' → Q none { s with heap := h' }) : wpAny (model prog w) A (pyNext (.ref e)) Q E s := by
  have ty : s.TypeIs (.ref e) "enumerate" := ⟨_, he, rfl⟩
  unfold pyNext
  refine wpAny_bind (wpAny_attempt (wpAny_callSpecial?_slot (name := Str.ofString "__next__") ty F.slot_enumerate_next (wpAny_call_entry F.slot_enumerate_next ty F.entry_enumerate_next ?_ (F.args_enumerate_next_1 _))))
  show wpAny _ _ (field (.ref e) 2 >>= _) _ _ _
  refine wpAny_bind (wpAny_field he rfl (x := .ref it) rfl (wpAny_bind (wpAny_nextOf_tuple_end (A := A.in1) hh hit p (Array.getElem?_eq_none hle) fun h' x he' hx' => ?_)))
  obtain ⟨o, ho, hc⟩ := hx'
  exact wpAny_bind (wpAny_isInstance (T := "StopIteration") (b := true) ⟨o, ho, hc⟩ isSubtype_stop (wpAny_pure (hQ _ he')))
/-- the tuple's items, each in a new pair with its number -/
noncomputable def IteT (K : PySem.W.Frag) (a : Addr) : It :=
  ⟨fun i H => ∃ (xs : List V) (x : V), SqT K H a xs ∧ xs[i]? = some x, fun i H v H' => ∃ T x, v = .ref T ∧ H T = none ∧ H' = upd H T (.tup [.int (i : Nat), x]) ∧ ∀ xs, SqT K H a xs → xs[i]? = some x, fun i H => ∃ xs : List V, SqT K H a xs ∧ xs.length ≤ i⟩
theorem tup_inj {pins : List (Addr × Obj)} {σ : L2.St} {H : Hp} {s : Shared} {a : Addr} {xs ys : List V} (I : Inv X pins σ H s) (h1 : SqT X.K H a xs) (h2 : SqT X.K H a ys) : xs = ys := by
  obtain ⟨i1, r1, ⟨o, ho, hc, n, hd⟩, _⟩ := I.tuple h1
  obtain ⟨i2, r2, ⟨o', ho', hc', n', hd'⟩, _⟩ := I.tuple h2
  rw [ho] at ho'
  cases ho'
  rw [hd] at hd'
  have e : i1 = i2 := by
    have q : i1.toArray = i2.toArray := by injection hd'
    simpa using congrArg Array.toList q
  subst e
  exact Vals.inj r1 r2
theorem turn_enumT {P : Program} {w : World} {K : PySem.W.Frag} {elts : List Expr} {kk : Nat} {tpos : Pos} (a e it : Addr) :
    Turn P w K (.Tuple elts kk tpos) (IteT K a) [e, it] e (fun i h => (∃ old, IsEnum h e it ((i : Nat) : Int) old) ∧ h.IsTupleIter it a i ∧ e ≠ it) where
  mem := by simp
  obj := fun i h st b hb => by
    obtain ⟨⟨old, he⟩, ⟨o, ho, hc, hd⟩, _⟩ := st
    rcases (show b = e ∨ b = it by simpa using hb) with z | z
    · subst z; exact ⟨_, he, fun v q => nomatch q⟩
    · subst z; exact ⟨o, ho, fun v q => by rw [hd] at q; cases q⟩
  keep := fun i h h' st k => let ⟨⟨old, he⟩, hi, hne⟩ := st; ⟨⟨old, k e (by simp) _ he⟩, hi.at fun o q => k it (by simp) o q, hne⟩
  item := by
    intro X hP hw hK hc i pins s σ H E I hf st hg
    subst hP hw hK
    obtain ⟨⟨old, he⟩, hit, hne⟩ := st
    obtain ⟨xs, x, hq, hx⟩ := hg
    obtain ⟨its, rv, p, hz⟩ := I.tuple hq
    obtain ⟨u, hu, ru⟩ := rv.get hx
    have hel : e < s.heap.objs.size := Heap.lt_size he
    have hil : it < s.heap.objs.size := by obtain ⟨_, q, _⟩ := hit; exact Heap.lt_size q
    have hta : a ≠ it := by
      obtain ⟨o1, h1, h2, _⟩ := id p
      obtain ⟨o2, h3, h4, _⟩ := id hit
      rintro rfl
      rw [h1] at h3; cases h3
      rw [h2] at h4
      injection h4 with h5
      exact absurd h5 (by decide)
    have hea : e ≠ a := by
      obtain ⟨o1, h1, h2, _⟩ := id p
      rintro rfl
      rw [show s.heap.get? e = some _ from he] at h1; cases h1
      injection h2 with h5
      exact absurd h5 (by decide)
    have hlt : i < its.toArray.size := by
      have := (List.getElem?_eq_some_iff.mp hu).1
      simpa using this
    refine wpAny_pyNext_enum_itemD (Draws.tuple (A := X.A.in1) (I.ok.hd hc) it a hta its.toArray) he ⟨hit, p⟩ hlt hne (by simp [hne, hea]) fun y h' tk hy ho hst' hT hsz hk => ?_
    have hyu : y = u := by
      have : its.toArray[i]? = some u := by simpa using hu
      rw [this] at hy
      exact (Option.some.inj hy).symm
    subst hyu
    refine ⟨_, rfl, wpAny_letOwnedTupleGo_enum (s := { s with heap := h', toks := tk + 1 }) ho fun h'' he' sb => ?_⟩
    have hT2 : h''.get? s.heap.objs.size = some { cls := .type "tuple", data := .seq #[.int i tk, y] } := (sb.2 _ (Nat.ne_of_gt hel)).trans hT
    have new : ObjOk X.prog X.w (upd H s.heap.objs.size (.tup [.int (i : Nat), x])) h'' s.heap.objs.size (.tup [.int (i : Nat), x]) :=
      ⟨by rw [sz_eq]; show 2 ≤ 16777216; decide, [.int i tk, y], .cons ⟨_, rfl⟩ (.cons ru .nil), ⟨_, hT2, rfl, _, rfl⟩⟩
    have I1 : Inv X pins σ (upd H s.heap.objs.size (.tup [.int (i : Nat), x])) { s with heap := h'', toks := tk + 1 } :=
      I.turnedNew (ch := [e, it]) (fun b ob hb q => (sb.2 b (fun z => hb (by simp [z]))).trans (hk b ob (fun z => hb (by simp [z])) (fun z => hb (by simp [z])) q)) hf (Nat.le_refl _) new
    refine ⟨.ref s.heap.objs.size, _, I1, rfl, ⟨_, x, rfl, I.hok.fresh (Nat.le_refl _), rfl, fun ys hy' => by rw [tup_inj I hy' hq]; exact hx⟩, ⟨⟨y, ?_⟩, hst'.1.at fun o q => (sb.2 it (Ne.symm hne)).trans q, hne⟩, fun b hb => ?_⟩
    · rw [show ((i + 1 : Nat) : Int) = (i : Int) + 1 by omega]
      exact he'
    · have hb' : b < s.heap.objs.size := by
        rcases (show b = e ∨ b = it by simpa using hb) with z | z
        · subst z; exact hel
        · subst z; exact hil
      rw [upd_ne (Nat.ne_of_lt hb')]
      exact (hf b hb).1
  done := by
    intro X hP hw hK hc i pins s σ H E I hf st hg
    subst hP hw hK
    obtain ⟨⟨old, he⟩, hit, hne⟩ := st
    obtain ⟨xs, hq, hx⟩ := hg
    obtain ⟨its, rv, p, hz⟩ := I.tuple hq
    obtain ⟨f0, f1, f2, f3, f4, f5⟩ := hf it (by simp)
    have hta : a ≠ it := by
      obtain ⟨o1, h1, h2, _⟩ := id p
      obtain ⟨o2, h3, h4, _⟩ := id hit
      rintro rfl
      rw [h1] at h3; cases h3
      rw [h2] at h4
      injection h4 with h5
      exact absurd h5 (by decide)
    have hl := rv.length
    exact enumT_end (I.ok.hd hc) he hit p (by simp; omega) fun h' eb => ⟨rfl, I.turned (t' := s.toks) (fun b o hb q => eb b o hb q) f0 f1 f3 f4 f5⟩
  self := fun A i s Q E st h => let ⟨⟨_, he⟩, _⟩ := st; wpAny_pyIter_enum he h
noncomputable def iEnumT (K : PySem.W.Frag) (ta : TA) : TI := fun σ H R => ta σ H fun vs H1 => ∃ a xs, vs = [.ref a] ∧ SqT K H1 a xs ∧ R (IteT K a) H1
theorem pi_enumT {ta : TA} {q tpos : Pos} {elts : List Expr} {kk : Nat} (hg : Gl X "enumerate") (hm : X.mg "enumerate" = none) (ha : PA X [e] ta) (hs : starEach [e] X.env = [(false, eval e X.env)] := by rfl) :
    PI X (.Tuple elts kk tpos) (.Call (.Name "enumerate" q) [e] [] pos) (iEnumT X.K ta) := by
  refine ⟨fun pins s σ H R I h => ?_⟩
  refine Call_ (ld_blt I hg hm boot_enumerate (PyProof.Rows.callWith_type1 (thn (ha.run pos pins s σ H _ I h) fun us s1 ⟨vs, H1, I1, r1, q1⟩ => ?_) hs rfl))
  obtain ⟨a, xs, ex, hq, q⟩ := q1
  subst ex
  cases r1 with
  | cons r rr =>
    cases rr
    cases r
    obtain ⟨its, rv, p', hz⟩ := I1.tuple hq
    refine call_enumT (show s1.heap.IsTuple a its.toArray from p') fun h' he hit hk => wpAny_pyIter_enum he ?_
    have I2 : Inv X pins σ H1 { s1 with heap := h' } := I1.kept (t' := s1.toks) hk
    refine ⟨s1.heap.objs.size + 1, [s1.heap.objs.size + 1, s1.heap.objs.size], _, _, H1, rfl, I2, turn_enumT a (s1.heap.objs.size + 1) s1.heap.objs.size, ⟨⟨.none, he⟩, hit, Nat.succ_ne_self _⟩, fun b hb => ?_, q⟩
    have hle : s1.heap.objs.size ≤ b := by
      rcases (show b = s1.heap.objs.size + 1 ∨ b = s1.heap.objs.size by simpa using hb) with z | z
      · rw [z]; exact Nat.le_add_right _ _
      · rw [z]; exact Nat.le_refl _
    exact I1.fpOk hle (I1.hok.fresh hle)
noncomputable def enumM : Nat → List Mv → List Mv
  | _, [] => []
  | i, w :: ws => .tup [.int i, w] :: enumM (i + 1) ws
theorem enumM_get : ∀ (ws : List Mv) (j i : Nat), (enumM j ws)[i]? = (ws[i]?).map fun w => .tup [.int ((j + i : Nat) : Int), w]
  | [], j, i => by simp [enumM]
  | w :: ws, j, 0 => by simp [enumM]
  | w :: ws, j, i + 1 => by
    simp only [enumM, List.getElem?_cons_succ]
    rw [enumM_get ws (j + 1) i, show j + 1 + i = j + (i + 1) by omega]
noncomputable def miE (A : Fa) : Fi := fun r s => (A r s).ob fun x => match x.1 with
  | [.tup ws] => some (.seq (enumM 0 ws), x.2)
  | _ => none
theorem im_enum {A : Fa} {q tpos : Pos} {elts : List Expr} {kk : Nat} (hg : Gl X "enumerate") (hm : X.mg "enumerate" = none) (ha : PA X [e] (tA G A)) (hs : starEach [e] X.env = [(false, eval e X.env)] := by rfl) (hK : X.K = G.K := by rfl) :
    PI X (.Tuple elts kk tpos) (.Call (.Name "enumerate" q) [e] [] pos) (tIt G (miE A)) := pi_imp (pi_enumT hg hm ha hs) fun σ H R ⟨p, s, r, it, s', S, E, q, k⟩ => by
  obtain ⟨⟨x, s1⟩, q1, q2⟩ := ob_some.mp q
  refine ⟨p, s, r, x, s1, S, E, q1, fun p1 vs H1 S1 f1 l1 => ?_⟩
  match x, q2, l1 with
  | [.tup ws], q2, .cons (.tup h1 l2) .nil =>
    cases q2
    rename_i a0 vs0
    refine ⟨_, _, rfl, by rw [hK]; exact h1, k p1 H1 _ S1 f1 ?_⟩
    intro p2 s2 H2 i S2 st fz
    have h2 : SqT X.K H2 a0 vs0 := by rw [hK]; exact Stays.tup (G := G) st h1
    have l3 := l2.stay st
    constructor
    · intro q
      have q' : (enumM 0 ws)[i]? = none := by simpa [It0.at, lget_eq] using q
      rw [enumM_get] at q'
      refine ⟨_, h2, ?_⟩
      rw [← l3.length]
      exact List.getElem?_eq_none_iff.mp (by simpa using q')
    · intro w q
      have q' : (enumM 0 ws)[i]? = some w := by simpa [It0.at, lget_eq] using q
      rw [enumM_get] at q'
      obtain ⟨w0, g1, g2⟩ := Option.map_eq_some_iff.mp q'
      subst g2
      obtain ⟨v, hv, d⟩ := l3.get g1
      refine ⟨⟨_, v, h2, hv⟩, fun v' H' yl => ?_⟩
      obtain ⟨T, x', rfl, hT, rfl, g3⟩ := yl
      have e3 := g3 _ h2
      rw [hv] at e3; cases e3
      rw [Nat.zero_add]
      exact new_tup S2 hT (.cons (.int _) (.cons d .nil))
end

end
section
section
variable {X : Cx} {G : Mg} {pos : Pos}
theorem pm_int {i j} : PE X (.Constant (.int i) j pos) (tI G (mcon (.int i))) := pm_con pe_int fun _ _ _ _ => .int _
theorem pm_bl {b j} : PE X (.Constant (.bool b) j pos) (tI G (mcon (.bl b))) := pm_con pe_bl fun _ _ _ _ => .bl _
theorem pm_non {j} : PE X (.Constant .none j pos) (tI G (mcon .non)) := pm_con pe_non fun _ _ _ _ => .non
theorem pm_str {x y : Str} {j} (h : x = y) : PE X (.Constant (.str x) j pos) (tI G (mcon (.str y))) := by subst h; exact pm_con pe_str fun _ _ _ _ => .str _
theorem pm_gint {x : Str} {i : Int} (hm : ∃ t, X.mg x = some (.int i t)) (hg : Gl X x) (hd : (x == ("__debug__" : Str)) = false := by decide) : PE X (.Name x pos) (tI G (mcon (.int i))) := by
  obtain ⟨t, hm⟩ := hm
  exact pm_con (v := .int i) (pe_glob (v := .int i) hg hm ⟨t, rfl⟩ hd) fun _ _ _ _ => .int _
theorem pm_gstr {x y z : Str} (hm : ∃ t, X.mg x = some (.str y t)) (h : y = z) (hg : Gl X x) (hd : (x == ("__debug__" : Str)) = false := by decide) : PE X (.Name x pos) (tI G (mcon (.str z))) := by
  subst h
  obtain ⟨t, hm⟩ := hm
  exact pm_con (v := .str y) (pe_glob (v := .str y) hg hm ⟨t, rfl⟩ hd) fun _ _ _ _ => .str _
theorem pm_gtup {x : Str} {a : Addr} {vs : List V} {ws : List Mv} (hm : X.mg x = some (.ref a)) (hs : ∀ H, SqT G.K H a vs) (l : ∀ p H, DenL G p H ws vs) (hg : Gl X x) (hd : (x == ("__debug__" : Str)) = false := by decide) : PE X (.Name x pos) (tI G (mcon (.tup ws))) :=
  pm_con (v := .ref a) (pe_glob (v := .ref a) hg hm rfl hd) fun p _ H _ => .tup (hs H) (l p H)
theorem fn_none {P : Program} {w : World} {K : PySem.W.Frag} {mg : Str → Option Value} {base : Heap} {CX : CXT} {k : Nat} {f : Addr} {fd : FuncData} {ps : List Str} : FnOk P w K mg base CX k f fd ps (spM G (fun _ _ => none)) :=
  ⟨fun vs H Q E h => (by obtain ⟨_, _, _, _, _, _, _, z, _⟩ := h; cases z), fun A outer s H args us vs Q E hr he hb hv h => (by obtain ⟨_, _, _, _, _, _, _, z, _⟩ := h; cases z)⟩
theorem u65 {k : Nat} {A : Around} (r : Room k A) : A.units + 65 < cLine := by have := r.un; omega
theorem sm_for' {tg iter : Expr} {body : List Stmt} {I : Fi} {T : Tg} {B : Fs} (hp : PassesOwn (model X.prog X.w) X.A X.env X.xe) (hc : X.calm = true) (hi : PI X tg iter (tIt G I)) (hg : PG X tg (tG G T)) (hb : PSs X body (tS G B)) (hs : ∀ x, foldedSetIterable iter X.env x = pure x := by intro _; rfl) : PS X (.For tg iter body [] pos) (tS G (sfor I T B)) := sm_for hp hc hi hg hb (ps_for hp hc hi hg hb hs)
noncomputable def ipW (a b : Mv) (s : Ms) : Option (Mv × Ms) := match a, b with
  | .int i, .int j => some (.int (i + j), s)
  | _, _ => none
theorem pip_add : PIp X .Add (q2R G ipW) := by
  intro pins s σ H x y v u Q I rx ry h
  obtain ⟨p, s0, a, b, w, s', S, da, db, q, k⟩ := h
  cases da <;> cases db <;> try (cases q; done)
  cases q
  exact ip_add pins s σ H _ _ v u Q I rx ry ⟨_, _, rfl, rfl, k p _ H S Fra.refl (.int _)⟩
noncomputable def mdn : Fe := fun _ s => (s.alloc (.dk [])).om fun q => (.ref q.1, q.2)
theorem pm_dn : PE X (.Dict [] [] pos) (tI G mdn) := pe_imp pe_dnewK fun σ H Q ⟨p, s, r, w, s', S, E, q, k⟩ => by
  obtain ⟨⟨n, s1⟩, q1, q2⟩ := omap_some.mp q
  cases q2
  intro a ha
  obtain ⟨S2, f2, d2⟩ := S.new q1 ha (ho := .dK []) (H' := upd H a (.dK [])) ⟨[], rfl, rfl, .nil⟩ upd_same fun b u eb => by rw [upd_ne (ne_of_none eb ha)]; exact eb
  exact k _ _ _ S2 f2 d2
/-- a def's promise by its body, its code object known -/
theorem FunD_okC {P : Program} {w : World} {K : PySem.W.Frag} {mg : Str → Option Value} {base : Heap} {x qual : Str} {params : Arguments} {body : List Stmt} {scope : Scope} {dvs : List V} {kws : List (Str × V)} {f : Addr} {fd : FuncData} {CX : CXT} {N ps : List Str} {k : Nat} {sp : Sp} (F : FunD K x qual params body scope dvs kws f fd) (S : FnScope N ps scope)
    (len : ∀ vs H Q E, sp vs H Q E → vs.length = ps.length) (hb : ∀ (cdv : Value) (_ : cdv = fd.code) (A : Around) (outer : List Env) (s : Shared) (H : Hp) (vs : List V) (Q : VK) (E : XK), Room k (A.deeper (envOfC qual scope s.heap.objs.size f cdv)) → sp vs H Q E → ∃ t, PSs (cxOf CX P w K mg base N qual scope f cdv A outer s H E) body t ∧ t { nx := fun _ H' => Q .non H', rt := Q } (start N vs) H) :
    FnOk P w K mg base CX (k + 1) f fd ps sp := by
  obtain ⟨_, _, _, _, _, _, _, cd, _, _, rfl, lk, hcd, _, _⟩ := F.ex
  exact fn_of lk hcd S len fun A outer s H vs Q E hr h => hb cd rfl A outer s H vs Q E hr h
theorem fn_okC {P : Program} {w : World} {K : PySem.W.Frag} {mg : Str → Option Value} {base : Heap} {x qual : Str} {st : Stmt} {f : Addr} {fd : FuncData} {N ps : List Str} {k : Nat} {B : Fs} {dvs : List V} {kws : List (Str × V)} (F : FunD K x qual (defArgs st) (defBody st) (defScope st) dvs kws f fd) (sc : FnScope N ps (defScope st)) {np nl : Nat} (hnp : ps.length = np := by rfl) (hnl : N.length = nl := by rfl)
    (hb : ∀ (cdv : Value) (_ : cdv = fd.code) (A : Around) (outer : List Env) (s : Shared) (H : Hp) (E : XK), Room k (A.deeper (envOfC qual (defScope st) s.heap.objs.size f cdv)) → PSs (cxOf CX0 P w K mg base N qual (defScope st) f cdv A outer s H E).nox (defBody st) (tS G B)) :
    FnOk P w K mg base CX0 (k + 1) f fd ps (spM G (fnM np nl B)) := by
  subst hnp hnl
  have len : ∀ vs H Q E, spM G (fnM ps.length N.length B) vs H Q E → vs.length = ps.length := by
    rintro vs H Q E ⟨p, s, ws, u, s', S, l, q, k'⟩
    rw [← l.length]
    unfold fnM at q
    cases e : Nat.beq ws.length ps.length with
    | false => rw [e] at q; cases q
    | true => exact Nat.eq_of_beq_eq_true e
  refine FunD_okC F sc len fun cdv hcode A outer s H vs Q E hr h => ⟨_, PSs.nox (hb cdv hcode A outer s H E hr), ?_⟩
  have hlen := len vs H Q E h
  obtain ⟨p, s0, ws, u, s', S, l, q, k'⟩ := h
  unfold fnM at q
  cases e : Nat.beq ws.length ps.length with
  | false => rw [e] at q; cases q
  | true =>
    rw [e] at q
    obtain ⟨⟨fl, r', s1⟩, q1, q2⟩ := ob_some.mp q
    refine ⟨p, s0, _, fl, r', s1, S, ?_, q1, fun p1 H1 S1 f1 => ?_⟩
    · show EnvR G p H _ (L2.start N vs)
      unfold L2.start
      rw [hlen]
      rw [lsome_eq]
      exact envR_start _ l
    · cases fl with
      | rt w' =>
        have q2' : some (w', s1) = some (u, s') := q2
        cases q2'
        exact fun v d => k' p1 v H1 S1 f1 d
      | nx =>
        have q2' : some (Mv.non, s1) = some (u, s') := q2
        cases q2'
        exact fun σ E => k' p1 _ H1 S1 f1 .non
      | bk => cases q2
      | ct => cases q2
theorem fn_okD {P : Program} {w : World} {K : PySem.W.Frag} {mg : Str → Option Value} {base : Heap} {x qual : Str} {st : Stmt} {f : Addr} {fd : FuncData} {N ps : List Str} {k : Nat} {B : Fs} {dvs : List V} {kws : List (Str × V)} (F : FunD K x qual (defArgs st) (defBody st) (defScope st) dvs kws f fd) (sc : FnScope N ps (defScope st)) {np nl : Nat} (hnp : ps.length = np := by rfl) (hnl : N.length = nl := by rfl)
    (hb : ∀ (cdv : Value) (A : Around) (outer : List Env) (s : Shared) (H : Hp) (E : XK), Room k (A.deeper (envOfC qual (defScope st) s.heap.objs.size f cdv)) → PSs (cxOf CX0 P w K mg base N qual (defScope st) f cdv A outer s H E).nox (defBody st) (tS G B)) :
    FnOk P w K mg base CX0 (k + 1) f fd ps (spM G (fnM np nl B)) := fn_okC F sc hnp hnl fun cdv _ => hb cdv
end
theorem bb_len : bootBuiltins "len" = some (.builtin "len") := by decide +kernel
theorem bb_all : bootBuiltins "all" = some (.builtin "all") := by decide +kernel
theorem bb_any : bootBuiltins "any" = some (.builtin "any") := by decide +kernel
theorem bb_abs : bootBuiltins "abs" = some (.builtin "abs") := by decide +kernel
theorem bb_min : bootBuiltins "min" = some (.builtin "min") := by decide +kernel
theorem bb_sorted : bootBuiltins "sorted" = some (.builtin "sorted") := by decide +kernel
theorem bb_isinstance : bootBuiltins "isinstance" = some (.builtin "isinstance") := by decide +kernel
theorem bb_list : bootBuiltins "list" = some (.type "list") := by decide +kernel
theorem bb_tuple : bootBuiltins "tuple" = some (.type "tuple") := by decide +kernel
theorem bb_int : bootBuiltins "int" = some (.type "int") := by decide +kernel
theorem bb_bool : bootBuiltins "bool" = some (.type "bool") := by decide +kernel
theorem bb_str : bootBuiltins "str" = some (.type "str") := by decide +kernel

end
section
/-! ### a def that touches one object alone, run over a store that holds this object alone -/
noncomputable def one (o : Mo) : Ms := ⟨1, .nod .nil (some o) .nil⟩
theorem one_get (o : Mo) (n : Nat) : (one o).get n = if n = 0 then some o else none := by
  show (Mt.nod .nil (some o) .nil).get n = _
  rw [Mt.get_nod, Mt.get_nil, Mt.get_nil]
  by_cases h : n = 0
  · rw [if_pos h, if_pos h]
  · rw [if_neg h, if_neg h]; split <;> rfl
section
variable {G : Mg}
theorem Sim.one {H : Hp} {a : Addr} {o : Mo} {ho : HO} (ha : H a = some ho) (d : DenO G [a] H a o ho) : Sim G [a] (one o) H := by
  refine ⟨rfl, by simp, fun n b hb => ?_, fun n hn => ?_⟩
  · have h0 : n = 0 := by
      have := (List.getElem?_eq_some_iff.mp hb).1
      simp at this
      exact this
    subst h0
    cases hb
    exact ⟨o, ho, by rw [one_get, if_pos rfl], ha, d⟩
  · have h1 : 1 ≤ n := hn
    rw [one_get, if_neg (by omega)]
theorem Sim.nil {H : Hp} : Sim G [] ⟨0, .nil⟩ H := ⟨rfl, by simp, fun n b hb => by simp at hb, fun _ _ => rfl⟩
/-- behind a run that knew the object at a alone, all others stand as before -/
theorem Sim.back {p q : List Addr} {s s1 : Ms} {H H' : Hp} {b : Nat} {a : Addr} {o' : Mo} (S : Sim G p s H) (hb : p[b]? = some a) (S1 : Sim G ([a] ++ q) s1 H') (f1 : Fra [a] H ([a] ++ q) H') (nt : ∀ ho, H' a = some ho → DenO G p H' a o' ho) : Sim G p (s.put b o') H' ∧ Fra p H p H' := by
  have hn : b < s.sz := by rw [← S.len]; exact (List.getElem?_eq_some_iff.mp hb).1
  have ham : a ∈ p := List.mem_of_getElem? hb
  have ff : Fra p H p H' := ⟨⟨[], by simp, fun z hz => by simp at hz⟩, fun z u e nz => f1.kee z u e (by simpa using fun y => nz (by rw [y]; exact ham)), f1.frz⟩
  have st := ff.stays S
  have g : ∀ m, (s.put b o').get m = if m = b then some o' else s.get m := fun m => Mt.get_set s.t b o' m
  refine ⟨⟨S.len, S.nd, fun m c hc => ?_, fun m hm => ?_⟩, ff⟩
  · by_cases hmb : m = b
    · subst hmb
      rw [hb] at hc; cases hc
      obtain ⟨_, ho, _, h2, _⟩ := S1.ob 0 a (by simp)
      exact ⟨o', ho, by rw [g, if_pos rfl], h2, nt ho h2⟩
    · obtain ⟨o1, ho1, q1, q2, q3⟩ := S.ob m c hc
      have hne : c ≠ a := fun z => hmb (nodup_at S.nd (z ▸ hc) hb)
      exact ⟨o1, ho1, by rw [g, if_neg hmb]; exact q1, f1.kee c ho1 q2 (by simpa using hne), q3.stay st⟩
  · rw [g, if_neg (by have : s.sz ≤ m := hm; omega)]
    exact S.out m hm
/-- the draw as the mirror sees it -/
noncomputable def takeB : Fn := fun ws s => match ws with
  | [.ref b, .int k] => match s.get b with
    | some (.box m ((k', x) :: ds)) => cond (decide (k = k') && (decide (1 ≤ k) && decide (k ≤ 1000))) (some (.int x, s.put b (.box (m + 1) ds))) none
    | _ => none
  | _ => none
/-- what the law's own draw must be -/
noncomputable def TakeOk (dr : Int → Int → Int → Int → Int × Int × Int) (f : Fn) : Prop := ∀ a c n k : Int, BoxOk a c n → n < 1000000 → 1 ≤ k → k ≤ 1000 → ∃ s', f [.ref 0, .int k] (one (.lst [.int a, .int c, .int n])) = some (.int (dr k a c n).1, s') ∧ s'.get 0 = some (.lst [.int (dr k a c n).2.1, .int c, .int (dr k a c n).2.2]) ∧ BoxOk (dr k a c n).2.1 c (dr k a c n).2.2 ∧ (dr k a c n).2.2 ≤ n + 1
variable {P : Program} {w : World} {K : PySem.W.Frag} {mg : Str → Option Value} {base : Heap} {k : Nat} {fa : Addr} {fd : FuncData} {ps : List Str}
theorem ints3 {p : List Addr} {H : Hp} {a c n : Int} {vs : List V} (l : DenL G p H [.int a, .int c, .int n] vs) : vs = [.int a, .int c, .int n] := by
  match l with
  | .cons (.int _) (.cons (.int _) (.cons (.int _) .nil)) => rfl
theorem den3 {p : List Addr} {H : Hp} {ad : Addr} {a c n : Int} : DenO G p H ad (.lst [.int a, .int c, .int n]) (.lst [.int a, .int c, .int n]) := ⟨_, rfl, .cons (.int _) (.cons (.int _) (.cons (.int _) .nil)), by rw [sz_eq]; show 3 ≤ 16777216; decide⟩
theorem take_box {f : Fn} (F : FnOk P w K mg base CX0 k fa fd ps (spM G f)) (h : TakeOk G.dr f) : FnOk P w K mg base CX0 k fa fd ps (spM G takeB) := by
  refine F.imp fun vs H Q E hs => ?_
  obtain ⟨p, s, ws, w, s', S, l, q, kk⟩ := hs
  match ws, l, q with
  | [.ref b, .int j], .cons (.ref hb) (.cons (.int _) .nil), q =>
    rename_i ab
    have q' : (match s.get b with
      | some (.box m ((k', x) :: ds)) => cond (decide (j = k') && (decide (1 ≤ j) && decide (j ≤ 1000))) (some (Mv.int x, s.put b (.box (m + 1) ds))) none
      | _ => none) = some (w, s') := q
    split at q'
    · rename_i m k' x ds e
      cases ec : (decide (j = k') && (decide (1 ≤ j) && decide (j ≤ 1000))) with
      | false => rw [ec] at q'; cases q'
      | true =>
        rw [ec] at q'; cases q'
        obtain ⟨e1, e2⟩ := Bool.and_eq_true_iff.mp ec
        obtain ⟨e3, e4⟩ := Bool.and_eq_true_iff.mp e2
        have e1 := of_decide_eq_true e1
        have e3 := of_decide_eq_true e3
        have e4 := of_decide_eq_true e4
        subst e1
        obtain ⟨ho, hH, a, c, n, rfl, ok, hn, hm, hx, hd⟩ := S.get hb e
        simp only [List.length_cons] at hm
        obtain ⟨s1, t1, t2, t3, t4⟩ := h a c n j ok (by omega) e3 e4
        refine ⟨[ab], _, [.ref 0, .int j], .int (G.dr j a c n).1, s1, Sim.one hH den3, .cons (.ref rfl) (.cons (.int _) .nil), t1, fun p1 v H' S1 f1 d1 => ?_⟩
        obtain ⟨q1, rfl, _⟩ := id f1.pre
        obtain ⟨S2, f2⟩ := S.back (o' := .box (m + 1) ds) hb S1 f1 fun ho h2 => by
          obtain ⟨o3, ho3, g1, g2, g3⟩ := S1.ob 0 ab (by simp)
          rw [t2] at g1; cases g1
          rw [h2] at g2; cases g2
          obtain ⟨vs3, rfl, l3, _⟩ := g3
          rw [ints3 l3]
          exact ⟨_, c, _, rfl, t3, by omega, by omega, hd⟩
        rw [hx] at d1
        cases d1
        exact kk p _ H' S2 f2 (.int _)
    · cases q'
/-- the draws below some bounds, one after another -/
noncomputable def drs (dr : Int → Int → Int → Int → Int × Int × Int) : List Int → Int → Int → Int → List (Int × Int)
  | [], _, _, _ => []
  | k :: ks, a, c, n => (k, (dr k a c n).1) :: drs dr ks (dr k a c n).2.1 c (dr k a c n).2.2
theorem drs_Dr (dr : Int → Int → Int → Int → Int × Int × Int) : ∀ (ks : List Int) (a c n : Int), Dr dr (drs dr ks a c n) a c n
  | [], _, _, _ => trivial
  | k :: ks, a, c, n => ⟨rfl, drs_Dr dr ks _ c _⟩
theorem drs_len (dr : Int → Int → Int → Int → Int × Int × Int) : ∀ (ks : List Int) (a c n : Int), (drs dr ks a c n).length = ks.length
  | [], _, _, _ => rfl
  | k :: ks, a, c, n => by rw [drs, List.length_cons, List.length_cons, drs_len dr ks]
/-- draws within their bounds -/
noncomputable def InB : List Int → List (Int × Int) → Prop
  | [], [] => True
  | k :: ks, (k', x) :: ds => k' = k ∧ 0 ≤ x ∧ x < k ∧ InB ks ds
  | _, _ => False
noncomputable def DrIn (dr : Int → Int → Int → Int → Int × Int × Int) : Prop := ∀ a c n k : Int, BoxOk a c n → 1 ≤ k → 0 ≤ (dr k a c n).1 ∧ (dr k a c n).1 < k ∧ BoxOk (dr k a c n).2.1 c (dr k a c n).2.2
theorem drs_in {dr : Int → Int → Int → Int → Int × Int × Int} (h : DrIn dr) : ∀ (ks : List Int), (∀ k ∈ ks, (1 : Int) ≤ k) → ∀ a c n, BoxOk a c n → InB ks (drs dr ks a c n)
  | [], _, _, _, _, _ => trivial
  | k :: ks, hk, a, c, n, ok => by
    obtain ⟨h1, h2, h3⟩ := h a c n k ok (hk k (by simp))
    exact ⟨rfl, h1, h2, drs_in h ks (fun z hz => hk z (by simp [hz])) _ c _ h3⟩
/-- a def of one source that makes these draws and tells True -/
noncomputable def rightB (ks : List Int) : Fn := fun ws s => match ws with
  | [.ref b] => match s.get b with
    | some (.box m []) => cond (Nat.ble (m + ks.length) 1000000) (some (.bl true, s.put b (.box (m + ks.length) []))) none
    | some (.lst [.int a, .int c, .int n]) => cond (decide (0 ≤ a) && (decide (0 ≤ c) && (decide (c < 2 ^ 62) && (decide (n = 0) && Nat.ble ks.length 1000000)))) (some (.bl true, s.put b (.box ks.length []))) none
    | _ => none
  | _ => none
theorem right_box {f : Fn} {ks : List Int} (F : FnOk P w K mg base CX0 k fa fd ps (spM G f)) (hd : DrIn G.dr) (hk : ∀ k ∈ ks, (1 : Int) ≤ k) (h : ∀ m ds, InB ks ds → ∃ s', f [.ref 0] (one (.box m ds)) = some (.bl true, s') ∧ s'.get 0 = some (.box (m + ks.length) [])) : FnOk P w K mg base CX0 k fa fd ps (spM G (rightB ks)) := by
  refine F.imp fun vs H Q E hs => ?_
  obtain ⟨p, s, ws, w, s', S, l, q, kk⟩ := hs
  match ws, l, q with
  | [.ref b], .cons (.ref hb) .nil, q =>
    rename_i ab
    have core : ∀ (a c n : Int) (m : Nat), H ab = some (.lst [.int a, .int c, .int n]) → BoxOk a c n → n ≤ m → m + ks.length ≤ 1000000 → (w, s') = (.bl true, s.put b (.box (m + ks.length) [])) → spM G f [.ref ab] H Q E := by
      intro a c n m hH ok hn hm e
      cases e
      obtain ⟨s1, t1, t2⟩ := h m (drs G.dr ks a c n) (drs_in hd ks hk a c n ok)
      refine ⟨[ab], _, [.ref 0], .bl true, s1, Sim.one (o := .box m (drs G.dr ks a c n)) hH ⟨a, c, n, rfl, ok, hn, by rw [drs_len]; exact hm, drs_Dr G.dr ks a c n⟩, .cons (.ref rfl) .nil, t1, fun p1 v H' S1 f1 d1 => ?_⟩
      obtain ⟨q1, rfl, _⟩ := id f1.pre
      obtain ⟨S2, f2⟩ := S.back (o' := .box (m + ks.length) []) hb S1 f1 fun ho h2 => by
        obtain ⟨o3, ho3, g1, g2, g3⟩ := S1.ob 0 ab (by simp)
        rw [t2] at g1; cases g1
        rw [h2] at g2; cases g2
        exact g3
      cases d1
      exact kk p _ H' S2 f2 (.bl _)
    have q' : (match s.get b with
      | some (.box m []) => cond (Nat.ble (m + ks.length) 1000000) (some (Mv.bl true, s.put b (.box (m + ks.length) []))) none
      | some (.lst [.int a, .int c, .int n]) => cond (decide (0 ≤ a) && (decide (0 ≤ c) && (decide (c < 2 ^ 62) && (decide (n = 0) && Nat.ble ks.length 1000000)))) (some (Mv.bl true, s.put b (.box ks.length []))) none
      | _ => none) = some (w, s') := q
    split at q'
    · rename_i m e
      cases ec : Nat.ble (m + ks.length) 1000000 with
      | false => rw [ec] at q'; cases q'
      | true =>
        rw [ec] at q'
        obtain ⟨ho, hH, a, c, n, rfl, ok, hn, hm, _⟩ := S.get hb e
        exact core a c n m hH ok hn (Nat.le_of_ble_eq_true ec) (Option.some.inj q').symm
    · rename_i a c n e
      cases ec : (decide (0 ≤ a) && (decide (0 ≤ c) && (decide (c < 2 ^ 62) && (decide (n = 0) && Nat.ble ks.length 1000000)))) with
      | false => rw [ec] at q'; cases q'
      | true =>
        rw [ec] at q'
        obtain ⟨c1, c2⟩ := Bool.and_eq_true_iff.mp ec
        obtain ⟨c3, c4⟩ := Bool.and_eq_true_iff.mp c2
        obtain ⟨c5, c6⟩ := Bool.and_eq_true_iff.mp c4
        obtain ⟨c7, c8⟩ := Bool.and_eq_true_iff.mp c6
        obtain ⟨ho, hH, vs3, rfl, l3, _⟩ := S.get hb e
        rw [ints3 l3] at hH
        have hn := of_decide_eq_true c7
        subst hn
        refine core a c 0 0 hH ⟨of_decide_eq_true c1, of_decide_eq_true c3, of_decide_eq_true c5, by decide⟩ (by decide) (by have := Nat.le_of_ble_eq_true c8; omega) ?_
        rw [Nat.zero_add]
        exact (Option.some.inj q').symm
    · cases q'
end

end
section
/-! ### calls whose arguments and answers name no object: run over an empty store -/
/-- hands on a value that names no object, written out anew -/
noncomputable def cp {β : Type} (w : Mv) : (Mv → Option β) → Option β :=
  @Mv.rec (fun _ => (Mv → Option β) → Option β) (fun _ => (List Mv → Option β) → Option β)
    (fun k => k .non) (fun b k => k (.bl b)) (fun i k => k (.int i)) (fun x k => k (.str x)) (fun ws ih k => ih fun ws' => k (.tup ws')) (fun _ _ => none) (fun t k => k (.ty t)) (fun ws ih k => ih fun ws' => k (.fl ws')) (fun c k => k (.cls c))
    (fun k => k []) (fun w ws ih1 ih2 k => ih1 fun w' => ih2 fun ws' => k (w' :: ws')) w
noncomputable def cpL {β : Type} (ws : List Mv) : (List Mv → Option β) → Option β :=
  @Mv.rec_1 (fun _ => (Mv → Option β) → Option β) (fun _ => (List Mv → Option β) → Option β)
    (fun k => k .non) (fun b k => k (.bl b)) (fun i k => k (.int i)) (fun x k => k (.str x)) (fun ws ih k => ih fun ws' => k (.tup ws')) (fun _ _ => none) (fun t k => k (.ty t)) (fun ws ih k => ih fun ws' => k (.fl ws')) (fun c k => k (.cls c))
    (fun k => k []) (fun w ws ih1 ih2 k => ih1 fun w' => ih2 fun ws' => k (w' :: ws')) ws
/-- what a value that names no object stands for hangs on no list of objects -/
noncomputable def Fl1 (w : Mv) : Prop := ∀ (G : Mg) p p' H v, Den G p H w v → Den G p' H w v
noncomputable def FlL (ws : List Mv) : Prop := ∀ (G : Mg) p p' H vs, DenL G p H ws vs → DenL G p' H ws vs
theorem FlL.nil : FlL [] := fun G p p' H vs h => by cases h; exact .nil
theorem FlL.cons {w : Mv} {ws : List Mv} (a : Fl1 w) (b : FlL ws) : FlL (w :: ws) := fun G p p' H vs h => by
  cases h with
  | cons h1 h2 => exact .cons (a G p p' H _ h1) (b G p p' H _ h2)
theorem cp_of {β : Type} (w : Mv) : ∀ (k : Mv → Option β) (r : β), cp w k = some r → Fl1 w ∧ k w = some r :=
  @Mv.rec (fun w => ∀ (k : Mv → Option β) (r : β), cp w k = some r → Fl1 w ∧ k w = some r) (fun ws => ∀ (k : List Mv → Option β) (r : β), cpL ws k = some r → FlL ws ∧ k ws = some r)
    (fun k r h => ⟨fun G p p' H v d => by cases d; exact .non, h⟩)
    (fun b k r h => ⟨fun G p p' H v d => by cases d; exact .bl b, h⟩)
    (fun i k r h => ⟨fun G p p' H v d => by cases d; exact .int i, h⟩)
    (fun x k r h => ⟨fun G p p' H v d => by cases d; exact .str x, h⟩)
    (fun ws ih k r h => by
      obtain ⟨a, b⟩ := ih (fun ws' => k (.tup ws')) r h
      exact ⟨fun G p p' H v d => by cases d with | tup h l => exact .tup h (a G p p' H _ l), b⟩)
    (fun n k r h => by cases h)
    (fun t k r h => ⟨fun G p p' H v d => by cases d; exact .ty t, h⟩)
    (fun ws ih k r h => by
      obtain ⟨a, b⟩ := ih (fun ws' => k (.fl ws')) r h
      exact ⟨fun G p p' H v d => by cases d with | fl h l => exact .fl h (a G p p' H _ l), b⟩)
    (fun c k r h => ⟨fun G p p' H v d => by cases d; exact .cls c, h⟩)
    (fun k r h => ⟨FlL.nil, h⟩)
    (fun w ws ih1 ih2 k r h => by
      obtain ⟨a, b⟩ := ih1 (fun w' => cpL ws fun ws' => k (w' :: ws')) r h
      obtain ⟨c, d⟩ := ih2 _ r b
      exact ⟨FlL.cons a c, d⟩) w
theorem cpL_of {β : Type} : ∀ (ws : List Mv) (k : List Mv → Option β) (r : β), cpL ws k = some r → FlL ws ∧ k ws = some r
  | [], k, r, h => ⟨FlL.nil, h⟩
  | w :: ws, k, r, h => by
    obtain ⟨a, b⟩ := cp_of w (fun w' => cpL ws fun ws' => k (w' :: ws')) r h
    obtain ⟨c, d⟩ := cpL_of ws _ r b
    exact ⟨FlL.cons a c, d⟩
theorem Sim.keep {G : Mg} {p : List Addr} {s : Ms} {H H' : Hp} (S : Sim G p s H) (k : ∀ a o, H a = some o → H' a = some o) : Sim G p s H' ∧ Fra p H p H' := by
  have f : Fra p H p H' := ⟨⟨[], by simp, fun a h => by simp at h⟩, fun a o e _ => k a o e, fun a o u e => k a _ e⟩
  exact ⟨⟨S.len, S.nd, fun n a h => let ⟨o, ho, q1, q2, q3⟩ := S.ob n a h; ⟨o, ho, q1, k a ho q2, q3.stay (f.stays S)⟩, S.out⟩, f⟩
/-- one more object is named -/
theorem Sim.add {G : Mg} {p : List Addr} {s s' : Ms} {H : Hp} {o : Mo} {ho : HO} {n : Nat} {a : Addr} (S : Sim G p s H) (e : s.alloc o = some (n, s')) (nin : a ∉ p) (ha : H a = some ho) (d : DenO G p H a o ho) : Sim G (p ++ [a]) s' H ∧ Den G (p ++ [a]) H (.ref n) (.ref a) := by
  obtain ⟨rfl, h2, h4⟩ := Ms.alloc_eq e
  have st : Stays p H (p ++ [a]) H := ⟨fun n b h => by rw [List.getElem?_append_left (List.getElem?_eq_some_iff.mp h).1]; exact h, fun _ _ e => e, fun _ _ _ _ e => e⟩
  have hlen : (p ++ [a])[s.sz]? = some a := by rw [← S.len]; simp
  refine ⟨⟨by rw [List.length_append, S.len, h2]; rfl, ?_, fun m b hb => ?_, fun m hm => ?_⟩, .ref hlen⟩
  · rw [List.nodup_append]
    exact ⟨S.nd, by simp, fun x hx y hy => by rw [List.mem_singleton.mp hy]; rintro rfl; exact nin hx⟩
  · by_cases hmn : m = s.sz
    · subst hmn
      rw [hlen] at hb; cases hb
      exact ⟨o, ho, by rw [h4, if_pos rfl], ha, d.stay st⟩
    · have hlt : m < p.length := by
        have := (List.getElem?_eq_some_iff.mp hb).1
        rw [List.length_append, S.len] at this
        simp at this
        have := S.len
        omega
      rw [List.getElem?_append_left hlt] at hb
      obtain ⟨o1, ho1, q1, q2, q3⟩ := S.ob m b hb
      exact ⟨o1, ho1, by rw [h4, if_neg hmn]; exact q1, q2, q3.stay st⟩
  · rw [h4, if_neg (by omega)]
    exact S.out m (by omega)
/-- an answer out of the small store, told over the great one -/
noncomputable def bk (lo : Nat) (w : Mv) (s1 s : Ms) : Option (Mv × Ms) := match w with
  | .ref j => cond (Nat.ble lo j) (match s1.get j with
    | some (.lst xs) => cpL xs fun xs' => (s.alloc (.lst xs')).om fun y => (.ref y.1, y.2)
    | _ => none) none
  | w => cp w fun w' => some (w', s)
theorem bk_of {G : Mg} {p q : List Addr} {lo : Nat} {H H' : Hp} {p0 : List Addr} {s0 s1 s s' : Ms} {w w' : Mv} {v : V} (h : bk lo w s1 s = some (w', s')) (hp : p0.length = lo) (S : Sim G p s H') (f : Fra p H p H') (S1 : Sim G (p0 ++ q) s1 H') (hq : ∀ a ∈ q, H a = none) (S0 : Sim G p s0 H) (d : Den G (p0 ++ q) H' w v) :
    ∃ p', Sim G p' s' H' ∧ Fra p H p' H' ∧ Den G p' H' w' v := by
  have easy : (cp w fun w' => some (w', s)) = some (w', s') → ∃ p', Sim G p' s' H' ∧ Fra p H p' H' ∧ Den G p' H' w' v := fun h => by
    obtain ⟨a, b⟩ := cp_of w _ _ h
    cases b
    exact ⟨p, S, f, a G _ p H' v d⟩
  cases w with
  | ref j =>
    have h : cond (Nat.ble lo j) (match s1.get j with
      | some (.lst xs) => cpL xs fun xs' => (s.alloc (.lst xs')).om fun y => (Mv.ref y.1, y.2)
      | _ => none) none = some (w', s') := h
    cases e : Nat.ble lo j with
    | false => rw [e] at h; cases h
    | true =>
      rw [e, cond_true] at h
      have hl := Nat.le_of_ble_eq_true e
      split at h
      · rename_i xs e1
        obtain ⟨a, b⟩ := cpL_of xs _ _ h
        cases e2 : s.alloc (.lst xs) with
        | none => rw [e2] at b; cases b
        | some y =>
          rw [e2] at b; cases b
          cases d with
          | ref hj =>
            rename_i ad
            obtain ⟨o, ho, q1, q2, q3⟩ := S1.ob j ad hj
            rw [e1] at q1; cases q1
            have hin : ad ∈ q := by
              have := List.getElem?_append_right (l₁ := p0) (l₂ := q) (i := j) (by omega)
              rw [this] at hj
              exact List.mem_of_getElem? hj
            have hnone := hq ad hin
            have nin : ad ∉ p := fun h => by
              obtain ⟨n, hn⟩ := List.mem_iff_getElem?.mp h
              obtain ⟨_, _, _, z, _⟩ := S0.ob n ad hn
              rw [hnone] at z; cases z
            obtain ⟨vs, rfl, l, sz⟩ := q3
            obtain ⟨S2, d2⟩ := S.add (n := y.1) (s' := y.2) e2 nin q2 ⟨vs, rfl, a G _ p H' vs l, sz⟩
            refine ⟨p ++ [ad], S2, ⟨⟨[ad], rfl, fun z hz _ => by rw [List.mem_singleton.mp hz]; exact hnone⟩, f.kee, f.frz⟩, d2⟩
      · cases h
  | _ => exact easy h
/-- no argument names an object -/
noncomputable def pureF (f : Fn) : Fn := fun ws s => cpL ws fun ws' => (f ws' ⟨0, .nil⟩).ob fun x => bk 0 x.1 x.2 s
variable {P : Program} {w : World} {K : PySem.W.Frag} {mg : Str → Option Value} {base : Heap} {k : Nat} {fa : Addr} {fd : FuncData} {ps : List Str} {G : Mg}
theorem pure_ok {f : Fn} (F : FnOk P w K mg base CX0 k fa fd ps (spM G f)) : FnOk P w K mg base CX0 k fa fd ps (spM G (pureF f)) := by
  refine F.imp fun vs H Q E hs => ?_
  obtain ⟨p, s, ws, w, s', S, l, q, kk⟩ := hs
  obtain ⟨fl, q⟩ := cpL_of ws _ _ q
  obtain ⟨⟨w1, s1⟩, q1, q2⟩ := ob_some.mp q
  refine ⟨[], _, ws, w1, s1, Sim.nil, fl G p [] H vs l, q1, fun p1 v H' S1 f1 d1 => ?_⟩
  obtain ⟨S2, f2⟩ := S.keep (H' := H') fun a o e => f1.kee a o e (by simp)
  obtain ⟨q3, rfl, hq⟩ := id f1.pre
  obtain ⟨p', h1, h2, h3⟩ := bk_of q2 (p0 := []) rfl S2 f2 S1 (fun a ha => hq a ha (by simp)) S d1
  exact kk p' v H' h1 h2 h3
/-- one argument is a list -/
noncomputable def cp1 {β : Type} : List Mv → Ms → (List Mv → Nat → List Mv → Option β) → Option β
  | [], _, _ => none
  | .ref n :: ws, s, k => match s.get n with
    | some (.lst xs) => cpL xs fun xs' => cpL ws fun ws' => k (.ref 0 :: ws') n xs'
    | _ => none
  | w :: ws, s, k => cp w fun w' => cp1 ws s fun ws' n xs => k (w' :: ws') n xs
noncomputable def pure1 (f : Fn) : Fn := fun ws s => cp1 ws s fun ws' n xs => (f ws' (one (.lst xs))).ob fun x => match x.2.get 0 with
  | some (.lst ys) => cpL ys fun ys' => bk 1 x.1 x.2 (s.put n (.lst ys'))
  | _ => none
theorem cp1_of {β : Type} {p : List Addr} {s : Ms} {H : Hp} (S : Sim G p s H) : ∀ (ws : List Mv) (vs : List V) (k : List Mv → Nat → List Mv → Option β) (r : β), DenL G p H ws vs → cp1 ws s k = some r → ∃ ws' n xs a us, k ws' n xs = some r ∧ p[n]? = some a ∧ H a = some (.lst us) ∧ us.length ≤ sizeLine ∧ FlL xs ∧ DenL G p H xs us ∧ DenL G [a] H ws' vs := by
  intro ws
  induction ws with
  | nil => intro vs k r l h; cases h
  | cons w0 ws ih =>
    intro vs k r l h
    cases l with
    | cons d l =>
      have easy : (cp w0 fun w' => cp1 ws s fun ws' n xs => k (w' :: ws') n xs) = some r → ∃ ws' n xs a us, k ws' n xs = some r ∧ p[n]? = some a ∧ H a = some (.lst us) ∧ us.length ≤ sizeLine ∧ FlL xs ∧ DenL G p H xs us ∧ DenL G [a] H ws' (_ :: _) := fun h => by
        obtain ⟨a, b⟩ := cp_of w0 _ _ h
        obtain ⟨ws', n, xs, a', us, h1, h2, h3, h4, h5, h6, h7⟩ := ih _ _ r l b
        exact ⟨_, n, xs, a', us, h1, h2, h3, h4, h5, h6, .cons (a G p _ H _ d) h7⟩
      cases w0 with
      | ref n =>
        have h : (match s.get n with
          | some (.lst xs) => cpL xs fun xs' => cpL ws fun ws' => k (.ref 0 :: ws') n xs'
          | _ => none) = some r := h
        split at h
        · rename_i xs e1
          obtain ⟨a, b⟩ := cpL_of xs _ _ h
          obtain ⟨c, e⟩ := cpL_of ws _ _ b
          cases d with
          | ref hn =>
            rename_i ad
            obtain ⟨o, ho, q1, q2, q3⟩ := S.ob n ad hn
            rw [e1] at q1; cases q1
            obtain ⟨us, rfl, lu, sz⟩ := q3
            exact ⟨_, n, xs, ad, us, e, hn, q2, sz, a, lu, .cons (.ref rfl) (c G p _ H _ l)⟩
        · cases h
      | _ => exact easy h
theorem pure1_ok {f : Fn} (F : FnOk P w K mg base CX0 k fa fd ps (spM G f)) : FnOk P w K mg base CX0 k fa fd ps (spM G (pure1 f)) := by
  refine F.imp fun vs H Q E hs => ?_
  obtain ⟨p, s, ws, w, s', S, l, q, kk⟩ := hs
  obtain ⟨ws', n, xs, a, us, q, hn, hH, sz, fl, lx, lw⟩ := cp1_of S ws vs _ _ l q
  obtain ⟨⟨w1, s1⟩, q1, q2⟩ := ob_some.mp q
  refine ⟨[a], _, ws', w1, s1, Sim.one (o := .lst xs) hH ⟨us, rfl, fl G p _ H us lx, sz⟩, lw, q1, fun p1 v H' S1 f1 d1 => ?_⟩
  obtain ⟨q3, rfl, hq⟩ := id f1.pre
  have q2 : (match s1.get 0 with
    | some (.lst ys) => cpL ys fun ys' => bk 1 w1 s1 (s.put n (.lst ys'))
    | _ => none) = some (w, s') := q2
  split at q2
  · rename_i ys ey
    obtain ⟨fy, q2⟩ := cpL_of ys _ _ q2
    obtain ⟨S2, f2⟩ := S.back (o' := .lst ys) hn S1 f1 fun ho h2 => by
      obtain ⟨o3, ho3, g1, g2, g3⟩ := S1.ob 0 a (by simp)
      rw [ey] at g1; cases g1
      rw [h2] at g2; cases g2
      obtain ⟨vs3, rfl, l3, z3⟩ := g3
      exact ⟨vs3, rfl, fy G _ p H' vs3 l3, z3⟩
    have nd : a ∉ q3 := fun h => by
      have := S1.nd
      rw [List.nodup_append] at this
      exact this.2.2 a (by simp) a h rfl
    obtain ⟨p', h1, h2, h3⟩ := bk_of q2 (p0 := [a]) rfl S2 f2 S1 (fun z hz => hq z hz (by simp; rintro rfl; exact nd hz)) S d1
    exact kk p' v H' h1 h2 h3
  · cases q2

end
section
/-! ### a law that asks some sources for some laps each -/
theorem rng_in {lo : Int} {n i : Nat} {s : Ms} (h : i < n) : (It0.rng lo n).at i s = some (some (.int (lo + i))) := by
  show some (cond (Nat.blt i n) (some (Mv.int (lo + i))) none) = _
  have e : Nat.blt i n = true := Nat.ble_eq_true_of_le h
  rw [cond_t e]
theorem rng_out {lo : Int} {n i : Nat} {s : Ms} (h : n ≤ i) : (It0.rng lo n).at i s = some none := by
  show some (cond (Nat.blt i n) (some (Mv.int (lo + i))) none) = _
  have : Nat.blt i n = false := by
    cases e : Nat.blt i n with
    | false => rfl
    | true => have := Nat.le_of_ble_eq_true e; omega
  rw [cond_f this]
theorem loop_rng {T : Tg} {B : Fs} {lo : Int} {n : Nat} (I : Nat → Me → Ms → Prop) (step : ∀ i r s, i < n → I i r s → ∃ r1 r' s', T.asg (.int (lo + i)) r = some r1 ∧ B r1 s = some (.nx, r', s') ∧ I (i + 1) r' s') :
    ∀ (m i : Nat) (r : Me) (s : Ms), n ≤ i + m → i ≤ n → I i r s → ∃ r' s', mloop (.rng lo n) T B (m + 1) i r s = some (.nx, r', s') ∧ I n r' s'
  | m, i, r, s, h, hi, hI => by
    rw [mloop_succ]
    by_cases hlt : i < n
    · obtain ⟨r1, r2, s2, h1, h2, h3⟩ := step i r s hlt hI
      rw [rng_in hlt]
      show ∃ r' s', ((T.asg (.int (lo + i)) r).ob fun r1 => (B r1 s).ob fun x => match x.1 with
        | .nx => mloop (.rng lo n) T B m (i + 1) x.2.1 x.2.2
        | .ct => mloop (.rng lo n) T B m (i + 1) x.2.1 x.2.2
        | .bk => some (.nx, x.2)
        | .rt w => some (.rt w, x.2)) = some (Fl.nx, r', s') ∧ I n r' s'
      rw [h1]
      show ∃ r' s', ((B r1 s).ob fun x => match x.1 with
        | .nx => mloop (.rng lo n) T B m (i + 1) x.2.1 x.2.2
        | .ct => mloop (.rng lo n) T B m (i + 1) x.2.1 x.2.2
        | .bk => some (.nx, x.2)
        | .rt w => some (.rt w, x.2)) = some (Fl.nx, r', s') ∧ I n r' s'
      rw [h2]
      cases m with
      | zero => omega
      | succ m => exact loop_rng I step m (i + 1) r2 s2 (by omega) (by omega) h3
    · rw [rng_out (by omega)]
      have : i = n := by omega
      subst this
      exact ⟨r, s, rfl, hI⟩
theorem flat_rng {st : Mv → Ms → Option (List Mv × Ms)} {lo : Int} {n : Nat} {w : Mv} (I : Nat → Ms → Prop) (step : ∀ i s, i < n → I i s → ∃ s', st (.int (lo + i)) s = some ([w], s') ∧ I (i + 1) s') :
    ∀ (m i : Nat) (s : Ms), n ≤ i + m → i ≤ n → I i s → ∃ s', mflat (.rng lo n) st (m + 1) i s = some (List.replicate (n - i) w, s') ∧ I n s'
  | m, i, s, h, hi, hI => by
    rw [mflat_succ]
    by_cases hlt : i < n
    · obtain ⟨s2, h2, h3⟩ := step i s hlt hI
      rw [rng_in hlt]
      show ∃ s', ((st (.int (lo + i)) s).ob fun x => (mflat (.rng lo n) st m (i + 1) x.2).om fun y => (x.1 ++ y.1, y.2)) = some (List.replicate (n - i) w, s') ∧ I n s'
      rw [h2]
      cases m with
      | zero => omega
      | succ m =>
        obtain ⟨s3, h4, h5⟩ := flat_rng I step m (i + 1) s2 (by omega) (by omega) h3
        refine ⟨s3, ?_, h5⟩
        show (mflat (.rng lo n) st (m + 1) (i + 1) s2).om (fun y => ([w] ++ y.1, y.2)) = _
        rw [h4]
        have : n - i = (n - (i + 1)) + 1 := by omega
        rw [this, List.replicate_succ]
        rfl
    · rw [rng_out (by omega)]
      have : i = n := by omega
      subst this
      exact ⟨s, by rw [Nat.sub_self]; rfl, hI⟩
theorem put_get {s : Ms} {b : Nat} {o : Mo} (h : b < 1000000) : (s.put b o).get b = some o := by
  rw [show (s.put b o).get b = if b = b then some o else s.get b from Mt.get_set s.t b o b, if_pos rfl]
theorem alloc_ok {s : Ms} {o : Mo} (h : s.sz ≤ 1000000) : ∃ s', s.alloc o = some (s.sz, s') ∧ s'.sz = s.sz + 1 ∧ s'.get s.sz = some o := by
  have e : s.alloc o = some (s.sz, ⟨s.sz + 1, s.t.set s.sz o⟩) := rfl
  obtain ⟨_, h2, h4⟩ := Ms.alloc_eq e
  exact ⟨_, e, h2, by rw [h4, if_pos rfl]⟩
/-- what the law's making of a source must be -/
noncomputable def BoxFn (bx : Fn) : Prop := ∀ (ns : List Int) (k : Int) (s : Ms), 0 ≤ k → k < 1000 → ∃ A C : Int, 0 ≤ A ∧ 0 ≤ C ∧ C < 2 ^ 62 ∧ bx [.fl (ns.map .int), .int k] s = newL [.int A, .int C, .int 0] s
noncomputable def lapB (rt : Fn) (L : Int) : Fs := sif (mnot (mtst (mcall allW (mcons (mlc (miR1 (mcons (mcon (.int L)) (mnil))) (.nm 3) (myes) (mcall rt (mcons (mvar 2) (mnil))) [3]) (mnil))))) (sret (mcon (.bl false))) (snx)
noncomputable def lawB (bx rt : Fn) (R L : Int) : Fs := sseq (sfor (miR1 (mcons (mop2 addW (mcon (.int 1)) (mcall min2W (mcons (mcon (.int R)) (mcons (mcall lenW (mcons (mvar 0) (mnil))) (mnil))))) (mnil))) (.nm 1) (sseq (sset 2 (mcall bx (mcons (mvar 0) (mcons (mvar 1) (mnil))))) (lapB rt L))) (sret (mcon (.bl true)))
theorem right_run {ks : List Int} {s : Ms} {b m : Nat} (h : s.get b = some (.box m [])) (hm : m + ks.length ≤ 1000000) : rightB ks [.ref b] s = some (.bl true, s.put b (.box (m + ks.length) [])) := by
  show (match s.get b with
    | some (.box m []) => cond (Nat.ble (m + ks.length) 1000000) (some (Mv.bl true, s.put b (.box (m + ks.length) []))) none
    | some (.lst [.int a, .int c, .int n]) => cond (decide (0 ≤ a) && (decide (0 ≤ c) && (decide (c < 2 ^ 62) && (decide (n = 0) && Nat.ble ks.length 1000000)))) (some (.bl true, s.put b (.box ks.length []))) none
    | _ => none) = _
  rw [h]
  show cond (Nat.ble (m + ks.length) 1000000) _ none = _
  rw [cond_t (Nat.ble_eq_true_of_le hm)]
theorem right_run0 {ks : List Int} {s : Ms} {b : Nat} {A C : Int} (h : s.get b = some (.lst [.int A, .int C, .int 0])) (h1 : 0 ≤ A) (h2 : 0 ≤ C) (h3 : C < 2 ^ 62) (hm : ks.length ≤ 1000000) : rightB ks [.ref b] s = some (.bl true, s.put b (.box ks.length [])) := by
  show (match s.get b with
    | some (.box m []) => cond (Nat.ble (m + ks.length) 1000000) (some (Mv.bl true, s.put b (.box (m + ks.length) []))) none
    | some (.lst [.int a, .int c, .int n]) => cond (decide (0 ≤ a) && (decide (0 ≤ c) && (decide (c < 2 ^ 62) && (decide (n = 0) && Nat.ble ks.length 1000000)))) (some (.bl true, s.put b (.box ks.length []))) none
    | _ => none) = _
  rw [h]
  show cond (decide (0 ≤ A) && (decide (0 ≤ C) && (decide (C < 2 ^ 62) && (decide ((0 : Int) = 0) && Nat.ble ks.length 1000000)))) _ none = _
  rw [decide_eq_true h1, decide_eq_true h2, decide_eq_true h3, decide_eq_true rfl, Nat.ble_eq_true_of_le hm]
  rfl
theorem bools_rep : ∀ n : Nat, boolsOf (List.replicate n (.bl true)) = some (List.replicate n true)
  | 0 => rfl
  | n + 1 => by
    rw [List.replicate_succ, List.replicate_succ]
    show (boolsOf (List.replicate n (.bl true))).om (fun r => true :: r) = _
    rw [bools_rep n]
    rfl
theorem call1 {f : Fn} {A : Fe} {r : Me} {s s' : Ms} {w : Mv} (h : A r s = some (w, s')) : mcall f (mcons A mnil) r s = f [w] s' := by
  unfold mcall mcons
  rw [h]
  rfl
theorem range_ok {A : Fa} {r : Me} {s s' : Ms} {j : Int} (h : A r s = some ([.int j], s')) (hj : okI j = true) : miR1 A r s = some (.rng 0 j.toNat, s') := by
  unfold miR1
  rw [h]
  show cond (okI j) (some (It0.rng 0 j.toNat, s')) none = _
  rw [hj]
  rfl
theorem lap_ok {ks : List Int} {L : Nat} (hL : L ≤ 100) (hk : ks.length ≤ 1000) {r : Me} {s : Ms} {b : Nat} {A C : Int} (hr : (mwipe r [3])[2]? = some (some (.ref b))) (hb : b < 1000000) (hs : s.sz ≤ 1000000) (h : s.get b = some (.lst [.int A, .int C, .int 0])) (h1 : 0 ≤ A) (h2 : 0 ≤ C) (h3 : C < 2 ^ 62) :
    ∃ s', lapB (rightB ks) (L : Int) r s = some (.nx, r, s') ∧ s'.sz = s.sz + 1 := by
  have hm : mwipe r [3] = r.set 3 none := lset_eq none r 3
  have st : ∀ (i : Nat) (s : Ms) (s' : Ms), rightB ks [.ref b] s = some (.bl true, s') → mstep (.nm 3) myes (mcall (rightB ks) (mcons (mvar 2) mnil)) (mwipe r [3]) (.int (0 + i)) s = some ([.bl true], s') := fun i s s' e => by
    have g : (lset (mwipe r [3]) 3 (some (Mv.int (0 + i))))[2]? = some (some (.ref b)) := by rw [lset_eq, List.getElem?_set_ne (by decide)]; exact hr
    show ((mcall (rightB ks) (mcons (mvar 2) mnil)) (lset (mwipe r [3]) 3 (some (Mv.int (0 + i)))) s).om (fun x => ([x.1], x.2)) = _
    have v : mvar 2 (lset (mwipe r [3]) 3 (some (Mv.int (0 + i)))) s = some (.ref b, s) := by unfold mvar; rw [lget_eq, g]
    have c : mcall (rightB ks) (mcons (mvar 2) mnil) (lset (mwipe r [3]) 3 (some (Mv.int (0 + i)))) s = rightB ks [.ref b] s := by
      unfold mcall mcons
      rw [v]
      rfl
    rw [c, e]
    rfl
  have hk3 : ∀ i : Nat, i ≤ 100 → i * ks.length ≤ 100000 := fun i hi => Nat.le_trans (Nat.mul_le_mul hi hk) (by decide)
  obtain ⟨s1, e1, z1, _⟩ := flat_rng (st := mstep (.nm 3) myes (mcall (rightB ks) (mcons (mvar 2) mnil)) (mwipe r [3])) (lo := 0) (n := L) (w := .bl true) (fun i t => t.sz = s.sz ∧ ((i = 0 ∧ t = s) ∨ (1 ≤ i ∧ t.get b = some (.box (i * ks.length) [])))) (fun i t hi ⟨hz, ht⟩ => by
    rcases ht with ⟨rfl, rfl⟩ | ⟨hi1, ht⟩
    · exact ⟨_, st 0 t _ (right_run0 h h1 h2 h3 (by omega)), hz, .inr ⟨by omega, by rw [put_get hb]; simp⟩⟩
    · have := hk3 i (by omega)
      refine ⟨_, st i t _ (right_run ht (by omega)), hz, .inr ⟨by omega, ?_⟩⟩
      rw [put_get hb, Nat.add_mul, Nat.one_mul]) 99999 0 s (by omega) (by omega) ⟨rfl, .inl ⟨rfl, rfl⟩⟩
  rw [Nat.sub_zero] at e1
  obtain ⟨s2, e2, z2, g2⟩ := alloc_ok (s := s1) (o := .lst (List.replicate L (.bl true))) (by omega)
  refine ⟨s2, ?_, by omega⟩
  have okL : okI (L : Int) = true := by unfold okI; rw [decide_eq_true (by omega), decide_eq_true (by omega)]; rfl
  have i1 : miR1 (mcons (mcon (.int (L : Int))) mnil) r s = some (.rng 0 L, s) := by
    exact range_ok rfl okL
  have nl : newL (List.replicate L (.bl true)) s1 = some (.ref s1.sz, s2) := by
    unfold newL
    rw [llen_eq, List.length_replicate, cond_t (Nat.ble_eq_true_of_le (by omega)), e2]
    rfl
  have lc : mlc (miR1 (mcons (mcon (.int (L : Int))) mnil)) (.nm 3) myes (mcall (rightB ks) (mcons (mvar 2) mnil)) [3] r s = some (.ref s1.sz, s2) := by
    unfold mlc
    rw [i1, ob_of]
    have e1' : mflat (.rng 0 L) (mstep (.nm 3) myes (mcall (rightB ks) (mcons (mvar 2) mnil)) (mwipe r [3])) 100000 0 s = some (List.replicate L (.bl true), s1) := e1
    dsimp only
    rw [e1', ob_of]
    exact nl
  have al : mcall allW (mcons (mlc (miR1 (mcons (mcon (.int (L : Int))) mnil)) (.nm 3) myes (mcall (rightB ks) (mcons (mvar 2) mnil)) [3]) mnil) r s = some (.bl true, s2) := by
    rw [call1 lc]
    have it : lstOf (.ref s1.sz) s2 = some (List.replicate L (.bl true)) := by
      show items (.ref s1.sz) s2 = _
      show (match s2.get s1.sz with
        | some (.lst ws) => some ws
        | _ => none) = _
      rw [g2]
    show ((lstOf (.ref s1.sz) s2).ob fun xs => (boolsOf xs).om fun bs => (Mv.bl (bs.all id), s2)) = _
    rw [it, ob_of, bools_rep, om_of]
    rw [show (List.replicate L true).all id = true by simp]
  have nt : mnot (mtst (mcall allW (mcons (mlc (miR1 (mcons (mcon (.int (L : Int))) mnil)) (.nm 3) myes (mcall (rightB ks) (mcons (mvar 2) mnil)) [3]) mnil))) r s = some (false, s2) := by
    unfold mnot mtst
    rw [al]
    rfl
  unfold lapB sif
  rw [nt]
  rfl
theorem sseq_nx {A B : Fs} {r r' : Me} {s s' : Ms} (h : A r s = some (.nx, r', s')) : sseq A B r s = B r' s' := by
  unfold sseq
  rw [h]
  rfl
theorem fnM_rt {B : Fs} {w v : Mv} {s s' : Ms} {r' : Me} (h : B [some w, none, none, none] s = some (.rt v, r', s')) : fnM 1 4 B [w] s = some (v, s') := by
  show ((B [some w, none, none, none] s).ob fun x => match x.1 with
    | .rt w => some (w, x.2.2)
    | .nx => some (Mv.non, x.2.2)
    | _ => none) = _
  rw [h]
  rfl
theorem law_gen {bx : Fn} {ks : List Int} {R L : Nat} (hb : BoxFn bx) (hR : R ≤ 100) (hL : L ≤ 100) (hk : ks.length ≤ 1000) (ns : List Int) : ∃ s', fnM 1 4 (lawB bx (rightB ks) (R : Int) (L : Int)) [.fl (ns.map .int)] ⟨0, .nil⟩ = some (.bl true, s') := by
  obtain ⟨N, hN, hN2⟩ : ∃ N : Nat, N ≤ 101 ∧ (1 + (if ((ns.map Mv.int).length : Int) < (R : Int) then ((ns.map Mv.int).length : Int) else (R : Int)) : Int) = (N : Int) := by
    by_cases h : ((ns.map Mv.int).length : Int) < (R : Int)
    · rw [if_pos h]; exact ⟨1 + (ns.map Mv.int).length, by omega, by omega⟩
    · rw [if_neg h]; exact ⟨1 + R, by omega, by omega⟩
  have okN : okI (N : Int) = true := by unfold okI; rw [decide_eq_true (by omega), decide_eq_true (by omega)]; rfl
  have i1 : miR1 (mcons (mop2 addW (mcon (.int 1)) (mcall min2W (mcons (mcon (.int R)) (mcons (mcall lenW (mcons (mvar 0) mnil)) mnil)))) mnil) [some (.fl (ns.map .int)), none, none, none] ⟨0, .nil⟩ = some (.rng 0 N, ⟨0, .nil⟩) := by
    show cond (okI (1 + (if ((ns.map Mv.int).length : Int) < (R : Int) then ((ns.map Mv.int).length : Int) else (R : Int)) : Int)) (some (It0.rng 0 (1 + (if ((ns.map Mv.int).length : Int) < (R : Int) then ((ns.map Mv.int).length : Int) else (R : Int)) : Int).toNat, (⟨0, .nil⟩ : Ms))) none = _
    rw [hN2, okN]
    rfl
  obtain ⟨r', s', e, _⟩ := loop_rng (T := .nm 1) (B := sseq (sset 2 (mcall bx (mcons (mvar 0) (mcons (mvar 1) mnil)))) (lapB (rightB ks) L)) (lo := 0) (n := N) (fun i r s => s.sz = 2 * i ∧ ∃ x y z, r = [some (.fl (ns.map .int)), x, y, z]) (fun i r s hi ⟨hz, x, y, z, hr⟩ => by
    subst hr
    obtain ⟨A, C, a1, a2, a3, a4⟩ := hb ns (0 + i) s (by omega) (by omega)
    obtain ⟨s1, e1, z1, g1⟩ := alloc_ok (s := s) (o := .lst [.int A, .int C, .int 0]) (by omega)
    have nl : newL [.int A, .int C, .int 0] s = some (.ref s.sz, s1) := by
      unfold newL
      rw [e1]
      rfl
    rw [nl] at a4
    obtain ⟨s2, e2, z2⟩ := lap_ok (ks := ks) (L := L) hL hk (r := [some (.fl (ns.map .int)), some (.int (0 + i)), some (.ref s.sz), z]) (s := s1) (b := s.sz) rfl (by omega) (by omega) g1 a1 a2 a3
    refine ⟨_, [some (.fl (ns.map .int)), some (.int (0 + i)), some (.ref s.sz), z], s2, rfl, ?_, by omega, _, _, _, rfl⟩
    have st : sset 2 (mcall bx (mcons (mvar 0) (mcons (mvar 1) mnil))) [some (.fl (ns.map .int)), some (.int (0 + i)), y, z] s = some (.nx, [some (.fl (ns.map .int)), some (.int (0 + i)), some (.ref s.sz), z], s1) := by
      show (bx [.fl (ns.map .int), .int (0 + i)] s).om _ = _
      rw [a4]
      rfl
    exact (sseq_nx st).trans e2) 99999 0 [some (.fl (ns.map .int)), none, none, none] ⟨0, .nil⟩ (by omega) (by omega) ⟨rfl, _, _, _, rfl⟩
  refine ⟨s', ?_⟩
  have st : sfor (miR1 (mcons (mop2 addW (mcon (.int 1)) (mcall min2W (mcons (mcon (.int R)) (mcons (mcall lenW (mcons (mvar 0) mnil)) mnil)))) mnil)) (.nm 1) (sseq (sset 2 (mcall bx (mcons (mvar 0) (mcons (mvar 1) mnil)))) (lapB (rightB ks) L)) [some (.fl (ns.map .int)), none, none, none] ⟨0, .nil⟩ = some (.nx, r', s') := by
    unfold sfor
    rw [i1, ob_of]
    exact e
  exact fnM_rt ((sseq_nx st).trans rfl)

end
section
/-! ### keys of dicts -/
noncomputable def kEq (a : NestedKey) : NestedKey → Bool :=
  @NestedKey.rec (fun _ => NestedKey → Bool) (fun _ => List NestedKey → Bool)
    (fun b => NestedKey.casesOn (motive_1 := fun _ => Bool) b true (fun _ => false) (fun _ => false) (fun _ => false))
    (fun i b => NestedKey.casesOn (motive_1 := fun _ => Bool) b false (fun j => iEq i j) (fun _ => false) (fun _ => false))
    (fun x b => NestedKey.casesOn (motive_1 := fun _ => Bool) b false (fun _ => false) (fun y => strEq x y) (fun _ => false))
    (fun _ ih b => NestedKey.casesOn (motive_1 := fun _ => Bool) b false (fun _ => false) (fun _ => false) (fun ls => ih ls))
    (fun l => List.casesOn (motive := fun _ => Bool) l true (fun _ _ => false))
    (fun _ _ ih1 ih2 l => List.casesOn (motive := fun _ => Bool) l false (fun b bs => cond (ih1 b) (ih2 bs) false)) a
noncomputable def kEqs (a : List NestedKey) : List NestedKey → Bool :=
  @NestedKey.rec_1 (fun _ => NestedKey → Bool) (fun _ => List NestedKey → Bool)
    (fun b => NestedKey.casesOn (motive_1 := fun _ => Bool) b true (fun _ => false) (fun _ => false) (fun _ => false))
    (fun i b => NestedKey.casesOn (motive_1 := fun _ => Bool) b false (fun j => iEq i j) (fun _ => false) (fun _ => false))
    (fun x b => NestedKey.casesOn (motive_1 := fun _ => Bool) b false (fun _ => false) (fun y => strEq x y) (fun _ => false))
    (fun _ ih b => NestedKey.casesOn (motive_1 := fun _ => Bool) b false (fun _ => false) (fun _ => false) (fun ls => ih ls))
    (fun l => List.casesOn (motive := fun _ => Bool) l true (fun _ _ => false))
    (fun _ _ ih1 ih2 l => List.casesOn (motive := fun _ => Bool) l false (fun b bs => cond (ih1 b) (ih2 bs) false)) a
mutual
theorem kEq_beq : ∀ a b : NestedKey, kEq a b = NestedKey.beq a b
  | .none, b => by cases b <;> rfl
  | .num i, b => by
    cases b with
    | num j => exact iEq_eq i j
    | _ => rfl
  | .text x, b => by
    cases b with
    | text y => exact strEq_eq x y
    | _ => rfl
  | .tup ks, b => by
    cases b with
    | tup ls => exact kEqs_beq ks ls
    | _ => rfl
theorem kEqs_beq : ∀ a b : List NestedKey, kEqs a b = NestedKey.beqAll a b
  | [], b => by cases b <;> rfl
  | k :: ks, b => by
    cases b with
    | nil => rfl
    | cons l ls =>
      show cond (kEq k l) (kEqs ks ls) false = (NestedKey.beq k l && NestedKey.beqAll ks ls)
      rw [kEq_beq k l, kEqs_beq ks ls]
      cases NestedKey.beq k l <;> rfl
end
theorem kEq_eq (a b : NestedKey) : kEq a b = decide (a = b) := by rw [kEq_beq, NestedKey.decide_eq]
noncomputable def toK (w : Mv) : Nat → Option NestedKey :=
  @Mv.rec (fun _ => Nat → Option NestedKey) (fun _ => Nat → Option (List NestedKey))
    (fun _ => some .none) (fun b _ => some (.num (if b = true then 1 else 0))) (fun i _ => some (.num i)) (fun x _ => some (.text x))
    (fun _ ih n => Nat.rec (motive := fun _ => Option NestedKey) none (fun m _ => (ih m).om fun ks => .tup ks) n)
    (fun _ _ => none) (fun _ _ => none) (fun _ _ _ => none) (fun _ _ => none)
    (fun _ => some []) (fun _ _ ih1 ih2 n => (ih1 n).ob fun k => (ih2 n).om fun ks => k :: ks) w
noncomputable def toKs (ws : List Mv) : Nat → Option (List NestedKey) :=
  @Mv.rec_1 (fun _ => Nat → Option NestedKey) (fun _ => Nat → Option (List NestedKey))
    (fun _ => some .none) (fun b _ => some (.num (if b = true then 1 else 0))) (fun i _ => some (.num i)) (fun x _ => some (.text x))
    (fun _ ih n => Nat.rec (motive := fun _ => Option NestedKey) none (fun m _ => (ih m).om fun ks => .tup ks) n)
    (fun _ _ => none) (fun _ _ => none) (fun _ _ _ => none) (fun _ _ => none)
    (fun _ => some []) (fun _ _ ih1 ih2 n => (ih1 n).ob fun k => (ih2 n).om fun ks => k :: ks) ws
mutual
theorem toK_ok : ∀ (w : Mv) (n : Nat) (k : NestedKey), toK w n = some k → KeyM k w ∧ k.depth ≤ n
  | .non, n, k, h => by cases h; exact ⟨.non, Nat.zero_le _⟩
  | .bl b, n, k, h => by cases h; exact ⟨.bl b, Nat.zero_le _⟩
  | .int i, n, k, h => by cases h; exact ⟨.int i, Nat.zero_le _⟩
  | .str x, n, k, h => by cases h; exact ⟨.str x, Nat.zero_le _⟩
  | .tup ws, 0, k, h => by cases h
  | .tup ws, n + 1, k, h => by
    obtain ⟨ks, h1, h2⟩ := omap_some.mp (show (toKs ws n).om (fun ks => NestedKey.tup ks) = some k from h)
    subst h2
    obtain ⟨a, b⟩ := toKs_ok ws n ks h1
    exact ⟨.tup a, by show NestedKey.depthAll ks + 1 ≤ n + 1; omega⟩
  | .ref _, n, k, h => by cases h
  | .ty _, n, k, h => by cases h
  | .fl _, n, k, h => by cases h
  | .cls _, n, k, h => by cases h
theorem toKs_ok : ∀ (ws : List Mv) (n : Nat) (ks : List NestedKey), toKs ws n = some ks → KeyMs ks ws ∧ NestedKey.depthAll ks ≤ n
  | [], n, ks, h => by cases h; exact ⟨.nil, Nat.zero_le _⟩
  | w :: ws, n, ks, h => by
    obtain ⟨k, h1, h2⟩ := ob_some.mp (show (toK w n).ob (fun k => (toKs ws n).om fun ks => k :: ks) = some ks from h)
    obtain ⟨ls, h3, h4⟩ := omap_some.mp h2
    subst h4
    obtain ⟨a, b⟩ := toK_ok w n k h1
    obtain ⟨c, d⟩ := toKs_ok ws n ls h3
    exact ⟨.cons a c, by show max k.depth (NestedKey.depthAll ls) ≤ n; omega⟩
end
section
variable {X : Cx} {pins : List (Addr × Obj)} {σ : L2.St} {H : Hp} {s : Shared} {G : Mg} {p : List Addr}
mutual
theorem KeyM.is (I : Inv X pins σ H s) (hK : X.K = G.K) : ∀ {k : NestedKey} {w : Mv} {v : V} {u : Value}, KeyM k w → Den G p H w v → RelV v u → NestedIs s.heap k u
  | _, _, _, _, .non, d, r => by cases d; cases r; exact .none
  | _, _, _, _, .bl b, d, r => by cases d; cases r; exact .bool rfl
  | _, _, _, _, .int i, d, r => by cases d; obtain ⟨t, rfl⟩ := r; exact .int i t
  | _, _, _, _, .str x, d, r => by cases d; obtain ⟨t, rfl⟩ := r; exact .text x t
  | _, _, _, _, .tup h, d, r => by
    cases d with
    | tup h1 l =>
      cases r
      obtain ⟨its, rv, ⟨o, e, c, n, q⟩, _⟩ := I.tuple (by rw [hK]; exact h1)
      exact .tup e c q (KeyMs.is I hK h l rv)
theorem KeyMs.is (I : Inv X pins σ H s) (hK : X.K = G.K) : ∀ {ks : List NestedKey} {ws : List Mv} {vs : List V} {us : List Value}, KeyMs ks ws → DenL G p H ws vs → Vals vs us → NestedAll s.heap ks us
  | _, _, _, _, .nil, l, r => by cases l; cases r; exact .nil
  | _, _, _, _, .cons h hs, l, r => by
    cases l with
    | cons d l =>
      cases r with
      | cons r rs => exact .cons (KeyM.is I hK h d r) (KeyMs.is I hK hs l rs)
end
theorem KeyM.at (I : Inv X pins σ H s) (hK : X.K = G.K) {k : NestedKey} {w : Mv} {b : Addr} (h : KeyM k w) (hd : k.depth ≤ 8) (d : Den G p H w (.ref b)) : (nestedKind X.prog X.w).is s.heap k b := ⟨KeyM.is I hK h d rfl, hd⟩
/-! ### a dict with tuples as keys, read -/
abbrev PN := Paired (fun (x : NestedKey × Addr × V) (y : NestedKey × Addr × Value) => x.1 = y.1 ∧ x.2.1 = y.2.1 ∧ RelV x.2.2 y.2.2)
theorem DenN.keys (I : Inv X pins σ H s) (hK : X.K = G.K) : ∀ {kvs : List (NestedKey × Mv × Mv)} {xs : List (NestedKey × Addr × V)} {ys : List (NestedKey × Addr × Value)}, DenN G p H kvs xs → PN xs ys → ∀ y ∈ ys, (nestedKind X.prog X.w).is s.heap y.1 y.2.1
  | _, _, _, .nil, q, y, hy => by cases q; cases hy
  | _, _, _, .cons a b c d l, q, y, hy => by
    cases q with
    | cons r t =>
      rcases List.mem_cons.mp hy with e | hy
      · subst e
        obtain ⟨r1, r2, _⟩ := r
        rw [← r1, ← r2]
        exact a.at I hK b c
      · exact l.keys I hK t y hy
theorem nd_rd (I : Inv X pins σ H s) (hK : X.K = G.K) {a : Addr} {kvs : List (NestedKey × Mv × Mv)} {xs : List (NestedKey × Addr × V)} (e : Rd H a (NDo X.prog X.w a xs)) (l : DenN G p H kvs xs) :
    xs.length ≤ sizeLine ∧ (a == sysModules) = false ∧ ∃ ys, PN xs ys ∧ s.heap.DictOfH (nestedKind X.prog X.w) a ys := by
  obtain ⟨⟨z, y, ys, r, o, es, ep, h1, h2, h3, h4, h5⟩, _⟩ := e.ok I.hok
  exact ⟨z, y, ys, r, o, es, ep, h1, h2, h3, h4, l.keys I hK r, h5⟩
noncomputable def dnGet (nk : NestedKey) (kvs : List (NestedKey × Mv × Mv)) : Option Mv := List.rec (motive := fun _ => Option Mv) none (fun e _ ih => cond (kEq e.1 nk) (some e.2.2) ih) kvs
noncomputable def dnPut (nk : NestedKey) (kw v : Mv) (kvs : List (NestedKey × Mv × Mv)) : List (NestedKey × Mv × Mv) := List.rec (motive := fun _ => List (NestedKey × Mv × Mv)) [(nk, kw, v)] (fun e es ih => cond (kEq e.1 nk) ((e.1, e.2.1, v) :: es) (e :: ih)) kvs
theorem dnGet_cons {nk : NestedKey} {e : NestedKey × Mv × Mv} {es : List (NestedKey × Mv × Mv)} : dnGet nk (e :: es) = if e.1 = nk then some e.2.2 else dnGet nk es := by
  show cond (kEq e.1 nk) (some e.2.2) (dnGet nk es) = _
  rw [kEq_eq]
  by_cases h : e.1 = nk
  · rw [if_pos h, decide_eq_true h]; rfl
  · rw [if_neg h, decide_eq_false h]; rfl
theorem dnPut_cons {nk : NestedKey} {kw v : Mv} {e : NestedKey × Mv × Mv} {es : List (NestedKey × Mv × Mv)} : dnPut nk kw v (e :: es) = if e.1 = nk then (e.1, e.2.1, v) :: es else e :: dnPut nk kw v es := by
  show cond (kEq e.1 nk) ((e.1, e.2.1, v) :: es) (e :: dnPut nk kw v es) = _
  rw [kEq_eq]
  by_cases h : e.1 = nk
  · rw [if_pos h, decide_eq_true h]; rfl
  · rw [if_neg h, decide_eq_false h]; rfl
theorem atKey_cons {k : NestedKey} {y : NestedKey × Addr × Value} {ys : List (NestedKey × Addr × Value)} : atKey (y :: ys) k = if y.1 = k then some y.2 else atKey ys k := by
  unfold atKey
  rw [List.find?_cons]
  by_cases h : y.1 = k
  · rw [if_pos h, decide_eq_true h]; rfl
  · rw [if_neg h, decide_eq_false h]
theorem dn_get {nk : NestedKey} : ∀ {kvs : List (NestedKey × Mv × Mv)} {xs : List (NestedKey × Addr × V)} {ys : List (NestedKey × Addr × Value)}, DenN G p H kvs xs → PN xs ys →
    (dnGet nk kvs = none → atKey ys nk = none) ∧ ∀ w, dnGet nk kvs = some w → ∃ q v, atKey ys nk = some q ∧ Den G p H w v ∧ RelV v q.2
  | _, _, _, .nil, q => by cases q; exact ⟨fun _ => rfl, fun w h => by cases h⟩
  | _, _, _, .cons (k := k) (kw := kw) (w := w0) a b c d l, q => by
    cases q with
    | cons r t =>
      obtain ⟨r1, r2, r3⟩ := r
      have ih := dn_get (nk := nk) l t
      rw [dnGet_cons, atKey_cons]
      by_cases h : k = nk
      · rw [if_pos h, if_pos (r1.symm.trans h)]
        exact ⟨fun z => (by cases z), fun w z => by cases z; exact ⟨_, _, rfl, d, r3⟩⟩
      · rw [if_neg h, if_neg (fun z => h (r1.trans z))]
        exact ih
def stRec (k : NestedKey) (a : Addr) {α : Type} (v : α) : List (NestedKey × Addr × α) → List (NestedKey × Addr × α)
  | [] => [(k, a, v)]
  | y :: ys => if y.1 = k then (y.1, y.2.1, v) :: ys else y :: stRec k a v ys
theorem storedH_rec {k : NestedKey} {a : Addr} {v : Value} : ∀ {ys : List (NestedKey × Addr × Value)}, (ys.map (·.1)).Nodup → storedH ys k a v = stRec k a v ys
  | [], _ => rfl
  | y :: ys, nd => by
    rw [List.map_cons, List.nodup_cons] at nd
    have ih := storedH_rec (k := k) (a := a) (v := v) nd.2
    unfold stRec
    by_cases h : y.1 = k
    · have e : atKey (y :: ys) k = some y.2 := by rw [atKey_cons, if_pos h]
      rw [storedH_old e, if_pos h, List.map_cons]
      have e2 : ys.map (putAt k v) = ys := by
        rw [List.map_congr_left (g := id), List.map_id]
        intro x hx
        exact if_neg fun z => nd.1 (by rw [h, ← z]; exact List.mem_map_of_mem hx)
      rw [e2]
      unfold putAt
      rw [if_pos h]
    · rw [if_neg h, ← ih]
      have e : atKey (y :: ys) k = atKey ys k := by rw [atKey_cons, if_neg h]
      cases q : atKey ys k with
      | none => rw [storedH_new (e.trans q), storedH_new q]; rfl
      | some z =>
        rw [storedH_old (e.trans q), storedH_old q, List.map_cons]
        unfold putAt
        rw [if_neg h]
theorem PN.put {k : NestedKey} {a : Addr} {v : V} {u : Value} (rv : RelV v u) : ∀ {xs : List (NestedKey × Addr × V)} {ys : List (NestedKey × Addr × Value)}, PN xs ys → PN (stRec k a v xs) (stRec k a u ys)
  | _, _, .nil => .cons ⟨rfl, rfl, rv⟩ .nil
  | _, _, .cons (a := x) (b := y) r t => by
    unfold stRec
    by_cases h : x.1 = k
    · rw [if_pos h, if_pos (r.1.symm.trans h)]
      exact .cons ⟨r.1, r.2.1, rv⟩ t
    · rw [if_neg h, if_neg (fun z => h (r.1.trans z))]
      exact .cons r (PN.put rv t)
theorem DenN.put {k : NestedKey} {kw w : Mv} {b : Addr} {v : V} (hk : KeyM k kw) (hd : k.depth ≤ 8) (dk : Den G p H kw (.ref b)) (dv : Den G p H w v) : ∀ {kvs : List (NestedKey × Mv × Mv)} {xs : List (NestedKey × Addr × V)}, DenN G p H kvs xs → DenN G p H (dnPut k kw w kvs) (stRec k b v xs)
  | _, _, .nil => .cons hk hd dk dv .nil
  | _, _, .cons (k := k') a1 a2 a3 a4 l => by
    rw [dnPut_cons]
    unfold stRec
    by_cases h : k' = k
    · rw [if_pos h, if_pos h]; exact .cons a1 a2 a3 dv l
    · rw [if_neg h, if_neg h]; exact .cons a1 a2 a3 a4 (DenN.put hk hd dk dv l)
theorem stRec_len {k : NestedKey} {a : Addr} {α : Type} {v : α} : ∀ (ys : List (NestedKey × Addr × α)), (stRec k a v ys).length ≤ ys.length + 1
  | [] => Nat.le_refl _
  | y :: ys => by
    unfold stRec
    split
    · simp
    · have := stRec_len (k := k) (a := a) (v := v) ys
      simp only [List.length_cons]; omega
theorem DenN.length : ∀ {kvs : List (NestedKey × Mv × Mv)} {xs : List (NestedKey × Addr × V)}, DenN G p H kvs xs → kvs.length = xs.length
  | _, _, .nil => rfl
  | _, _, .cons _ _ _ _ l => congrArg Nat.succ l.length
end

end
section
/-! ### dicts: the mirror's words -/
noncomputable def kyEq (a b : Key) : Bool := Sum.rec (motive := fun _ => Bool) (fun i => Sum.rec (motive := fun _ => Bool) (fun j => iEq i j) (fun _ => false) b) (fun x => Sum.rec (motive := fun _ => Bool) (fun _ => false) (fun y => strEq x y) b) a
theorem kyEq_eq (a b : Key) : kyEq a b = decide (a = b) := by
  cases a with
  | inl i => cases b with
    | inl j => show iEq i j = _; rw [iEq_eq]; exact decide_eq_decide.mpr ⟨fun h => by rw [h], fun h => Sum.inl.inj h⟩
    | inr y => exact (decide_eq_false (fun h => by cases h)).symm
  | inr x => cases b with
    | inl j => exact (decide_eq_false (fun h => by cases h)).symm
    | inr y => show strEq x y = _; rw [strEq_eq]; exact decide_eq_decide.mpr ⟨fun h => by rw [h], fun h => Sum.inr.inj h⟩
noncomputable def key1 : Mv → Option Key
  | .int i => some (.inl i)
  | .str x => some (.inr x)
  | _ => none
noncomputable def keyT (w : Mv) : Option NestedKey := match w with
  | .tup _ => toK w 8
  | _ => none
noncomputable def dkGet (k : Key) (kvs : List (Key × Mv)) : Option Mv := List.rec (motive := fun _ => Option Mv) none (fun e _ ih => cond (kyEq e.1 k) (some e.2) ih) kvs
noncomputable def dkRep (k : Key) (v : Mv) (kvs : List (Key × Mv)) : List (Key × Mv) := List.rec (motive := fun _ => List (Key × Mv)) [] (fun e _ ih => cond (kyEq e.1 k) (e.1, v) e :: ih) kvs
noncomputable def dkPut (k : Key) (v : Mv) (kvs : List (Key × Mv)) : List (Key × Mv) := Option.rec (motive := fun _ => List (Key × Mv)) (lapp kvs [(k, v)]) (fun _ => dkRep k v kvs) (dkGet k kvs)
/-- what a dict holds at a key: no answer where the mirror does not know -/
noncomputable def dgetO (o : Mo) (k : Mv) : Option (Option Mv) := match o with
  | .dk kvs => match key1 k with
    | some ky => some (dkGet ky kvs)
    | none => match kvs with
      | [] => (keyT k).om fun _ => none
      | _ => none
  | .lk kvs => match key1 k with
    | some ky => some (dkGet ky kvs)
    | none => none
  | .dn kvs => (keyT k).om fun nk => dnGet nk kvs
  | .ln kvs => (keyT k).om fun nk => dnGet nk kvs
  | _ => none
noncomputable def dputO (o : Mo) (k v : Mv) : Option Mo := match o with
  | .dk kvs => match key1 k with
    | some ky => cond (Nat.blt (llen kvs) 16777216) (some (.dk (dkPut ky v kvs))) none
    | none => match kvs with
      | [] => (keyT k).om fun nk => .dn [(nk, k, v)]
      | _ => none
  | .dn kvs => cond (Nat.blt (llen kvs) 16777216) ((keyT k).om fun nk => .dn (dnPut nk k v kvs)) none
  | _ => none
section
variable {X : Cx} {pins : List (Addr × Obj)} {σ : L2.St} {H : Hp} {s : Shared} {G : Mg} {p : List Addr}
theorem keyT_ok {w : Mv} {k : NestedKey} (h : keyT w = some k) : (∃ ws, w = .tup ws) ∧ KeyM k w ∧ k.depth ≤ 8 := by
  cases w with
  | tup ws => exact ⟨⟨ws, rfl⟩, toK_ok _ _ _ h⟩
  | _ => cases h
theorem key1_ok {w : Mv} {k : Key} (h : key1 w = some k) {v : V} (d : Den G p H w v) : v = kV k := by
  cases w with
  | int i => cases h; cases d; rfl
  | str x => cases h; cases d; rfl
  | _ => cases h
/-- keys alike, values denoted -/
abbrev DK (G : Mg) (p : List Addr) (H : Hp) (kvs : List (Key × Mv)) (kvs' : List (Key × V)) : Prop := kvs'.map (·.1) = kvs.map (·.1) ∧ DenL G p H (kvs.map (·.2)) (kvs'.map (·.2))
theorem DK.inv {kvs : List (Key × Mv)} {kvs' : List (Key × V)} (h : DK G p H kvs kvs') : Paired (fun (a : Key × Mv) (b : Key × V) => a.1 = b.1 ∧ Den G p H a.2 b.2) kvs kvs' := by
  obtain ⟨h1, h2⟩ := h
  induction kvs generalizing kvs' with
  | nil =>
    cases kvs' with
    | nil => exact .nil
    | cons _ _ => cases h1
  | cons e es ih =>
    cases kvs' with
    | nil => cases h1
    | cons e' es' =>
      rw [List.map_cons, List.map_cons] at h1
      injection h1 with g1 g2
      cases h2 with
      | cons d l => exact .cons ⟨g1.symm, d⟩ (ih g2 l)
theorem DK.of {kvs : List (Key × Mv)} {kvs' : List (Key × V)} (h : Paired (fun (a : Key × Mv) (b : Key × V) => a.1 = b.1 ∧ Den G p H a.2 b.2) kvs kvs') : DK G p H kvs kvs' := by
  induction h with
  | nil => exact ⟨rfl, .nil⟩
  | cons r t ih => exact ⟨by rw [List.map_cons, List.map_cons, ih.1, r.1], .cons r.2 ih.2⟩
theorem dkGet_cons {k : Key} {e : Key × Mv} {es : List (Key × Mv)} : dkGet k (e :: es) = if e.1 = k then some e.2 else dkGet k es := by
  show cond (kyEq e.1 k) (some e.2) (dkGet k es) = _
  rw [kyEq_eq]
  by_cases h : e.1 = k
  · rw [if_pos h, decide_eq_true h]; rfl
  · rw [if_neg h, decide_eq_false h]; rfl
theorem dk_get {k : Key} {kvs : List (Key × Mv)} {kvs' : List (Key × V)} (h : Paired (fun (a : Key × Mv) (b : Key × V) => a.1 = b.1 ∧ Den G p H a.2 b.2) kvs kvs') : (dkGet k kvs = none → valV kvs' k = none) ∧ ∀ w, dkGet k kvs = some w → ∃ v, valV kvs' k = some v ∧ Den G p H w v := by
  induction h with
  | nil => exact ⟨fun _ => rfl, fun w z => by cases z⟩
  | cons r t ih =>
    rename_i a b as bs
    rw [dkGet_cons]
    by_cases h : a.1 = k
    · rw [if_pos h, valV_pos (r.1.symm.trans h)]
      exact ⟨fun z => (by cases z), fun w z => by cases z; exact ⟨_, rfl, r.2⟩⟩
    · rw [if_neg h, valV_neg (fun z => h (r.1.trans z))]
      exact ih
theorem dkRep_den {k : Key} {w : Mv} {v : V} (d : Den G p H w v) {kvs : List (Key × Mv)} {kvs' : List (Key × V)} (h : Paired (fun (a : Key × Mv) (b : Key × V) => a.1 = b.1 ∧ Den G p H a.2 b.2) kvs kvs') :
    Paired (fun (a : Key × Mv) (b : Key × V) => a.1 = b.1 ∧ Den G p H a.2 b.2) (dkRep k w kvs) (kvs'.map fun kv => if kv.1 = k then (kv.1, v) else kv) := by
  induction h with
  | nil => exact .nil
  | cons r t ih =>
    rename_i a b as bs
    rw [List.map_cons]
    show Paired _ (cond (kyEq a.1 k) (a.1, w) a :: dkRep k w as) _
    refine .cons ?_ ih
    rw [kyEq_eq]
    by_cases h : a.1 = k
    · rw [decide_eq_true h, if_pos (r.1.symm.trans h)]; exact ⟨r.1, d⟩
    · rw [decide_eq_false h, if_neg (fun z => h (r.1.trans z))]; exact r
theorem dk_put {k : Key} {w : Mv} {v : V} (d : Den G p H w v) {kvs : List (Key × Mv)} {kvs' : List (Key × V)} (h : DK G p H kvs kvs') : DK G p H (dkPut k w kvs) (putK kvs' k v) := by
  have P := h.inv
  have g := dk_get (k := k) P
  unfold dkPut putK
  rw [valV_any]
  cases e : dkGet k kvs with
  | none =>
    rw [g.1 e, if_neg (by simp), lapp_eq]
    refine DK.of (Paired.snoc P ⟨rfl, d⟩)
  | some z =>
    obtain ⟨v', h1, _⟩ := g.2 z e
    rw [h1, if_pos (by rfl)]
    exact DK.of (dkRep_den d P)
/-- the heap behind a store: what stands at the dict then -/
def DPA (G : Mg) (X : Cx) (H : Hp) (a : Addr) (y v : V) (ho' : HO) : Prop :=
  (∃ kvs k, H a = some (.dK kvs) ∧ y = kV k ∧ kvs.length < sizeLine ∧ ho' = .dK (putK kvs k v)) ∨
  ∃ p nk kw b, y = .ref b ∧ KeyM nk kw ∧ nk.depth ≤ 8 ∧ Den G p H kw (.ref b) ∧ ((H a = some (.dK []) ∧ ho' = NDo X.prog X.w a [(nk, b, v)]) ∨
    ∃ kvs xs, H a = some (NDo X.prog X.w a xs) ∧ DenN G p H kvs xs ∧ xs.length < sizeLine ∧ ho' = NDo X.prog X.w a (stRec nk b v xs))
/-- a dict with no entries, for tuples as keys -/
theorem dk_none {P : Program} {w : World} {h : Heap} {a : Addr} (dd : h.DictOf (mixKind P w) a []) : h.DictOfH (nestedKind P w) a [] := by
  obtain ⟨o, es, ep, h1, h2, h3, _, h5, _⟩ := dd
  refine ⟨o, es, ep, h1, h2, h3, ?_, (fun x hx => absurd hx (by simp)), List.nodup_nil⟩
  have := h5.length
  simp only [List.length_nil, Array.length_toList, Array.size_eq_zero_iff] at this
  rw [this]; rfl
theorem nd_new {P : Program} {w : World} {H' : Hp} {h' : Heap} {a : Addr} {xs : List (NestedKey × Addr × V)} {ys : List (NestedKey × Addr × Value)} (z : xs.length ≤ sizeLine) (hd : (a == sysModules) = false) (r : PN xs ys) (dd : h'.DictOfH (nestedKind P w) a ys) :
    ObjOk P w H' h' a (NDo P w a xs) := by
  obtain ⟨o, es, ep, h1, h2, h3, h4, _, h6⟩ := dd
  exact ⟨⟨z, hd, ys, r, o, es, ep, h1, h2, h3, h4, h6⟩, ⟨o, h1⟩, fun g1 g2 ⟨z, hd, ys, r, o, es, ep, h1, q⟩ k => ⟨z, hd, ys, r, o, es, ep, k o h1, q⟩⟩
theorem dpa_core {A : Around} {E : Value → Shared → Prop} {a : Addr} {y v : V} {u r : Value} {ho' : HO} {Q : Unit → Shared → Prop} {f : Value → Value → Sem Unit} (I : Inv X pins σ H s) (hK : X.K = G.K) (g : DPA G X H a y v ho') (ry : RelV y u) (rv : RelV v r) (h : ∀ s', Inv X pins σ (upd H a ho') s' → Q () s')
    (w1 : ∀ {kvs : List (Key × Value)} {k : Key} {key w : Value}, (mixKind X.prog X.w).is k key = true → s.heap.DictOf (mixKind X.prog X.w) a kvs → kvs.length ≤ sizeLine → (∀ h' t', h'.DictOf (mixKind X.prog X.w) a (stored kvs k w) → Heap.SameBut a s.heap h' → Q () { s with heap := h', toks := t' }) → wpAny (model X.prog X.w) A (f key w) Q E s)
    (w2 : ∀ {xs : List (NestedKey × Addr × Value)} {k : NestedKey} {b : Addr} {w : Value}, (nestedKind X.prog X.w).is s.heap k b → s.heap.DictOfH (nestedKind X.prog X.w) a xs → xs.length ≤ sizeLine → (∀ h' t', h'.DictOfH (nestedKind X.prog X.w) a (storedH xs k b w) → Heap.SameBut a s.heap h' → Q () { s with heap := h', toks := t' }) → wpAny (model X.prog X.w) A (f (.ref b) w) Q E s) :
    wpAny (model X.prog X.w) A (f u r) Q E s := by
  rcases g with ⟨kvs, k, e, ey, l, eH⟩ | ⟨p, nk, kw, b, ey, km, kd, dk, g⟩
  · subst ey eH
    obtain ⟨z, hd, vs, rel, dd⟩ := dk_of I.hok e
    have hl : (putK kvs k v).length ≤ sizeLine := by have := length_putK kvs k v; omega
    refine w1 (kV_is ry) dd (by rw [← rel.length]; exact z) fun h' t' dd' hs => h _ ?_
    exact d_write I (by rw [e]; exact True.intro) hs (let ⟨q, _, _, hq, _⟩ := dd'; ⟨q, hq⟩) (dk_new hl hd (rel.put k rv) dd')
  · subst ey
    cases (show u = Value.ref b from ry)
    have key := km.at I hK kd dk
    rcases g with ⟨e, eH⟩ | ⟨kvs, xs, e, l, hz, eH⟩
    · subst eH
      obtain ⟨z, hd, vs, rel, dd⟩ := dk_of I.hok e
      cases rel
      refine w2 key (dk_none dd) (Nat.zero_le _) fun h' t' dd' hs => h _ ?_
      exact d_write I (by rw [e]; exact True.intro) hs (let ⟨q, _, _, hq, _⟩ := dd'; ⟨q, hq⟩) (nd_new (by show 1 ≤ sizeLine; decide) hd (.cons ⟨rfl, rfl, rv⟩ .nil) dd')
    · subst eH
      obtain ⟨z, hd, ys, rel, dd⟩ := nd_rd I hK (.inl e) l
      have hl : (stRec nk b v xs).length ≤ sizeLine := by have := stRec_len (k := nk) (a := b) (v := v) xs; omega
      refine w2 key dd (by rw [← Paired.length rel]; exact z) fun h' t' dd' hs => h _ ?_
      rw [storedH_rec (by obtain ⟨_, _, _, _, _, _, _, _, q⟩ := dd; exact q)] at dd'
      exact d_write I (by rw [e]; exact True.intro) hs (let ⟨q, _, _, hq, _⟩ := dd'; ⟨q, hq⟩) (nd_new hl hd (PN.put rv rel) dd')
theorem dpa_setItem {A : Around} {E : Value → Shared → Prop} {a : Addr} {y v : V} {u r : Value} {ho' : HO} {Q : Unit → Shared → Prop} (hu : A.units + 64 < cLine) (I : Inv X pins σ H s) (hK : X.K = G.K) (g : DPA G X H a y v ho') (ry : RelV y u) (rv : RelV v r) (h : ∀ s', Inv X pins σ (upd H a ho') s' → Q () s') :
    wpAny (model X.prog X.w) A (setItem (.ref a) u r) Q E s :=
  dpa_core (f := fun u r => setItem (.ref a) u r) I hK g ry rv h (fun k d z q => wpAny_setItem_pairs (hsz := z) k d fun h' dd hs => q h' _ dd hs)
    (fun k d z q => wpAny_setItem_heap (hsz := z) (show A.in1.units + 8 < cLine by rw [Around.in1_units]; omega) k d fun h' dd hs => q h' _ dd hs)
theorem dpa_dictSet {A : Around} {E : Value → Shared → Prop} {a : Addr} {y v : V} {u r : Value} {ho' : HO} {Q : Unit → Shared → Prop} (hu : A.units + 64 < cLine) (I : Inv X pins σ H s) (hK : X.K = G.K) (g : DPA G X H a y v ho') (ry : RelV y u) (rv : RelV v r) (h : ∀ s', Inv X pins σ (upd H a ho') s' → Q () s') :
    wpAny (model X.prog X.w) A (dictSet a u r) Q E s :=
  dpa_core (f := fun u r => dictSet a u r) I hK g ry rv h (fun k d z q => wpAny_dictSet_pairs (hsz := z) k d fun h' dd hs => q h' _ dd hs)
    (fun k d z q => wpAny_dictSet_heap (hsz := z) (show A.units + 8 < cLine by omega) k d fun h' dd hs => q h' _ dd hs)
/-- a store of the mirror is a store of the heap -/
theorem dputO_at {a : Addr} {ho : HO} {o o' : Mo} {kw w : Mv} {y v : V} (hP : X.prog = G.P) (hw : X.w = G.w) (h1 : H a = some ho) (d : DenO G p H a o ho) (q : dputO o kw w = some o') (dk : Den G p H kw y) (dv : Den G p H w v) :
    ∃ ho', DPA G X H a y v ho' ∧ DenO G p H a o' ho' ∧ (∀ vs, ho' ≠ .tup vs) ∧ unl o = true := by
  cases o with
  | dk kvs =>
    obtain ⟨kvs', rfl, c1, c2⟩ := d
    have c : DK G p H kvs kvs' := ⟨c1, c2⟩
    have hl : kvs.length = kvs'.length := by have := congrArg List.length c1; simpa using this.symm
    unfold dputO at q
    simp only at q
    cases ek : key1 kw with
    | some ky =>
      rw [ek] at q
      simp only [llen_eq] at q
      cases eb : Nat.blt kvs.length 16777216 with
      | false => rw [eb] at q; cases q
      | true =>
        rw [eb] at q; cases q
        have hz : kvs'.length < sizeLine := by rw [sz_eq, ← hl]; exact Nat.blt_eq.mp eb
        have := key1_ok ek dk
        exact ⟨_, .inl ⟨kvs', ky, h1, this, hz, rfl⟩, ⟨_, rfl, (dk_put dv c).1, (dk_put dv c).2⟩, fun _ z => (by cases z), rfl⟩
    | none =>
      rw [ek] at q
      cases kvs with
      | cons _ _ => cases q
      | nil =>
        cases kvs' with
        | cons _ _ => cases c1
        | nil =>
          obtain ⟨nk, g1, g2⟩ := omap_some.mp q
          subst g2
          obtain ⟨⟨ws, rfl⟩, km, kd⟩ := keyT_ok g1
          obtain ⟨b, vs, rfl, _, _⟩ := dk.tup_inv
          exact ⟨_, .inr ⟨p, nk, _, b, rfl, km, kd, dk, .inl ⟨h1, rfl⟩⟩, ⟨_, by rw [hP, hw], .cons km kd dk dv .nil⟩, fun _ z => (by cases z), rfl⟩
  | dn kvs =>
    obtain ⟨xs, rfl, l⟩ := d
    unfold dputO at q
    simp only [llen_eq] at q
    cases eb : Nat.blt kvs.length 16777216 with
    | false => rw [eb] at q; cases q
    | true =>
      rw [eb] at q
      obtain ⟨nk, g1, g2⟩ := omap_some.mp (show (keyT kw).om _ = some o' from q)
      subst g2
      obtain ⟨⟨ws, rfl⟩, km, kd⟩ := keyT_ok g1
      obtain ⟨b, vs, rfl, _, _⟩ := dk.tup_inv
      have hz : xs.length < sizeLine := by rw [sz_eq, ← l.length]; exact Nat.blt_eq.mp eb
      exact ⟨_, .inr ⟨p, nk, _, b, rfl, km, kd, dk, .inr ⟨kvs, xs, by rw [hP, hw]; exact h1, l, hz, rfl⟩⟩, ⟨_, by rw [hP, hw], DenN.put km kd dk dv l⟩, fun _ z => (by cases z), rfl⟩
  | _ => cases q
theorem dputO_ok {n : Nat} {a : Addr} {ms : Ms} {o o' : Mo} {kw w : Mv} {y v : V} (hP : X.prog = G.P) (hw : X.w = G.w) (S : Sim G p ms H) (hn : p[n]? = some a) (e : ms.get n = some o) (q : dputO o kw w = some o') (dk : Den G p H kw y) (dv : Den G p H w v) :
    ∃ ho', DPA G X H a y v ho' ∧ DenO G p H a o' ho' ∧ (∀ vs, ho' ≠ .tup vs) ∧ unl o = true :=
  let ⟨_, h1, d⟩ := S.get hn e
  dputO_at hP hw h1 d q dk dv
/-! ### d[k] = v -/
def rSetM (G : Mg) (X : Cx) : TSet := fun o i v H Q => rSetL o i v H Q ∨ ∃ a ho', o = .ref a ∧ DPA G X H a i v ho' ∧ Q (upd H a ho')
theorem set_any (hu : X.A.units + 64 < cLine) (hK : X.K = G.K) : PSet X (rSetM G X) := by
  intro pins s σ H o i v ov iv u Q I ro ri rv h
  rcases h with h | ⟨a, ho', rfl, g, q⟩
  · exact set_list pins s σ H o i v ov iv u Q I ro ri rv h
  · cases (show ov = Value.ref a from ro)
    exact dpa_setItem hu I hK g ri rv fun s' I' => ⟨_, I', q⟩
noncomputable def ssubA (O I A : Fe) : Fs := fun r s => (A r s).ob fun v => (O r v.2).ob fun o => (I r o.2).ob fun i => match o.1 with
  | .ref n => match i.2.get n with
    | some (.lst xs) => (match i.1 with
      | .int k => (ixN xs.length k).om fun j => (.nx, r, i.2.put n (.lst (xs.set j v.1)))
      | _ => none)
    | some d => (dputO d i.1 v.1).om fun d' => (.nx, r, i.2.put n d')
    | none => none
  | _ => none
variable {o : Expr} {pos : Pos}
theorem sm_subA {O I A : Fe} {i v : Expr} {tp : Pos} (h : PS X (.Assign [.Subscript o i tp] v pos) (tAsg (tI G A) (gSub (tI G O) (tI G I) (rSetM G X)))) (hP : X.prog = G.P := by rfl) (hw : X.w = G.w := by rfl) : PS X (.Assign [.Subscript o i tp] v pos) (tS G (ssubA O I A)) := ps_imp h fun D σ H ⟨p, s, r, fl, r', s', S, E, q, k⟩ => by
  obtain ⟨⟨y, s1⟩, q1, q2⟩ := ob_some.mp q
  obtain ⟨⟨x, s2⟩, q3, q4⟩ := ob_some.mp q2
  obtain ⟨⟨z, s3⟩, q5, q6⟩ := ob_some.mp q4
  refine ⟨p, s, r, y, s1, S, E, q1, fun p1 v1 H1 S1 f1 d1 => ⟨p1, s1, r, x, s2, S1, E.fra S f1, q3, fun p2 v2 H2 S2 f2 d2 => ⟨p2, s2, r, z, s3, S2, (E.fra S f1).fra S1 f2, q5, fun p3 v3 H3 S3 f3 d3 => ?_⟩⟩⟩
  have d1' := (d1.fra S1 f2).fra S2 f3
  have d2' := d2.fra S2 f3
  have E3 := ((E.fra S f1).fra S1 f2).fra S2 f3
  have ff := (f1.trans f2).trans f3
  cases x with
  | ref n =>
    cases d2'
    rename_i a hn
    simp only at q6
    cases e : s3.get n with
    | none => rw [e] at q6; cases q6
    | some ob =>
      rw [e] at q6
      have dict : (dputO ob z y).om (fun d' => (Fl.nx, r, s3.put n d')) = some (fl, r', s') → gSub (tI G O) (tI G I) (rSetM G X) v1 σ H1 (fun σ' H' => D.nx σ' H') → True := fun _ _ => trivial
      cases ob with
      | lst xs =>
        simp only at q6
        cases z with
        | int k0 =>
          cases d3
          obtain ⟨j, g1, g2⟩ := omap_some.mp q6
          cases g2
          obtain ⟨ho, h1, vs, rfl, l, hz⟩ := S3.get hn e
          rw [l.length] at g1
          obtain ⟨S4, f4⟩ := S3.put hn e rfl (ho := .lst (vs.set j v1)) (o := .lst (xs.set j y)) (fun _ z => by cases z) ⟨_, rfl, DenL.set d1' j l, by rw [List.length_set]; exact hz⟩
          refine .inl ⟨a, vs, k0, j, rfl, rfl, h1, g1, ?_⟩
          exact k p3 _ S4 (ff.trans f4) σ (E3.fra S3 f4)
        | _ => cases q6
      | _ =>
        obtain ⟨d', g1, g2⟩ := omap_some.mp q6
        cases g2
        obtain ⟨ho', g, dd, nt, ul⟩ := dputO_ok (X := X) hP hw S3 hn e g1 d3 d1'
        obtain ⟨S4, f4⟩ := S3.put hn e ul nt dd
        exact .inr ⟨a, ho', rfl, g, k p3 _ S4 (ff.trans f4) σ (E3.fra S3 f4)⟩
  | _ => cases q6
end

end
section
section
variable {X : Cx} {pins : List (Addr × Obj)} {σ : L2.St} {H : Hp} {s : Shared} {G : Mg} {p : List Addr}
end
section
variable {X : Cx} {pins : List (Addr × Obj)} {σ : L2.St} {H : Hp} {s : Shared} {G : Mg} {p : List Addr}
/-- the dict of the mirror at hand, with the heap behind it -/
inductive DAt (G : Mg) (X : Cx) (p : List Addr) (H : Hp) (a : Addr) : Mo → Prop
  | k {kvs : List (Key × Mv)} {kvs' : List (Key × V)} : Rd H a (.dK kvs') → DK G p H kvs kvs' → DAt G X p H a (.dk kvs)
  | lk {kvs : List (Key × Mv)} {kvs' : List (Key × V)} : Rd H a (.dK kvs') → DK G p H kvs kvs' → DAt G X p H a (.lk kvs)
  | n {kvs : List (NestedKey × Mv × Mv)} {xs : List (NestedKey × Addr × V)} : Rd H a (NDo X.prog X.w a xs) → DenN G p H kvs xs → DAt G X p H a (.dn kvs)
  | ln {kvs : List (NestedKey × Mv × Mv)} {xs : List (NestedKey × Addr × V)} : Rd H a (NDo X.prog X.w a xs) → DenN G p H kvs xs → DAt G X p H a (.ln kvs)
def isDict : Mo → Bool
  | .dk _ | .lk _ | .dn _ | .ln _ => true
  | _ => false
theorem Sim.dict {n : Nat} {a : Addr} {ms : Ms} {o : Mo} (hP : X.prog = G.P) (hw : X.w = G.w) (S : Sim G p ms H) (hn : p[n]? = some a) (e : ms.get n = some o) (hd : isDict o = true) : DAt G X p H a o := by
  obtain ⟨ho, h1, d⟩ := S.get hn e
  cases o with
  | dk kvs => obtain ⟨kvs', rfl, c⟩ := d; exact .k (.inl h1) c
  | lk kvs => obtain ⟨od, kvs', rfl, c⟩ := d; exact .lk (.inr ⟨od, h1⟩) c
  | dn kvs => obtain ⟨xs, rfl, l⟩ := d; exact .n (.inl (by rw [hP, hw]; exact h1)) l
  | ln kvs => obtain ⟨od, xs, rfl, l⟩ := d; exact .ln (.inr ⟨od, by rw [hP, hw]; exact h1⟩) l
  | _ => cases hd
/-- how the raw dict answers -/
inductive RawD (X : Cx) (s : Shared) (a : Addr) (u : Value) : Option Value → Prop
  | k {vs : List (Key × Value)} {k : Key} : (a == sysModules) = false → s.heap.DictOf (mixKind X.prog X.w) a vs → (mixKind X.prog X.w).is k u = true → RawD X s a u (valueAt vs k)
  | n {ys : List (NestedKey × Addr × Value)} {k : NestedKey} {b : Addr} : (a == sysModules) = false → s.heap.DictOfH (nestedKind X.prog X.w) a ys → u = .ref b → (nestedKind X.prog X.w).is s.heap k b → RawD X s a u ((atKey ys k).map (·.2))
theorem dget_raw {a : Addr} {o : Mo} {kw : Mv} {ow : Option Mv} {y : V} {u : Value} (I : Inv X pins σ H s) (hK : X.K = G.K) (D : DAt G X p H a o) (q : dgetO o kw = some ow) (dk : Den G p H kw y) (ry : RelV y u) :
    ∃ r, RawD X s a u r ∧ (ow = none → r = none) ∧ ∀ w, ow = some w → ∃ v r', r = some r' ∧ Den G p H w v ∧ RelV v r' := by
  have plain : ∀ {kvs : List (Key × Mv)} {kvs' : List (Key × V)} {ky : Key}, Rd H a (.dK kvs') → DK G p H kvs kvs' → key1 kw = some ky → ow = dkGet ky kvs → ∃ r, RawD X s a u r ∧ (ow = none → r = none) ∧ ∀ w, ow = some w → ∃ v r', r = some r' ∧ Den G p H w v ∧ RelV v r' := fun {kvs kvs' ky} rd c ek e => by
    obtain ⟨z, hd, vs, rel, dd⟩ := dk_rd I.hok rd
    have ey := key1_ok ek dk
    subst ey e
    have g := dk_get (k := ky) c.inv
    have rv := rel.val ky
    refine ⟨_, .k hd dd (kV_is ry), fun h => ?_, fun w h => ?_⟩
    · rw [g.1 h] at rv
      cases e2 : valueAt vs ky with
      | none => rfl
      | some _ => rw [e2] at rv; exact rv.elim
    · obtain ⟨v, g1, g2⟩ := g.2 w h
      rw [g1] at rv
      cases e2 : valueAt vs ky with
      | none => rw [e2] at rv; exact rv.elim
      | some r' => rw [e2] at rv; exact ⟨v, r', rfl, g2, rv⟩
  have nest : ∀ {kvs : List (NestedKey × Mv × Mv)} {xs : List (NestedKey × Addr × V)} {nk : NestedKey}, Rd H a (NDo X.prog X.w a xs) → DenN G p H kvs xs → keyT kw = some nk → ow = dnGet nk kvs → ∃ r, RawD X s a u r ∧ (ow = none → r = none) ∧ ∀ w, ow = some w → ∃ v r', r = some r' ∧ Den G p H w v ∧ RelV v r' := fun {kvs xs nk} rd l ek e => by
    obtain ⟨z, hd, ys, rel, dd⟩ := nd_rd I hK rd l
    obtain ⟨⟨ws, rfl⟩, km, kd⟩ := keyT_ok ek
    obtain ⟨b, vs, rfl, _, _⟩ := dk.tup_inv
    cases (show u = Value.ref b from ry)
    have g := dn_get (nk := nk) l rel
    subst e
    refine ⟨_, .n hd dd rfl (km.at I hK kd dk), fun h => by rw [g.1 h]; rfl, fun w h => ?_⟩
    obtain ⟨q', v, g1, g2, g3⟩ := g.2 w h
    exact ⟨v, q'.2, by rw [g1]; rfl, g2, g3⟩
  cases D with
  | k rd c =>
    rename_i kvs kvs'
    unfold dgetO at q
    simp only at q
    cases ek : key1 kw with
    | some ky => rw [ek] at q; cases q; exact plain rd c ek rfl
    | none =>
      rw [ek] at q
      cases kvs with
      | cons _ _ => cases q
      | nil =>
        obtain ⟨nk, g1, g2⟩ := omap_some.mp q
        subst g2
        have e0 : kvs' = [] := List.map_eq_nil_iff.mp c.1
        subst e0
        obtain ⟨z, hd, vs, rel, dd⟩ := dk_rd I.hok rd
        cases rel
        obtain ⟨⟨ws, rfl⟩, km, kd⟩ := keyT_ok g1
        obtain ⟨b, vs, rfl, _, _⟩ := dk.tup_inv
        cases (show u = Value.ref b from ry)
        exact ⟨_, .n hd (dk_none dd) rfl (km.at I hK kd dk), fun _ => rfl, fun w h => by cases h⟩
  | lk rd c =>
    unfold dgetO at q
    simp only at q
    cases ek : key1 kw with
    | some ky => rw [ek] at q; cases q; exact plain rd c ek rfl
    | none => rw [ek] at q; cases q
  | n rd l =>
    obtain ⟨nk, g1, g2⟩ := omap_some.mp (show (keyT kw).om _ = some ow from q)
    exact nest rd l g1 g2.symm
  | ln rd l =>
    obtain ⟨nk, g1, g2⟩ := omap_some.mp (show (keyT kw).om _ = some ow from q)
    exact nest rd l g1 g2.symm
variable {A : Around} {E : Value → Shared → Prop}
theorem RawD.typeIs {a : Addr} {u : Value} {r : Option Value} (R : RawD X s a u r) : s.TypeIs (.ref a) "dict" := by
  cases R with
  | k _ dd _ => exact dd.typeIs
  | n _ dd _ _ => exact dd.typeIs
theorem RawD.noDict {a : Addr} {u : Value} {r : Option Value} (R : RawD X s a u r) : ∀ b, Value.ref a = .ref b → ∃ ob, s.heap.get? b = some ob ∧ ob.dict = none := fun b e => by
  cases e
  cases R with
  | k _ dd _ => obtain ⟨o, _, _, h1, h2, _⟩ := dd; exact ⟨o, h1, h2.2.1⟩
  | n _ dd _ _ => obtain ⟨o, _, _, h1, h2, _⟩ := dd; exact ⟨o, h1, h2.2.1⟩
theorem raw_in {a : Addr} {u : Value} {r : Option Value} {Q : Value → Shared → Prop} (hu : A.units + 64 < cLine) (I : Inv X pins σ H s) (R : RawD X s a u r) (h : ∀ s', Inv X pins σ H s' → Q (.bool r.isSome) s') : wpAny (model X.prog X.w) A (compareOp .In u (.ref a)) Q E s := by
  cases R with
  | k hd dd ku => exact wpAny_in_of ku hd dd.mapOf (h _ (I.tok _))
  | n hd dd eu ku =>
    subst eu
    refine in_keyed (show A.in1.units + 8 < cLine by rw [Around.in1_units]; omega) ku hd ⟨_, dd, rfl⟩ ?_
    rw [valueAt_pairsH]
    exact h _ (I.tok _)
theorem raw_nin {a : Addr} {u : Value} {r : Option Value} {Q : Value → Shared → Prop} (hu : A.units + 64 < cLine) (I : Inv X pins σ H s) (R : RawD X s a u r) (h : ∀ s', Inv X pins σ H s' → Q (.bool (!r.isSome)) s') : wpAny (model X.prog X.w) A (compareOp .NotIn u (.ref a)) Q E s := by
  cases R with
  | k hd dd ku => exact wpAny_notIn_of ku hd dd.mapOf (h _ (I.tok _))
  | n hd dd eu ku =>
    subst eu
    refine notIn_keyed (show A.in1.units + 8 < cLine by rw [Around.in1_units]; omega) ku hd ⟨_, dd, rfl⟩ ?_
    rw [valueAt_pairsH]
    exact h _ (I.tok _)
theorem raw_item {a : Addr} {u : Value} {r' : Value} {Q : Value → Shared → Prop} (hu : A.units + 64 < cLine) (I : Inv X pins σ H s) {r : Option Value} (R : RawD X s a u r) (er : r = some r') (h : ∀ s', Inv X pins σ H s' → Q r' s') : wpAny (model X.prog X.w) A (getItem (.ref a) u) Q E s := by
  cases R with
  | k hd dd ku => exact wpAny_getItem_of ku dd.mapOf er (h _ (I.tok _))
  | n hd dd eu ku =>
    subst eu
    exact getItem_keyed (show A.in1.units + 8 < cLine by rw [Around.in1_units]; omega) ku ⟨_, dd, rfl⟩ (by rw [valueAt_pairsH]; exact er) (h _ (I.tok _))
theorem raw_get {a : Addr} {u : Value} {r : Option Value} {Q : Value → Shared → Prop} (hu : A.units + 64 < cLine) (I : Inv X pins σ H s) (R : RawD X s a u r) (h : ∀ s', Inv X pins σ H s' → Q (r.getD .none) s') : wpAny (model X.prog X.w) A (call (.builtin "dict.get") [.ref a, u]) Q E s := by
  cases R with
  | k hd dd ku => exact call_meetsIn PySem.F.slot_dict_get dd.typeIs PySem.F.entry_dict_get (PySem.F.args_dict_get_2 _ _) (meets_dict_get (mixKind X.prog X.w) a ku hd) ⟨_, dd.mapOf, h _ (I.tok _)⟩
  | n hd dd eu ku =>
    subst eu
    refine get_keyed (show A.in1.units + 8 < cLine by rw [Around.in1_units]; omega) ku hd ⟨_, dd, rfl⟩ ?_
    rw [valueAt_pairsH]
    exact h _ (I.tok _)
end
/-! ### k in d, d[k], d.get(k) -/
section
variable {X : Cx} {G : Mg} {a b e : Expr} {pos : Pos}
noncomputable def dinW (neg : Bool) (x y : Mv) (s : Ms) : Option (Mv × Ms) := match y with
  | .ref n => match s.get n with
    | some o => (dgetO o x).om fun r => (.bl (neg != r.isSome), s)
    | none => none
  | _ => none
noncomputable def inA (x y : Mv) (s : Ms) : Option (Mv × Ms) := Option.rec (motive := fun _ => Option (Mv × Ms)) (inW x y s) (fun r => some r) (dinW false x y s)
noncomputable def ninA (x y : Mv) (s : Ms) : Option (Mv × Ms) := Option.rec (motive := fun _ => Option (Mv × Ms)) (ninW x y s) (fun r => some r) (dinW true x y s)
theorem dgetO_dict {o : Mo} {k : Mv} {r : Option Mv} (h : dgetO o k = some r) : isDict o = true := by
  cases o with
  | lst _ => cases h
  | ins _ _ => cases h
  | box _ _ => cases h
  | tab _ _ => cases h
  | cod _ => cases h
  | _ => rfl
def rDI (G : Mg) (neg : Bool) : R2 := fun x y H Q => ∃ p s a b w s', Sim G p s H ∧ Den G p H a x ∧ Den G p H b y ∧ dinW neg a b s = some (w, s') ∧ After G p H w s' Q
theorem din_core {pins : List (Addr × Obj)} {σ : L2.St} {H : Hp} {s : Shared} {x y : V} {v u : Value} {neg : Bool} {Q : VK} (hK : X.K = G.K) (hP : X.prog = G.P) (hw : X.w = G.w) (I : Inv X pins σ H s) (rx : RelV x v) (ry : RelV y u) (h : rDI G neg x y H Q) :
    ∃ a r, u = .ref a ∧ RawD X s a v r ∧ ∀ s', Inv X pins σ H s' → EP X pins σ Q (.bool (neg != r.isSome)) s' := by
  obtain ⟨p, ms, a, b, w, ms', S, da, db, q, k⟩ := h
  cases b with
  | ref n =>
    cases db
    rename_i ad hn
    cases ry
    simp only [dinW] at q
    cases e : ms.get n with
    | none => rw [e] at q; cases q
    | some o =>
      rw [e] at q
      obtain ⟨r, q1, q2⟩ := omap_some.mp q
      cases q2
      obtain ⟨r', R, h1, h2⟩ := dget_raw I hK (S.dict hP hw hn e (dgetO_dict q1)) q1 da rx
      have er : r'.isSome = r.isSome := by
        cases r with
        | none => rw [h1 rfl]; rfl
        | some w =>
          obtain ⟨v', r2, g, _⟩ := h2 w rfl
          rw [g]; rfl
      refine ⟨ad, r', rfl, R, fun s' I' => ?_⟩
      rw [er]
      exact ⟨.bl (neg != r.isSome), H, I', rfl, k p _ H S Fra.refl (.bl _)⟩
  | _ => cases q
theorem op_din (hu : X.A.units + 64 < cLine) (hK : X.K = G.K) (hP : X.prog = G.P) (hw : X.w = G.w) : OpR X (compareOp .In) (rDI G false) := fun pins s σ H x y v u Q I rx ry h => by
  obtain ⟨a, r, rfl, R, f⟩ := din_core hK hP hw I rx ry h
  exact raw_in hu I R fun s' I' => by have := f s' I'; simpa using this
theorem op_dnin (hu : X.A.units + 64 < cLine) (hK : X.K = G.K) (hP : X.prog = G.P) (hw : X.w = G.w) : OpR X (compareOp .NotIn) (rDI G true) := fun pins s σ H x y v u Q I rx ry h => by
  obtain ⟨a, r, rfl, R, f⟩ := din_core hK hP hw I rx ry h
  exact raw_nin hu I R fun s' I' => by have := f s' I'; simpa using this
theorem om_inA (hu : X.A.units + 65 < cLine) (hK : X.K = G.K := by rfl) (hP : X.prog = G.P := by rfl) (hw : X.w = G.w := by rfl) : OpR X (compareOp .In) (q2R G inA) := opr_imp (OpR.or (op_din (by omega) hK hP hw) (om_in hu hK)) fun x y H Q ⟨p, s, a, b, w, s', S, da, db, q, k⟩ => by
  unfold inA at q
  cases e : dinW false a b s with
  | some z => rw [e] at q; cases q; exact .inl ⟨p, s, a, b, w, s', S, da, db, e, k⟩
  | none => rw [e] at q; exact .inr ⟨p, s, a, b, w, s', S, da, db, q, k⟩
theorem om_ninA (hu : X.A.units + 65 < cLine) (hK : X.K = G.K := by rfl) (hP : X.prog = G.P := by rfl) (hw : X.w = G.w := by rfl) : OpR X (compareOp .NotIn) (q2R G ninA) := opr_imp (OpR.or (op_dnin (by omega) hK hP hw) (om_nin hu hK)) fun x y H Q ⟨p, s, a, b, w, s', S, da, db, q, k⟩ => by
  unfold ninA at q
  cases e : dinW true a b s with
  | some z => rw [e] at q; cases q; exact .inl ⟨p, s, a, b, w, s', S, da, db, e, k⟩
  | none => rw [e] at q; exact .inr ⟨p, s, a, b, w, s', S, da, db, q, k⟩
/-- a[b] of lists, tuples, dicts, texts -/
noncomputable def dixW (a b : Mv) (s : Ms) : Option (Mv × Ms) := match a with
  | .ref n => match s.get n with
    | some o => (dgetO o b).ob fun r => r.om fun w => (w, s)
    | none => none
  | _ => none
noncomputable def sixW (a b : Mv) (s : Ms) : Option (Mv × Ms) := match a, b with
  | .str x, .int i => cond (Nat.ble x.length 16777216) ((atF x.cps.toList i).om fun c => (.str ⟨#[c]⟩, s)) none
  | _, _ => none
noncomputable def ixA (a b : Mv) (s : Ms) : Option (Mv × Ms) := Option.rec (motive := fun _ => Option (Mv × Ms)) (Option.rec (motive := fun _ => Option (Mv × Ms)) (sixW a b s) (fun r => some r) (dixW a b s)) (fun r => some r) (ixW a b s)
theorem ix_dictM (hu : X.A.units + 64 < cLine) (hK : X.K = G.K) (hP : X.prog = G.P) (hw : X.w = G.w) : IxR X (q2R G dixW) := by
  intro value slice pins s σ H x y v u Q I rx ry ⟨p, ms, a, b, w, ms', S, da, db, q, k⟩ hs
  cases a with
  | ref n =>
    cases da
    rename_i ad hn
    cases rx
    simp only [dixW] at q
    cases e : ms.get n with
    | none => rw [e] at q; cases q
    | some o =>
      rw [e] at q
      obtain ⟨r, q1, q2⟩ := ob_some.mp q
      obtain ⟨w', q3, q4⟩ := omap_some.mp q2
      cases q4
      obtain ⟨r', R, _, h2⟩ := dget_raw I hK (S.dict hP hw hn e (dgetO_dict q1)) q1 db ry
      obtain ⟨v', r2, g1, g2, g3⟩ := h2 w q3
      exact subscriptTail_builtinR (x := r2) R.typeIs PySem.F.slot_dict_getitem.lookup (raw_item hu I R g1 fun s' I' => ⟨rfl, v', H, I', g3, k p v' H S Fra.refl g2⟩) hs
  | _ => cases q
theorem ix_strM : IxR X (q2R G sixW) := ixr_imp ix_str fun x y H Q ⟨p, s, a, b, w, s', S, da, db, q, k⟩ => by
  cases a with
  | str z =>
    cases b with
    | int i =>
      cases da; cases db
      simp only [sixW] at q
      cases e : Nat.ble z.length 16777216 with
      | false => rw [e] at q; cases q
      | true =>
        rw [e] at q
        obtain ⟨c, q1, q2⟩ := omap_some.mp (show (atF z.cps.toList i).om _ = some (w, s') from q)
        cases q2
        exact ⟨z, i, c, rfl, rfl, ble_sz e, by rw [← atF_eq]; exact q1, k p _ H S Fra.refl (.str _)⟩
    | _ => cases q
  | _ => cases q
theorem ix_any (hu : X.A.units + 64 < cLine) (hK : X.K = G.K) (hP : X.prog = G.P) (hw : X.w = G.w) : IxR X (q2R G ixA) := ixr_imp (IxR.or (ixm hK) (IxR.or (ix_dictM hu hK hP hw) ix_strM)) fun x y H Q ⟨p, s, a, b, w, s', S, da, db, q, k⟩ => by
  unfold ixA at q
  cases e : ixW a b s with
  | some z => rw [e] at q; cases q; exact .inl ⟨p, s, a, b, w, s', S, da, db, e, k⟩
  | none =>
    rw [e] at q
    cases e2 : dixW a b s with
    | some z => rw [e2] at q; cases q; exact .inr (.inl ⟨p, s, a, b, w, s', S, da, db, e2, k⟩)
    | none => rw [e2] at q; exact .inr (.inr ⟨p, s, a, b, w, s', S, da, db, q, k⟩)
theorem pm_ixA {A B : Fe} (hu : X.A.units + 64 < cLine) (ha : PE X a (tI G A)) (hb : PE X b (tI G B)) (hs : PlainIx b := by exact fun _ _ => rfl) (hK : X.K = G.K := by rfl) (hP : X.prog = G.P := by rfl) (hw : X.w = G.w := by rfl) : PE X (.Subscript a b pos) (tI G (mop2 ixA A B)) := pe_imp (pe_ix (ix_any hu hK hP hw) ha hb hs) fun _ _ _ h => t_op2 h
/-- d.get(k) -/
noncomputable def mdget (D K : Fe) : Fe := fun r s => (D r s).ob fun x => (K r x.2).ob fun y => match x.1 with
  | .ref n => match x.2.get n, y.2.get n with
    | some o0, some o => cond (isDict o0) ((dgetO o y.1).om fun r => (r.getD .non, y.2)) none
    | _, _ => none
  | _ => none
theorem pm_dget1 {o : Expr} {apos cpos : Pos} {D K : Fe} (hu : X.A.units + 64 < cLine) (ho : PE X o (tI G D)) (he : PE X e (tI G K)) (m : M1 X o "get" apos e cpos) (hK : X.K = G.K := by rfl) (hP : X.prog = G.P := by rfl) (hw : X.w = G.w := by rfl) :
    PE X (.Call (.Attribute o "get" apos) [e] [] cpos) (tI G (mdget D K)) := by
  refine ⟨fun pins s σ H Q I ⟨p, ms, r, w, ms', S, E, q, k⟩ => ?_⟩
  obtain ⟨⟨x, s1⟩, q1, q2⟩ := ob_some.mp q
  obtain ⟨⟨y, s2⟩, q3, q4⟩ := ob_some.mp q2
  refine wpAny_Call_method m.base m.few m.line PySem.F.plainAttrs_dict PySem.F.slot_dict_get PySem.F.type_dict_get (thn (ho.run pins s σ H (fun v1 H1 => ∃ p1, Sim G p1 s1 H1 ∧ Fra p H p1 H1 ∧ Den G p1 H1 x v1) I ⟨p, ms, r, x, s1, S, E, q1, fun p1 v1 H1 S1 f1 d1 => ⟨p1, S1, f1, d1⟩⟩) fun u t1 ⟨vx, H1, I1, rx, p1, S1, f1, d1⟩ => ?_)
  cases x with
  | ref n =>
    cases d1
    rename_i ad hn
    cases rx
    simp only at q4
    cases e0 : s1.get n with
    | none => rw [e0] at q4; cases q4
    | some o0 =>
      rw [e0] at q4
      cases e1 : s2.get n with
      | none => rw [e1] at q4; cases q4
      | some ob =>
        rw [e1] at q4
        simp only at q4
        cases hd0 : isDict o0 with
        | false => rw [hd0] at q4; cases q4
        | true =>
          rw [hd0] at q4
          have ty : t1.TypeIs (.ref ad) "dict" ∧ ∀ b, Value.ref ad = .ref b → ∃ ob, t1.heap.get? b = some ob ∧ ob.dict = none := by
            have D0 := S1.dict (X := X) hP hw hn e0 hd0
            have nk : ∀ {kvs : List (NestedKey × Mv × Mv)} {xs}, Rd H1 ad (NDo X.prog X.w ad xs) → DenN G p1 H1 kvs xs → t1.TypeIs (.ref ad) "dict" ∧ ∀ b, Value.ref ad = .ref b → ∃ ob, t1.heap.get? b = some ob ∧ ob.dict = none := fun rd l => by
              obtain ⟨_, _, ys, _, dd⟩ := nd_rd I1 hK rd l
              refine ⟨dd.typeIs, fun b eb => ?_⟩
              cases eb
              obtain ⟨oo, _, _, h1, h2, _⟩ := dd
              exact ⟨oo, h1, h2.2.1⟩
            have pk : ∀ {kvs'}, Rd H1 ad (.dK kvs') → t1.TypeIs (.ref ad) "dict" ∧ ∀ b, Value.ref ad = .ref b → ∃ ob, t1.heap.get? b = some ob ∧ ob.dict = none := fun rd => by
              obtain ⟨_, _, vs, _, dd⟩ := dk_rd I1.hok rd
              refine ⟨dd.typeIs, fun b eb => ?_⟩
              cases eb
              obtain ⟨oo, _, _, h1, h2, _⟩ := dd
              exact ⟨oo, h1, h2.2.1⟩
            cases D0 with
            | k rd _ => exact pk rd
            | lk rd _ => exact pk rd
            | n rd l => exact nk rd l
            | ln rd l => exact nk rd l
          refine ⟨ty.1, ty.2, ?_⟩
          rw [m.trees]
          refine Calls.callWith_builtin rfl (Calls.evalArgs_plain (Calls.spliced_cons (thn (he.run pins t1 σ H1 (fun v2 H2 => ∃ p2, Sim G p2 s2 H2 ∧ Fra p1 H1 p2 H2 ∧ Den G p2 H2 y v2) I1 ⟨p1, s1, r, y, s2, S1, E.fra S f1, q3, fun p2 v2 H2 S2 f2 d2 => ⟨p2, S2, f2, d2⟩⟩) fun iv t2 ⟨vy, H2, I2, ry, p2, S2, f2, d2⟩ => Calls.spliced_nil ?_)))
          obtain ⟨rr, g1, g2⟩ := omap_some.mp (show (dgetO ob y).om _ = some (w, ms') from q4)
          cases g2
          obtain ⟨r', R, h1, h2⟩ := dget_raw I2 hK (S2.dict hP hw (f2.at hn) e1 (dgetO_dict g1)) g1 d2 ry
          refine raw_get hu I2 R fun s' I' => ?_
          cases rr with
          | none =>
            rw [h1 rfl]
            exact ⟨.non, H2, I', rfl, k p2 _ H2 S2 (f1.trans f2) .non⟩
          | some w' =>
            obtain ⟨v', r2, g3, g4, g5⟩ := h2 w' rfl
            rw [g3]
            exact ⟨v', H2, I', g5, k p2 _ H2 S2 (f1.trans f2) g4⟩
  | _ => cases q4
end

end
section
/-! ### dicts that are walked: keys and items of a locked one -/
/-- a raw dict's entries, by values -/
structure EntRel (es : Array DictEntry) (ks : List (V × V)) : Prop where
  sz : es.size = ks.length
  get : ∀ (i : Nat) (kv : V × V), ks[i]? = some kv → ∃ h : i < es.size, RelV kv.1 es[i].key ∧ RelV kv.2 es[i].val
def ItM (d : Addr) (o : Obj) (u : HO) (ks : List (V × V)) : It :=
  ⟨fun i H => H d = some (.frz o u) ∧ i < ks.length, fun i H x H' => ∃ T kv, ks[i]? = some kv ∧ x = .ref T ∧ H T = none ∧ H' = upd H T (.tup [kv.1, kv.2]), fun i H => H d = some (.frz o u) ∧ ks.length ≤ i⟩
def ItKy (d : Addr) (o : Obj) (u : HO) (ks : List (V × V)) : It :=
  ⟨fun i H => H d = some (.frz o u) ∧ i < ks.length, fun i H x H' => H' = H ∧ ∃ kv, ks[i]? = some kv ∧ x = kv.1, fun i H => H d = some (.frz o u) ∧ ks.length ≤ i⟩
section
variable {P : Program} {w : World} {K : PySem.W.Frag} {d : Addr} {o : Obj} {u : HO} {es : Array DictEntry} {ep : Nat} {ks : List (V × V)}
theorem turn_itM {elts : List Expr} {kk : Nat} {tpos : Pos} (it : Addr) (hod : o.data = .dict es ep) (hox : o.ExactDict) (R : EntRel es ks) :
    Turn P w K (.Tuple elts kk tpos) (ItM d o u ks) [it] it (fun i h => ∃ ok ov, IsItemIter h it d i ks.length ep ok ov) where
  mem := List.mem_singleton.mpr rfl
  obj := fun i h ⟨ok, ov, e⟩ b hb => by
    rw [List.mem_singleton.mp hb]
    exact ⟨_, e, fun v z => nomatch z⟩
  keep := fun i h h' ⟨ok, ov, e⟩ k => ⟨ok, ov, k it (List.mem_singleton.mpr rfl) _ e⟩
  item := fun X hP hw hK hc i pins s σ H E I hf ⟨ok, ov, he⟩ ⟨hd, hi⟩ => by
    subst hP hw hK
    have raw : s.heap.DictRaw d es ep := ⟨o, (I.hok d _ hd).1, hox, hod⟩
    obtain ⟨kv, hkv⟩ : ∃ q, ks[i]? = some q := ⟨ks[i], List.getElem?_eq_getElem hi⟩
    obtain ⟨hl, r1, r2⟩ := R.get i kv hkv
    rw [← R.sz] at he
    have lt : it < s.heap.objs.size := Heap.lt_size he
    refine wpAny_pyNext_items_item_raw he raw hl fun h' ho hT hz hk => ⟨_, rfl, wpAny_letOwnedTupleGo_items (s := { s with heap := h' }) ho fun h2 he2 sb => ?_⟩
    have hT2 : h2.get? s.heap.objs.size = some { cls := .type "tuple", data := .seq #[es[i].key, es[i].val] } := (sb.2 _ (Nat.ne_of_gt lt)).trans hT
    have I1 : Inv X pins σ (upd H s.heap.objs.size (.tup [kv.1, kv.2])) { s with heap := h2 } :=
      I.turnedNew (t' := s.toks) (ch := [it]) (fun b ob hb e => (sb.2 b fun z => hb (List.mem_singleton.mpr z)).trans (hk b ob (fun z => hb (List.mem_singleton.mpr z)) e)) hf (Nat.le_refl _)
        ⟨by show 2 ≤ sizeLine; decide, [es[i].key, es[i].val], .cons r1 (.cons r2 .nil), ⟨_, hT2, rfl, _, rfl⟩⟩
    refine ⟨.ref s.heap.objs.size, _, I1, rfl, ⟨_, kv, hkv, rfl, I.hok.fresh (Nat.le_refl _), rfl⟩, ⟨_, _, by rw [← R.sz]; exact he2⟩, fun b hb => ?_⟩
    rw [List.mem_singleton.mp hb, upd_ne (Nat.ne_of_lt lt)]
    exact (hf it (List.mem_singleton.mpr rfl)).1
  done := fun X hP hw hK hc i pins s σ H E I hf ⟨ok, ov, he⟩ ⟨hd, hi⟩ => by
    subst hP hw hK
    obtain ⟨f0, f1, _, f3, f4, f5⟩ := hf it (List.mem_singleton.mpr rfl)
    rw [← R.sz] at he hi
    exact wpAny_pyNext_items_end_raw (I.ok.hd hc) he ⟨o, (I.hok d _ hd).1, hox, hod⟩ hi fun h' eb => ⟨rfl, I.turned (t' := s.toks) (fun b ob hb e => eb b ob hb e) f0 f1 f3 f4 f5⟩
  self := fun A i s Q E ⟨ok, ov, e⟩ h => wpAny_pyIter_itemiter e h
theorem turn_itKy {tg : Expr} (it : Addr) (hod : o.data = .dict es ep) (hox : o.ExactDict) (R : EntRel es ks) : Turn P w K tg (ItKy d o u ks) [it] it (fun i h => h.IsKeyIter it d i ks.length ep) where
  mem := List.mem_singleton.mpr rfl
  obj := fun i h ⟨oi, e, c, dd⟩ b hb => by
    rw [List.mem_singleton.mp hb]
    exact ⟨oi, e, fun v z => by rw [dd] at z; cases z⟩
  keep := fun i h h' st k => st.at fun oi e => k it (List.mem_singleton.mpr rfl) oi e
  item := fun X hP hw hK hc i pins s σ H E I hf he ⟨hd, hi⟩ => by
    subst hP hw hK
    obtain ⟨f0, f1, _, f3, f4, f5⟩ := hf it (List.mem_singleton.mpr rfl)
    obtain ⟨kv, hkv⟩ : ∃ q, ks[i]? = some q := ⟨ks[i], List.getElem?_eq_getElem hi⟩
    obtain ⟨hl, r1, _⟩ := R.get i kv hkv
    rw [← R.sz] at he
    refine wpAny_pyNext_keys_item_raw he ⟨o, (I.hok d _ hd).1, hox, hod⟩ hl fun h' he2 sb => ?_
    have I1 : Inv X pins σ H { s with heap := h' } := I.turned (t' := s.toks) (fun b ob hb e => (sb.2 b hb).trans e) f0 f1 f3 f4 f5
    obtain ⟨oi, e, c, dd⟩ := id he2
    exact ⟨_, rfl, go_of (s := { s with heap := h' }) e c dd (by decide) ⟨kv.1, H, I1, r1, ⟨rfl, kv, hkv, rfl⟩, by rw [← R.sz]; exact he2, fun b hb => (hf b hb).1⟩⟩
  done := fun X hP hw hK hc i pins s σ H E I hf he ⟨hd, hi⟩ => by
    subst hP hw hK
    obtain ⟨f0, f1, _, f3, f4, f5⟩ := hf it (List.mem_singleton.mpr rfl)
    rw [← R.sz] at he hi
    exact wpAny_pyNext_keys_end_raw (I.ok.hd hc) he ⟨o, (I.hok d _ hd).1, hox, hod⟩ hi fun h' eb => ⟨rfl, I.turned (t' := s.toks) (fun b ob hb e => eb b ob hb e) f0 f1 f3 f4 f5⟩
  self := fun A i s Q E st h => wpAny_pyIter_keyiter st h
end
section
variable {X : Cx} {pins : List (Addr × Obj)} {σ : L2.St} {H : Hp} {s : Shared} {G : Mg} {p : List Addr}
/-- the walker's view of a locked dict -/
structure Lkd (X : Cx) (s : Shared) (H : Hp) (d : Addr) (o : Obj) (u : HO) (es : Array DictEntry) (ep : Nat) (ks : List (V × V)) : Prop where
  at_ : H d = some (.frz o u)
  get : s.heap.get? d = some o
  ex : o.ExactDict
  da : o.data = .dict es ep
  sys : (d == sysModules) = false
  R : EntRel es ks
noncomputable def itemsO : Mo → Option (List Mv)
  | .lk kvs => some (kvs.map fun e => .tup [Sum.rec (motive := fun _ => Mv) (fun i => .int i) (fun x => .str x) e.1, e.2])
  | .ln kvs => some (kvs.map fun e => .tup [e.2.1, e.2.2])
  | _ => none
noncomputable def keysO : Mo → Option (List Mv)
  | .lk kvs => some (kvs.map fun e => Sum.rec (motive := fun _ => Mv) (fun i => .int i) (fun x => .str x) e.1)
  | .ln kvs => some (kvs.map fun e => e.2.1)
  | _ => none
/-- pairs that are denoted -/
abbrev DenP (G : Mg) (p : List Addr) (H : Hp) : List (Mv × Mv) → List (V × V) → Prop := Paired (fun (a : Mv × Mv) (b : V × V) => Den G p H a.1 b.1 ∧ Den G p H a.2 b.2)
abbrev EntL := Paired (fun (e : DictEntry) (kv : V × V) => RelV kv.1 e.key ∧ RelV kv.2 e.val)
theorem paired_at {α β : Type} {R : α → β → Prop} : ∀ {l : List α} {m : List β}, Paired R l m → ∀ {i : Nat} {b : β}, m[i]? = some b → ∃ a, l[i]? = some a ∧ R a b
  | _, _, .nil, i, b, h => by simp at h
  | _, _, .cons r t, 0, b, h => by simp at h; subst h; exact ⟨_, rfl, r⟩
  | _, _, .cons r t, i + 1, b, h => by simpa using paired_at t (i := i) (by simpa using h)
theorem EntRel.of {es : Array DictEntry} {ks : List (V × V)} (h : EntL es.toList ks) : EntRel es ks := by
  refine ⟨by have := Paired.length h; simpa using this, fun i kv hk => ?_⟩
  obtain ⟨e, h1, h2⟩ := paired_at h hk
  rw [Array.getElem?_toList] at h1
  obtain ⟨hi, he⟩ := Array.getElem?_eq_some_iff.mp h1
  exact ⟨hi, by rw [he]; exact h2⟩
theorem ent_k {P : Program} {w : World} {es : List DictEntry} {vs : List (Key × Value)} (h : Pairs (mixKind P w) es vs) : ∀ {kvs : List (Key × V)}, KV kvs vs → EntL es (kvs.map fun q => (kV q.1, q.2)) := by
  induction h with
  | nil => intro kvs k; cases k; exact .nil
  | cons h1 h2 t ih =>
    intro kvs k
    cases k with
    | cons r rs => exact .cons ⟨relV_key (by rw [r.1]; exact h1), by rw [h2]; exact r.2⟩ (ih rs)
theorem ent_n {P : Program} {w : World} : ∀ {xs : List (NestedKey × Addr × V)} {ys : List (NestedKey × Addr × Value)}, PN xs ys → EntL (ys.map (entryOfKey (nestedKind P w))) (xs.map fun x => (V.ref x.2.1, x.2.2))
  | _, _, .nil => .nil
  | _, _, .cons (a := a) (b := b) r t => .cons ⟨(congrArg Value.ref r.2.1).symm, r.2.2⟩ (ent_n t)
theorem denP_k : ∀ {kvs : List (Key × Mv)} {kvs' : List (Key × V)}, Paired (fun (a : Key × Mv) (b : Key × V) => a.1 = b.1 ∧ Den G p H a.2 b.2) kvs kvs' →
    DenP G p H (kvs.map fun e => (Sum.rec (motive := fun _ => Mv) (fun i => .int i) (fun x => .str x) e.1, e.2)) (kvs'.map fun q => (kV q.1, q.2))
  | _, _, .nil => .nil
  | _, _, .cons (a := (a1, a2)) (b := (b1, b2)) r t => by
    obtain ⟨r1, r2⟩ := r
    have r1 : a1 = b1 := r1
    subst r1
    refine .cons ⟨?_, r2⟩ (denP_k t)
    cases a1 with
    | inl i => exact .int i
    | inr x => exact .str x
theorem denP_n : ∀ {kvs : List (NestedKey × Mv × Mv)} {xs : List (NestedKey × Addr × V)}, DenN G p H kvs xs → DenP G p H (kvs.map fun e => (e.2.1, e.2.2)) (xs.map fun x => (V.ref x.2.1, x.2.2))
  | _, _, .nil => .nil
  | _, _, .cons _ _ c d l => .cons ⟨c, d⟩ (denP_n l)
theorem lkd_of {n : Nat} {a : Addr} {ms : Ms} {o : Mo} (S : Sim G p ms H) (hn : p[n]? = some a) (e : ms.get n = some o) (hl : unl o = false) (I : Inv X pins σ H s) :
    ∃ od u es ep ks qs, Lkd X s H a od u es ep ks ∧ DenP G p H qs ks ∧ itemsO o = some (qs.map fun q => .tup [q.1, q.2]) ∧ keysO o = some (qs.map (·.1)) := by
  obtain ⟨ho, h1, d⟩ := S.get hn e
  cases o with
  | lk kvs =>
    obtain ⟨od, kvs', rfl, c⟩ := d
    obtain ⟨hd, z, hs, vs, kv, o', es, ep, ho, hx, hdt, r1, r2, r3⟩ := I.hok a _ h1
    rw [hd] at ho; cases ho
    exact ⟨od, _, es, ep, _, _, ⟨h1, hd, hx, hdt, hs, .of (ent_k r2 kv)⟩, denP_k (DK.inv c), by simp [itemsO], by simp [keysO]⟩
  | ln kvs =>
    obtain ⟨od, xs, rfl, l⟩ := d
    obtain ⟨hd, ⟨z, hs, ys, r, o', es, ep, ho, hx, hdt, he, _⟩, _⟩ := I.hok a _ h1
    rw [hd] at ho; cases ho
    exact ⟨od, _, es, ep, _, _, ⟨h1, hd, hx, hdt, hs, .of (by rw [he]; exact ent_n r)⟩, denP_n l, by simp [itemsO], by simp [keysO]⟩
  | _ => cases hl
theorem DenP.stay {p' : List Addr} {H' : Hp} (z : Stays p H p' H') : ∀ {qs : List (Mv × Mv)} {ks : List (V × V)}, DenP G p H qs ks → DenP G p' H' qs ks
  | _, _, .nil => .nil
  | _, _, .cons r t => .cons ⟨r.1.stay z, r.2.stay z⟩ (DenP.stay z t)
theorem paired_at' {α β : Type} {R : α → β → Prop} : ∀ {l : List α} {m : List β}, Paired R l m → ∀ {i : Nat} {a : α}, l[i]? = some a → ∃ b, m[i]? = some b ∧ R a b
  | _, _, .nil, i, b, h => by simp at h
  | _, _, .cons r t, 0, b, h => by simp at h; subst h; exact ⟨_, rfl, r⟩
  | _, _, .cons r t, i + 1, b, h => by simpa using paired_at' t (i := i) (by simpa using h)
theorem itr_items {p0 : List Addr} {H0 : Hp} {d : Addr} {o : Obj} {u : HO} {ks : List (V × V)} {qs : List (Mv × Mv)} (h : H0 d = some (.frz o u)) (l : DenP G p0 H0 qs ks) : ItR G (ItM d o u ks) (.seq (qs.map fun q => .tup [q.1, q.2])) p0 H0 := by
  intro p s H i S st fz
  have hl := Paired.length l
  constructor
  · intro q
    have q' : (qs.map fun q => Mv.tup [q.1, q.2])[i]? = none := by simpa [It0.at, lget_eq] using q
    have := List.getElem?_eq_none_iff.mp q'
    rw [List.length_map] at this
    exact ⟨fz d o u h, by omega⟩
  · intro w q
    have q' : (qs.map fun q => Mv.tup [q.1, q.2])[i]? = some w := by simpa [It0.at, lget_eq] using q
    rw [List.getElem?_map] at q'
    obtain ⟨q0, g1, g2⟩ := Option.map_eq_some_iff.mp q'
    subst g2
    obtain ⟨kv, g3, g4⟩ := paired_at' (l.stay st) g1
    refine ⟨⟨fz d o u h, (List.getElem?_eq_some_iff.mp g3).1⟩, fun v H' yl => ?_⟩
    obtain ⟨T, kv', e1, rfl, hT, rfl⟩ := yl
    rw [g3] at e1; cases e1
    have f := fra_new (p := p) (o := .tup [kv.1, kv.2]) hT
    exact ⟨S.fra_new hT, f, .tup (SqT.of upd_same) (.cons (g4.1.fra S f) (.cons (g4.2.fra S f) .nil))⟩
theorem itr_keys {p0 : List Addr} {H0 : Hp} {d : Addr} {o : Obj} {u : HO} {ks : List (V × V)} {qs : List (Mv × Mv)} (h : H0 d = some (.frz o u)) (l : DenP G p0 H0 qs ks) : ItR G (ItKy d o u ks) (.seq (qs.map (·.1))) p0 H0 := by
  intro p s H i S st fz
  have hl := Paired.length l
  constructor
  · intro q
    have q' : (qs.map (·.1))[i]? = none := by simpa [It0.at, lget_eq] using q
    have := List.getElem?_eq_none_iff.mp q'
    rw [List.length_map] at this
    exact ⟨fz d o u h, by omega⟩
  · intro w q
    have q' : (qs.map (·.1))[i]? = some w := by simpa [It0.at, lget_eq] using q
    rw [List.getElem?_map] at q'
    obtain ⟨q0, g1, g2⟩ := Option.map_eq_some_iff.mp q'
    subst g2
    obtain ⟨kv, g3, g4⟩ := paired_at' (l.stay st) g1
    refine ⟨⟨fz d o u h, (List.getElem?_eq_some_iff.mp g3).1⟩, fun v H' yl => ?_⟩
    obtain ⟨rfl, kv', e1, rfl⟩ := yl
    rw [g3] at e1; cases e1
    exact ⟨S, Fra.refl, g4.1⟩
end
/-! ### e.items(), a dict by its keys -/
section
variable {X : Cx} {G : Mg} {e : Expr} {apos cpos : Pos}
noncomputable def miD (D : Fe) : Fi := fun r s => (D r s).ob fun x => match x.1 with
  | .ref n => match x.2.get n with
    | some o => (itemsO o).om fun ws => (.seq ws, x.2)
    | none => none
  | _ => none
noncomputable def miDk (D : Fe) : Fi := fun r s => (D r s).ob fun x => match x.1 with
  | .ref n => match x.2.get n with
    | some o => (keysO o).om fun ws => (.seq ws, x.2)
    | none => none
  | _ => none
theorem itemsO_lock {o : Mo} {ws : List Mv} (h : itemsO o = some ws) : unl o = false := by
  cases o <;> first | rfl | cases h
theorem keysO_lock {o : Mo} {ws : List Mv} (h : keysO o = some ws) : unl o = false := by
  cases o <;> first | rfl | cases h
theorem im_items {elts : List Expr} {kk : Nat} {tpos : Pos} {D : Fe} (he : PE X e (tI G D)) (hbase : attributeBase e "items" X.env (eval e X.env) = eval e X.env := by rfl) (hline : (apos.endLine == cpos.line) = true := by rfl) :
    PI X (.Tuple elts kk tpos) (.Call (.Attribute e "items" apos) [] [] cpos) (tIt G (miD D)) := by
  refine ⟨fun pins s σ H R I ⟨p, ms, r, it, ms', S, E, q, k⟩ => ?_⟩
  obtain ⟨⟨x, s1⟩, q1, q2⟩ := ob_some.mp q
  refine wpAny_Call_method (T := "dict") (id := "dict.items") hbase rfl hline F.plainAttrs_dict F.slot_dict_items F.type_dict_items (thn (he.run pins s σ H (fun v1 H1 => ∃ p1, Sim G p1 s1 H1 ∧ Fra p H p1 H1 ∧ Den G p1 H1 x v1) I ⟨p, ms, r, x, s1, S, E, q1, fun p1 v1 H1 S1 f1 d1 => ⟨p1, S1, f1, d1⟩⟩) fun uv t1 ⟨vx, H1, I1, rx, p1, S1, f1, d1⟩ => ?_)
  cases x with
  | ref n =>
    cases d1
    rename_i ad hn
    cases rx
    simp only at q2
    cases e1 : s1.get n with
    | none => rw [e1] at q2; cases q2
    | some o =>
      rw [e1] at q2
      obtain ⟨ws, q3, q4⟩ := omap_some.mp q2
      cases q4
      obtain ⟨od, u, es, ep, ks, qs, L, dp, i1, i2⟩ := lkd_of S1 hn e1 (itemsO_lock q3) I1
      rw [i1] at q3; cases q3
      have raw : t1.heap.DictRaw ad es ep := ⟨od, L.get, L.ex, L.da⟩
      refine ⟨raw.typeIs, fun b eb => by cases eb; exact ⟨od, L.get, L.ex.2.1⟩, ?_⟩
      have I2 : Inv X pins σ H1 { t1 with heap := t1.heap.push { cls := .type "dict_items", data := .fields #[.ref ad] } } := I1.kept (t' := t1.toks) fun b ob q => Heap.get?_push_of_some _ q
      have fin : wpAny (model X.prog X.w) X.A (pyIter (.ref t1.heap.objs.size)) (PIE X pins σ (.Tuple elts kk tpos) R) X.xe { t1 with heap := t1.heap.push { cls := .type "dict_items", data := .fields #[.ref ad] } } := by
        refine wpAny_pyIter_items_raw (d := ad) (es := es) (ep := ep) ⟨_, Heap.get?_push_size _ rfl, rfl, rfl⟩ (raw.at fun _ q => Heap.get?_push_of_some _ q) (pi_one (tk := t1.toks) I2 _ (turn_itM _ L.da L.ex L.R) ⟨.none, .none, ?_⟩ (k p1 H1 _ S1 f1 (itr_items L.at_ dp)))
        rw [← L.R.sz]
        exact Heap.get?_push_size _ rfl
      show wpAny _ _ (callWith cpos (.builtin "dict.items") [.ref ad] [] []) _ X.xe t1
      exact method_meetsIn F.slot_dict_items F.entry_dict_items rfl (PySem.evalArgs_none ⟨rfl, raw.typeIs, F.args_dict_items_1 _, _, meets_dict_items_raw ad L.sys, ⟨es, ep, raw⟩, fin⟩)
  | _ => cases q2
theorem im_dkeys {tg : Expr} {D : Fe} (he : PE X e (tI G D)) : PI X tg e (tIt G (miDk D)) := by
  refine ⟨fun pins s σ H R I ⟨p, ms, r, it, ms', S, E, q, k⟩ => ?_⟩
  obtain ⟨⟨x, s1⟩, q1, q2⟩ := ob_some.mp q
  refine thn (he.run pins s σ H (fun v1 H1 => ∃ p1, Sim G p1 s1 H1 ∧ Fra p H p1 H1 ∧ Den G p1 H1 x v1) I ⟨p, ms, r, x, s1, S, E, q1, fun p1 v1 H1 S1 f1 d1 => ⟨p1, S1, f1, d1⟩⟩) fun uv t1 ⟨vx, H1, I1, rx, p1, S1, f1, d1⟩ => ?_
  cases x with
  | ref n =>
    cases d1
    rename_i ad hn
    cases rx
    simp only at q2
    cases e1 : s1.get n with
    | none => rw [e1] at q2; cases q2
    | some o =>
      rw [e1] at q2
      obtain ⟨ws, q3, q4⟩ := omap_some.mp q2
      cases q4
      obtain ⟨od, u, es, ep, ks, qs, L, dp, i1, i2⟩ := lkd_of S1 hn e1 (keysO_lock q3) I1
      rw [i2] at q3; cases q3
      refine iter_keys L.sys L.get L.ex L.da (pi_one (tk := t1.toks) I1 _ (turn_itKy _ L.da L.ex L.R) ⟨_, Heap.get?_push_size _ rfl, rfl, ?_⟩ (k p1 H1 _ S1 f1 (itr_keys L.at_ dp)))
      rw [L.R.sz] <;> rfl
  | _ => cases q2
end
/-! ### the lock -/
noncomputable def lockO : Mo → Option Mo
  | .dk kvs => some (.lk kvs)
  | .dn kvs => some (.ln kvs)
  | _ => none
noncomputable def unlockO : Mo → Option Mo
  | .lk kvs => some (.dk kvs)
  | .ln kvs => some (.dn kvs)
  | _ => none
/-- the dict that D tells is locked while E is asked -/
noncomputable def mlock (D : Fe) (E : Fe) : Fe := fun r s => (D r s).ob fun x => match x.1 with
  | .ref n => match s.get n with
    | some o => (lockO o).ob fun lo => (E r (s.put n lo)).ob fun y => match y.2.get n with
      | some o2 => (unlockO o2).om fun o3 => (y.1, y.2.put n o3)
      | none => none
    | none => none
  | _ => none
noncomputable def slock (D : Fe) (B : Fs) : Fs := fun r s => (D r s).ob fun x => match x.1 with
  | .ref n => match s.get n with
    | some o => (lockO o).ob fun lo => (B r (s.put n lo)).ob fun y => match y.2.2.get n with
      | some o2 => (unlockO o2).om fun o3 => (y.1, y.2.1, y.2.2.put n o3)
      | none => none
    | none => none
  | _ => none
section
variable {X : Cx} {G : Mg} {e : Expr} {p : List Addr} {H : Hp}
theorem lock_den {a : Addr} {o lo : Mo} {u : HO} (d : DenO G p H a o u) (h : lockO o = some lo) : Mut (some u) ∧ (∀ od, DenO G p H a lo (.frz od u)) ∧ unl o = true ∧ ∀ ob v, u ≠ .frz ob v := by
  cases o with
  | dk kvs => cases h; obtain ⟨kvs', rfl, c⟩ := d; exact ⟨trivial, fun od => ⟨od, kvs', rfl, c⟩, rfl, fun _ _ z => by cases z⟩
  | dn kvs => cases h; obtain ⟨xs, rfl, l⟩ := d; exact ⟨trivial, fun od => ⟨od, xs, rfl, l⟩, rfl, fun _ _ z => by cases z⟩
  | _ => cases h
theorem Sim.unlock {p' : List Addr} {s' : Ms} {H' : Hp} {n : Nat} {a : Addr} {o2 o3 : Mo} {od : Obj} {u : HO} (S : Sim G p' s' H') (hn : p'[n]? = some a) (e : s'.get n = some o2) (h : unlockO o2 = some o3) (hf : H' a = some (.frz od u)) :
    Sim G p' (s'.put n o3) (upd H' a u) ∧ Stays p' H' p' (upd H' a u) ∧ ∀ vs, u ≠ .tup vs := by
  obtain ⟨ho, h1, d⟩ := S.get hn e
  rw [hf] at h1; cases h1
  have d3 : DenO G p' H' a o3 u ∧ ∀ vs, u ≠ .tup vs := by
    cases o2 with
    | lk kvs => cases h; obtain ⟨od', kvs', z, c⟩ := d; cases z; exact ⟨⟨kvs', rfl, c⟩, fun _ z => by cases z⟩
    | ln kvs => cases h; obtain ⟨od', xs, z, l⟩ := d; cases z; exact ⟨⟨xs, rfl, l⟩, fun _ z => by cases z⟩
    | _ => cases h
  have nsq : ¬ SqU u := by
    cases o2 with
    | lk kvs => obtain ⟨od', kvs', z, c⟩ := d; cases z; exact fun z => z
    | ln kvs => obtain ⟨od', xs, z, l⟩ := d; cases z; exact fun z => z
    | _ => cases h
  have st : Stays p' H' p' (upd H' a u) := ⟨fun _ _ e => e, fun b vs e => by rw [upd_ne (by rintro rfl; rw [hf] at e; cases e)]; exact e,
    fun b o v hv e => by rw [upd_ne (by rintro rfl; rw [hf] at e; cases e; exact nsq hv)]; exact e⟩
  have g : ∀ m, (s'.put n o3).get m = if m = n then some o3 else s'.get m := fun m => Mt.get_set s'.t n o3 m
  have hlt : n < s'.sz := by rw [← S.len]; exact (List.getElem?_eq_some_iff.mp hn).1
  refine ⟨⟨S.len, S.nd, fun m b hb => ?_, fun m hm => ?_⟩, st, d3.2⟩
  · by_cases hmn : m = n
    · subst hmn
      rw [hn] at hb; cases hb
      exact ⟨o3, u, by rw [g, if_pos rfl], upd_same, d3.1.stay st⟩
    · obtain ⟨o1, ho1, q1, q2, q3⟩ := S.ob m b hb
      have hne : b ≠ a := fun z => hmn (nodup_at S.nd (z ▸ hb) hn)
      exact ⟨o1, ho1, by rw [g, if_neg hmn]; exact q1, by rw [upd_ne hne]; exact q2, q3.stay st⟩
  · rw [g, if_neg (by have : s'.sz ≤ m := hm; omega)]
    exact S.out m hm
theorem Fra.unlock {p' : List Addr} {H' : Hp} {a : Addr} {od : Obj} {u : HO} (ha : a ∈ p) (hu : H a = some u) (nf : ∀ ob v, u ≠ .frz ob v) (f : Fra p (upd H a (.frz od u)) p' H') : Fra p H p' (upd H' a u) := by
  obtain ⟨q, e, hq⟩ := f.pre
  refine ⟨⟨q, e, fun b hb np => ?_⟩, fun b o eb nb => ?_, fun b o v eb => ?_⟩
  · have := hq b hb np
    rwa [upd_ne (by rintro rfl; exact np ha)] at this
  · have hne : b ≠ a := by rintro rfl; exact nb ha
    rw [upd_ne hne]
    exact f.kee b o (by rw [upd_ne hne]; exact eb) nb
  · have hne : b ≠ a := by rintro rfl; rw [hu] at eb; exact nf o v (Option.some.inj eb)
    rw [upd_ne hne]
    exact f.frz b o v (by rw [upd_ne hne]; exact eb)
theorem pm_lock {D E : Fe} (h : PE X e (tI G E)) : PE X e (tI G (mlock D E)) := pe_imp (pe_lock h) fun σ H Q ⟨p, s, r, w, s', S, Er, q, k⟩ => by
  obtain ⟨⟨x, s1⟩, q1, q2⟩ := ob_some.mp q
  cases x with
  | ref n =>
    simp only at q2
    cases e1 : s.get n with
    | none => rw [e1] at q2; cases q2
    | some o =>
      rw [e1] at q2
      obtain ⟨lo, q3, q4⟩ := ob_some.mp q2
      obtain ⟨⟨y, s2⟩, q5, q6⟩ := ob_some.mp q4
      have hlt : n < s.sz := by
        rcases Nat.lt_or_ge n s.sz with h | h
        · exact h
        · rw [S.out n h] at e1; cases e1
      obtain ⟨a, hn⟩ : ∃ a, p[n]? = some a := ⟨p[n]'(by rw [S.len]; exact hlt), List.getElem?_eq_getElem (by rw [S.len]; exact hlt)⟩
      obtain ⟨u, hu, du⟩ := S.get hn e1
      obtain ⟨m1, m2, m3, m4⟩ := lock_den du q3
      refine ⟨a, u, hu, m1, fun od => ?_⟩
      obtain ⟨S1, f1⟩ := S.put hn e1 m3 (fun vs z => by cases z) (m2 od)
      refine ⟨p, _, r, y, s2, S1, Er.fra S f1, q5, fun p2 v2 H2 S2 f2 d2 => ?_⟩
      have hf : H2 a = some (.frz od u) := f2.frz a od u upd_same
      simp only at q6
      cases e2 : s2.get n with
      | none => rw [e2] at q6; cases q6
      | some o2 =>
        rw [e2] at q6
        obtain ⟨o3, q7, q8⟩ := omap_some.mp q6
        cases q8
        obtain ⟨S3, st, _⟩ := S2.unlock (f2.at hn) e2 q7 hf
        exact ⟨hf, k p2 v2 _ S3 (Fra.unlock (List.mem_of_getElem? hn) hu m4 f2) (d2.stay st)⟩
  | _ => cases q2
theorem sm_lock {st : Stmt} {D : Fe} {B : Fs} (h : PS X st (tS G B)) : PS X st (tS G (slock D B)) := ps_imp (ps_lock h) fun Dn σ H ⟨p, s, r, fl, r', s', S, Er, q, k⟩ => by
  obtain ⟨⟨x, s1⟩, q1, q2⟩ := ob_some.mp q
  cases x with
  | ref n =>
    simp only at q2
    cases e1 : s.get n with
    | none => rw [e1] at q2; cases q2
    | some o =>
      rw [e1] at q2
      obtain ⟨lo, q3, q4⟩ := ob_some.mp q2
      obtain ⟨⟨y, r2, s2⟩, q5, q6⟩ := ob_some.mp q4
      have hlt : n < s.sz := by
        rcases Nat.lt_or_ge n s.sz with h | h
        · exact h
        · rw [S.out n h] at e1; cases e1
      obtain ⟨a, hn⟩ : ∃ a, p[n]? = some a := ⟨p[n]'(by rw [S.len]; exact hlt), List.getElem?_eq_getElem (by rw [S.len]; exact hlt)⟩
      obtain ⟨u, hu, du⟩ := S.get hn e1
      obtain ⟨m1, m2, m3, m4⟩ := lock_den du q3
      refine ⟨a, u, hu, m1, fun od => ?_⟩
      obtain ⟨S1, f1⟩ := S.put hn e1 m3 (fun vs z => by cases z) (m2 od)
      refine ⟨p, _, r, y, r2, s2, S1, Er.fra S f1, q5, fun p2 H2 S2 f2 => ?_⟩
      have hf : H2 a = some (.frz od u) := f2.frz a od u upd_same
      simp only at q6
      cases e2 : s2.get n with
      | none => rw [e2] at q6; cases q6
      | some o2 =>
        rw [e2] at q6
        obtain ⟨o3, q7, q8⟩ := omap_some.mp q6
        cases q8
        obtain ⟨S3, st, _⟩ := S2.unlock (f2.at hn) e2 q7 hf
        have kk := k p2 _ S3 (Fra.unlock (List.mem_of_getElem? hn) hu m4 f2)
        have Es : ∀ σ2, EnvR G p2 H2 r' σ2 → EnvR G p2 (upd H2 a u) r' σ2 := fun σ2 E2 => ⟨E2.len, fun i w hw => let ⟨v, q, d⟩ := E2.get i w hw; ⟨v, q, d.stay st⟩⟩
        cases fl with
        | nx => exact fun σ2 E2 => ⟨hf, kk σ2 (Es σ2 E2)⟩
        | bk => exact fun σ2 E2 => ⟨hf, kk σ2 (Es σ2 E2)⟩
        | ct => exact fun σ2 E2 => ⟨hf, kk σ2 (Es σ2 E2)⟩
        | rt w => exact fun v d => ⟨hf, kk v (d.stay st)⟩
  | _ => cases q2
end

end
section
/-! ### dict comprehensions, keys of any kind -/
section
variable {X : Cx} {G : Mg}
/-- one turn's end: the entry is stored, or nothing is -/
def tDcM (G : Mg) (X : Cx) (wi : TI) (g : TG) (tt : TT) (tk tv : TE) (vs : List Nat) : TE := fun σ H Q => wi σ H fun J H1 => ∀ D, H1 D = none → ∃ W : Nat → Nat → Hp → Prop, (∃ m, W 0 m (upd H1 D (.dK []))) ∧ ∀ i m H, W i m H →
  (J.stop i H ∧ Q (.ref D) H) ∨ (J.go i H ∧ ∃ Nx : Hp → Prop, (∀ H', Nx H' → ∃ m', m' < m ∧ W (i + 1) m' H') ∧ ∀ x H', J.yld i H x H' → g x (L2.wipe σ vs) H' fun σ2 H2 => L2.wipe σ2 vs = L2.wipe σ vs ∧ tt σ2 H2 fun b H3 =>
    if b = true then tk σ2 H3 fun y H4 => tv σ2 H4 fun z H5 => ∃ ho', DPA G X H5 D y z ho' ∧ Nx (upd H5 D ho') else Nx H3)
abbrev InBlk (X : Cx) (scope : Scope) (P : Cx → Prop) : Prop := ∀ (s : Shared) (H : Hp) (C : Addr) (cl : List (Str × Addr)) (fp : List Addr), P (X.blk s H scope (compEnvC scope cl C X.env) fp)
theorem dcM_core {pins : List (Addr × Obj)} {s : Shared} {σ : L2.St} {H : Hp} {Q : VK} {kx vx tg iter : Expr} {ifs : List Expr} {scope : Scope} {own : List (Str × Nat)} {pos pos' : Pos} {wi : TI} {g : TG} {tt : TT} {tk tv : TE} {use : Option (Value → Sem Unit)} {Qf : Value → Shared → Prop}
    (hu : X.A.units + 64 < cLine) (hK : X.K = G.K) (hc : X.calm = true) (hN : X.N.Nodup) (I : Inv X pins σ H s) (hi : PI X tg iter wi) (ok : BlkOk X.N X.env.scope scope own)
    (hg : InBlk X scope fun Y => PG Y tg g) (ht : InBlk X scope fun Y => PTs Y ifs tt) (hk : InBlk X scope fun Y => PE Y kx tk) (he : InBlk X scope fun Y => PE Y vx tv) (hs : ∀ x, foldedSetIterable iter X.env x = pure x)
    (h : tDcM G X wi g tt tk tv (own.map (·.2)) σ H Q)
    (end_ : ∀ D C t m H', Inv X pins σ H' t → Q (.ref D) H' → t.heap.Ns C m → FpOk X pins H' C → compPost (model X.prog X.w) X.A X.xe use Qf (.ref D) C (.ok .next) t) :
    wpAny (model X.prog X.w) X.A (comprehension (.DictComp kx vx [⟨tg, iter, ifs, 0⟩] scope pos) scope X.env pos' newDict false (eval iter X.env) use) Qf X.xe s := by
  have cells : ∀ y ∈ scope.names, y.2 = .free → ∃ c, X.env.cells.lookup y.1 = some c := fun y hy e =>
    (ok.free y hy e).elim (fun k => I.ok.has _ (.inl k)) fun k => I.ok.has _ (.inr k)
  refine wpAny_comprehension_free (use := use) rfl hs (closure_ok cells) ok.kind (fun y hy e => by rw [ok.uniq y hy, e]) (thn (hi.run pins s σ H _ I h) fun _ _ hx => thn hx fun _ s2 h2 => ?_)
  obtain ⟨it, fp, tn, J, H2, rfl, I2, T, st2, f2, q⟩ := h2
  refine wpAny_newObj_type (newEnv_comp ?_)
  generalize hD : s2.heap.objs.size = D
  have newD : H2 D = none := I2.hok.fresh (Nat.le_of_eq hD)
  obtain ⟨W, ⟨m0, w0⟩, turn⟩ := q D newD
  generalize hs3 : ({ s2 with heap := s2.heap.push { cls := .type "dict", data := .dict #[] } } : Shared) = s3
  have hp3 : s3.heap = s2.heap.push { cls := .type "dict", data := .dict #[] } := by rw [← hs3]
  have I3 : Inv X pins σ (upd H2 D (.dK [])) s3 := by
    rw [← hs3]
    exact I2.laid (t' := s2.toks) (fun _ _ z => Heap.get?_push_of_some _ z) (Nat.le_of_eq hD) (hD ▸ dk_empty s2.heap I2.big)
  have below : ∀ b ∈ fp, b < s2.heap.objs.size := fun b hb => let ⟨_, z, _⟩ := T.obj _ _ st2 b hb; Heap.lt_size z
  have f3 : ∀ b ∈ fp, FpOk X pins (upd H2 D (.dK [])) b ∧ b < s3.heap.objs.size := fun b hb =>
    ⟨⟨(upd_ne (by rw [← hD]; exact Nat.ne_of_lt (below b hb))).trans (f2 b hb).1, (f2 b hb).2⟩, by rw [hp3, Heap.size_push]; exact Nat.lt_succ_of_lt (below b hb)⟩
  have st3 : tn 0 s3.heap := T.keep _ _ _ st2 fun _ _ _ z => hp3 ▸ Heap.get?_push_of_some _ z
  have I4 := block_start I3 ok hN f3
  have tg' := hg s3 (upd H2 D (.dK [])) s3.heap.objs.size (cellsFrom (s3.heap.objs.size + 1) scope.names (cloFrom X.env.cells scope.names [])) fp
  have if' := ht s3 (upd H2 D (.dK [])) s3.heap.objs.size (cellsFrom (s3.heap.objs.size + 1) scope.names (cloFrom X.env.cells scope.names [])) fp
  have ky' := hk s3 (upd H2 D (.dK [])) s3.heap.objs.size (cellsFrom (s3.heap.objs.size + 1) scope.names (cloFrom X.env.cells scope.names [])) fp
  have va' := he s3 (upd H2 D (.dK [])) s3.heap.objs.size (cellsFrom (s3.heap.objs.size + 1) scope.names (cloFrom X.env.cells scope.names [])) fp
  show codeAny _ _ (.compStart (.DictComp kx vx [⟨tg, iter, ifs, 0⟩] scope pos) 0 (.ref it) (.ref D) (compEnvC scope (cellsFrom (s3.heap.objs.size + 1) scope.names (cloFrom X.env.cells scope.names [])) s3.heap.objs.size X.env)) (compPost (model X.prog X.w) X.A X.xe use Qf (.ref D) s3.heap.objs.size) { s3 with heap := pushCells (s3.heap.push { cls := .type "dict", data := .dict #[] }) scope.names }
  have idle : ∀ b ∈ fp, (upd H2 D (.dK [])) b = none := fun b hb => (f3 b hb).1.1
  generalize hce : compEnvC scope (cellsFrom (s3.heap.objs.size + 1) scope.names (cloFrom X.env.cells scope.names [])) s3.heap.objs.size X.env = ce at I4 tg' if' ky' va' ⊢
  have cL : ce.locals = s3.heap.objs.size := by subst hce; rfl
  generalize hH3 : upd H2 D (.dK []) = H3 at I3 I4 tg' if' ky' va' w0 idle f3
  generalize hs4 : ({ s3 with heap := pushCells (s3.heap.push { cls := .type "dict", data := .dict #[] }) scope.names } : Shared) = s4 at I4 ⊢
  have st4 : tn 0 s4.heap := T.keep _ _ _ st3 fun b _ o z => by rw [← hs4]; exact pushCells_keeps _ _ _ _ (Heap.get?_push_of_some _ z)
  generalize hY : X.blk s3 H3 scope ce fp = Y at I4 tg' if' ky' va'
  have free' : ∀ {σ' : L2.St} {H' : Hp} {s' : Shared}, Inv Y [] σ' H' s' → (∀ b ∈ fp, H' b = none) → ∀ b ∈ fp, FpOk Y [] H' b := fun {σ' H' s'} I' hn b hb => by
    subst hY
    exact ⟨hn b hb, (I'.ok.exf b hb).1, I'.ok.exfs b hb, .inl hb, fun x c e => (I'.ok.exf b hb).2 x c e, fun p hp => absurd (show p ∈ ([] : List (Addr × Obj)) ++ [] from hp) (by simp)⟩
  have loop : codeAny (model X.prog X.w) X.A (.compLoop (.DictComp kx vx [⟨tg, iter, ifs, 0⟩] scope pos) 0 (.ref it) (.ref D) ce) (compPost (model X.prog X.w) X.A X.xe use Qf (.ref D) s3.heap.objs.size) s4 := by
    subst hY
    refine compLoop_anyD (fun n s' => ∃ i H', Inv (X.blk s3 H3 scope ce fp) [] (L2.wipe σ (own.map (·.2))) H' s' ∧ tn i s'.heap ∧ (∀ b ∈ fp, H' b = none) ∧ W i n H') ?_ m0 ⟨0, H3, I4, st4, idle, w0⟩
    rintro n s5 ⟨i, H5, I5, st5, n5, w5⟩
    rcases turn i n H5 w5 with ⟨stop, qq⟩ | ⟨go, Nx, hNx, step⟩
    · refine thnF (T.done (X.blk s3 H3 scope ce fp) rfl rfl rfl hc i [] s5 _ H5 (fun _ _ => False) I5 (free' I5 n5) st5 stop) fun r s6 ⟨hr, I6⟩ => ?_
      subst hr
      have I7 : Inv X pins σ H5 s6 := I3.call' (ch := fp) I6.os I6.base I6.hok I6.bare fun b hb => let z := (f3 b hb).1.2; ⟨z.2.2.1, z.1, z.2.2.2.1, z.2.2.2.2⟩
      have nC : H5 s3.heap.objs.size = none := cL ▸ (I6.free : H5 ce.locals = none)
      obtain ⟨m, hn, _⟩ := I6.loc
      exact end_ D _ s6 m H5 I7 qq (cL ▸ (show s6.heap.Ns ce.locals m from hn)) (I3.fpOk (Nat.le_refl _) nC)
    · refine thnF (T.item (X.blk s3 H3 scope ce fp) rfl rfl rfl hc i [] s5 _ H5 (fun _ _ => False) I5 (free' I5 n5) st5 go) fun r s6 ⟨u, hr, h6⟩ => ?_
      subst hr
      refine thnF h6 fun _ s7 ⟨x, H7, I7, r7, y7, st7, n7⟩ => ?_
      refine thnF (tg'.run _ s7 _ H7 x u _ (I7.pinned (free' I7 n7) (T.obj _ _ st7)) r7 (step x H7 y7)) fun _ s8 ⟨σ8, H8, I8, hw8, q8⟩ => ?_
      refine thnF (if'.run _ s8 σ8 H8 _ I8 q8) fun b s9 ⟨H9, I9, q9⟩ => ?_
      have close : ∀ {s' : Shared} {H' : Hp}, Inv (X.blk s3 H3 scope ce fp) ([] ++ pinsAt fp s7.heap) σ8 H' s' → Nx H' → ∃ m, m < n ∧ ∃ i H', Inv (X.blk s3 H3 scope ce fp) [] (L2.wipe σ (own.map (·.2))) H' s' ∧ tn i s'.heap ∧ (∀ b ∈ fp, H' b = none) ∧ W i m H' := fun {s' H'} I' nx => by
        obtain ⟨m', hm, w'⟩ := hNx H' nx
        have pinned : ∀ b ∈ fp, ∀ o, s7.heap.get? b = some o → s'.heap.get? b = some o ∧ H' b = none := fun b hb o z =>
          let y := I'.pin (b, o) (List.mem_append_right _ (List.mem_append_right _ (mem_pinsAt hb z)))
          ⟨y.1, y.2.1⟩
        refine ⟨m', hm, i + 1, H', (I'.unpinned (pins := [])).weak (by rw [← hw8, wipe_length]) (fun j v z => (wipe_some (hw8 ▸ z)).1), T.keep _ _ _ st7 fun b hb o z => (pinned b hb o z).1, fun b hb => ?_, w'⟩
        obtain ⟨o, z, _⟩ := T.obj _ _ st7 b hb
        exact (pinned b hb o z).2
      cases b with
      | false => exact close I9 q9
      | true =>
        refine thnF (ky'.run _ s9 σ8 H9 _ I9 q9) fun kv s10 ⟨yk, H10, I10, r10, q10⟩ => ?_
        refine thnF (va'.run _ s10 σ8 H10 _ I10 q10) fun vv s11 ⟨yv, H11, I11, r11, ho', gp, nx⟩ => ?_
        exact dpa_dictSet (X := X.blk s3 H3 scope ce fp) (G := G) hu I11 hK gp r10 r11 fun s12 I12 => close I12 nx
  exact codeAny_compStart_dict loop (T.self X.A 0 _ _ _ st4 loop)
theorem pe_dcM {kx vx tg iter : Expr} {ifs : List Expr} {scope : Scope} {own : List (Str × Nat)} {pos : Pos} {wi : TI} {g : TG} {tt : TT} {tk tv : TE} (hu : X.A.units + 64 < cLine) (hK : X.K = G.K) (hc : X.calm = true) (hN : X.N.Nodup) (hi : PI X tg iter wi) (ok : BlkOk X.N X.env.scope scope own)
    (hg : InBlk X scope fun Y => PG Y tg g) (ht : InBlk X scope fun Y => PTs Y ifs tt) (hk : InBlk X scope fun Y => PE Y kx tk) (he : InBlk X scope fun Y => PE Y vx tv) (hs : ∀ x, foldedSetIterable iter X.env x = pure x := by intro _; rfl) :
    PE X (.DictComp kx vx [⟨tg, iter, ifs, 0⟩] scope pos) (tDcM G X wi g tt tk tv (own.map (·.2))) := ⟨fun pins s σ H Q I h => by
  rw [arm_eval_DictComp]
  refine dcM_core hu hK hc hN I hi ok hg ht hk he hs h fun D C t m H' I' q hn ⟨c0, c1, _, c3, c4, c5⟩ => ⟨m, hn, fun h8 sb => ?_⟩
  exact ⟨.ref D, H', I'.turned (t' := t.toks) (fun b o hb z => (sb.2 b hb).trans z) c0 c1 c3 c4 c5, rfl, q⟩⟩
/-- y = {..} in a def, y a local name: the store goes ahead of the block's end -/
theorem ps_setDcM {i : Nat} {y : Str} {py : Pos} {kx vx tg iter : Expr} {ifs : List Expr} {scope : Scope} {own : List (Str × Nat)} {pos spos : Pos} {wi : TI} {g : TG} {tt : TT} {tk tv : TE} (hu : X.A.units + 64 < cLine) (hK : X.K = G.K) (hc : X.calm = true) (hN : X.N.Nodup) (hy : X.N[i]? = some y) (hyl : X.env.scope.names.lookup y = some .local)
    (hsw : swapsWith (.DictComp kx vx [⟨tg, iter, ifs, 0⟩] scope pos) (some (.Name y py)) spos.line X.env = pure true) (hi : PI X tg iter wi) (ok : BlkOk X.N X.env.scope scope own)
    (hg : InBlk X scope fun Y => PG Y tg g) (ht : InBlk X scope fun Y => PTs Y ifs tt) (hk : InBlk X scope fun Y => PE Y kx tk) (he : InBlk X scope fun Y => PE Y vx tv) (hs : ∀ x, foldedSetIterable iter X.env x = pure x := by intro _; rfl) :
    PS X (.Assign [.Name y py] (.DictComp kx vx [⟨tg, iter, ifs, 0⟩] scope pos) spos) (tAsg (tDcM G X wi g tt tk tv (own.map (·.2))) (gName i)) := ⟨fun pins s σ H D I h => by
  rw [exec_Assign_Name_used _ _ _ _ hsw]
  refine wpAny_bind (wpAny_standAt (wpAny_bind ?_))
  show wpAny _ X.A (do let _ ← comprehension (.DictComp kx vx [⟨tg, iter, ifs, 0⟩] scope pos) scope X.env (firstIterPos [⟨tg, iter, ifs, 0⟩] pos) newDict false (eval iter X.env) (some (assign (.Name y py) X.env))) _ _ s
  have h' : tDcM G X wi g tt tk tv (own.map (·.2)) σ H (fun x H1 => gName i x σ H1 D.nx) := h
  refine wpAny_bind (thn (dcM_core (Qf := fun _ t => SP X pins D .next t) hu hK hc hN I hi ok hg ht hk he hs h' fun L C t m H' I' q hn ⟨c0, c1, _, c3, c4, c5⟩ => ?_) fun _ t hq => wpAny_pure (wpAny_pure hq))
  show wpAny _ _ (assign (.Name y py) X.env (.ref L)) _ _ _
  refine wpAny_assign_Name (store_ok2 (v := V.ref L) I' hN hy (.inl hyl) rfl (fun t2 I2 ⟨a, sb, ha⟩ => ?_) (.inr hyl))
  have apart : C ≠ a := ha.elim (fun z => by rw [z]; exact c1) fun z e => c4 y a z e.symm
  refine ⟨m, hn.sameBut sb apart, fun h3 sb3 => ?_⟩
  exact ⟨_, H', I2.turned (t' := t2.toks) (fun b o hb z => (sb3.2 b hb).trans z) c0 c1 c3 c4 c5, q⟩⟩
theorem swD_true {kx vx : Expr} {gs : List Comprehension} {scope : Scope} {pos py : Pos} {y : Str} {l : Nat} {env : Env} (hk : env.scope.kind = .function) (hy : env.scope.names.lookup y = some .local) (hl : (py.line == pos.line) = true)
    (ha : (scope.names.any fun (n, k) => n == y && (k == .local || k == .cell)) = false) : swapsWith (.DictComp kx vx gs scope pos) (some (.Name y py)) l env = pure true := by
  have k1 : env.kindOf y = some .local := hy
  have k2 : env.blockKind = .function := by unfold Env.blockKind; rw [hk]; rfl
  unfold swapsWith
  simp only [k2, k1, ha, Expr.pos, hl]
  rfl
end

end
section
/-! ### dict comprehensions in the mirror -/
noncomputable def mdstep (T : Tg) (C : Ft) (K V : Fe) (r : Me) (w : Mv) (acc : Mo) (s : Ms) : Option (Mo × Ms) := (T.asg w r).ob fun r1 => (C r1 s).ob fun c => cond c.1 ((K r1 c.2).ob fun k => (V r1 k.2).ob fun v => (dputO acc k.1 v.1).om fun acc' => (acc', v.2)) (some (acc, c.2))
noncomputable def mdflat (it : It0) (st : Mv → Mo → Ms → Option (Mo × Ms)) (m : Nat) : Nat → Mo → Ms → Option (Mo × Ms) := Nat.rec (motive := fun _ => Nat → Mo → Ms → Option (Mo × Ms)) (fun _ _ _ => none)
  (fun _ ih i acc s => match it.at i s with
    | none => none
    | some none => some (acc, s)
    | some (some w) => (st w acc s).ob fun x => ih (Nat.succ i) x.1 x.2) m
theorem mdflat_succ {it : It0} {st : Mv → Mo → Ms → Option (Mo × Ms)} {m i : Nat} {acc : Mo} {s : Ms} : mdflat it st (m + 1) i acc s = match it.at i s with
    | none => none
    | some none => some (acc, s)
    | some (some w) => (st w acc s).ob fun x => mdflat it st m (i + 1) x.1 x.2 := rfl
noncomputable def newO (o : Mo) (s : Ms) : Option (Mv × Ms) := (s.alloc o).om fun q => (.ref q.1, q.2)
noncomputable def mdc (I : Fi) (T : Tg) (C : Ft) (K V : Fe) (vs : List Nat) : Fe := fun r s => (I r s).ob fun x => (mdflat x.1 (mdstep T C K V (mwipe r vs)) 100000 0 (.dk []) x.2).ob fun y => newO y.1 y.2
section
variable {X : Cx} {G : Mg}
/-- a thing outside of the store is changed -/
theorem Sim.out_upd {p : List Addr} {s : Ms} {H : Hp} {D : Addr} {ho ho' : HO} (S : Sim G p s H) (hD : H D = some ho) (nt : ∀ vs, ho ≠ .tup vs) (nf : ∀ o u, ho ≠ .frz o u) (n : D ∉ p) : Sim G p s (upd H D ho') ∧ Stays p H p (upd H D ho') ∧ ∀ a o u, H a = some (.frz o u) → upd H D ho' a = some (.frz o u) := by
  have fz : ∀ a o u, H a = some (.frz o u) → upd H D ho' a = some (.frz o u) := fun a o u e => by rw [upd_ne (by rintro rfl; rw [hD] at e; exact nf o u (Option.some.inj e))]; exact e
  have st : Stays p H p (upd H D ho') := ⟨fun _ _ e => e, fun a vs e => by rw [upd_ne (by rintro rfl; rw [hD] at e; exact nt vs (Option.some.inj e))]; exact e, fun a o u _ e => fz a o u e⟩
  refine ⟨⟨S.len, S.nd, fun m b hb => ?_, S.out⟩, st, fz⟩
  obtain ⟨o1, ho1, q1, q2, q3⟩ := S.ob m b hb
  have hne : b ≠ D := by rintro rfl; exact n (List.mem_of_getElem? hb)
  exact ⟨o1, ho1, q1, by rw [upd_ne hne]; exact q2, q3.stay st⟩
/-- while the dict at D grows, outside of the store -/
structure MidD (G : Mg) (D : Addr) (p1 : List Addr) (H1 : Hp) (acc : Mo) (p : List Addr) (s : Ms) (H : Hp) : Prop where
  S : Sim G p s H
  f : Fra p1 H1 p H
  n : D ∉ p
  a : ∃ ho, H D = some ho ∧ DenO G p H D acc ho ∧ unl acc = true ∧ ∀ vs, ho ≠ .tup vs
theorem MidD.fra {D : Addr} {p1 p p' : List Addr} {H1 H H' : Hp} {acc : Mo} {s s' : Ms} (M : MidD G D p1 H1 acc p s H) (S' : Sim G p' s' H') (f : Fra p H p' H') : MidD G D p1 H1 acc p' s' H' := by
  obtain ⟨ho, h1, h2, h3, h4⟩ := M.a
  exact ⟨S', M.f.trans f, f.notin h1 M.n, ho, f.kee D _ h1 M.n, h2.stay (f.stays M.S), h3, h4⟩
theorem MidD.start {D : Addr} {p1 : List Addr} {H1 : Hp} {s1 : Ms} (S : Sim G p1 s1 H1) (hD : H1 D = none) : MidD G D p1 H1 (.dk []) p1 s1 (upd H1 D (.dK [])) :=
  ⟨S.fra_new hD, fra_new hD, S.free hD, ⟨_, upd_same, ⟨[], rfl, rfl, .nil⟩, rfl, fun _ z => by cases z⟩⟩
theorem dput_unl {o o' : Mo} {k v : Mv} (h : dputO o k v = some o') : unl o' = true := by
  unfold dputO at h
  cases o with
  | dk kvs =>
    simp only at h
    cases e : key1 k with
    | some ky =>
      rw [e] at h
      simp only at h
      cases e2 : Nat.blt (llen kvs) 16777216 with
      | false => rw [e2] at h; cases h
      | true => rw [e2] at h; cases h; rfl
    | none =>
      rw [e] at h
      cases kvs with
      | cons _ _ => cases h
      | nil => obtain ⟨_, _, g⟩ := omap_some.mp h; subst g; rfl
  | dn kvs =>
    simp only at h
    cases e2 : Nat.blt (llen kvs) 16777216 with
    | false => rw [e2] at h; cases h
    | true => rw [e2] at h; obtain ⟨_, _, g⟩ := omap_some.mp (show (keyT k).om _ = some o' from h); subst g; rfl
  | _ => cases h
theorem MidD.put {D : Addr} {p1 p : List Addr} {H1 H : Hp} {acc acc' : Mo} {s : Ms} {kw w : Mv} {y v : V} (hP : X.prog = G.P) (hw : X.w = G.w) (M : MidD G D p1 H1 acc p s H) (hD : H1 D = none) (q : dputO acc kw w = some acc') (dk : Den G p H kw y) (dv : Den G p H w v) :
    ∃ ho', DPA G X H D y v ho' ∧ MidD G D p1 H1 acc' p s (upd H D ho') := by
  obtain ⟨ho, h1, h2, h3, h4⟩ := M.a
  obtain ⟨ho', g1, g2, g3, _⟩ := dputO_at (X := X) hP hw h1 h2 q dk dv
  obtain ⟨S', st, fz⟩ := M.S.out_upd (ho' := ho') h1 h4 (h2.unl h3) M.n
  refine ⟨ho', g1, S', ⟨M.f.pre, fun a o e n => ?_, fun a o u e => fz a o u (M.f.frz a o u e)⟩, M.n, ho', upd_same, g2.stay st, dput_unl q, g3⟩
  rw [upd_ne (by rintro rfl; rw [hD] at e; cases e)]
  exact M.f.kee a o e n
theorem newO_end {D : Addr} {p1 p : List Addr} {H1 H : Hp} {acc : Mo} {s s' : Ms} {w : Mv} {Q : VK} (M : MidD G D p1 H1 acc p s H) (hD : H1 D = none) (h : newO acc s = some (w, s')) (k : After G p1 H1 w s' Q) : Q (.ref D) H := by
  obtain ⟨ho, h1, h2, _⟩ := M.a
  obtain ⟨⟨n, s1⟩, g1, g2⟩ := omap_some.mp h
  cases g2
  obtain ⟨S', d'⟩ := M.S.add g1 M.n h1 h2
  obtain ⟨q, eq, hq⟩ := M.f.pre
  refine k _ _ _ S' ⟨⟨q ++ [D], by rw [eq, List.append_assoc], fun a ha np => ?_⟩, M.f.kee, M.f.frz⟩ d'
  rcases List.mem_append.mp ha with z | z
  · exact hq a z np
  · rw [List.mem_singleton.mp z]; exact hD
theorem t_dc {I : Fi} {T : Tg} {C : Ft} {K V : Fe} {vs : List Nat} (hP : X.prog = G.P) (hw : X.w = G.w) (hT : ∀ i ∈ T.slots, i ∈ vs) {σ : L2.St} {H : Hp} {Q : VK} (h : tI G (mdc I T C K V vs) σ H Q) : tDcM G X (tIt G I) (tG G T) (tT G C) (tI G K) (tI G V) vs σ H Q := by
  obtain ⟨p, s, r, w, s', S, Er, q, k⟩ := h
  obtain ⟨⟨it, s1⟩, q1, q2⟩ := ob_some.mp q
  obtain ⟨⟨tot, s9⟩, q3, q4⟩ := ob_some.mp q2
  refine ⟨p, s, r, it, s1, S, Er, q1, fun p1 H1 J S1 f1 R D hD => ?_⟩
  have k1 := k.of f1
  have E1 := Er.fra S f1
  refine ⟨fun i m H2 => ∃ p2 s2 acc, MidD G D p1 H1 acc p2 s2 H2 ∧ mdflat it (mdstep T C K V (mwipe r vs)) m i acc s2 = some (tot, s9), ⟨100000, p1, s1, _, MidD.start S1 hD, q3⟩, ?_⟩
  rintro i m H2 ⟨p2, s2, acc, M, q5⟩
  cases m with
  | zero => cases q5
  | succ m =>
    have R2 := R p2 s2 H2 i M.S (M.f.stays S1) M.f.frz
    rw [mdflat_succ] at q5
    cases e : it.at i s2 with
    | none => rw [e] at q5; cases q5
    | some o =>
      cases o with
      | none =>
        rw [e] at q5
        have q5' : some (acc, s2) = some (tot, s9) := q5
        cases q5'
        exact .inl ⟨R2.1 e, newO_end M hD q4 k1⟩
      | some x =>
        rw [e] at q5
        obtain ⟨⟨acc2, s3⟩, q6, q7⟩ := ob_some.mp q5
        obtain ⟨g, y⟩ := R2.2 x e
        refine .inr ⟨g, fun H3 => ∃ p3 s3', MidD G D p1 H1 acc2 p3 s3' H3 ∧ s3' = s3, fun H3 ⟨p3, s3', M3, e3⟩ => ⟨m, Nat.lt_succ_self m, p3, s3', acc2, M3, by rw [e3]; exact q7⟩, fun v H' hy => ?_⟩
        obtain ⟨S2', f2', d⟩ := y v H' hy
        have M2 := M.fra S2' f2'
        obtain ⟨r1, a1, a2⟩ := ob_some.mp q6
        obtain ⟨⟨c, s5⟩, a3, a4⟩ := ob_some.mp a2
        have E2 : EnvR G p2 H' (mwipe r vs) (L2.wipe σ vs) := (((E1.fra S1 M.f).fra M.S f2').wipe vs)
        refine ⟨p2, s2, _, x, r1, S2', E2, d, a1, fun σ2 E3 hs => ⟨?_, p2, s2, r1, c, s5, S2', E3, a3, fun p5 H5 S5 f5 => ?_⟩⟩
        · refine wipe_same ?_ fun i hi => hs i fun z => hi (hT i z)
          rw [← E3.len, asg_len a1]
          have := E2.len
          rw [wipe_length] at this
          exact this
        · have M5 := M2.fra S5 f5
          have E5 := E3.fra S2' f5
          cases c with
          | false =>
            refine itF ?_
            have a4' : some (acc, s5) = some (acc2, s3) := a4
            cases a4'
            exact ⟨p5, _, M5, rfl⟩
          | true =>
            refine itT ?_
            obtain ⟨⟨kk, s6⟩, a5, a6⟩ := ob_some.mp (show (K r1 s5).ob _ = some (acc2, s3) from a4)
            obtain ⟨⟨z, s7⟩, a7, a8⟩ := ob_some.mp a6
            obtain ⟨acc3, a9, a10⟩ := omap_some.mp a8
            cases a10
            refine ⟨p5, s5, r1, kk, s6, S5, E5, a5, fun p6 v6 H6 S6 f6 d6 => ⟨p6, s6, r1, z, s7, S6, E5.fra S5 f6, a7, fun p7 v7 H7 S7 f7 d7 => ?_⟩⟩
            obtain ⟨ho', g1, g2⟩ := ((M5.fra S6 f6).fra S7 f7).put (X := X) hP hw hD a9 (d6.fra S6 f7) d7
            exact ⟨ho', g1, p7, _, g2, rfl⟩
theorem pm_dc {kx vx tg iter : Expr} {ifs : List Expr} {scope : Scope} {own : List (Str × Nat)} {pos : Pos} {I : Fi} {T : Tg} {C : Ft} {K V : Fe} (hu : X.A.units + 64 < cLine) (hc : X.calm = true) (hN : X.N.Nodup) (hi : PI X tg iter (tIt G I)) (ok : BlkOk X.N X.env.scope scope own)
    (hg : InBlk X scope fun Y => PG Y tg (tG G T)) (ht : InBlk X scope fun Y => PTs Y ifs (tT G C)) (hk : InBlk X scope fun Y => PE Y kx (tI G K)) (he : InBlk X scope fun Y => PE Y vx (tI G V)) (hT : ∀ i ∈ T.slots, i ∈ own.map (·.2) := by decide) (hs : ∀ x, foldedSetIterable iter X.env x = pure x := by intro _; rfl)
    (hK : X.K = G.K := by rfl) (hP : X.prog = G.P := by rfl) (hw : X.w = G.w := by rfl) :
    PE X (.DictComp kx vx [⟨tg, iter, ifs, 0⟩] scope pos) (tI G (mdc I T C K V (own.map (·.2)))) := pe_imp (pe_dcM hu hK hc hN hi ok hg ht hk he hs) fun _ _ _ h => t_dc hP hw hT h
theorem sm_setDc {i : Nat} {y : Str} {py : Pos} {kx vx tg iter : Expr} {ifs : List Expr} {scope : Scope} {own : List (Str × Nat)} {pos spos : Pos} {I : Fi} {T : Tg} {C : Ft} {K V : Fe} (hu : X.A.units + 64 < cLine) (hc : X.calm = true) (hN : X.N.Nodup) (hy : X.N[i]? = some y) (hyl : X.env.scope.names.lookup y = some .local)
    (hsw : swapsWith (.DictComp kx vx [⟨tg, iter, ifs, 0⟩] scope pos) (some (.Name y py)) spos.line X.env = pure true) (hi : PI X tg iter (tIt G I)) (ok : BlkOk X.N X.env.scope scope own)
    (hg : InBlk X scope fun Y => PG Y tg (tG G T)) (ht : InBlk X scope fun Y => PTs Y ifs (tT G C)) (hk : InBlk X scope fun Y => PE Y kx (tI G K)) (he : InBlk X scope fun Y => PE Y vx (tI G V)) (hT : ∀ i ∈ T.slots, i ∈ own.map (·.2) := by decide) (hs : ∀ x, foldedSetIterable iter X.env x = pure x := by intro _; rfl)
    (hK : X.K = G.K := by rfl) (hP : X.prog = G.P := by rfl) (hw : X.w = G.w := by rfl) :
    PS X (.Assign [.Name y py] (.DictComp kx vx [⟨tg, iter, ifs, 0⟩] scope pos) spos) (tS G (sset i (mdc I T C K V (own.map (·.2))))) :=
  ps_imp (ps_setDcM hu hK hc hN hy hyl hsw hi ok hg ht hk he hs) fun D σ H ⟨p, s, r, f, r', s', S, E, q, k⟩ => by
    obtain ⟨⟨x, s1⟩, q1, q2⟩ := omap_some.mp q
    cases q2
    exact t_dc hP hw hT ⟨p, s, r, x, s1, S, E, q1, fun p1 v1 H1 S1 f1 d1 => k p1 H1 S1 f1 _ ((E.fra S f1).set d1)⟩
end

end
section
/-! ### further methods of lists; xs[i] += e -/
noncomputable def extW (n : Nat) (xs ws : List Mv) (s : Ms) : Option (Mv × Ms) := match ws with
  | [.ref m] => match s.get m with
    | some (.lst ys) => cond (Nat.ble (llen xs + llen ys) 16777216) (some (.non, s.put n (.lst (lapp xs ys)))) none
    | _ => none
  | _ => none
/-- the first place of a whole number in a list of such ones -/
noncomputable def findI (k : Int) (xs : List Mv) : Option (Nat × List Mv) := List.rec (motive := fun _ => Option (Nat × List Mv)) none
  (fun x r ih => match x with
    | .int i => cond (iEq i k) (some (0, r)) (ih.om fun q => (q.1 + 1, x :: q.2))
    | _ => none) xs
noncomputable def intsOf : List Mv → Option (List Int)
  | [] => some []
  | .int x :: ws => (intsOf ws).om fun r => x :: r
  | _ => none
noncomputable def remW (n : Nat) (xs ws : List Mv) (s : Ms) : Option (Mv × Ms) := match ws with
  | [.int k] => match intsOf xs with
    | some _ => (findI k xs).om fun q => (.non, s.put n (.lst q.2))
    | _ => none
  | _ => none
noncomputable def pop0W (n : Nat) (xs ws : List Mv) (s : Ms) : Option (Mv × Ms) := match ws with
  | [] => (lget xs (Nat.sub (llen xs) 1)).om fun w => (w, s.put n (.lst xs.dropLast))
  | _ => none
noncomputable def sagS (O I A : Fe) (f : Mv → Mv → Ms → Option (Mv × Ms)) : Fs := fun r s => (O r s).ob fun o => (I r o.2).ob fun i => match o.1, i.1 with
  | .ref n, .int (.ofNat k) => match i.2.get n with
    | some (.lst xs) => (lget xs k).ob fun x => (A r i.2).ob fun y => (f x y.1 y.2).ob fun z => match z.2.get n with
      | some (.lst ys) => cond (Nat.blt k (llen ys)) (some (.nx, r, z.2.put n (.lst (lset ys k z.1)))) none
      | _ => none
    | _ => none
  | _, _ => none
section
variable {X : Cx} {G : Mg} {e o : Expr} {pos : Pos}
theorem lm_ext : LmR G extW rExtend := by
  intro p s H n a xs vs ws us w s' Q S hn en ha l hz lw q k
  match ws, lw, q with
  | [.ref m], .cons (.ref hm) .nil, q =>
    rename_i b
    have q' : (match s.get m with
      | some (.lst ys) => cond (Nat.ble (llen xs + llen ys) 16777216) (some (Mv.non, s.put n (.lst (lapp xs ys)))) none
      | _ => none) = some (w, s') := q
    split at q'
    · rename_i ys ey
      cases e : Nat.ble (llen xs + llen ys) 16777216 with
      | false => rw [e] at q'; cases q'
      | true =>
        rw [e] at q'; cases q'
        obtain ⟨ho, hb, us', rfl, l', hz'⟩ := S.get hm ey
        have hlt : vs.length + us'.length ≤ sizeLine := by
          rw [← l.length, ← l'.length, sz_eq, ← llen_eq, ← llen_eq]; exact Nat.le_of_ble_eq_true e
        obtain ⟨S2, f2⟩ := S.put hn en rfl (ho := .lst (vs ++ us')) (o := .lst (lapp xs ys)) (fun _ z => by cases z) ⟨_, rfl, by rw [lapp_eq]; exact l.append l', by rw [List.length_append]; exact hlt⟩
        exact ⟨a, b, vs, us', rfl, rfl, ha, hb, hlt, k p _ _ S2 f2 .non⟩
    · cases q'
theorem intsOf_ok {p : List Addr} {H : Hp} : ∀ {ws : List Mv} {vs : List V} {ns : List Int}, DenL G p H ws vs → intsOf ws = some ns → vs = ns.map V.int
  | [], _, _, .nil, e => by cases e; rfl
  | .int x :: ws, _, _, .cons (.int _) l, e => by
    obtain ⟨r, e1, e2⟩ := omap_some.mp (show (intsOf ws).om _ = _ from e)
    cases e2
    rw [intsOf_ok l e1]; rfl
theorem findI_ok {k : Int} : ∀ {ws : List Mv} {ns : List Int} {j : Nat} {rs : List Mv}, intsOf ws = some ns → findI k ws = some (j, rs) → ns[j]? = some k ∧ (∀ m, m < j → ns[m]? ≠ some k) ∧ rs = ws.eraseIdx j
  | [], _, _, _, _, e => by cases e
  | .int x :: ws, ns, j, rs, h, e => by
    obtain ⟨r, e1, e2⟩ := omap_some.mp (show (intsOf ws).om _ = _ from h)
    cases e2
    have e' : cond (iEq x k) (some (0, ws)) ((findI k ws).om fun q => (q.1 + 1, Mv.int x :: q.2)) = some (j, rs) := e
    cases hx : iEq x k with
    | true =>
      rw [hx] at e'; cases e'
      have : x = k := by rw [iEq_eq] at hx; exact of_decide_eq_true hx
      exact ⟨by rw [this]; rfl, fun m hm => absurd hm (Nat.not_lt_zero _), rfl⟩
    | false =>
      rw [hx] at e'
      obtain ⟨⟨j', rs'⟩, e3, e4⟩ := omap_some.mp (show ((findI k ws).om fun q => (q.1 + 1, Mv.int x :: q.2)) = some (j, rs) from e')
      cases e4
      obtain ⟨h1, h2, h3⟩ := findI_ok e1 e3
      refine ⟨h1, fun m hm => ?_, by rw [h3]; rfl⟩
      cases m with
      | zero =>
        intro z
        have z' : x = k := Option.some.inj z
        rw [iEq_eq, decide_eq_true z'] at hx; cases hx
      | succ m => exact h2 m (Nat.lt_of_succ_lt_succ hm)
theorem lm_rem : LmR G remW rRemI := by
  intro p s H n a xs vs ws us w s' Q S hn en ha l hz lw q k
  match ws, lw, q with
  | [.int i], .cons (.int _) .nil, q =>
    have q' : (match intsOf xs with
      | some _ => (findI i xs).om fun q => (Mv.non, s.put n (.lst q.2))
      | _ => none) = some (w, s') := q
    split at q'
    · rename_i ns ei
      obtain ⟨⟨j, rs⟩, e1, e2⟩ := omap_some.mp q'
      cases e2
      have ev := intsOf_ok l ei
      obtain ⟨h1, h2, h3⟩ := findI_ok ei e1
      subst ev
      obtain ⟨S2, f2⟩ := S.put hn en rfl (ho := .lst ((ns.map V.int).eraseIdx j)) (o := .lst rs) (fun _ z => by cases z) ⟨_, rfl, by rw [h3]; exact l.erase j, Nat.le_trans (List.length_eraseIdx_le ..) hz⟩
      exact ⟨a, ns, i, j, rfl, rfl, ha, h1, h2, by rw [← erase_mapI]; exact k p _ _ S2 f2 .non⟩
    · cases q'
theorem lm_pop0 : LmR G pop0W rPop := by
  intro p s H n a xs vs ws us w s' Q S hn en ha l hz lw q k
  match ws, lw, q with
  | [], .nil, q =>
    obtain ⟨x, g3, g4⟩ := omap_some.mp (show ((lget xs (Nat.sub (llen xs) 1)).om fun w => (w, s.put n (.lst xs.dropLast))) = some (w, s') from q)
    cases g4
    rw [lget_eq, llen_eq] at g3
    obtain ⟨v, g5, d⟩ := l.get g3
    obtain ⟨S2, f2⟩ := S.put hn en rfl (ho := .lst vs.dropLast) (o := .lst xs.dropLast) (fun _ z => by cases z) ⟨_, rfl, by rw [List.dropLast_eq_take, List.dropLast_eq_take, ← l.length]; exact l.take _, Nat.le_trans (by rw [List.length_dropLast]; omega) hz⟩
    exact ⟨a, vs, v, rfl, rfl, ha, by rw [← l.length]; exact g5, k p _ _ S2 f2 (d.fra S f2)⟩
theorem pm_bmL0 {f : Nat → List Mv → List Mv → Ms → Option (Mv × Ms)} {r : V → List V → Hp → VK → Prop} {O : Fe} {name : Str} {apos : Pos} (hf : LmR G f r)
    (h : PE X (.Call (.Attribute o name apos) [] [] pos) (tBM0 X.K "list" r (tI G O))) : PE X (.Call (.Attribute o name apos) [] [] pos) (tI G (mbmL f O mnil)) := pe_imp h fun σ H Q ⟨p, s, rr, w, s', S, E, q, k⟩ => by
  obtain ⟨⟨x, s1⟩, q1, q2⟩ := ob_some.mp q
  refine ⟨p, s, rr, x, s1, S, E, q1, fun p1 v1 H1 S1 f1 d1 => ?_⟩
  cases d1 <;> try (cases q2; done)
  rename_i n a hn
  simp only at q2
  split at q2
  · rename_i zs e
    obtain ⟨ho, h1, vs, rfl, ll, hz⟩ := S1.get hn e
    obtain ⟨⟨ys, s2⟩, q3, q4⟩ := ob_some.mp q2
    cases q3
    simp only at q4
    split at q4
    · rename_i xs e2
      obtain ⟨ho, h2, vs2, rfl, ll2, hz2⟩ := S1.get hn e2
      exact ⟨.inl ⟨rfl, vs, SqL.of h1⟩, hf p1 s1 H1 n a xs vs2 [] [] w s' Q S1 hn e2 h2 ll2 hz2 .nil q4 (k.of f1)⟩
    · cases q4
  · cases q2
/-- xs[k], k from 0 on, by values -/
noncomputable def rGetL (K : PySem.W.Frag) : V → V → Hp → VK → Prop := fun o i H Q => ∃ a vs, ∃ (k : Nat) (v : V), o = .ref a ∧ i = .int (Int.ofNat k) ∧ SqL K H a vs ∧ vs[k]? = some v ∧ Q v H
theorem get_list : PGet X (rGetL X.K) := by
  intro pins s σ H o i ov iv Q I ro ri h
  obtain ⟨a, vs, k, v, rfl, rfl, hq, hv, q⟩ := h
  cases ro
  obtain ⟨t, rfl⟩ := ri
  obtain ⟨its, r, pl, hz⟩ := I.list hq
  obtain ⟨w, ew, rw'⟩ := r.get hv
  have hl := r.length
  have hn := line63
  have hk : k < vs.length := (List.getElem?_eq_some_iff.mp hv).1
  exact wpAny_getItem_list pl.isList (Int.natCast_nonneg _) (by show ((k : Int)) < 2 ^ 63; omega) (by simpa using ew) ⟨v, H, I, rw', q⟩
theorem sm_agS {O I A : Fe} {i : Expr} {tp : Pos} {op : Operator} {f : Mv → Mv → Ms → Option (Mv × Ms)} (h : PS X (.AugAssign (.Subscript o i tp) op e pos) (tAugS (tI G O) (tI G I) (tI G A) (rGetL X.K) (q2R G f) rSetL)) (hK : X.K = G.K := by rfl) :
    PS X (.AugAssign (.Subscript o i tp) op e pos) (tS G (sagS O I A f)) := ps_imp h fun D σ H ⟨p, s, r, fl, r', s', S, E, q, k⟩ => by
  obtain ⟨⟨x, s1⟩, q1, q2⟩ := ob_some.mp q
  obtain ⟨⟨z, s2⟩, q3, q4⟩ := ob_some.mp q2
  refine ⟨p, s, r, x, s1, S, E, q1, fun p1 v1 H1 S1 f1 d1 => ⟨p1, s1, r, z, s2, S1, E.fra S f1, q3, fun p2 v2 H2 S2 f2 d2 => ?_⟩⟩
  simp only at q4
  split at q4
  · rename_i n k0
    cases d2
    have d1' := d1.fra S1 f2
    cases d1'
    rename_i a hn
    split at q4
    · rename_i xs ex
      obtain ⟨x0, g1, g2⟩ := ob_some.mp q4
      obtain ⟨⟨y, s3⟩, g3, g4⟩ := ob_some.mp g2
      obtain ⟨⟨z, s4⟩, g5, g6⟩ := ob_some.mp g4
      obtain ⟨ho, h1, vs, rfl, l, hz⟩ := S2.get hn ex
      rw [lget_eq] at g1
      obtain ⟨v0, hv0, d0⟩ := l.get g1
      refine ⟨a, vs, k0, v0, rfl, rfl, SqL.of h1, hv0, p2, s2, r, y, s3, S2, (E.fra S f1).fra S1 f2, g3, fun p3 v3 H3 S3 f3 d3 => ⟨p3, s3, x0, y, z, s4, S3, d0.fra S2 f3, d3, g5, fun p4 v4 H4 S4 f4 d4 => ?_⟩⟩
      simp only at g6
      split at g6
      · rename_i ys ey
        cases eb : Nat.blt k0 (llen ys) with
        | false => rw [eb] at g6; cases g6
        | true =>
          rw [eb] at g6; cases g6
          have hn4 := (f3.trans f4).at hn
          obtain ⟨ho, h4, vs4, rfl, l4, hz4⟩ := S4.get hn4 ey
          have hk : k0 < vs4.length := by rw [← l4.length, ← llen_eq]; exact Nat.blt_eq.mp eb
          obtain ⟨S5, f5⟩ := S4.put hn4 ey rfl (ho := .lst (vs4.set k0 v4)) (o := .lst (lset ys k0 z)) (fun _ z => by cases z) ⟨_, rfl, by rw [lset_eq]; exact DenL.set d4 k0 l4, by rw [List.length_set]; exact hz4⟩
          refine ⟨a, vs4, _, k0, rfl, rfl, h4, ?_, ?_⟩
          · unfold L2.ixN
            simp [hk]
          · exact k p4 _ S5 ((((f1.trans f2).trans f3).trans f4).trans f5) σ (((((E.fra S f1).fra S1 f2).fra S2 f3).fra S3 f4).fra S4 f5)
      · cases g6
    · cases q4
  · cases q4
noncomputable def isW2 (a b : Mv) (s : Ms) : Option (Mv × Ms) := match a, b with
  | .int i, .int j => some (.int (i - j), s)
  | _, _ => none
theorem pip_sub : PIp X .Sub (q2R G isW2) := by
  intro pins s σ H x y v u Q I rx ry h
  obtain ⟨p, s0, a, b, w, s', S, da, db, q, k⟩ := h
  cases da <;> cases db <;> try (cases q; done)
  cases q
  exact ip_sub pins s σ H _ _ v u Q I rx ry ⟨_, _, rfl, rfl, k p _ H S Fra.refl (.int _)⟩
end

end
section
/-! ### a dict displayed with one entry -/
theorem subDict_one {prog : Program} {w : World} {A : Around} {E : Value → Shared → Prop} {s : Shared} {pairs : List (Sem Value × Sem Value)} {Q : Addr → Shared → Prop} (hlen : pairs.length ≤ 15)
    (h : wpAny (model prog w) A (evalPairs pairs) (fun vs s₁ => ∃ a b, vs = [(a, b)] ∧ wpAny (model prog w) A (dictSet s.heap.objs.size a b) (fun _ s₂ => Q s.heap.objs.size s₂) E s₁) E
      { s with heap := s.heap.push { cls := .type "dict", data := .dict #[] } }) :
    wpAny (model prog w) A (subDict pairs) Q E s := by
  unfold subDict
  refine wpAny_bind (wpAny_alloc ?_)
  refine wpAny_bind (wpAny_holding ?_)
  rw [if_pos hlen]
  refine wpAny_bind (wpAny_mono h (fun vs s₁ h₁ => ?_) fun _ _ e => e)
  obtain ⟨a, b, rfl, hq⟩ := h₁
  refine wpAny_holding ?_
  refine wpAny_bind ?_
  rw [List.forIn_cons]
  refine wpAny_bind (wpAny_bind (wpAny_mono hq (fun _ s₂ q => wpAny_pure ?_) fun _ _ e => e))
  show wpAny _ _ (forIn [] PUnit.unit _) _ _ _
  rw [List.forIn_nil]
  exact wpAny_pure (wpAny_pure (wpAny_pure q))
noncomputable def mdis1 (K V : Fe) : Fe := fun r s => (K r s).ob fun k => (V r k.2).ob fun v => (dputO (.dk []) k.1 v.1).ob fun d => newO d v.2
section
variable {X : Cx} {G : Mg} {e o : Expr} {pos : Pos}
theorem pm_dis1 {kx vx : Expr} {K V : Fe} (hu : X.A.units + 64 < cLine) (hk : PE X kx (tI G K)) (hv : PE X vx (tI G V)) (hK : X.K = G.K := by rfl) (hP : X.prog = G.P := by rfl) (hw : X.w = G.w := by rfl) : PE X (.Dict [some kx] [vx] pos) (tI G (mdis1 K V)) := by
  refine ⟨fun pins s σ H Q I ⟨p, ms, r, w, ms', S, E, q, k⟩ => ?_⟩
  obtain ⟨⟨x, s1⟩, q1, q2⟩ := ob_some.mp q
  obtain ⟨⟨y, s2⟩, q3, q4⟩ := ob_some.mp q2
  obtain ⟨d, q5, q6⟩ := ob_some.mp q4
  have hD := I.hok.fresh (Nat.le_refl s.heap.objs.size)
  have I1 := I.laid (a := s.heap.objs.size) (o := .dK []) (h' := s.heap.push { cls := .type "dict", data := .dict #[] }) (t' := s.toks) (fun _ _ q => Heap.get?_push_of_some _ q) (Nat.le_refl _) (dk_empty s.heap I.big)
  have M0 := MidD.start S hD
  have PP : PPs X pos [some kx] [vx] [(tI G K, tI G V)] := pps_cons hk hv pps_nil
  rw [arm_eval_Dict, zip_pairTrees [some kx] [vx] X.env pos rfl rfl, dictDisplay_pairs _ (by simp [pairTrees]) (by simp [pairTrees])]
  refine wpAny_bind (wpAny_standAt (wpAny_bind (subDict_one (by simp [pairTrees]) ?_)))
  refine thn (PP.run pins _ σ _ (fun ps H2 => ∃ p2 vk vv, ps = [(vk, vv)] ∧ MidD G s.heap.objs.size p H (.dk []) p2 s2 H2 ∧ Den G p2 H2 x vk ∧ Den G p2 H2 y vv) I1 ?_) fun ws s3 ⟨ps, H2, I2, rel, p2, vk, vv, eps, M2, dx, dy⟩ => ?_
  · refine ⟨p, ms, r, x, s1, M0.S, E.fra S M0.f, q1, fun p1 v1 H1 S1 f1 d1 => ⟨p1, s1, r, y, s2, S1, (E.fra S M0.f).fra M0.S f1, q3, fun p2 v2 H2 S2 f2 d2 => ?_⟩⟩
    exact ⟨p2, v1, v2, rfl, (M0.fra S1 f1).fra S2 f2, d1.fra S1 f2, d2⟩
  · subst eps
    cases rel with
    | @cons a b as bs h1 t =>
      cases t
      obtain ⟨ho', g1, g2⟩ := M2.put (X := X) hP hw hD q5 dx dy
      refine ⟨b.1, b.2, rfl, dpa_dictSet hu I2 hK g1 h1.1 h1.2 fun s' I' => wpAny_pure ?_⟩
      exact ⟨.ref s.heap.objs.size, _, I', rfl, newO_end g2 hD q6 k⟩
/-! ### methods of dicts with one argument -/
/-- what the mirror's dict method must be -/
def DmR (X : Cx) (G : Mg) (id : String) (g : Nat → Mo → Mv → Ms → Option (Mv × Ms)) : Prop := ∀ pins s σ H p ms n a o y vy uy w ms' Q, Inv X pins σ H s → Sim G p ms H → p[n]? = some a → ms.get n = some o → isDict o = true → Den G p H y vy → RelV vy uy → g n o y ms = some (w, ms') → After G p H w ms' Q →
  wpAny (model X.prog X.w) X.A (call (.builtin id) [.ref a, uy]) (EP X pins σ Q) X.xe s
noncomputable def mdm1 (g : Nat → Mo → Mv → Ms → Option (Mv × Ms)) (D K : Fe) : Fe := fun r s => (D r s).ob fun x => (K r x.2).ob fun y => match x.1 with
  | .ref n => match x.2.get n, y.2.get n with
    | some o0, some o => cond (isDict o0) (cond (isDict o) (g n o y.1 y.2) none) none
    | _, _ => none
  | _ => none
theorem dict_type {pins : List (Addr × Obj)} {σ : L2.St} {H : Hp} {s : Shared} {p : List Addr} {ms : Ms} {n : Nat} {a : Addr} {o : Mo} (I : Inv X pins σ H s) (hK : X.K = G.K) (hP : X.prog = G.P) (hw : X.w = G.w) (S : Sim G p ms H) (hn : p[n]? = some a) (e : ms.get n = some o) (hd : isDict o = true) :
    s.TypeIs (.ref a) "dict" ∧ ∀ b, Value.ref a = .ref b → ∃ ob, s.heap.get? b = some ob ∧ ob.dict = none := by
  have D0 := S.dict (X := X) hP hw hn e hd
  have nk : ∀ {kvs : List (NestedKey × Mv × Mv)} {xs}, Rd H a (NDo X.prog X.w a xs) → DenN G p H kvs xs → s.TypeIs (.ref a) "dict" ∧ ∀ b, Value.ref a = .ref b → ∃ ob, s.heap.get? b = some ob ∧ ob.dict = none := fun rd l => by
    obtain ⟨_, _, ys, _, dd⟩ := nd_rd I hK rd l
    refine ⟨dd.typeIs, fun b eb => ?_⟩
    cases eb
    obtain ⟨oo, _, _, h1, h2, _⟩ := dd
    exact ⟨oo, h1, h2.2.1⟩
  have pk : ∀ {kvs'}, Rd H a (.dK kvs') → s.TypeIs (.ref a) "dict" ∧ ∀ b, Value.ref a = .ref b → ∃ ob, s.heap.get? b = some ob ∧ ob.dict = none := fun rd => by
    obtain ⟨_, _, vs, _, dd⟩ := dk_rd I.hok rd
    refine ⟨dd.typeIs, fun b eb => ?_⟩
    cases eb
    obtain ⟨oo, _, _, h1, h2, _⟩ := dd
    exact ⟨oo, h1, h2.2.1⟩
  cases D0 with
  | k rd _ => exact pk rd
  | lk rd _ => exact pk rd
  | n rd l => exact nk rd l
  | ln rd l => exact nk rd l
theorem pm_dm1 {id : String} {name : Str} {g : Nat → Mo → Mv → Ms → Option (Mv × Ms)} {apos cpos : Pos} {D K : Fe} (hg : DmR X G id g) (sl : Slot "dict" name id) (hty : typeOf (.builtin id) = pure (.type "method_descriptor")) (ho : PE X o (tI G D)) (he : PE X e (tI G K)) (m : M1 X o name apos e cpos) (hK : X.K = G.K := by rfl) (hP : X.prog = G.P := by rfl) (hw : X.w = G.w := by rfl) :
    PE X (.Call (.Attribute o name apos) [e] [] cpos) (tI G (mdm1 g D K)) := by
  refine ⟨fun pins s σ H Q I ⟨p, ms, r, w, ms', S, E, q, k⟩ => ?_⟩
  obtain ⟨⟨x, s1⟩, q1, q2⟩ := ob_some.mp q
  obtain ⟨⟨y, s2⟩, q3, q4⟩ := ob_some.mp q2
  refine wpAny_Call_method m.base m.few m.line PySem.F.plainAttrs_dict sl hty (thn (ho.run pins s σ H (fun v1 H1 => ∃ p1, Sim G p1 s1 H1 ∧ Fra p H p1 H1 ∧ Den G p1 H1 x v1) I ⟨p, ms, r, x, s1, S, E, q1, fun p1 v1 H1 S1 f1 d1 => ⟨p1, S1, f1, d1⟩⟩) fun u t1 ⟨vx, H1, I1, rx, p1, S1, f1, d1⟩ => ?_)
  cases x with
  | ref n =>
    cases d1
    rename_i ad hn
    cases rx
    simp only at q4
    cases e0 : s1.get n with
    | none => rw [e0] at q4; cases q4
    | some o0 =>
      rw [e0] at q4
      cases e1 : s2.get n with
      | none => rw [e1] at q4; cases q4
      | some ob =>
        rw [e1] at q4
        simp only at q4
        cases hd0 : isDict o0 with
        | false => rw [hd0] at q4; cases q4
        | true =>
          rw [hd0] at q4
          cases hd1 : isDict ob with
          | false => rw [hd1] at q4; cases q4
          | true =>
            rw [hd1] at q4
            have ty := dict_type I1 hK hP hw S1 hn e0 hd0
            refine ⟨ty.1, ty.2, ?_⟩
            rw [m.trees]
            refine Calls.callWith_builtin rfl (Calls.evalArgs_plain (Calls.spliced_cons (thn (he.run pins t1 σ H1 (fun v2 H2 => ∃ p2, Sim G p2 s2 H2 ∧ Fra p1 H1 p2 H2 ∧ Den G p2 H2 y v2) I1 ⟨p1, s1, r, y, s2, S1, E.fra S f1, q3, fun p2 v2 H2 S2 f2 d2 => ⟨p2, S2, f2, d2⟩⟩) fun iv t2 ⟨vy, H2, I2, ry, p2, S2, f2, d2⟩ => Calls.spliced_nil ?_)))
            exact hg pins t2 σ H2 p2 s2 n ad ob y vy iv w ms' Q I2 S2 (f2.at hn) e1 hd1 d2 ry q4 (k.of (f1.trans f2))
  | _ => cases q4
/-! ### d.update(d2) -/
noncomputable def dkMerge (kvs more : List (Key × Mv)) : List (Key × Mv) := List.rec (motive := fun _ => List (Key × Mv) → List (Key × Mv)) (fun acc => acc) (fun x _ ih acc => ih (dkPut x.1 x.2 acc)) more kvs
noncomputable def updW (n : Nat) (o : Mo) (y : Mv) (s : Ms) : Option (Mv × Ms) := match y with
  | .ref m => cond (Nat.beq m n) none (match o, s.get m with
    | .dk kvs, some (.dk more) => cond (Nat.ble (llen kvs + llen more) 16777216) (some (.non, s.put n (.dk (dkMerge kvs more)))) none
    | _, _ => none)
  | _ => none
theorem dkMerge_ok {p : List Addr} {H : Hp} : ∀ {more : List (Key × Mv)} {more' : List (Key × V)} {kvs : List (Key × Mv)} {kvs' : List (Key × V)}, DK G p H kvs kvs' → DK G p H more more' → DK G p H (dkMerge kvs more) (mergeK kvs' more') := by
  intro more more' kvs kvs' h hm
  have P := hm.inv
  clear hm
  induction P generalizing kvs kvs' with
  | nil => exact h
  | @cons a b as bs r t ih =>
    have := dk_put (k := b.1) r.2 h
    rw [← r.1] at this
    have z := ih this
    show DK G p H (dkMerge (dkPut a.1 a.2 kvs) as) (mergeK (putK kvs' b.1 b.2) bs)
    rw [← r.1]
    exact z
theorem dm_upd (hK : X.K = G.K := by rfl) (hP : X.prog = G.P := by rfl) (hw : X.w = G.w := by rfl) : DmR X G "dict.update" updW := by
  intro pins s σ H p ms n a o y vy uy w ms' Q I S hn e hd d ry q k
  cases y with
  | ref m =>
    cases d
    rename_i b hm
    cases ry
    unfold updW at q
    simp only at q
    cases hmn : Nat.beq m n with
    | true => rw [hmn] at q; cases q
    | false =>
      rw [hmn] at q
      have nab : a ≠ b := by
        rintro rfl
        have := S.nd
        have z : m = n := nodup_at S.nd hm hn
        rw [z, Nat.beq_refl] at hmn; cases hmn
      simp only [cond_false] at q
      split at q
      · rename_i kvs more e2
        cases hz : Nat.ble (llen kvs + llen more) 16777216 with
        | false => rw [hz] at q; cases q
        | true =>
          rw [hz] at q; cases q
          obtain ⟨ho, h1, kvs', rfl, c1, c2⟩ := S.get hn e
          obtain ⟨ho, h2, more', rfl, c3, c4⟩ := S.get hm e2
          obtain ⟨z1, l1, vs, r1, dd1⟩ := dk_of I.hok h1
          obtain ⟨z2, l2, us, r2, dd2⟩ := dk_of I.hok h2
          have len1 : kvs.length = kvs'.length := by have := congrArg List.length c1; simpa using this.symm
          have len2 : more.length = more'.length := by have := congrArg List.length c3; simpa using this.symm
          have hl : kvs'.length + more'.length ≤ sizeLine := by rw [sz_eq, ← len1, ← len2, ← llen_eq, ← llen_eq]; exact Nat.le_of_ble_eq_true hz
          refine call_meetsIn PySem.F.slot_dict_update dd1.typeIs PySem.F.entry_dict_update (PySem.F.args_dict_update_2 _ _) (meets_dict_update (mixKind X.prog X.w) a b nab l2)
            ⟨vs, us, dd1, dd2, (by rw [← r1.length, ← r2.length]; exact hl), fun h' hmm _ hs => ?_⟩
          have hz' : (mergeK kvs' more').length ≤ sizeLine := Nat.le_trans (length_mergeK more' kvs') hl
          have I' := d_write (t' := s.toks) I (by rw [h1]; exact True.intro) hs (let ⟨q, _, _, hq, _⟩ := hmm; ⟨q, hq⟩) (dk_new hz' l1 (r2.merge r1) hmm)
          have DD := dkMerge_ok (G := G) (p := p) (H := H) (kvs := kvs) (more := more) ⟨c1, c2⟩ ⟨c3, c4⟩
          obtain ⟨S2, f2⟩ := S.put hn e rfl (ho := .dK (mergeK kvs' more')) (o := .dk (dkMerge kvs more)) (fun _ z => by cases z) ⟨_, rfl, DD.1, DD.2⟩
          exact ⟨.non, _, I', rfl, k p _ _ S2 f2 .non⟩
      · cases q
  | _ => cases q
end

end
section
/-! ### isinstance with an own class -/
structure IsC (K : PySem.W.Frag) (C : Addr) : Prop where
  tu : PySem.W.kitOne K (.type "tuple") (.ref C) = some false
  ls : PySem.W.kitOne K (.type "list") (.ref C) = some false
  ha : PySem.W.findIn K (.ref C) "__class__" = some (some (.builtin "object.__class__"))
  hn : PySem.W.specialIn K (.builtin "object.__class__") "__get__" = some (some (.builtin "getset_descriptor.__get__"))
  tk : PySem.W.takesIn K (.builtin "object.__class__") = some true
  hm : PySem.W.mroIn K C (.type "object") = some true
def isCB (K : PySem.W.Frag) (C : Addr) : Bool := decide (PySem.W.kitOne K (.type "tuple") (.ref C) = some false) && (decide (PySem.W.kitOne K (.type "list") (.ref C) = some false) && (He.eqO (PySem.W.findIn K (.ref C) "__class__") (some (some (.builtin "object.__class__"))) &&
  (He.eqO (PySem.W.specialIn K (.builtin "object.__class__") "__get__") (some (some (.builtin "getset_descriptor.__get__"))) && (decide (PySem.W.takesIn K (.builtin "object.__class__") = some true) && decide (PySem.W.mroIn K C (.type "object") = some true)))))
theorem isC_ok {K : PySem.W.Frag} {C : Addr} (h : isCB K C = true) : IsC K C := by
  obtain ⟨h1, h⟩ := He.ba h
  obtain ⟨h2, h⟩ := He.ba h
  obtain ⟨h3, h⟩ := He.ba h
  obtain ⟨h4, h⟩ := He.ba h
  obtain ⟨h5, h6⟩ := He.ba h
  exact ⟨of_decide_eq_true h1, of_decide_eq_true h2, He.eqO_ok h3, He.eqO_ok h4, of_decide_eq_true h5, of_decide_eq_true h6⟩
noncomputable def misC (c : Nat) (A : Fe) : Fe := fun r s => (A r s).ob fun x => match x.1 with
  | .tup _ => some (.bl false, x.2)
  | .ref n => match x.2.get n with
    | some (.ins c' _) => cond (Nat.beq c' c) (some (.bl true, x.2)) none
    | some (.lst _) => some (.bl false, x.2)
    | _ => none
  | _ => none
section
variable {X : Cx} {G : Mg} {a e o : Expr} {pos : Pos}
theorem pm_isC {A : Fe} {c : Nat} {ce : Expr} {p1 : Pos} (ha : PE X a (tI G A)) (hc : PE X ce (tC (.ref (G.cad c)))) (ic : IsC X.K (G.cad c)) (cl : Cls X.K (G.cad c)) (hg : Gl X "isinstance") (hm : X.mg "isinstance" = none) (hs : starEach [a, ce] X.env = (false, eval a X.env) :: starEach [ce] X.env := by rfl) (hs2 : starEach [ce] X.env = [(false, eval ce X.env)] := by rfl) (hpl : (backTo pos (starEach [ce] X.env)).any (·.1) = false := by rfl) (hK : X.K = G.K := by rfl) :
    PE X (.Call (.Name "isinstance" p1) [a, ce] [] pos) (tI G (misC c A)) :=
  pe_imp (pe_callB call_isi hg hm (by decide +kernel) (pa_cons ha (pa_cons hc pa_nil hs2) hs) (he := hs) (hpl := hpl)) fun σ H Q ⟨p, s, r, w, s', S, E, q, k⟩ => by
    obtain ⟨⟨x, s1⟩, q1, q2⟩ := ob_some.mp q
    refine ⟨p, s, r, x, s1, S, E, q1, fun p1 v1 H1 S1 f1 d1 => ?_⟩
    have kk := k.of f1
    cases x with
    | tup ws =>
      have q2' : some (Mv.bl false, s1) = some (w, s') := q2
      cases q2'
      have ty := tyOf_ok (t := .tuple) S1 d1 rfl
      exact ⟨_, _, _, _, _, rfl, .own _, by rw [hK]; exact ty, ic.tu, kk p1 _ H1 S1 Fra.refl (.bl _)⟩
    | ref n =>
      have d1' := d1
      cases d1'
      rename_i ad hn
      simp only at q2
      split at q2
      · rename_i c' fs e1
        cases eb : Nat.beq c' c with
        | false => rw [eb] at q2; cases q2
        | true =>
          rw [eb] at q2; cases q2
          have ec := Nat.eq_of_beq_eq_true eb
          subst ec
          obtain ⟨ho, h1, dd⟩ := S1.get hn e1
          obtain ⟨dx, fs', rfl, _⟩ := dd
          exact ⟨_, _, _, _, _, rfl, .own _, .base (.ins h1 cl ic.ha ic.hn ic.tk ic.hm), by unfold PySem.W.kitOne; rw [if_pos (beq_self_eq_true _)], kk p1 _ H1 S1 Fra.refl (.bl _)⟩
      · rename_i ws e1
        cases q2
        have ty := tyOf_ok (t := .list) S1 d1 (by simp only [tyOf]; rw [e1])
        exact ⟨_, _, _, _, _, rfl, .own _, by rw [hK]; exact ty, ic.ls, kk p1 _ H1 S1 Fra.refl (.bl _)⟩
      · cases q2
    | _ => cases q2
/-! ### dict(d), keys whole numbers and texts -/
noncomputable def dictW : Fn := fun ws s => match ws with
  | [.ref n] => match s.get n with
    | some (.dk kvs) => newO (.dk kvs) s
    | _ => none
  | _ => none
theorem newO_fresh {p : List Addr} {s s' : Ms} {H : Hp} {o : Mo} {ho : HO} {w : Mv} {Q : VK} (S : Sim G p s H) (h : newO o s = some (w, s')) (k : After G p H w s' Q) {a : Addr} (ha : H a = none) (d : DenO G p H a o ho) : Q (.ref a) (upd H a ho) := by
  obtain ⟨⟨n, s1⟩, q1, q2⟩ := omap_some.mp h
  cases q2
  obtain ⟨S2, f2, d2⟩ := S.new q1 ha (ho := ho) (H' := upd H a ho) d upd_same fun b u eb => by rw [upd_ne (ne_of_none eb ha)]; exact eb
  exact k _ _ _ S2 f2 d2
theorem cm_dict (hK : X.K = G.K := by rfl) : CallR X (.type "dict") (rF G dictW) := cal_imp call_dictD fun xs H Q ⟨p, s, ws, w, s', S, l, q, k⟩ => by
  match ws, l, q with
  | [.ref n], .cons (.ref hn) .nil, q =>
    have q' : (match s.get n with
      | some (.dk kvs) => newO (.dk kvs) s
      | _ => none) = some (w, s') := q
    split at q'
    · rename_i kvs e
      obtain ⟨ho, h1, kvs', rfl, c1, c2⟩ := S.get hn e
      exact ⟨_, kvs', rfl, .inl h1, fun b hb => newO_fresh S q' k hb ⟨kvs', rfl, c1, c2⟩⟩
    · cases q'
/-! ### list(range(..)), tuple(range(..)) -/
abbrev Fr2 := Me → Ms → Option ((Int × Int) × Ms)
noncomputable def mrg1 (A : Fe) : Fr2 := fun r s => (A r s).ob fun x => match x.1 with
  | .int n => some ((0, n), x.2)
  | _ => none
noncomputable def mrg2 (A B : Fe) : Fr2 := fun r s => (A r s).ob fun x => (B r x.2).ob fun y => match x.1, y.1 with
  | .int i, .int j => some ((i, j), y.2)
  | _, _ => none
noncomputable def tRg (G : Mg) (F : Fr2) : L2.St → Hp → (Int → Int → Hp → Prop) → Prop := fun σ H Q => ∃ p s r i j s', Sim G p s H ∧ EnvR G p H r σ ∧ F r s = some ((i, j), s') ∧ ∀ p' H', Sim G p' s' H' → Fra p H p' H' → Q i j H'
theorem prg_imp {t t' : L2.St → Hp → (Int → Int → Hp → Prop) → Prop} (h : PRg X e t) (i : ∀ σ H Q, t' σ H Q → t σ H Q) : PRg X e t' := fun pins s σ H Q I q => h pins s σ H Q I (i σ H Q q)
theorem gm_rg1 {A : Fe} {p : Pos} (hg : Gl X "range") (hm : X.mg "range" = none) (ha : PE X a (tI G A)) (na : starEach [a] X.env = (false, eval a X.env) :: starEach [] X.env := by rfl) : PRg X (.Call (.Name "range" p) [a] [] pos) (tRg G (mrg1 A)) := prg_imp (prg_1 hg hm ha na) fun σ H Q ⟨p, s, r, i, j, s', S, E, q, k⟩ => by
  obtain ⟨⟨x, s1⟩, q1, q2⟩ := ob_some.mp q
  refine ⟨p, s, r, x, s1, S, E, q1, fun p1 v1 H1 S1 f1 d1 => ?_⟩
  cases d1 <;> try (cases q2; done)
  cases q2
  exact ⟨_, rfl, k p1 H1 S1 f1⟩
theorem gm_rg2 {A B : Fe} {b : Expr} {p : Pos} (hg : Gl X "range") (hm : X.mg "range" = none) (ha : PE X a (tI G A)) (hb : PE X b (tI G B)) (na : starEach [a, b] X.env = (false, eval a X.env) :: starEach [b] X.env := by rfl) (nb : starEach [b] X.env = (false, eval b X.env) :: starEach [] X.env := by rfl) (hp : (backTo pos (starEach [b] X.env)).any (·.1) = false := by rfl) : PRg X (.Call (.Name "range" p) [a, b] [] pos) (tRg G (mrg2 A B)) := prg_imp (prg_2 hg hm ha hb na nb hp) fun σ H Q ⟨p, s, r, i, j, s', S, E, q, k⟩ => by
  obtain ⟨⟨x, s1⟩, q1, q2⟩ := ob_some.mp q
  obtain ⟨⟨y, s2⟩, q3, q4⟩ := ob_some.mp q2
  refine ⟨p, s, r, x, s1, S, E, q1, fun p1 v1 H1 S1 f1 d1 => ⟨p1, s1, r, y, s2, S1, E.fra S f1, q3, fun p2 v2 H2 S2 f2 d2 => ?_⟩⟩
  cases d1 <;> cases d2 <;> try (cases q4; done)
  cases q4
  exact ⟨_, _, rfl, rfl, k p2 H2 S2 (f1.trans f2)⟩
noncomputable def rgM (n : Nat) (i : Int) : List Mv := Nat.rec (motive := fun _ => Int → List Mv) (fun _ => []) (fun _ ih a => .int a :: ih (a + 1)) n i
noncomputable def rgOk (i j : Int) : Bool := decide (0 ≤ i) && (decide (i ≤ 16777216) && (decide (0 ≤ j) && decide (j ≤ 16777216)))
theorem rgOk_ok {i j : Int} (h : rgOk i j = true) : RgOk i j := by
  obtain ⟨h1, h⟩ := He.ba h
  obtain ⟨h2, h⟩ := He.ba h
  obtain ⟨h3, h4⟩ := He.ba h
  exact RgOk.of_le (of_decide_eq_true h1) (of_decide_eq_true h4) (of_decide_eq_true h2) (of_decide_eq_true h3)
theorem rgM_den {p : List Addr} {H : Hp} : ∀ (n : Nat) (i : Int), DenL G p H (rgM n i) ((List.range n).map fun k => V.int (i + (k : Nat)))
  | 0, i => .nil
  | n + 1, i => by
    rw [List.range_succ_eq_map, List.map_cons, List.map_map]
    refine .cons (by rw [Int.natCast_zero, Int.add_zero]; exact .int i) ?_
    have := rgM_den (p := p) (H := H) n (i + 1)
    have e : (List.range n).map ((fun k : Nat => V.int (i + (k : Nat))) ∘ Nat.succ) = (List.range n).map fun k => V.int (i + 1 + (k : Nat)) := by
      refine List.map_congr_left fun k _ => ?_
      show V.int (i + ((k + 1 : Nat) : Int)) = V.int (i + 1 + (k : Nat))
      congr 1
      omega
    rw [e]
    exact this
noncomputable def mlstRg (F : Fr2) : Fe := fun r s => (F r s).ob fun x => cond (rgOk x.1.1 x.1.2) (newO (.lst (rgM (x.1.2 - x.1.1).toNat x.1.1)) x.2) none
noncomputable def mtupRg (F : Fr2) : Fe := fun r s => (F r s).ob fun x => cond (rgOk x.1.1 x.1.2) (some (.tup (rgM (x.1.2 - x.1.1).toNat x.1.1), x.2)) none
theorem pm_lstRg {F : Fr2} {p : Pos} (hc : X.calm = true) (hg : Gl X "list") (hm : X.mg "list" = none) (he : PRg X e (tRg G F)) (na : starEach [e] X.env = (false, eval e X.env) :: starEach [] X.env := by rfl) : PE X (.Call (.Name "list" p) [e] [] pos) (tI G (mlstRg F)) := pe_imp (pe_listRg hc hg hm he na) fun σ H Q ⟨p, s, r, w, s', S, E, q, k⟩ => by
  obtain ⟨⟨⟨i, j⟩, s1⟩, q1, q2⟩ := ob_some.mp q
  refine ⟨p, s, r, i, j, s1, S, E, q1, fun p1 H1 S1 f1 => ?_⟩
  simp only at q2
  cases eb : rgOk i j with
  | false => rw [eb] at q2; cases q2
  | true =>
    rw [eb] at q2
    have ok := rgOk_ok eb
    refine ⟨ok, fun a ha => newO_fresh S1 q2 (k.of f1) ha ⟨_, rfl, rgM_den _ _, ?_⟩⟩
    rw [rgV_length]
    exact Nat.le_trans ok.2.2.2.2 (by rw [sz_eq]; decide)
theorem pm_tupRg {F : Fr2} {p : Pos} (hc : X.calm = true) (hg : Gl X "tuple") (hm : X.mg "tuple" = none) (he : PRg X e (tRg G F)) (na : starEach [e] X.env = (false, eval e X.env) :: starEach [] X.env := by rfl) : PE X (.Call (.Name "tuple" p) [e] [] pos) (tI G (mtupRg F)) := pe_imp (pe_tupRg hc hg hm he na) fun σ H Q ⟨p, s, r, w, s', S, E, q, k⟩ => by
  obtain ⟨⟨⟨i, j⟩, s1⟩, q1, q2⟩ := ob_some.mp q
  refine ⟨p, s, r, i, j, s1, S, E, q1, fun p1 H1 S1 f1 => ?_⟩
  simp only at q2
  cases eb : rgOk i j with
  | false => rw [eb] at q2; cases q2
  | true =>
    rw [eb] at q2
    cases q2
    have ok := rgOk_ok eb
    refine ⟨ok, fun a ha => ?_⟩
    obtain ⟨S2, f2, d2⟩ := new_tup S1 ha (rgM_den (G := G) (p := p1) (H := H1) (j - i).toNat i)
    exact k p1 _ _ S2 (f1.trans f2) d2
/-! ### calls that leave parameters to their defaults -/
noncomputable def mdefs (A : Fa) (ds : List Mv) : Fa := fun r s => (A r s).om fun x => (lapp x.1 ds, x.2)
theorem pm_callD {CX : CXT} {k : Nat} {fa : Addr} {fd : FuncData} {ps : List Str} {E : XK} {f : Fn} {x : Str} {p0 : Pos} {es : List Expr} {A : Fa} {dvs : List V} {ws : List Mv} (F : FnOk X.prog X.w X.K X.mg X.base CX k fa fd ps (spM G f)) (hr : Room k X.A) (hg : Gl X x) (hm : X.mg x = some (.ref fa)) (hk : PySem.W.keepIn X.K (.ref fa) = true) (hb : ∃ ds, Vals dvs ds ∧ Binds X.K fd ps ds) (hx : Passes CX X E) (ha : PA X (e :: es) (tA G A))
    (hd : ∀ p H, DenL G p H ws dvs) (hdb : (x == ("__debug__" : Str)) = false := by decide) (he : starEach (e :: es) X.env = (false, eval e X.env) :: starEach es X.env := by rfl) (hpl : (backTo pos (starEach es X.env)).any (·.1) = false := by rfl) :
    PE X (.Call (.Name x p0) (e :: es) [] pos) (tI G (mcall f (mdefs A ws))) := by
  obtain ⟨ds, hv, hb⟩ := hb
  refine pe_imp (pe_call F hr hg hm hk hb hv hx ha hdb he hpl) fun σ H Q h => ?_
  obtain ⟨p, s, r, w, s', S, E, q, k⟩ := h
  obtain ⟨⟨xs, s1⟩, q1, q2⟩ := ob_some.mp q
  obtain ⟨⟨ys, s2⟩, q3, q4⟩ := omap_some.mp q1
  cases q4
  exact ⟨p, s, r, ys, _, S, E, q3, fun p1 vs H1 S1 f1 d1 => ⟨p1, _, lapp ys ws, w, s', S1, by rw [lapp_eq]; exact d1.append (hd p1 H1), q2, k.of f1⟩⟩
end

end
section
open PyProof.Rows.H
open PySem.W (EachIs alike alikeAll keyToks keyToksAll dataLt dataKind SortsAt dataType)
/-! ### sorting tuples that can be compared up to their first unlike places -/
/-- the two rows can be compared: alike up to the first place where they differ -/
def lz : List PyData → List PyData → Bool
  | x :: xs, y :: ys => alike x y && (!PyData.eqv x y || lz xs ys)
  | [], _ => true
  | _ :: _, [] => true
section
variable {prog : Program} {w : World} {A : Around} {s : Shared}
theorem katLex_lz {b fin : Bool} {Q : Bool → Shared → Prop} (xs : List PyData) : ∀ (ys : List PyData) (i : Nat) {vs ws : List Value} {as bs : List Addr}, ReadsAll s.heap vs xs as → ReadsAll s.heap ws ys bs → lz xs ys = true →
    A.units + min (PyData.depthAll xs) (PyData.depthAll ys) < cLine → (b = true → i = 0 → ∀ x r t, xs = x :: r → x ≠ .tuple t) → fin = decide (xs.length < ys.length) → Q (PyProof.Rows.lexLt itemOrd (keyToksAll xs) (keyToksAll ys)) s → PySem.W.KatLex prog w A b fin Q (vs.zip ws) i s := by
  induction xs with
  | nil => intro ys i vs ws as bs ra rb _ hu hb hf hq; exact PySem.W.katLex_alike [] ys i _ _ _ _ ra rb rfl hu hb hf hq
  | cons x xs ih =>
    intro ys i vs ws as bs ra rb h hu hb hf hq
    cases ys with
    | nil => exact PySem.W.katLex_alike (x :: xs) [] i _ _ _ _ ra rb rfl hu hb hf hq
    | cons y ys =>
      obtain ⟨h1, h2⟩ := He.ba h
      cases ra with
      | cons r rs =>
        cases rb with
        | cons r' rs' =>
          refine PySem.W.kat_cons (PySem.W.eqAt_alike x y A s _ _ _ _ r r' h1 (SeqAt.room_head hu) prog w _ _ ?_)
          cases hx : PyData.eqv x y with
          | true =>
            rw [PySem.W.dataLt_all_yes h1 hx] at hq
            rw [hx] at h2
            refine PySem.W.kat_yes (ih ys (i + 1) rs rs' h2 (SeqAt.room_tail hu) (fun _ z => absurd z (Nat.succ_ne_zero i)) ?_ hq)
            rw [hf, List.length_cons, List.length_cons]
            exact decide_eq_decide.mpr (by omega)
          | false =>
            rw [PySem.W.dataLt_all_no h1 hx] at hq
            refine PySem.W.kat_no (PySem.W.oneLt_alike (fun z t => ?_) r r' h1 (PySem.W.ne_none_of h1 hx) (SeqAt.room_head hu) hq)
            obtain ⟨z1, z2⟩ := He.ba z
            exact hb z1 (by simpa using z2) x xs t rfl
/-- tuples with an item at least, each two of which can be compared -/
structure LzAll (ds : List PyData) : Prop where
  tp : ∀ d, d ∈ ds → ∃ x r, d = .tuple (x :: r)
  lz : ∀ xs, PyData.tuple xs ∈ ds → ∀ ys, PyData.tuple ys ∈ ds → lz xs ys = true
theorem kind_of {h : Heap} {ds : List PyData} {v : Value} {d : PyData} {as : List Addr} (hd : d ∈ ds) (r : Reads h v d as) : (dataKind h ds).keyOf v = some (keyToks d) := by
  have q : ∃ d, d ∈ ds ∧ ∃ as, Reads h v d as := ⟨d, hd, as, r⟩
  cases e : (dataKind h ds).keyOf v with
  | none =>
    have z : (open Classical in if q : ∃ d, d ∈ ds ∧ ∃ as, Reads h v d as then some (keyToks q.choose) else none) = none := e
    rw [dif_pos q] at z
    cases z
  | some k =>
    obtain ⟨d', as', _, r', rfl⟩ := PySem.W.dataKind_inv e
    rw [(PySem.Reads.unique r _ _ r').1]; rfl
theorem sorts_lz {vs : List Value} {ds : List PyData} (e : EachIs (fun v d => ∃ as, Reads s.heap v d as) vs ds) (L : LzAll ds) (hu : ∀ d, d ∈ ds → A.units + d.depth < cLine) : SortsAt prog w A s (dataKind s.heap ds) vs := by
  refine ⟨fun v hv => ?_, ?_⟩
  · obtain ⟨d, hd, as, r⟩ := e.left v hv
    exact ⟨_, kind_of hd r⟩
  cases ds with
  | nil =>
    cases e
    refine ⟨general', fun E x y a b Q ha => ?_, fun z => absurd z (by simp)⟩
    obtain ⟨_, _, z, _⟩ := PySem.W.dataKind_inv ha
    cases z
  | cons d₀ ds₀ =>
    obtain ⟨x₀, r₀, e₀⟩ := L.tp d₀ (List.mem_cons_self ..)
    have first : ∀ x r, PyData.tuple (x :: r) ∈ d₀ :: ds₀ → dataType x = dataType x₀ := fun x r hm => by
      have z := L.lz _ hm (x₀ :: r₀) (by rw [← e₀]; exact List.mem_cons_self ..)
      exact PySem.W.dataType_alike (He.ba z).1
    refine ⟨tuples' (dataType x₀ != Value.type "tuple"), fun E x y a b Q ha hb hq => ?_, fun h2 E Q hq => ?_⟩
    · obtain ⟨d, as, hd, ra, rfl⟩ := PySem.W.dataKind_inv ha
      obtain ⟨d', as', hd', rb, rfl⟩ := PySem.W.dataKind_inv hb
      obtain ⟨x1, r1, rfl⟩ := L.tp d hd
      obtain ⟨x2, r2, rfl⟩ := L.tp d' hd'
      have hroom : A.units + min (PyData.tuple (x1 :: r1)).depth (PyData.tuple (x2 :: r2)).depth < cLine := Nat.lt_of_le_of_lt (Nat.add_le_add_left (Nat.min_le_left _ _) _) (hu _ hd)
      have hq' : Q (dataLt (.tuple (x1 :: r1)) (.tuple (x2 :: r2))) s := hq
      rw [PySem.W.dataLt_tuple] at hq'
      cases ra with
      | tuple a1 a2 a3 a4 =>
        cases rb with
        | tuple b1 b2 b3 b4 =>
          have n1 := SeqAt.ReadsAll.length _ _ _ a4
          have n2 := SeqAt.ReadsAll.length _ _ _ b4
          rw [Array.length_toList] at n1 n2
          refine PySem.W.kat_lt a1 a3 b1 b3 (katLex_lz (x1 :: r1) (x2 :: r2) 0 a4 b4 (L.lz _ hd _ hd') (by have := SeqAt.room_in hroom; omega) (fun z _ x r t ex => ?_) (by rw [n1, n2]) hq')
          cases ex
          rw [← first _ _ hd] at z
          exact PySem.W.dataType_tuple z t
    · obtain ⟨fs, t1, t2, t3⟩ := PySem.W.each_katTups e L.tp
      refine PySem.W.kat_kind (T := dataType x₀) t1 (by omega) (fun f hf => ?_) (beq_self_eq_true _) hq
      obtain ⟨x, r, as, m1, m2⟩ := t3 f hf
      rw [← first x r m1]
      exact PySem.W.looks_reads m2
end
/-! ### a sort that the kernel can run -/
section
variable {α : Type} {le : α → α → Bool}
noncomputable def ins1 (le : α → α → Bool) (x : α) (l : List α) : List α := List.rec (motive := fun _ => List α) [x] (fun y ys ih => cond (le x y) (x :: y :: ys) (y :: ih)) l
noncomputable def isort (le : α → α → Bool) (l : List α) : List α := List.rec (motive := fun _ => List α) [] (fun x _ ih => ins1 le x ih) l
theorem ins1_cons {x y : α} {ys : List α} : ins1 le x (y :: ys) = cond (le x y) (x :: y :: ys) (y :: ins1 le x ys) := rfl
theorem ins1_mem {x z : α} : ∀ {l : List α}, z ∈ ins1 le x l → z = x ∨ z ∈ l
  | [], h => .inl (by simpa [ins1] using h)
  | y :: ys, h => by
    rw [ins1_cons] at h
    cases e : le x y with
    | true => rw [e] at h; simpa using h
    | false =>
      rw [e] at h
      rcases List.mem_cons.mp (show z ∈ y :: ins1 le x ys from h) with z1 | z1
      · exact .inr (by rw [z1]; exact List.mem_cons_self ..)
      · rcases ins1_mem z1 with z2 | z2
        · exact .inl z2
        · exact .inr (List.mem_cons_of_mem _ z2)
theorem ins1_pw (T : PySem.W.TotalLe le) {x : α} : ∀ {l : List α}, l.Pairwise (fun a b => le a b = true) → (ins1 le x l).Pairwise fun a b => le a b = true
  | [], _ => by simp [ins1]
  | y :: ys, h => by
    rw [ins1_cons]
    obtain ⟨h1, h2⟩ := List.pairwise_cons.mp h
    cases e : le x y with
    | true =>
      refine List.pairwise_cons.mpr ⟨fun z hz => ?_, h⟩
      rcases List.mem_cons.mp hz with rfl | hz
      · exact e
      · exact T.trans _ _ _ e (h1 z hz)
    | false =>
      refine List.pairwise_cons.mpr ⟨fun z hz => ?_, ins1_pw T h2⟩
      rcases ins1_mem hz with rfl | hz
      · exact (T.total y z).elim id fun q => by rw [e] at q; cases q
      · exact h1 z hz
theorem ins1_filter (T : PySem.W.TotalLe le) (c x : α) : ∀ l : List α, (ins1 le x l).filter (PySem.W.sameRank le c) = (x :: l).filter (PySem.W.sameRank le c)
  | [] => rfl
  | y :: ys => by
    rw [ins1_cons]
    cases e : le x y with
    | true => rfl
    | false =>
      show (y :: ins1 le x ys).filter _ = _
      have ih := ins1_filter T c x ys
      rw [List.filter_cons, List.filter_cons, List.filter_cons, ih, List.filter_cons]
      cases e1 : PySem.W.sameRank le c x with
      | false => simp
      | true =>
        cases e2 : PySem.W.sameRank le c y with
        | false => simp
        | true =>
          have z : le x y = true := T.trans _ _ _ (He.ba e1).2 (He.ba e2).1
          rw [e] at z; cases z
theorem isort_eq (T : PySem.W.TotalLe le) (l : List α) : isort le l = l.mergeSort le := by
  refine PySem.W.sort_unique T ?_ fun c => ?_
  · induction l with
    | nil => exact .nil
    | cons x l ih => exact ins1_pw T ih
  · induction l with
    | nil => rfl
    | cons x l ih =>
      show (ins1 le x (isort le l)).filter _ = _
      rw [ins1_filter T, List.filter_cons, ih, List.filter_cons]
end
/-! ### data compared -/
noncomputable def tkLt (a b : Int ⊕ List Nat) : Bool := Sum.rec (motive := fun _ => Bool) (fun i => Sum.rec (motive := fun _ => Bool) (fun j => iLt i j) (fun _ => true) b) (fun x => Sum.rec (motive := fun _ => Bool) (fun _ => false) (fun y => ltCps x y) b) a
theorem tkLt_eq (a b : Int ⊕ List Nat) : tkLt a b = itemLt a b := by
  cases a <;> cases b
  · exact iLt_eq _ _
  · rfl
  · rfl
  · rename_i x y
    show ltCps x y = strKind.blt x y
    rw [ltCps_eq]
noncomputable def tksLt (a : List (Int ⊕ List Nat)) : List (Int ⊕ List Nat) → Bool := List.rec (motive := fun _ => List (Int ⊕ List Nat) → Bool) (fun b => List.rec (motive := fun _ => Bool) false (fun _ _ _ => true) b)
  (fun x _ ih b => List.rec (motive := fun _ => Bool) false (fun y t _ => cond (tkLt x y) true (cond (tkLt y x) false (ih t))) b) a
theorem tksLt_eq : ∀ a b : List (Int ⊕ List Nat), tksLt a b = PyProof.Rows.lexLt itemOrd a b
  | [], [] => rfl
  | [], _ :: _ => rfl
  | _ :: _, [] => rfl
  | x :: r, y :: t => by
    show cond (tkLt x y) true (cond (tkLt y x) false (tksLt r t)) = (itemLt x y || (!itemLt y x && PyProof.Rows.lexLt itemOrd r t))
    rw [tkLt_eq, tkLt_eq, tksLt_eq r t]
    cases itemLt x y <;> cases itemLt y x <;> rfl
noncomputable def dLt (x y : PyData) : Bool := tksLt (keyToks x) (keyToks y)
theorem dLt_eq (x y : PyData) : dLt x y = dataLt x y := tksLt_eq _ _
noncomputable def leD {α : Type} (a b : α × PyData) : Bool := !dLt b.2 a.2
theorem leD_eq {α : Type} : (leD : α × PyData → α × PyData → Bool) = PySem.W.sortLe (listOrd itemOrd) false fun b => keyToks b.2 := by
  funext a b
  show (!dLt b.2 a.2) = cond false _ (!PyProof.Rows.lexLt itemOrd (keyToks b.2) (keyToks a.2))
  rw [dLt_eq]; rfl
theorem leD_total {α : Type} : PySem.W.TotalLe (leD : α × PyData → α × PyData → Bool) := by rw [leD_eq]; exact PySem.W.sortLe_total _ _ _
section
variable {X : Cx} {G : Mg} {p : List Addr} {H : Hp}
theorem triples {h : Heap} : ∀ {ws : List Mv} {vs : List V} {its : List Value} {ds : List PyData} {as : List Addr}, DenL G p H ws vs → Vals vs its → ReadsAll h its ds as →
    ∃ T : List (V × Mv × PyData), EachIs (fun u t => RelV t.1 u ∧ Den G p H t.2.1 t.1) its T ∧ EachIs (fun u t => ∃ as, Reads h u t.2.2 as) its T ∧ T.map (·.2) = ws.zip ds ∧ T.map (·.2.2) = ds
  | [], _, _, ds, _, .nil, .nil, r => by cases r; exact ⟨[], .nil, .nil, rfl, rfl⟩
  | w :: ws, _, _, ds, _, .cons d l, .cons rv rs, r => by
    cases r with
    | cons r1 r2 =>
      obtain ⟨T, t1, t2, t3, t4⟩ := triples l rs r2
      exact ⟨(_, _, _) :: T, .cons ⟨rv, d⟩ t1, .cons ⟨_, r1⟩ t2, by rw [List.map_cons, t3]; rfl, by rw [List.map_cons, t4]⟩
theorem each_zip {α β : Type} {R R' : α → β → Prop} : ∀ {as : List α} {bs : List β}, EachIs R as bs → (∀ a b, b ∈ bs → R a b → R' a b) → EachIs R' as bs
  | _, _, .nil, _ => .nil
  | _, _, .cons h t, k => .cons (k _ _ (List.mem_cons_self ..) h) (each_zip t fun a b hb => k a b (List.mem_cons_of_mem _ hb))
theorem each_out : ∀ {us : List Value} {T : List (V × Mv × PyData)}, EachIs (fun u t => RelV t.1 u ∧ Den G p H t.2.1 t.1) us T → Vals (T.map (·.1)) us ∧ DenL G p H (T.map (·.2.1)) (T.map (·.1))
  | _, _, .nil => ⟨.nil, .nil⟩
  | _, _, .cons h t => ⟨.cons h.1 (each_out t).1, .cons h.2 (each_out t).2⟩
theorem data_sorted {h : Heap} {ws : List Mv} {vs : List V} {its : List Value} {ds : List PyData} {as : List Addr} (l : DenL G p H ws vs) (rv : Vals vs its) (r : ReadsAll h its ds as) :
    ∃ xs, Vals xs (PySem.W.sortVals (dataKind h ds) false its its) ∧ DenL G p H ((isort leD (ws.zip ds)).map (·.1)) xs := by
  obtain ⟨T, t1, t2, t3, t4⟩ := triples l rv r
  have key : EachIs (fun v b => (dataKind h ds).keyOf v = some (keyToks b.2.2)) its T := each_zip t2 fun a b hb ⟨as, q⟩ => kind_of (by rw [← t4]; exact List.mem_map.mpr ⟨b, hb, rfl⟩) q
  have out := PySem.W.sortVals_each (κ := dataKind h ds) (rev := false) (fun b : V × Mv × PyData => keyToks b.2.2) t1 key
  obtain ⟨o1, o2⟩ := each_out out
  refine ⟨_, o1, ?_⟩
  have e : (T.mergeSort (PySem.W.sortLe (dataKind h ds).toKeyOrd false fun b => keyToks b.2.2)).map (·.2) = isort leD (ws.zip ds) := by
    rw [isort_eq leD_total, ← t3]
    exact PySem.W.sort_maps (fun b : V × Mv × PyData => b.2) fun a _ b _ => by rw [leD_eq]; rfl
  rw [← e, List.map_map]
  exact o2
noncomputable def lzOk (ds : List PyData) : Bool := ds.all fun d => match d with
  | .tuple (x :: xs) => ds.all fun e => match e with
    | .tuple ys => lz (x :: xs) ys
    | _ => false
  | _ => false
theorem lzOk_ok {ds : List PyData} (h : lzOk ds = true) : LzAll ds := by
  have h1 := List.all_eq_true.mp h
  refine ⟨fun d hd => ?_, fun xs hx ys hy => ?_⟩
  · have := h1 d hd
    split at this
    · exact ⟨_, _, rfl⟩
    · cases this
  · have := h1 _ hx
    split at this
    · rename_i x r e
      cases e
      have z := List.all_eq_true.mp this _ hy
      exact z
    · cases this
noncomputable def sortedDW : Fn := fun ws s => match ws with
  | [w0] => (lstOf w0 s).ob fun xs => (toDL (toD 24 s) xs).ob fun ds => cond (lzOk ds) (newO (.lst ((isort leD (xs.zip ds)).map (·.1))) s) none
  | _ => none
theorem readsAll_each : ∀ {h : Heap} {us : List Value} {ds : List PyData} {as : List Addr}, ReadsAll h us ds as → EachIs (fun v d => ∃ as, Reads h v d as) us ds
  | _, [], _, _, r => by cases r; exact .nil
  | _, _ :: _, _, _, r => by cases r with | cons r1 r2 => exact .cons ⟨_, r1⟩ (readsAll_each r2)
theorem depth_in : ∀ {ds : List PyData} {n : Nat}, PyData.depthAll ds ≤ n → ∀ d ∈ ds, d.depth ≤ n
  | [], _, _, _, h => nomatch h
  | x :: xs, n, hd, d, h => by
    simp only [PyData.depthAll] at hd
    rcases List.mem_cons.mp h with rfl | h
    · omega
    · exact depth_in (n := n) (by omega) d h
theorem cm_sortedD (hu : X.A.units + 64 < cLine) (hK : X.K = G.K := by rfl) : CallR X (.builtin "sorted") (rF G sortedDW) := by
  intro pins s σ H vs us Q I r h
  obtain ⟨p, ms, ws, w, ms', S, l, q, k⟩ := h
  match ws, l, q with
  | [w0], .cons d .nil, q =>
    obtain ⟨xs, q1, q2⟩ := ob_some.mp (show (lstOf w0 ms).ob _ = some (w, ms') from q)
    obtain ⟨ds, q3, q4⟩ := ob_some.mp q2
    cases eb : lzOk ds with
    | false => rw [eb] at q4; cases q4
    | true =>
      rw [eb] at q4
      obtain ⟨a, vs, rfl, hq, lx⟩ := lstOf_ok S d q1
      rw [← hK] at hq
      obtain ⟨its, rv, pl, hz⟩ := I.list hq
      obtain ⟨o1, o2, o3⟩ := toDL_ok (n := 24) (toD_ok S 24) lx q3
      rw [← hK] at o1
      obtain ⟨as, ra⟩ := Dp.readsAll I ds vs its o1 rv
      have hlen := rv.length
      rw [Vals.ref1 r]
      have keepS : ∀ b ob, s.heap.get? b = some ob → (PySem.W.sortingHeap (PySem.W.copyHeap s.heap its) (s.heap.objs.size + 1) its).get? b = some ob := fun b ob e => PySem.W.sorting_copy_old e
      have er : ∃ as, ReadsAll (PySem.W.sortingHeap (PySem.W.copyHeap s.heap its) (s.heap.objs.size + 1) its) its ds as := ⟨as, PyProof.Rows.ReadsAll.keeps keepS ra⟩
      obtain ⟨as', ra'⟩ := er
      have srt : SortsAt X.prog X.w X.A.in1.in1 { s with heap := PySem.W.sortingHeap (PySem.W.copyHeap s.heap its) (s.heap.objs.size + 1) its } (dataKind (PySem.W.sortingHeap (PySem.W.copyHeap s.heap its) (s.heap.objs.size + 1) its) ds) its :=
        sorts_lz (readsAll_each ra') (lzOk_ok eb) fun d hd => by
          have := depth_in o3 d hd
          rw [Around.in1_units, Around.in1_units]; omega
      obtain ⟨zs, z1, z2⟩ := data_sorted lx rv ra'
      refine PySem.W.sorted_vals pl.isList srt (by rw [← hlen]; exact hz) ?_
      obtain ⟨ep, he'⟩ := PyProof.Rows.sortedAll_at s.heap its (PySem.W.sortVals (dataKind (PySem.W.sortingHeap (PySem.W.copyHeap s.heap its) (s.heap.objs.size + 1) its) ds) false its its).toArray
      have hl2 : zs.length ≤ sizeLine := by
        rw [z1.length, PySem.W.sortVals_length false rfl, ← hlen]; exact hz
      exact ⟨.ref _, upd H (s.heap.objs.size + 1) (.lst zs), I.laid (t' := s.toks) (fun _ _ => PyProof.Rows.sortedAll_old) (Nat.le_succ _) ⟨hl2, _, ep, z1, he'⟩, rfl, newO_fresh S q4 k (I.hok.fresh (Nat.le_succ _)) ⟨zs, rfl, z2, hl2⟩⟩
end

end
section
open PyProof.Rows.H
open PySem.W (EachIs alike alikeAll keyToks keyToksAll dataLt dataKind SortsAt dataType)
/-! ### sorted(d.items()) -/
noncomputable def keyMv (k : Key) : Mv := Sum.rec (motive := fun _ => Mv) (fun i => .int i) (fun x => .str x) k
noncomputable def ents : Mo → Option (List (Mv × Mv))
  | .dk kvs => some (kvs.map fun e => (keyMv e.1, e.2))
  | .dn kvs => some (kvs.map fun e => (e.2.1, e.2.2))
  | _ => none
noncomputable def srtP (qs : List Mv) (s : Ms) : Option (Mv × Ms) := (toDL (toD 24 s) qs).ob fun ds => cond (lzOk ds) (newO (.lst ((isort leD (qs.zip ds)).map (·.1))) s) none
noncomputable def srtO (o : Mo) (s : Ms) : Option (Mv × Ms) := (ents o).ob fun qs => srtP (qs.map fun q => .tup [q.1, q.2]) s
noncomputable def msrtI (D : Fe) : Fe := fun r s => (D r s).ob fun x => match x.1 with
  | .ref n => match x.2.get n with
    | some o => srtO o x.2
    | none => none
  | _ => none
section
variable {X : Cx} {pins : List (Addr × Obj)} {σ : L2.St} {H : Hp} {s : Shared} {G : Mg} {p : List Addr}
theorem ents_dict {o : Mo} {qs : List (Mv × Mv)} (h : ents o = some qs) : isDict o = true := by
  cases o <;> first | rfl | cases h
theorem raw_of {n : Nat} {a : Addr} {ms : Ms} {o : Mo} {qs : List (Mv × Mv)} (I : Inv X pins σ H s) (S : Sim G p ms H) (hn : p[n]? = some a) (e : ms.get n = some o) (h : ents o = some qs) :
    ∃ es ep ks, DT.Raw s.heap a es ep ∧ (a == sysModules) = false ∧ EntL es.toList ks ∧ DenP G p H qs ks ∧ es.size ≤ sizeLine := by
  obtain ⟨ho, h1, d⟩ := S.get hn e
  cases o with
  | dk kvs =>
    cases h
    obtain ⟨kvs', rfl, c⟩ := d
    obtain ⟨z, hs, vs, kv, o', es, ep, ho, hx, hdt, r1, r2, r3⟩ := I.hok a _ h1
    refine ⟨es, ep, _, ⟨o', ho, hx, hdt⟩, hs, ent_k r2 kv, denP_k (DK.inv c), ?_⟩
    have := r2.length
    rw [Array.length_toList] at this
    rw [this, ← kv.length]; exact z
  | dn kvs =>
    cases h
    obtain ⟨xs, rfl, l⟩ := d
    obtain ⟨⟨z, hs, ys, r, o', es, ep, ho, hx, hdt, he, _⟩, _⟩ := I.hok a _ h1
    refine ⟨es, ep, _, ⟨o', ho, hx, hdt⟩, hs, by rw [he]; exact ent_n r, denP_n l, ?_⟩
    rw [size_of_entries he, ← Paired.length r]; exact z
  | _ => cases h
/-- tuples that were laid become known -/
theorem take_tups {H0 : Hp} {h' : Heap} {tk : Nat} (I0 : Inv X pins σ H0 s) : ∀ (L : List (Addr × List V)) (H1 : Hp), Inv X pins σ H1 { s with heap := h', toks := tk } → (L.map (·.1)).Nodup →
    (∀ q ∈ L, s.heap.objs.size ≤ q.1 ∧ H1 q.1 = none ∧ ∀ H2, ObjOk X.prog X.w H2 h' q.1 (.tup q.2)) →
    ∃ H2, Inv X pins σ H2 { s with heap := h', toks := tk } ∧ (∀ b o, H1 b = some o → H2 b = some o) ∧ (∀ q ∈ L, H2 q.1 = some (.tup q.2)) ∧ ∀ b, b ∉ L.map (·.1) → H2 b = H1 b
  | [], H1, I1, _, _ => ⟨H1, I1, fun _ _ e => e, (fun _ h => nomatch h), fun _ _ => rfl⟩
  | q :: L, H1, I1, nd, h => by
    obtain ⟨hb, hno, ok⟩ := h q (List.mem_cons_self ..)
    have I2 : Inv X pins σ (upd H1 q.1 (.tup q.2)) { s with heap := h', toks := tk } := I1.take (h' := h') (t' := tk) (fun b ob _ e => e) (I0.fpOk hb hno) (ok _)
    rw [List.map_cons, List.nodup_cons] at nd
    obtain ⟨H2, I3, g, k, z⟩ := take_tups I0 L (upd H1 q.1 (.tup q.2)) I2 nd.2 fun c hc => by
      obtain ⟨c1, c2, c3⟩ := h c (List.mem_cons_of_mem _ hc)
      exact ⟨c1, by rw [upd_ne (fun y => nd.1 (by rw [← y]; exact List.mem_map.mpr ⟨c, hc, rfl⟩))]; exact c2, c3⟩
    refine ⟨H2, I3, fun b o e => g b o (by rw [upd_ne (ne_of_none e hno)]; exact e), fun c hc => ?_, fun b hb => ?_⟩
    · rcases List.mem_cons.mp hc with rfl | hc
      · exact g _ _ upd_same
      · exact k c hc
    · rw [List.map_cons, List.mem_cons, not_or] at hb
      rw [z b hb.2, upd_ne hb.1]
/-- o.items(), the view alone -/
noncomputable def tVw (G : Mg) (D : Fe) : TE := fun σ H Q => ∃ p s r w s', Sim G p s H ∧ EnvR G p H r σ ∧ D r s = some (w, s') ∧ ∀ p' v H', Sim G p' s' H' → Fra p H p' H' → Den G p' H' w v → ∃ n a o, v = .ref a ∧ p'[n]? = some a ∧ s'.get n = some o ∧ (∃ qs, ents o = some qs) ∧ ∀ P, H' P = none → Q (.ref P) (upd H' P (L2.DX.itemsO P a))
theorem pe_vw {o : Expr} {apos cpos : Pos} {D : Fe} (ho : PE X o (tI G D)) (hbase : attributeBase o "items" X.env (eval o X.env) = eval o X.env := by rfl) (hline : (apos.endLine == cpos.line) = true := by rfl) (hK : X.K = G.K := by rfl) (hP : X.prog = G.P := by rfl) (hw : X.w = G.w := by rfl) :
    PE X (.Call (.Attribute o "items" apos) [] [] cpos) (tVw G D) := by
  refine ⟨fun pins s σ H Q I ⟨p, ms, r, w, ms', S, E, q, k⟩ => ?_⟩
  refine wpAny_Call_method0_late hbase hline (thn (ho.run pins s σ H (fun v1 H1 => ∃ p1, Sim G p1 ms' H1 ∧ Fra p H p1 H1 ∧ Den G p1 H1 w v1) I ⟨p, ms, r, w, ms', S, E, q, fun p1 v1 H1 S1 f1 d1 => ⟨p1, S1, f1, d1⟩⟩) fun u t1 ⟨vx, H1, I1, rx, p1, S1, f1, d1⟩ => ?_)
  obtain ⟨n, a, ob, rfl, hn, e1, ⟨qs, eq⟩, kk⟩ := k p1 vx H1 S1 f1 d1
  cases rx
  obtain ⟨h1, h2⟩ := dict_type I1 hK hP hw S1 hn e1 (ents_dict eq)
  obtain ⟨es, ep, ks, raw, hs, _⟩ := raw_of I1 S1 hn e1 eq
  refine ⟨"dict", "dict.items", F.plainAttrs_dict, F.slot_dict_items, F.type_dict_items, h1, h2, Calls.callWith_builtin rfl (PySem.evalArgs_none ?_)⟩
  refine DT.callItems (es := es) (ep := ep) hs raw ?_
  exact ⟨.ref t1.heap.objs.size, upd H1 t1.heap.objs.size (L2.DX.itemsO t1.heap.objs.size a), I1.laid (t' := t1.toks) (fun b u e => Heap.get?_push_of_some _ e) (Nat.le_refl _) (L2.DX.itemsO_ok (Heap.get?_push_size _ rfl)), rfl, kk _ (I1.hok.fresh (Nat.le_refl _))⟩
theorem denP_tups {H2 : Hp} : ∀ {qs : List (Mv × Mv)} {ks : List (V × V)} {as : List Addr}, DenP G p H2 qs ks → as.length = ks.length → (∀ (j : Nat) (a : Addr) (kv : V × V), as[j]? = some a → ks[j]? = some kv → H2 a = some (.tup [kv.1, kv.2])) → DenL G p H2 (qs.map fun q => .tup [q.1, q.2]) (as.map V.ref)
  | [], _, [], .nil, _, _ => .nil
  | [], _, _ :: _, .nil, h, _ => by simp at h
  | q :: qs, _, [], .cons _ _, h, _ => by simp at h
  | q :: qs, _, a :: as, .cons (b := kv) r t, h, k => .cons (.tup (SqT.of (k 0 a kv rfl rfl)) (.cons r.1 (.cons r.2 .nil))) (denP_tups t (by simpa using h) fun j b kv' h1 h2 => k (j + 1) b kv' (by simpa using h1) (by simpa using h2))
theorem cm_srtV (hc : X.calm = true) (hu : X.A.units + 64 < cLine) (hK : X.K = G.K := by rfl) : CallR X (.builtin "sorted") (fun xs H Q => ∃ p ms n a o P w ms', xs = [.ref P] ∧ H P = some (L2.DX.itemsO P a) ∧ Sim G p ms H ∧ p[n]? = some a ∧ ms.get n = some o ∧ srtO o ms = some (w, ms') ∧ After G p H w ms' Q) := by
  intro pins s σ H xs us Q I r h
  obtain ⟨p, ms, n, a, o, P, w, ms', rfl, hp, S, hn, e1, q, k⟩ := h
  rw [Vals.ref1 r]
  obtain ⟨qs, q1, q2⟩ := ob_some.mp q
  obtain ⟨ds, q3, q4⟩ := ob_some.mp q2
  cases eb : lzOk ds with
  | false => rw [eb] at q4; cases q4
  | true =>
    rw [eb] at q4
    have view : s.heap.IsItemsView P a := (show ObjOk X.prog X.w H s.heap P (L2.DX.itemsO P a) from I.hok P _ hp).1
    obtain ⟨es, ep, ks, raw, hs, en, dp, hz⟩ := raw_of I S hn e1 q1
    have R := EntRel.of en
    have hh : X.A.handled = none := I.ok.hd hc
    refine DT.sortedI (es := es) (ep := ep) hh view raw hz fun h' tk as hk hlt hl hG => ?_
    have lk : as.length = ks.length := hl.trans R.sz
    have nd : as.Nodup := List.Pairwise.imp (fun h => Nat.ne_of_lt h) hG.rise
    have there : ∀ b ∈ as, b < h'.objs.size := fun b hb => hG.there hb
    have hob : (h'.push { cls := .type "list", data := .seq (as.map Value.ref).toArray }).get? h'.objs.size = some (seqObj "list" (as.map Value.ref).toArray 0) := Heap.get?_push_size _ rfl
    have ka : ∀ b ob, h'.get? b = some ob → (h'.push { cls := .type "list", data := .seq (as.map Value.ref).toArray }).get? b = some ob := fun b ob e => Heap.get?_push_of_some _ e
    generalize h'.push { cls := .type "list", data := .seq (as.map Value.ref).toArray } = h2 at hob ka ⊢
    have old2 : ∀ b ob, h'.get? b = some ob → b ≠ h'.objs.size := fun b ob e => Nat.ne_of_lt (Heap.lt_size e)
    -- the pairs, in any heap that keeps them
    have pair : ∀ (j : Nat) (b : Addr) (kv : V × V), as[j]? = some b → ks[j]? = some kv → ∃ uk uv, RelV kv.1 uk ∧ RelV kv.2 uv ∧ h'.get? b = some { cls := .type "tuple", data := .seq #[uk, uv] } := fun j b kv h1 h3 => by
      obtain ⟨en', g1, g2⟩ := hG.pairs j b h1
      obtain ⟨hi, r1, r2⟩ := R.get j kv h3
      rw [Array.getElem?_eq_getElem hi] at g1
      cases g1
      exact ⟨_, _, r1, r2, g2⟩
    have tupOk : ∀ (hx : Heap), (∀ b ob, h'.get? b = some ob → hx.get? b = some ob) → ∀ (j : Nat) (b : Addr) (kv : V × V), as[j]? = some b → ks[j]? = some kv → ∀ H2, ObjOk X.prog X.w H2 hx b (.tup [kv.1, kv.2]) := fun hx kx j b kv h1 h3 H2 => by
      obtain ⟨uk, uv, r1, r2, g⟩ := pair j b kv h1 h3
      exact ⟨by show 2 ≤ sizeLine; decide, [uk, uv], .cons r1 (.cons r2 .nil), ⟨_, kx _ _ g, rfl, _, rfl⟩⟩
    have L0 : ∀ q ∈ as.zip (ks.map fun kv : V × V => [kv.1, kv.2]), ∃ (j : Nat) (kv : V × V), as[j]? = some q.1 ∧ ks[j]? = some kv ∧ q.2 = [kv.1, kv.2] := fun q hq => by
      obtain ⟨j, hj⟩ := List.mem_iff_getElem?.mp hq
      obtain ⟨g1, g2⟩ := List.getElem?_zip_eq_some.mp hj
      rw [List.getElem?_map] at g2
      obtain ⟨kv, g3, g4⟩ := Option.map_eq_some_iff.mp g2
      exact ⟨j, kv, g1, g3, g4.symm⟩
    have fstL : (as.zip (ks.map fun kv : V × V => [kv.1, kv.2])).map (·.1) = as := by rw [List.map_fst_zip]; rw [List.length_map, lk]; exact Nat.le_refl _
    -- known in a heap that keeps all
    have known : ∀ (hx : Heap) (tx : Nat), (∀ b ob, h'.get? b = some ob → hx.get? b = some ob) → ∃ H2, Inv X pins σ H2 { s with heap := hx, toks := tx } ∧ (∀ b ob, H b = some ob → H2 b = some ob) ∧ (∀ (j : Nat) (b : Addr) (kv : V × V), as[j]? = some b → ks[j]? = some kv → H2 b = some (.tup [kv.1, kv.2])) ∧ ∀ b, b ∉ as → H2 b = H b := fun hx tx kx => by
      have I1 : Inv X pins σ H { s with heap := hx, toks := tx } := I.kept fun b ob e => kx b ob (hk b ob e)
      obtain ⟨H2, g1, g2, g3, g4⟩ := take_tups I (as.zip (ks.map fun kv : V × V => [kv.1, kv.2])) H I1 (by rw [fstL]; exact nd) fun q hq => by
        obtain ⟨j, kv, j1, j2, j3⟩ := L0 q hq
        have ab := hG.above q.1 (List.mem_of_getElem? j1)
        exact ⟨Nat.le_of_lt ab, I.hok.fresh (Nat.le_of_lt ab), fun H2 => by rw [j3]; exact tupOk hx kx j q.1 kv j1 j2 H2⟩
      refine ⟨H2, g1, g2, fun j b kv h1 h3 => ?_, fun b hb => g4 b (by rw [fstL]; exact hb)⟩
      exact g3 (b, [kv.1, kv.2]) (List.mem_of_getElem? (i := j) (List.getElem?_zip_eq_some.mpr ⟨h1, by rw [List.getElem?_map, h3]; rfl⟩))
    have valsA : Vals (as.map V.ref) (as.map Value.ref) := by
      clear known fstL L0 tupOk pair hob nd there hG lk hl
      induction as with
      | nil => exact .nil
      | cons b as ih => exact .cons rfl ih
    -- while it is sorted
    have keepS : ∀ b ob, h'.get? b = some ob → (PySem.W.sortingHeap h2 h'.objs.size (as.map Value.ref)).get? b = some ob := fun b ob e => PySem.W.sortingHeap_old (old2 b ob e) (ka b ob e)
    obtain ⟨H2, I2, u1, u2, u3⟩ := known _ tk keepS
    obtain ⟨S2, f2⟩ := S.keep u1
    have lx := denP_tups (dp.stay (f2.stays S)) lk u2
    obtain ⟨o1, o2, o3⟩ := toDL_ok (n := 24) (toD_ok S2 24) lx q3
    rw [← hK] at o1
    obtain ⟨rs, ra⟩ := Dp.readsAll I2 ds _ _ o1 valsA
    have srt : SortsAt X.prog X.w X.A.in1.in1 { s with heap := PySem.W.sortingHeap h2 h'.objs.size (as.map Value.ref), toks := tk } (dataKind (PySem.W.sortingHeap h2 h'.objs.size (as.map Value.ref)) ds) (as.map Value.ref) :=
      sorts_lz (readsAll_each ra) (lzOk_ok eb) fun d hd => by
        have := depth_in o3 d hd
        rw [Around.in1_units, Around.in1_units]; omega
    have hL : (as.map Value.ref).length ≤ sizeLine := by rw [List.length_map, hl]; exact hz
    refine wpAny_call_entry PyProof.Rows.slot_list_sort ⟨_, hob, rfl⟩ PyProof.Rows.entry_list_sort (PySem.W.list_sort_vals (s := { s with heap := h2, toks := tk }) hob srt hL ⟨.none, rfl, ?_⟩) (PyProof.Rows.args_list_sort _)
    -- behind it
    obtain ⟨ep', hat⟩ := PyProof.Rows.sortedHeap_at (out := (PySem.W.sortVals (dataKind (PySem.W.sortingHeap h2 h'.objs.size (as.map Value.ref)) ds) false (as.map Value.ref) (as.map Value.ref)).toArray) hob
    have kept3 : ∀ b ob, h'.get? b = some ob → (PyProof.Rows.sortedHeap h2 h'.objs.size (as.map Value.ref) (PySem.W.sortVals (dataKind (PySem.W.sortingHeap h2 h'.objs.size (as.map Value.ref)) ds) false (as.map Value.ref) (as.map Value.ref)).toArray).get? b = some ob := fun b ob e => by
      rw [PyProof.Rows.sortedHeap_old (old2 b ob e) (Heap.lt_size (ka b ob e))]; exact ka b ob e
    obtain ⟨H3, I3, t1, t2, t3⟩ := known _ tk kept3
    obtain ⟨S3, f3⟩ := S.keep t1
    have lx3 := denP_tups (dp.stay (f3.stays S)) lk t2
    obtain ⟨zs, z1, z2⟩ := data_sorted lx3 valsA ra
    have hl2 : zs.length ≤ sizeLine := by rw [z1.length, PySem.W.sortVals_length false rfl]; exact hL
    have lo : s.heap.objs.size ≤ h'.objs.size := Nat.le_of_lt hlt
    have nol : H3 h'.objs.size = none := by
      rw [t3 _ fun z => Nat.lt_irrefl _ (there _ z)]
      exact I.hok.fresh lo
    have I4 : Inv X pins σ (upd H3 h'.objs.size (.lst zs)) _ := I3.take (t' := tk) (fun b ob _ e => e) (I.fpOk lo nol) ⟨hl2, _, ep', z1, hat⟩
    exact ⟨.ref h'.objs.size, _, I4, rfl, newO_fresh S3 q4 (k.of f3) nol ⟨zs, rfl, z2, hl2⟩⟩
theorem pm_srtI {o : Expr} {apos cpos pos p1 : Pos} {D : Fe} (hc : X.calm = true) (hu : X.A.units + 64 < cLine) (hg : Gl X "sorted") (hm : X.mg "sorted" = none) (ho : PE X o (tI G D)) (hbase : attributeBase o "items" X.env (eval o X.env) = eval o X.env := by rfl) (hline : (apos.endLine == cpos.line) = true := by rfl) (hs : starEach [.Call (.Attribute o "items" apos) [] [] cpos] X.env = [(false, eval (.Call (.Attribute o "items" apos) [] [] cpos) X.env)] := by rfl) (hpl : (backTo pos (starEach [] X.env)).any (·.1) = false := by rfl) (hK : X.K = G.K := by rfl) (hP : X.prog = G.P := by rfl) (hw : X.w = G.w := by rfl) :
    PE X (.Call (.Name "sorted" p1) [.Call (.Attribute o "items" apos) [] [] cpos] [] pos) (tI G (msrtI D)) :=
  pe_imp (pe_callB (cm_srtV hc hu hK) hg hm (by decide +kernel) (pa_cons (pe_vw ho hbase hline hK hP hw) pa_nil hs) (he := hs) (hpl := hpl)) fun σ H Q ⟨p, s, r, w, s', S, E, q, k⟩ => by
    obtain ⟨⟨x, s1⟩, q1, q2⟩ := ob_some.mp q
    refine ⟨p, s, r, x, s1, S, E, q1, fun p1 v1 H1 S1 f1 d1 => ?_⟩
    cases x with
    | ref n =>
      cases d1
      rename_i a hn
      simp only at q2
      cases e1 : s1.get n with
      | none => rw [e1] at q2; cases q2
      | some ob =>
        rw [e1] at q2
        obtain ⟨qs, q3, q4⟩ := ob_some.mp q2
        refine ⟨n, a, ob, rfl, hn, e1, ⟨qs, q3⟩, fun P hP' => ?_⟩
        have f2 := fra_new (p := p1) (o := L2.DX.itemsO P a) hP'
        exact ⟨p1, s1, n, a, ob, P, w, s', rfl, upd_same, S1.fra_new hP', hn, e1, q2, k.of (f1.trans f2)⟩
    | _ => cases q2
end

end
section
open PySem.SeqAt PySem.MeetsSeq
/-! ### x < y of tuples, asked up to the first unlike place -/
/-- the places of two tuples, one after the other: the first unlike one answers -/
inductive Lex (A : Around) (s : Shared) (fin : Bool) : List (Value × Value) → Bool → Prop
  | nil : Lex A s fin [] fin
  | yes {y x : Value} {t : List (Value × Value)} {k : Bool} : EqAt A s y x true → Lex A s fin t k → Lex A s fin ((y, x) :: t) k
  | no {y x : Value} {t : List (Value × Value)} {k : Bool} : EqAt A s y x false → RcLt A s y x k → Lex A s fin ((y, x) :: t) k
section
theorem tuple_lt_lex (l b : Addr) (us vs : Array Value) (n m : Nat) (d1 d2 : Option Addr) (t1 t2 : Array (Option Value)) (k : Bool) :
    Meets (Builtin.«tuple.__lt__» ⟨[.ref l, .ref b], []⟩)
      (fun A R s => s.heap.get? l = some { cls := .type "tuple", dict := d1, data := .seq us n, slots := t1 } ∧ s.heap.get? b = some { cls := .type "tuple", dict := d2, data := .seq vs m, slots := t2 } ∧
        Lex A.in1 s (decide (us.size < vs.size)) (us.toList.zip vs.toList) k ∧ R (.ok (.ret (.bool k))) s) :=
  .of_wp fun prog w A R s h => by
    obtain ⟨hp, g, d, tk, os⟩ := s
    obtain ⟨hl, hb, hx, h⟩ := h
    have f2 := AutoSeq1.sub_tuple_tuple
    wp_walk using wpAny_loadPart' hl, wpAny_loadPart' hb, wpAny_forIn_list _ (fun rest b s' => b.1 = none ∧ s' = ⟨hp, g, d, tk, os⟩ ∧ Lex A.in1 ⟨hp, g, d, tk, os⟩ (decide (us.size < vs.size)) rest k) _
    case turn =>
      rintro ⟨y, x⟩ rest b s' ⟨hb', rfl, hx⟩
      cases hx with
      | yes e t =>
        refine wpAny_bind (e prog w _ _ ?_)
        wp_walk
        exact ⟨rfl, rfl, t⟩
      | no e r =>
        refine wpAny_bind (e prog w _ _ ?_)
        have r0 := r prog w
        generalize PySem.richCompare CmpOp.Lt y x = rc at r0 ⊢
        wp_walk
        refine r0 _ _ ?_
        wp_walk
        exact ⟨_, rfl, h⟩
    case fin =>
      rintro ⟨b1, b2⟩ s' ⟨hb', rfl, hx⟩
      simp only at hb'
      subst hb'
      cases hx
      wp_walk
      exact ⟨_, rfl, by simpa [Builtin.Tuple.tupleCompareSizes] using h⟩
    case h => exact ⟨rfl, rfl, hx⟩
end
section
variable {A : Around} {s : Shared}
theorem rcLt_lex {l b : Addr} {us vs : Array Value} {k : Bool} (hl : s.heap.IsTuple l us) (hb : s.heap.IsTuple b vs) (hu : A.units < cLine) (hx : Lex A.in1 s (decide (us.size < vs.size)) (us.toList.zip vs.toList) k) : RcLt A s (.ref l) (.ref b) k := fun prog w E Q h => by
  obtain ⟨⟨c1, d1, e1, t1⟩, ho, hc, n, hd⟩ := id hl
  obtain ⟨⟨c2, d2, e2, t2⟩, ho2, hc2, m, hd2⟩ := id hb
  simp only at hc hd hc2 hd2
  subst hc hd hc2 hd2
  exact richCompare_meets_room (op := .Lt) ⟨_, ho, rfl⟩ ⟨_, ho2, rfl⟩ F.slot_tuple_lt F.entry_tuple_lt (F.args_tuple_lt_2 _ _) (tuple_lt_lex l b us vs n m d1 d2 t1 t2 k)
    ⟨ho, ho2, hx, show Value.bool k ≠ Value.notImplemented ∧ Q (.bool k) s from ⟨(fun x => nomatch x), h⟩⟩ hu
noncomputable def cmpL (f : PyData → PyData → Option Bool) : List PyData → List PyData → Option Bool
  | [], [] => some false
  | [], _ :: _ => some true
  | _ :: _, [] => some false
  | x :: xs, y :: ys => cond (PyData.eqv x y) (cmpL f xs ys) (f x y)
/-- x < y, where the answer is known -/
noncomputable def cmpD : Nat → PyData → PyData → Option Bool
  | 0, _, _ => none
  | n + 1, d, e => match d, e with
    | .int i, .int j => some (iLt i j)
    | .str x, .str y => some (ltCps x.cps.toList y.cps.toList)
    | .tuple xs, .tuple ys => cmpL (cmpD n) xs ys
    | _, _ => none
theorem lex_of {f : PyData → PyData → Option Bool} (hf : ∀ (da db : PyData) (a b : Value) (as bs : List Addr) (k : Bool), Reads s.heap a da as → Reads s.heap b db bs → da.canLay0 = true → db.canLay0 = true → A.units + min da.depth db.depth < cLine → f da db = some k → RcLt A s a b k) :
    ∀ (xs ys : List PyData) {us vs : List Value} {as bs : List Addr} {k fin : Bool}, ReadsAll s.heap us xs as → ReadsAll s.heap vs ys bs → PyData.canLayAll0 xs = true → PyData.canLayAll0 ys = true → A.units + min (PyData.depthAll xs) (PyData.depthAll ys) < cLine →
      fin = decide (xs.length < ys.length) → cmpL f xs ys = some k → Lex A s fin (us.zip vs) k
  | [], [], _, _, _, _, _, _, ra, rb, _, _, _, hn, h => by cases ra; cases rb; cases h; subst hn; exact .nil
  | [], y :: ys, _, _, _, _, _, _, ra, rb, _, _, _, hn, h => by
    cases ra; cases rb; cases h
    rw [List.zip_nil_left]
    have : (decide (([] : List PyData).length < (y :: ys).length)) = true := by simp
    rw [this] at hn; subst hn; exact .nil
  | x :: xs, [], _, _, _, _, _, _, ra, rb, _, _, _, hn, h => by
    cases ra; cases rb; cases h
    rw [List.zip_nil_right]
    have : (decide ((x :: xs).length < ([] : List PyData).length)) = false := by simp
    rw [this] at hn; subst hn; exact .nil
  | x :: xs, y :: ys, _, _, _, _, k, _, ra, rb, la, lb, hu, hn, h => by
    cases ra with
    | cons r rs =>
      cases rb with
      | cons r' rs' =>
        simp only [PyData.canLayAll0, Bool.and_eq_true] at la lb
        have hn' : _ = decide (xs.length < ys.length) := hn.trans (by simp)
        have e := SeqAt.eqAt_reads x y A s _ _ _ _ r r' la.1 lb.1 (SeqAt.room_head hu)
        have h' : cond (PyData.eqv x y) (cmpL f xs ys) (f x y) = some k := h
        rw [List.zip_cons_cons]
        cases hx : PyData.eqv x y with
        | true =>
          rw [hx] at e h'
          exact .yes e (lex_of hf xs ys rs rs' la.2 lb.2 (SeqAt.room_tail hu) hn' h')
        | false =>
          rw [hx] at e h'
          exact .no e (hf x y _ _ _ _ k r r' la.1 lb.1 (SeqAt.room_head hu) h')
end
theorem cmpD_ok : ∀ (n : Nat) (A : Around) (s : Shared) (da db : PyData) (a b : Value) (as bs : List Addr) (k : Bool), Reads s.heap a da as → Reads s.heap b db bs → da.canLay0 = true → db.canLay0 = true → A.units + min da.depth db.depth < cLine → cmpD n da db = some k → RcLt A s a b k
  | 0, _, _, _, _, _, _, _, _, _, _, _, _, _, _, h => by cases h
  | n + 1, A, s, da, db, a, b, as, bs, k, ra, rb, la, lb, hu, h => by
    cases da with
    | int i =>
      cases db with
      | int j =>
        cases h
        cases ra; cases rb
        rw [iLt_eq]
        exact fun prog w E Q hq => P.lt_int hq
      | _ => cases h
    | str x =>
      cases db with
      | str y =>
        cases h
        cases ra; cases rb
        rw [ltCps_eq]
        exact fun prog w E Q hq => P.lt_str hq
      | _ => cases h
    | tuple xs =>
      cases db with
      | tuple ys =>
        have h' : cmpL (cmpD n) xs ys = some k := h
        cases ra with
        | tuple h1 h2 h3 h4 =>
          cases rb with
          | tuple k1 k2 k3 k4 =>
            have n1 := SeqAt.ReadsAll.length _ _ _ h4
            have n2 := SeqAt.ReadsAll.length _ _ _ k4
            rw [Array.length_toList] at n1 n2
            simp only [PyData.canLay0] at la lb
            refine rcLt_lex ⟨_, h1, h2, _, h3⟩ ⟨_, k1, k2, _, k3⟩ (SeqAt.room_here hu) (lex_of (fun da db a b as bs k => cmpD_ok n A.in1 s da db a b as bs k) xs ys h4 k4 la lb (SeqAt.room_in hu) (by rw [n1, n2]) h')
      | _ => cases h
    | _ => cases h

end
section
/-! ### a lambda of one parameter and no free names is called -/
theorem run_lam {CX : CXT} {P : Program} {w : World} {K : PySem.W.Frag} {mg : Str → Option Value} {base : Heap} {k : Nat} {f c : Addr} {qual : Str} {params : Arguments} {body : Expr} {scope : Scope} {pm ctv : Value} {N ps : List Str}
    {A : Around} {outer : List Env} {s : Shared} {H : Hp} {args : Args} {us : List Value} {vs : List V} {Q : VK} {E : XK} (ho : s.heap.get? f = some (PySem.W.kla_obj "<lambda>" qual params body scope [] pm c ctv)) (hcd : s.heap.CodeRec (.ref c) qual) (S : FnScope N ps scope)
    (hr : Room (k + 1) A) (e0 : Env0 P w K mg base A outer s H) (hb : BindsTo s (PySem.W.kla_fn "<lambda>" qual params body scope [] pm (.ref c) ctv) args (ps.zip us)) (r : Vals vs us) (hl : vs.length = ps.length)
    (hbody : Room k (A.deeper (envOfC qual scope s.heap.objs.size f (.ref c))) → ∃ t, PE (cxOf CX P w K mg base N qual scope f (.ref c) A outer s H E) body t ∧ t (L2.start N vs) H Q) :
    codeAny (model P w) A (.call (.ref f) args) (CR CX outer P w H s Q E) s := by
  have lim : s.heap.NoLimit := e0.mod.nolimit.keeps fun b o e => (e0.bs b o e).1
  have kinds : ∀ y ∈ ps.zip us, scope.names.lookup y.1 = some .local ∨ (scope.names.lookup y.1 = some .cell ∧ ((cellsFrom (s.heap.objs.size + 1) scope.names []).lookup y.1).isSome = true) := fun y hy => by
    rcases S.par y.1 (List.of_mem_zip (a := y.1) (b := y.2) hy).1 with q | q
    · exact .inl q
    · exact .inr ⟨q, PySem.W.cellsFrom_some _ _ _ (.inl q)⟩
  refine PySem.W.kla_callFunE hr.depth ho rfl S.co S.gen rfl hcd (hb _ _ _ _ (wpAny_newFunctionEnv_cells S.kind kinds fun env he s1 x => ?_))
  subst he
  refine ⟨lim.keeps x.toInCall.keep, ?_⟩
  obtain ⟨t, ht, hq⟩ := hbody (hr.deeper _)
  have I : Inv (cxOf CX P w K mg base N qual scope f (.ref c) A outer s H E) [] (L2.start N vs) H s1 := inv_start S hr.hd e0 hl r x
  refine PySem.W.kla_codeExpr (wpAny_mono (ht.run [] s1 (L2.start N vs) H Q I hq) (fun u s' hs => ?_) fun e s' hs => hs)
  obtain ⟨v, H', J, rv, q⟩ := hs
  exact ⟨v, H', J.os, J.bare, J.base, J.hok, rv, q⟩
/-! ### a lambda is made -/
noncomputable def mklam (i u : Nat) (q : Str) (l c : Nat) (s : Ms) : Option Ms := match s.get i with
  | some (.tab u' none) => cond (Nat.beq u' u) ((s.alloc (.cod q)).om fun n => n.2.put i (.tab u (some (l, c, n.1)))) none
  | some (.tab u' (some (l', c', n))) => cond (Nat.beq u' u && (Nat.beq l' l && Nat.beq c' c)) (match s.get n with
    | some (.cod q') => cond (strEq q' q) (some s) none
    | _ => none) none
  | _ => none
section
variable {X : Cx} {pins : List (Addr × Obj)} {σ : L2.St} {H : Hp} {s : Shared} {G : Mg} {p : List Addr}
theorem lam_made {ms ms' : Ms} {i u : Nat} {c : Addr} {q : Str} {params : Arguments} {body : Expr} {scope : Scope} {pos : Pos} {E : Value → Shared → Prop} {Q : Value → Shared → Prop} (I : Inv X pins σ H s) (S : Sim G p ms H) (TB : LamX.TabB X.base X.mg c (G.tad u)) (hcode : X.env.code = .ref c)
    (hq : X.env.qual ++ "<lambda>" = q) (hdef : defaultsOf params X.env = ([], [])) (hfree : ∀ y ∈ scope.names, y.2 = .free → ∃ c, X.env.cells.lookup y.1 = some c) (hclo : cloFrom X.env.cells scope.names [] = []) (e : mklam i u q pos.line pos.col ms = some ms')
    (h : ∀ (f d : Addr) (pm ctv : Value) (H1 : Hp) (s' : Shared) (p' : List Addr), Inv X pins σ H1 s' → Sim G p' ms' H1 → Fra p H p' H1 → (∀ b o, H b = some o → b ≠ G.tad u → H1 b = some o) → s'.heap.get? f = some (PySem.W.kla_obj "<lambda>" q params body scope [] pm d ctv) → H1 f = none → f ∉ frs X.stack →
      H1 d = some (LamX.CodeO d q) → Q (.ref f) s') :
    wpAny (model X.prog X.w) X.A (eval (.Lambda params body scope pos) X.env) Q E s := by
  subst hq
  refine PySem.W.kla_eval hdef ?_
  have nofr : ∀ f, s.heap.objs.size ≤ f → f ∉ frs X.stack := fun f hf z => by
    rcases List.mem_cons.mp (I.stkSub _ z) with e | e
    · have h1 := I.lt
      rw [← e] at h1
      exact Nat.lt_irrefl _ (Nat.lt_of_lt_of_le h1 hf)
    · exact I.nofs hf e
  have at_ : ∀ {o : Mo}, ms.get i = some o → ∃ a, p[i]? = some a := fun {o} e => by
    have lt : i < p.length := by
      rw [S.len]
      rcases Nat.lt_or_ge i ms.sz with z | z
      · exact z
      · rw [S.out i z] at e; cases e
    exact ⟨p[i], List.getElem?_eq_getElem lt⟩
  generalize hPu : G.tad u = P at TB h
  have bP : s.heap.BuiltinsAt X.mg P := TB.bm.keeps I.bk
  have clo := closure_ok hfree
  rw [hclo] at clo
  unfold mklam at e
  split at e
  · rename_i u' e0
    cases eu : Nat.beq u' u with
    | false => rw [eu] at e; cases e
    | true =>
    rw [eu] at e
    have eu := Nat.eq_of_beq_eq_true eu
    subst eu
    obtain ⟨P', hi⟩ := at_ e0
    obtain ⟨ho, hP, eP, rfl⟩ := S.get hi e0
    rw [eP, hPu] at hi hP
    obtain ⟨⟨n, s1⟩, e1, e2⟩ := omap_some.mp (show ((ms.alloc (.cod (X.env.qual ++ "<lambda>"))).om fun n => n.2.put i (.tab u' (some (pos.line, pos.col, n.1)))) = some ms' from e)
    subst e2
    have hP' : s.heap.get? P = some { cls := .none, data := .fields #[] } := I.hok P _ hP
    refine PySem.W.kla_makeFunction (mg := X.mg) (c := c) (P := P) (ps := #[]) clo I.ok.glob (I.mod.glob.keeps I.bk) hcode (TB.code.keeps I.bk) hP' True.intro rfl TB.gP bP fun d ctv h' tk hx hge hlt hrec htb => ?_
    obtain ⟨d2, oc, vs, t, e2, hoc, hd, hv⟩ := id hrec
    cases e2
    have hsz : s.heap.objs.size ≤ h'.objs.size := Nat.le_trans hge (Nat.le_of_lt hlt)
    have nD : H d = none := I.hok.fresh hge
    have nPd : P ≠ d := ne_of_none hP nD
    have I1 := LamX.inv_table (t' := tk) (more := #[rawInt pos.line, rawInt pos.col, .ref d]) (h' := h'.push (PySem.W.kla_obj "<lambda>" (X.env.qual ++ "<lambda>") params body scope [] ((X.mg "__name__").getD .none) d ctv)) I hP
      (fun b o hb e => Heap.get?_push_of_some _ (hx b o hb e)) (Heap.get?_push_of_some _ htb) hge ⟨oc, vs, t, Heap.get?_push_of_some _ hoc, hd, hv⟩
    obtain ⟨S1, f1, d1⟩ := S.new e1 nD (ho := LamX.CodeO d (X.env.qual ++ "<lambda>")) (H' := upd H d (LamX.CodeO d (X.env.qual ++ "<lambda>"))) rfl upd_same fun b u eb => by rw [upd_ne (ne_of_none eb nD)]; exact eb
    have e0' : s1.get i = some (.tab u' none) := by
      obtain ⟨_, _, g⟩ := Ms.alloc_eq e1
      rw [g, if_neg ?_]
      · exact e0
      · have := (List.getElem?_eq_some_iff.mp hi).1
        have := S.len
        omega
    cases d1
    rename_i hn
    obtain ⟨S2, f2⟩ := S1.put (f1.at hi) e0' rfl (ho := .tbl #[rawInt pos.line, rawInt pos.col, .ref d]) (o := .tab u' (some (pos.line, pos.col, n))) (fun _ z => by cases z) ⟨hPu.symm, d, hn, rfl⟩
    have eH : upd (upd H P (.tbl (#[] ++ #[rawInt pos.line, rawInt pos.col, .ref d]))) d (LamX.CodeO d (X.env.qual ++ "<lambda>")) = upd (upd H d (LamX.CodeO d (X.env.qual ++ "<lambda>"))) P (.tbl #[rawInt pos.line, rawInt pos.col, .ref d]) := by
      funext b
      by_cases h1 : b = P
      · subst h1; rw [upd_same, upd_ne nPd, upd_same]; simp
      · by_cases h2 : b = d
        · subst h2; rw [upd_same, upd_ne h1, upd_same]
        · rw [upd_ne h2, upd_ne h1, upd_ne h1, upd_ne h2]
    rw [eH] at I1
    refine h h'.objs.size d ((X.mg "__name__").getD .none) ctv _ _ _ I1 S2 (f1.trans f2) (fun b o eb hb => ?_) (Heap.get?_push_size _ rfl) ?_ (nofr _ hsz) (by rw [upd_ne nPd.symm, upd_same])
    · rw [upd_ne hb, upd_ne (ne_of_none eb nD)]; exact eb
    · have n1 : h'.objs.size ≠ d := Nat.ne_of_gt hlt
      have n2 : h'.objs.size ≠ P := Nat.ne_of_gt (Nat.lt_of_lt_of_le (Heap.lt_size hP') hsz)
      rw [upd_ne n2, upd_ne n1]
      exact I.hok.fresh hsz
  · rename_i u' l' c' n e0
    cases eb : (Nat.beq u' u && (Nat.beq l' pos.line && Nat.beq c' pos.col)) with
    | false => rw [eb] at e; cases e
    | true =>
      rw [eb] at e
      obtain ⟨eu, eb0⟩ := He.ba eb
      have eu := Nat.eq_of_beq_eq_true eu
      subst eu
      obtain ⟨eb1, eb2⟩ := He.ba eb0
      have eb1 := Nat.eq_of_beq_eq_true eb1
      have eb2 := Nat.eq_of_beq_eq_true eb2
      subst eb1 eb2
      have e' : (match ms.get n with
        | some (.cod q') => cond (strEq q' (X.env.qual ++ "<lambda>")) (some ms) none
        | _ => none) = some ms' := e
      split at e'
      · rename_i q' e1
        cases eq : strEq q' (X.env.qual ++ "<lambda>") with
        | false => rw [eq] at e'; cases e'
        | true =>
          rw [eq] at e'; cases e'
          rw [strEq_eq] at eq
          have eq := of_decide_eq_true eq
          subst eq
          obtain ⟨P', hi⟩ := at_ e0
          obtain ⟨ho, hP, eP, b, hb, rfl⟩ := S.get hi e0
          rw [eP, hPu] at hi hP
          obtain ⟨ho, hB, rfl⟩ := S.get hb e1
          have hP' : s.heap.get? P = some { cls := .none, data := .fields #[rawInt pos.line, rawInt pos.col, .ref b] } := I.hok P _ hP
          have among : codeAmong pos (#[rawInt pos.line, rawInt pos.col, .ref b] : Array Value).toList = some (.ref b) := by
            simp [codeAmong, rawInt]
          obtain ⟨⟨oc, vs, t, hoc, hd, hv⟩, _, _⟩ := I.hok b _ hB
          refine PySem.W.kla_makeFunctionHit (mg := X.mg) (c := c) (P := P) clo I.ok.glob (I.mod.glob.keeps I.bk) hcode (TB.code.keeps I.bk) hP' (by simp [TriplesOk, rawInt]) among bP fun ctv h' tk hx hsz => ?_
          have I1 : Inv X pins σ H { s with heap := h'.push (PySem.W.kla_obj "<lambda>" (X.env.qual ++ "<lambda>") params body scope [] ((X.mg "__name__").getD .none) b ctv), toks := tk } := I.kept fun b o e => Heap.get?_push_of_some _ (hx b o e)
          exact h h'.objs.size b ((X.mg "__name__").getD .none) ctv H _ p I1 S Fra.refl (fun _ _ e _ => e) (Heap.get?_push_size _ rfl) (I.hok.fresh hsz) (nofr _ hsz) hB
      · cases e'
  · cases e
end

end
section
/-! ### min(xs, key=lambda x: (len(x), x)) -/
section
variable {X : Cx} {pins : List (Addr × Obj)} {σ : L2.St} {H : Hp} {s : Shared} {h' : Heap}
/-- some untracked objects of the caller's own are written -/
theorem turnedL {ch : List Addr} {t' : Nat} (I : Inv X pins σ H s) (k : ∀ b o, b ∉ ch → s.heap.get? b = some o → h'.get? b = some o) (hf : ∀ b ∈ ch, FpOk X pins H b) : Inv X pins σ H { s with heap := h', toks := t' } := by
  have nit : ∀ b u, H b = some u → b ∉ ch := fun b u e z => by
    have q := (hf b z).1
    rw [q] at e; cases e
  refine I.step (g' := s.gens) (d' := s.drawn) (ch := ch) (fun b hb => ⟨(hf b hb).2.2.2.1, (hf b hb).2.1, (hf b hb).2.2.2.2.1, (hf b hb).2.2.2.2.2⟩) (fun b o _ _ hc e _ => k b o hc e) (fun b o _ _ hc e _ => ⟨o.slots, k b o hc e⟩)
    (fun _ _ _ _ n => n) (fun b o hc e => ⟨o, k b o hc e⟩) (fun _ _ e => e) (fun _ _ _ e => e) (fun b ps e => ⟨#[], by rw [e]; simp⟩) (fun m ⟨o, es, ep, ho, r⟩ => ⟨o, es, ep, k _ o (fun z => (hf _ z).2.1 rfl) ho, r⟩) (fun b u e => ?_) I.bare
  refine (I.hok b u e).stay (fun c v hc q => k c v ?_ q) (fun _ q => q) fun _ _ q => q
  rcases hc with z | z
  · rw [z]; exact nit b u e
  · exact nit c _ z
/-- (len(x), x), x the one parameter -/
noncomputable def tLP (K : PySem.W.Frag) : TE := fun σ H Q => ∃ a n, σ[0]? = some (some (.ref a)) ∧ LenV K (.ref a) H n ∧ ∀ T, H T = none → Q (.ref T) (upd H T (.tup [.int (n : Nat), .ref a]))
theorem pe_lp {Y : Cx} {x : Str} {p1 p2 p3 p4 pos : Pos} {k0 : Nat} (hg : Gl Y "len") (hm : Y.mg "len" = none) (hv : ∀ q, PE Y (.Name x q) (tVar 0)) : PE Y (.Tuple [.Call (.Name "len" p1) [.Name x p2] [] p3, .Name x p4] k0 pos) (tLP Y.K) :=
  pe_imp (pe_tup (pa_cons (pe_callB call_len hg hm (by decide +kernel) (pa_cons (hv p2) pa_nil)) (pa_cons (hv p4) pa_nil))) fun σ H Q ⟨a, n, h1, h2, h3⟩ =>
    ⟨.ref a, h1, .ref a, n, rfl, h2, .ref a, h1, by show 2 ≤ sizeLine; decide, h3⟩
/-- what is known of a lambda that was made, and of the list that is asked -/
structure Lm (X : Cx) (pins : List (Addr × Obj)) (σ : L2.St) (H : Hp) (s0 : Shared) (f d l : Addr) (q : Str) (fo : Obj) (as : List Addr) : Prop where
  inv : Inv X pins σ H s0
  fo : s0.heap.get? f = some fo
  nf : H f = none
  fr : f ∉ frs X.stack
  cd : H d = some (LamX.CodeO d q)
  li : H l = some (.lst (as.map V.ref))
/-- while the keys are asked: H' has tuples more -/
structure JJ (X : Cx) (pins : List (Addr × Obj)) (σ : L2.St) (H : Hp) (f : Addr) (fo : Obj) (it S : Addr) (H' : Hp) (s : Shared) : Prop where
  inv : Inv X pins σ H' s
  ext : ∀ b o, H b = some o → H' b = some o
  hi : ∀ b, H b = none → H' b = none ∨ ∃ xs, H' b = some (.tup xs)
  nI : H' it = none
  nS : H' S = none
  fo : s.heap.get? f = some fo
  nf : H' f = none
/-- the key's tuple -/
def KT (X : Cx) (H : Hp) (it S : Addr) (n : Nat) (a : Addr) (k : Value) (s : Shared) : Prop := ∃ T t, k = .ref T ∧ H T = none ∧ T ∉ frs X.stack ∧ T ≠ it ∧ T ≠ S ∧ IsTup s.heap T #[.int (n : Nat) t, .ref a]
theorem refs_eq : ∀ {as : List Addr} {us : List Value}, Vals (as.map V.ref) us → us = as.map Value.ref
  | [], _, .nil => rfl
  | a :: as, _, .cons r t => by rw [refs_eq t]; cases r; rfl
theorem pair_of {xs : List V} {us us' : List Value} {i : Int} {t : Tok} {a : Addr} (r : Vals xs us) (e : us = [.int i t, .ref a]) (r' : Vals xs us') : ∃ t', us' = [.int i t', .ref a] := by
  subst e
  cases r with
  | cons r1 r2 =>
    cases r2 with
    | cons r3 r4 =>
      cases r4
      cases r' with
      | cons q1 q2 =>
        cases q2 with
        | cons q3 q4 =>
          cases q4
          rename_i x1 x2 u1 u2
          have h1 : ∃ t', u1 = .int i t' := by
            cases x1 with
            | int j => obtain ⟨t1, e1⟩ := r1; cases e1; exact q1
            | non => cases (show Value.int i t = Value.none from r1)
            | bl b => cases (show Value.int i t = Value.bool b from r1)
            | str y => obtain ⟨_, z⟩ := r1; cases z
            | byt y => obtain ⟨_, z⟩ := r1; cases z
            | flt y => obtain ⟨_, z⟩ := r1; cases z
            | ref y => cases (show Value.int i t = Value.ref y from r1)
            | ty y => cases (show Value.int i t = Value.type y from r1)
          have h2 : u2 = .ref a := by
            cases x2 with
            | int j => obtain ⟨_, z⟩ := r3; cases z
            | non => cases (show Value.ref a = Value.none from r3)
            | bl b => cases (show Value.ref a = Value.bool b from r3)
            | str y => obtain ⟨_, z⟩ := r3; cases z
            | byt y => obtain ⟨_, z⟩ := r3; cases z
            | flt y => obtain ⟨_, z⟩ := r3; cases z
            | ref y => have z : Value.ref a = Value.ref y := r3; cases z; exact q3
            | ty y => cases (show Value.ref a = Value.type y from r3)
          obtain ⟨t', h1⟩ := h1
          exact ⟨t', by rw [h1, h2]⟩
theorem isTup_inj {h : Heap} {T : Addr} {us vs : Array Value} (a : IsTup h T us) (b : IsTup h T vs) : us = vs := by
  obtain ⟨o, h1, _, n, h2⟩ := a
  obtain ⟨o', k1, _, m, k2⟩ := b
  rw [h1] at k1; cases k1
  rw [h2] at k2; cases k2
  rfl
theorem key_run {k : Nat} {x : Str} {s0 : Shared} {f d l : Addr} {q : Str} {params : Arguments} {body : Expr} {scope : Scope} {pm ctv : Value} {as : List Addr} {ln : Nat → Nat} {dd : Nat → PyData} {bt : Nat → Nat → Bool}
    (L : Lm X pins σ H s0 f d l q (PySem.W.kla_obj "<lambda>" q params body scope [] pm d ctv) as) (hr : Room (k + 2) X.A) (Sc : FnScope [x] [x] scope) (hbind : ∀ u, bindArgs (PySem.W.kla_fn "<lambda>" q params body scope [] pm (.ref d) ctv) ⟨[u], []⟩ = pure [(x, u)])
    (hB : ∀ (A : Around) (outer : List Env) (s : Shared) (H : Hp) (E : XK), PE (cxOf CX0 X.prog X.w X.K X.mg X.base [x] q scope f (.ref d) A outer s H E) body (tLP X.K))
    (hd : ∀ H', (∀ b o, H b = some o → H' b = some o) → ∀ (i : Nat) (a : Addr), as[i]? = some a → (∃ xs, SqT X.K H' a xs ∧ ln i = xs.length) ∧ Dp X.K H' (.ref a) (dd i) ∧ (dd i).canLay0 = true ∧ (dd i).depth ≤ 24)
    (hc : ∀ i j, i < as.length → j < as.length → cmpD 24 (.tuple [.int (ln i : Nat), dd i]) (.tuple [.int (ln j : Nat), dd j]) = some (bt i j)) :
    KeyRun X.prog X.w X.A.in1 (.ref f) .Lt (s0.heap.objs.size + 1) [s0.heap.objs.size] (fun a b => b = a) as.length (fun i v => (as.map Value.ref).toArray[i]? = some v) (fun i s => s.heap.IsListIter s0.heap.objs.size l i ∧ s.heap.IsList l (as.map Value.ref).toArray)
      (fun s => ∃ H', JJ X pins σ H f (PySem.W.kla_obj "<lambda>" q params body scope [] pm d ctv) s0.heap.objs.size (s0.heap.objs.size + 1) H' s) (fun i kv s => ∃ a, as[i]? = some a ∧ KT X H s0.heap.objs.size (s0.heap.objs.size + 1) (ln i) a kv s) bt where
  keep := fun s s' ⟨H', J⟩ m => by
    have fp : ∀ b ∈ [s0.heap.objs.size + 1, s0.heap.objs.size], FpOk X pins H' b := fun b hb => by
      rcases List.mem_cons.mp hb with rfl | hb
      · exact L.inv.fpOk (Nat.le_succ _) J.nS
      · rw [List.mem_singleton.mp hb]; exact L.inv.fpOk (Nat.le_refl _) J.nI
    obtain ⟨h', g', d', tk', os'⟩ := s'
    obtain rfl : g' = s.gens := m.gens
    obtain rfl : d' = s.drawn := m.drawn
    obtain rfl : os' = s.os := m.os
    have lt : f < s0.heap.objs.size := Heap.lt_size L.fo
    refine ⟨H', turnedL (ch := [s0.heap.objs.size + 1, s0.heap.objs.size]) J.inv m.heap fp, J.ext, J.hi, J.nI, J.nS, m.heap f _ (fun z => ?_) J.fo, J.nf⟩
    rcases List.mem_cons.mp z with z | z
    · rw [z] at lt; exact Nat.not_lt.mpr (Nat.le_succ _) lt
    · rw [List.mem_singleton.mp z] at lt; exact Nat.lt_irrefl _ lt
  keepV := fun i kv s s' ⟨a, ha, T, t, e, h1, h2, h3, h4, o, g1, g2⟩ m => ⟨a, ha, T, t, e, h1, h2, h3, h4, o, m.heap T o (fun z => by
    rcases List.mem_cons.mp z with z | z
    · exact h4 z
    · exact h3 (List.mem_singleton.mp z)) g1, g2⟩
  turn := fun i v s o Q E hi hv ⟨H', J⟩ st hS cont => by
    obtain ⟨a, ha, rfl⟩ : ∃ a, as[i]? = some a ∧ v = .ref a := by
      have hv' : (as.map Value.ref)[i]? = some v := by simpa using hv
      rw [List.getElem?_map] at hv'
      obtain ⟨a, g1, g2⟩ := Option.map_eq_some_iff.mp hv'
      exact ⟨a, g1, g2.symm⟩
    obtain ⟨⟨xs, sq, exs⟩, _⟩ := hd H' J.ext i a ha
    have cdH : H' d = some (LamX.CodeO d q) := J.ext _ _ L.cd
    obtain ⟨⟨oc, vs, t, c1, c2, c3⟩, _, _⟩ := J.inv.hok d _ cdH
    have rc := run_lam (CX := CX0) (k := k) (A := X.A.in1) (outer := X.stack) (H := H') (args := ⟨[.ref a], []⟩) (us := [.ref a]) (vs := [.ref a]) (Q := fun v H2 => ∃ T, v = .ref T ∧ H' T = none ∧ H2 = upd H' T (.tup [.int (ln i : Nat), .ref a])) (E := fun _ _ _ => False)
      J.fo ⟨d, oc, vs, t, rfl, c1, c2, c3⟩ Sc hr.in1 J.inv.env0.in1 (.of_eq (hbind _)) (.cons rfl .nil) rfl fun _ => ⟨_, hB _ _ _ _ _, a, ln i, rfl, .inr ⟨xs, sq, exs⟩, fun T hT => ⟨T, rfl, hT, rfl⟩⟩
    refine wpAny_call (codeAny_mono rc fun r s' hq => ?_)
    cases r with
    | error e => exact hq.elim
    | ok fl =>
      cases fl with
      | ret u =>
        obtain ⟨v, H2, os, bare, un, hok, rv, T, rfl, hT, eH⟩ := hq
        cases (show u = Value.ref T from rv)
        obtain ⟨v', H3, I3, rv', e1, e2⟩ := J.inv.after (Q := fun v' H3 => v' = V.ref T ∧ H3 = H2) (u := .ref T) ⟨.ref T, H2, os, bare, un, hok, rfl, rfl, rfl⟩
        subst e2
        have hTt : H3 T = some (.tup [.int (ln i : Nat), .ref a]) := by rw [eH, upd_same]
        have itO : ∃ oi, s.heap.get? s0.heap.objs.size = some oi := let ⟨oi, g, _⟩ := st.1; ⟨oi, g⟩
        obtain ⟨oi, gI⟩ := itO
        have nfr : ∀ b, s0.heap.objs.size ≤ b → b ∉ frs X.stack := fun b hb z => by
          rcases List.mem_cons.mp (L.inv.stkSub _ z) with e | e
          · have h1 := L.inv.lt
            rw [← e] at h1
            exact Nat.lt_irrefl _ (Nat.lt_of_lt_of_le h1 hb)
          · exact L.inv.nofs hb e
        have kI := un.keep _ _ gI J.nI (nfr _ (Nat.le_refl _)) (by simp)
        have kS := un.keep _ _ hS J.nS (nfr _ (Nat.le_succ _)) (by simp)
        have fI := un.free _ _ gI J.nI (by simp)
        have fS := un.free _ _ hS J.nS (by simp)
        have ff := un.free _ _ J.fo J.nf (by simp)
        have J' : JJ X pins σ H f (PySem.W.kla_obj "<lambda>" q params body scope [] pm d ctv) s0.heap.objs.size (s0.heap.objs.size + 1) H3 s' := by
          refine ⟨I3, fun b ob e => ?_, fun b e => ?_, fI, fS, un.keep _ _ J.fo J.nf L.fr (by simp), ff⟩
          · rw [eH, upd_ne (ne_of_none (J.ext b ob e) hT)]; exact J.ext b ob e
          · by_cases hb : b = T
            · exact .inr ⟨_, by rw [hb]; exact hTt⟩
            · rw [eH, upd_ne hb]; exact J.hi b e
        have hTn : H T = none := by
          cases e : H T with
          | none => rfl
          | some ob => rw [J.ext T ob e] at hT; cases hT
        have hTf : T ∉ frs X.stack := fun z => by rw [I3.stkFree T z] at hTt; cases hTt
        have hTI : T ≠ s0.heap.objs.size := fun z => by rw [z, fI] at hTt; cases hTt
        have hTS : T ≠ s0.heap.objs.size + 1 := fun z => by rw [z, fS] at hTt; cases hTt
        refine cont _ s' ⟨H3, J'⟩ ⟨?_, ?_⟩ kS ⟨a, ha, T, ?_⟩ fun j k' ⟨a', ha', T', t', e', n1, n2, n3, n4, tp⟩ => ?_
        · exact st.1.at fun ob e => by rw [gI] at e; cases e; exact kI
        · obtain ⟨its, n, rvs, ho, _⟩ := I3.lst (J'.ext _ _ L.li)
          rw [refs_eq rvs] at ho
          exact ⟨_, ho, rfl, n, rfl⟩
        · obtain ⟨_, its, rvs, tp⟩ := I3.hok T _ hTt
          cases rvs with
          | cons q1 q2 =>
            cases q2 with
            | cons q3 q4 =>
              cases q4
              obtain ⟨t2, rfl⟩ := q1
              cases q3
              exact ⟨t2, rfl, hTn, hTf, hTI, hTS, tp⟩
        · rcases J.hi T' n1 with z | ⟨xs', z⟩
          · obtain ⟨ob, g1, g2⟩ := tp
            exact ⟨a', ha', T', t', e', n1, n2, n3, n4, ob, un.keep _ _ g1 z n2 (by simp), g2⟩
          · obtain ⟨_, its, rvs, tp1⟩ := J.inv.hok T' _ z
            obtain ⟨_, its', rvs', tp2⟩ := I3.hok T' _ (un.tups _ _ z)
            have e1 := isTup_inj tp1 tp
            have e2 : its = [.int (ln j : Nat) t', .ref a'] := by simpa using congrArg Array.toList e1
            obtain ⟨t2, e3⟩ := pair_of rvs e2 rvs'
            rw [e3] at tp2
            exact ⟨a', ha', T', t2, e', n1, n2, n3, n4, tp2⟩
      | next => exact hq.elim
      | brk => exact hq.elim
      | cont => exact hq.elim
  cmp := fun i j ki kj s Q E ⟨H', J⟩ ⟨a, ha, T, t, e, n1, n2, n3, n4, tp⟩ ⟨a', ha', T', t', e', m1, m2, m3, m4, tp'⟩ hq => by
    subst e e'
    have rd : ∀ (i : Nat) (a T : Addr) (t : Tok), as[i]? = some a → IsTup s.heap T #[.int (ln i : Nat) t, .ref a] → (∃ bs, Reads s.heap (.ref T) (.tuple [.int (ln i : Nat), dd i]) bs) ∧ (PyData.tuple [.int (ln i : Nat), dd i]).canLay0 = true ∧ (PyData.tuple [.int (ln i : Nat), dd i]).depth ≤ 26 := fun i a T t ha tp => by
      obtain ⟨_, dp, lay, dep⟩ := hd H' J.ext i a ha
      obtain ⟨bs, r⟩ := Dp.reads J.inv _ _ (.ref a) dp rfl
      obtain ⟨o, h1, h2, n, h3⟩ := tp
      refine ⟨⟨_, .tuple h1 h2 h3 (.cons (.int _ _) (.cons r .nil))⟩, by simp [PyData.canLay0, PyData.canLayAll0, lay], ?_⟩
      simp only [PyData.depth, PyData.depthAll]
      omega
    obtain ⟨⟨bs, r1⟩, l1, d1⟩ := rd i a T t ha tp
    obtain ⟨⟨bs', r2⟩, l2, d2⟩ := rd j a' T' t' ha' tp'
    have hu := hr.un
    exact cmpD_ok 24 X.A.in1 s _ _ _ _ _ _ _ r1 r2 l1 l2 (by rw [Around.in1_units]; omega) (hc i j (List.getElem?_eq_some_iff.mp ha).1 (List.getElem?_eq_some_iff.mp ha').1) X.prog X.w E Q hq
end

end
section
/-! ### min(xs, key=lambda x: (len(x), x)) in the mirror -/
noncomputable def lensT : List Mv → Option (List Nat)
  | [] => some []
  | .tup us :: ws => (lensT ws).om fun r => llen us :: r
  | _ => none
noncomputable def kdsL (ls : List Nat) : List PyData → List PyData := List.rec (motive := fun _ => List PyData → List PyData) (fun _ => []) (fun l _ ih ds => List.rec (motive := fun _ => List PyData) [] (fun d r _ => PyData.tuple [.int (l : Nat), d] :: ih r) ds) ls
noncomputable def allC (ks : List PyData) : Bool := ks.all fun x => ks.all fun y => (cmpD 24 x y).isSome
noncomputable def btK (ks : List PyData) (i j : Nat) : Bool := ((lget ks i).ob fun x => (lget ks j).ob fun y => cmpD 24 x y).getD false
noncomputable def minO (ws : List Mv) (s : Ms) : Option (Mv × Ms) := (toDL (toD 24 s) ws).ob fun ds => (lensT ws).ob fun ls => cond (allC (kdsL ls ds)) ((lget ws (argBest (btK (kdsL ls ds)) (Nat.sub (llen ws) 1))).om fun w => (w, s)) none
noncomputable def mminL (i u : Nat) (q : Str) (l c : Nat) (E : Fe) : Fe := fun r s => (E r s).ob fun x => match x.1 with
  | .ref n => match x.2.get n with
    | some (.lst ws) => (mklam i u q l c x.2).ob fun s1 => minO ws s1
    | _ => none
  | _ => none
section
variable {X : Cx} {G : Mg} {p : List Addr} {H : Hp}
theorem lensT_ok : ∀ {ws : List Mv} {vs : List V} {ls : List Nat}, DenL G p H ws vs → lensT ws = some ls → ∃ as : List Addr, vs = as.map V.ref ∧ ls.length = as.length ∧ ∀ (i : Nat) (a : Addr), as[i]? = some a → ∃ xs, SqT G.K H a xs ∧ ls[i]? = some xs.length
  | [], _, _, .nil, h => by cases h; exact ⟨[], rfl, rfl, fun i a z => by simp at z⟩
  | .tup us :: ws, _, ls, .cons d l, h => by
    obtain ⟨r, h1, h2⟩ := omap_some.mp (show (lensT ws).om (fun r => llen us :: r) = some ls from h)
    cases h2
    obtain ⟨as, e, hl, k⟩ := lensT_ok l h1
    obtain ⟨b, xs, rfl, sq, lx⟩ := d.tup_inv
    refine ⟨b :: as, by rw [e]; rfl, by rw [List.length_cons, List.length_cons, hl], fun i a z => ?_⟩
    cases i with
    | zero => cases z; exact ⟨xs, sq, by rw [llen_eq, lx.length]; rfl⟩
    | succ i => exact k i a z
theorem kdsL_get : ∀ (ls : List Nat) (ds : List PyData) (i : Nat) (l : Nat) (d : PyData), ls[i]? = some l → ds[i]? = some d → (kdsL ls ds)[i]? = some (.tuple [.int (l : Nat), d])
  | [], _, i, _, _, h, _ => by simp at h
  | _ :: _, [], i, _, _, _, h => by simp at h
  | l :: ls, d :: ds, 0, _, _, h1, h2 => by cases h1; cases h2; rfl
  | l :: ls, d :: ds, i + 1, l', d', h1, h2 => kdsL_get ls ds i l' d' h1 h2
theorem btK_ok {ks : List PyData} (h : allC ks = true) {i j : Nat} {x y : PyData} (h1 : ks[i]? = some x) (h2 : ks[j]? = some y) : cmpD 24 x y = some (btK ks i j) := by
  have z := List.all_eq_true.mp (List.all_eq_true.mp h x (List.mem_of_getElem? h1)) y (List.mem_of_getElem? h2)
  unfold btK
  rw [lget_eq, lget_eq, h1, h2]
  cases e : cmpD 24 x y with
  | none => rw [e] at z; cases z
  | some b => simp [e]
theorem toDL_len {f : Mv → Option PyData} : ∀ {ws : List Mv} {ds : List PyData}, toDL f ws = some ds → ds.length = ws.length
  | [], _, h => by cases h; rfl
  | w :: ws, _, h => by
    obtain ⟨d, h1, h2⟩ := ob_some.mp (show (f w).ob (fun d => (toDL f ws).om fun ds => d :: ds) = _ from h)
    obtain ⟨r, h3, h4⟩ := omap_some.mp h2
    cases h4
    rw [List.length_cons, List.length_cons, toDL_len h3]
theorem dpAll_get {K : PySem.W.Frag} : ∀ {as : List Addr} {ds : List PyData}, DpAll K H (as.map V.ref) ds → PyData.canLayAll0 ds = true → ∀ (i : Nat) (a : Addr), as[i]? = some a → ∃ d, ds[i]? = some d ∧ Dp K H (.ref a) d ∧ d.canLay0 = true
  | [], _, _, _, i, a, z => by simp at z
  | b :: as, _, .cons h t, lay, i, a, z => by
    simp only [PyData.canLayAll0, Bool.and_eq_true] at lay
    cases i with
    | zero => cases z; exact ⟨_, rfl, h, lay.1⟩
    | succ i => exact dpAll_get t lay.2 i a z
theorem pm_minL {k i u : Nat} {x : Str} {q : Str} {e : Expr} {params : Arguments} {body : Expr} {scope : Scope} {lpos pos p1 kp : Pos} {E : Fe} {c : Addr} (hr : Room (k + 2) X.A) (hcalm : X.calm = true) (hg : Gl X "min") (hm : X.mg "min" = none) (he : PE X e (tI G E)) (TB : LamX.TabB X.base X.mg c (G.tad u)) (hcode : X.env.code = .ref c)
    (hq : X.env.qual ++ "<lambda>" = q) (hdef : defaultsOf params X.env = ([], [])) (hfree : ∀ y ∈ scope.names, y.2 = .free → ∃ c, X.env.cells.lookup y.1 = some c) (hclo : cloFrom X.env.cells scope.names [] = []) (Sc : FnScope [x] [x] scope)
    (hbind : ∀ (d : Addr) (pm ctv v : Value), bindArgs (PySem.W.kla_fn "<lambda>" q params body scope [] pm (.ref d) ctv) ⟨[v], []⟩ = pure [(x, v)])
    (hB : ∀ (f d : Addr) (A : Around) (outer : List Env) (s : Shared) (H : Hp) (E : XK), PE (cxOf CX0 X.prog X.w X.K X.mg X.base [x] q scope f (.ref d) A outer s H E) body (tLP X.K))
    (h0 : starEach [e] X.env = (false, eval e X.env) :: starEach [] X.env := by rfl) (h1 : backTo pos (starEach [e] X.env) = (false, eval e X.env) :: backTo pos (starEach [] X.env) := by rfl) (h2 : (backTo pos (starEach [e] X.env)).any (·.1) = false := by rfl) (hK : X.K = G.K := by rfl) :
    PE X (.Call (.Name "min" p1) [e] [⟨some "key", .Lambda params body scope lpos, kp⟩] pos) (tI G (mminL i u q lpos.line lpos.col E)) := by
  refine ⟨fun pins s σ H Q I ⟨p, ms, r, w, ms', S, Er, q0, kk⟩ => ?_⟩
  obtain ⟨⟨xv, s1⟩, q1, q2⟩ := ob_some.mp q0
  refine wpAny_Call_Name_kw (ld_blt (u := .builtin "min") I hg hm (by decide +kernel) ?_ (by decide) (by decide))
  refine PyProof.Rows.callWith_kw (thn ((pm_cons he pm_nil h0).run pos pins s σ H (fun vs H1 => ∃ p1 v, vs = [v] ∧ Sim G p1 s1 H1 ∧ Fra p H p1 H1 ∧ Den G p1 H1 xv v) I ⟨p, ms, r, [xv], s1, S, Er, by show (E r ms).ob _ = _; rw [q1]; rfl, fun p1 vs H1 S1 f1 d1 => ?_⟩) fun us t1 ⟨vs, H1, I1, r1, p1, v1, ev, S1, f1, d1⟩ => ?_) h1 h2
  · cases d1 with
    | cons d l => cases l; exact ⟨p1, _, rfl, S1, f1, d⟩
  subst ev
  cases xv with
  | ref n =>
    cases d1
    rename_i la hn
    simp only at q2
    split at q2
    · rename_i ws ew
      obtain ⟨s2, q3, q4⟩ := ob_some.mp q2
      obtain ⟨ds, q5, q6⟩ := ob_some.mp q4
      obtain ⟨ls, q7, q8⟩ := ob_some.mp q6
      have eus : us = [.ref la] := by
        cases r1 with
        | cons a b => cases b; cases a; rfl
      subst eus
      obtain ⟨ho, hl, vs, rfl, lx, hz⟩ := S1.get hn ew
      show wpAny _ _ (evalAll [do let v ← eval (.Lambda params body scope lpos) X.env; standAt pos; pure v]) _ _ t1
      refine wpAny_evalAll_cons (wpAny_bind (lam_made I1 S1 TB hcode hq hdef hfree hclo q3 fun f d pm ctv H2 t2 p2 I2 S2 f2 kp2 hf hfn hfr hcd => wpAny_bind (wpAny_standAt (wpAny_pure (wpAny_evalAll_nil ?_)))))
      have nla : la ≠ G.tad u := fun z => by
        have hlu := hl
        unfold mklam at q3
        split at q3
        · rename_i u' e0
          cases eu : Nat.beq u' u with
          | false => rw [eu] at q3; cases q3
          | true =>
            have eu := Nat.eq_of_beq_eq_true eu
            subst eu
            have lt : i < p1.length := by
              rw [S1.len]
              rcases Nat.lt_or_ge i s1.sz with z | z
              · exact z
              · rw [S1.out i z] at e0; cases e0
            obtain ⟨ho, hP, eP, rfl⟩ := S1.get (List.getElem?_eq_getElem lt) e0
            rw [eP, ← z, hl] at hP; cases hP
        · rename_i u' l' c' m e0
          cases eu : (Nat.beq u' u && (Nat.beq l' lpos.line && Nat.beq c' lpos.col)) with
          | false => rw [eu] at q3; cases q3
          | true =>
            have eu := Nat.eq_of_beq_eq_true (He.ba eu).1
            subst eu
            have lt : i < p1.length := by
              rw [S1.len]
              rcases Nat.lt_or_ge i s1.sz with z | z
              · exact z
              · rw [S1.out i z] at e0; cases e0
            obtain ⟨ho, hP, eP, b, _, rfl⟩ := S1.get (List.getElem?_eq_getElem lt) e0
            rw [eP, ← z, hl] at hP; cases hP
        · cases q3
      have hl2 : H2 la = some (.lst vs) := kp2 la _ hl nla
      have lx2 : DenL G p2 H2 ws vs := lx.fra S1 f2
      obtain ⟨as, eas, hls, hsq⟩ := lensT_ok lx2 q7
      subst eas
      have las : as.length = ws.length := by rw [lx2.length, List.length_map]
      obtain ⟨o1, o2, o3⟩ := toDL_ok (n := 24) (toD_ok S2 24) lx2 q5
      have lds := toDL_len q5
      cases ec : allC (kdsL ls ds) with
      | false => rw [ec] at q8; cases q8
      | true =>
        rw [ec] at q8
        obtain ⟨wb, q9, q10⟩ := omap_some.mp (show ((lget ws (argBest (btK (kdsL ls ds)) (Nat.sub (llen ws) 1))).om fun w => (w, s2)) = some (w, ms') from q8)
        cases q10
        rw [lget_eq, llen_eq] at q9
        have q9 : ws[argBest (btK (kdsL ls ds)) (ws.length - 1)]? = some _ := q9
        have L : Lm X pins σ H2 t2 f d la q (PySem.W.kla_obj "<lambda>" q params body scope [] pm d ctv) as := ⟨I2, hf, hfn, hfr, hcd, hl2⟩
        have dat : ∀ H', (∀ b o, H2 b = some o → H' b = some o) → ∀ (j : Nat) (a : Addr), as[j]? = some a → (∃ xs, SqT X.K H' a xs ∧ ls.getD j 0 = xs.length) ∧ Dp X.K H' (.ref a) (ds.getD j .none) ∧ (ds.getD j .none).canLay0 = true ∧ (ds.getD j .none).depth ≤ 24 := fun H' ext j a hj => by
          obtain ⟨S3, f3⟩ := S2.keep ext
          have lx3 := lx2.fra S2 f3
          obtain ⟨c1, c2, c3⟩ := toDL_ok (n := 24) (toD_ok S3 24) lx3 q5
          obtain ⟨as', e1, _, k1⟩ := lensT_ok lx3 q7
          have e2 : as = as' := by
            have := congrArg (List.map fun v : V => match v with | .ref a => a | _ => 0) e1
            simpa [List.map_map, Function.comp_def] using this
          subst e2
          obtain ⟨xs, sq, el⟩ := k1 j a hj
          obtain ⟨dj, ed, dp, lay⟩ := dpAll_get c1 c2 j a hj
          refine ⟨⟨xs, by rw [hK]; exact sq, by rw [List.getD_eq_getElem?_getD, el]; rfl⟩, ?_⟩
          rw [List.getD_eq_getElem?_getD, ed]
          exact ⟨by rw [hK]; exact dp, lay, depth_in c3 dj (List.mem_of_getElem? ed)⟩
        have cmp : ∀ a b, a < as.length → b < as.length → cmpD 24 (.tuple [.int (ls.getD a 0 : Nat), ds.getD a .none]) (.tuple [.int (ls.getD b 0 : Nat), ds.getD b .none]) = some (btK (kdsL ls ds) a b) := fun a b ha hb => by
          have g : ∀ c, c < as.length → (kdsL ls ds)[c]? = some (.tuple [.int (ls.getD c 0 : Nat), ds.getD c .none]) := fun c hc => by
            refine kdsL_get ls ds c _ _ ?_ ?_
            · rw [List.getD_eq_getElem?_getD, List.getElem?_eq_getElem (by omega)]; rfl
            · rw [List.getD_eq_getElem?_getD, List.getElem?_eq_getElem (by omega)]; rfl
          exact btK_ok ec (g a ha) (g b hb)
        have KR := key_run L hr Sc (hbind d pm ctv) (hB f d) dat cmp
        show wpAny _ _ (call (.builtin "min") [.ref la] [(Str.ofString "key", .ref f)]) _ _ _
        obtain ⟨its, en, rvs, hol, _⟩ := I2.lst hl2
        rw [refs_eq rvs] at hol
        have isl : t2.heap.IsList la (as.map Value.ref).toArray := ⟨_, hol, rfl, en, rfl⟩
        refine call_min_walkK (wpAny_pyIter_list isl ?_)
        have hsz : (as.map Value.ref).toArray.size = as.length := by simp
        have ne : la ≠ t2.heap.objs.size := Nat.ne_of_lt (Heap.lt_size hol)
        have W := (Walks.list (prog := X.prog) (w := X.w) (A := X.A.in1) (show X.A.in1.handled = none from I.ok.hd hcalm) t2.heap.objs.size la ne (as.map Value.ref).toArray).toS
        rw [hsz] at W
        have szp : (t2.heap.push { cls := .type "list_iterator", data := .fields #[.ref la, .int 0 0] }).objs.size = t2.heap.objs.size + 1 := Heap.size_push _ _
        have pos : 0 < as.length := by
          rw [las]
          exact Nat.lt_of_le_of_lt (Nat.zero_le _) (List.getElem?_eq_some_iff.mp q9).1
        refine ⟨t2.heap.objs.size, _, _, _, as.length, _, _, (fun s => ∃ H', JJ X pins σ H2 f (PySem.W.kla_obj "<lambda>" q params body scope [] pm d ctv) t2.heap.objs.size (t2.heap.objs.size + 1) H' s), (fun i kv s => ∃ a, as[i]? = some a ∧ KT X H2 t2.heap.objs.size (t2.heap.objs.size + 1) (ls.getD i 0) a kv s), btK (kdsL ls ds), rfl, W, ⟨⟨_, Heap.get?_push_size _ rfl, rfl, rfl⟩, isl.push _⟩, fun b hb => ?_, pos, ?_, ⟨H2, ?_⟩, fun v s' hv ⟨H', J⟩ => ?_⟩
        · show b < (t2.heap.push _).objs.size
          rw [szp]
          rcases List.mem_cons.mp hb with rfl | hb
          · exact Nat.lt_succ_self _
          · rw [List.mem_singleton.mp hb]; exact Nat.lt_succ_of_lt (Heap.lt_size hol)
        · show KeyRun _ _ _ _ _ (t2.heap.push _).objs.size _ _ _ _ _ _ _ _
          rw [szp]
          exact KR
        · exact ⟨I2.kept (t' := t2.toks) fun b o eb => Heap.get?_push_of_some _ eb, fun _ _ z => z, fun _ z => .inl z, I2.hok.fresh (Nat.le_refl _), I2.hok.fresh (Nat.le_succ _), Heap.get?_push_of_some _ hf, hfn⟩
        · have hv' : (as.map Value.ref)[argBest (btK (kdsL ls ds)) (as.length - 1)]? = some v := by simpa using hv
          rw [List.getElem?_map, las] at hv'
          obtain ⟨a, g1, g2⟩ := Option.map_eq_some_iff.mp hv'
          subst g2
          obtain ⟨S3, f3⟩ := S2.keep J.ext
          have lx3 := lx2.fra S2 f3
          obtain ⟨vb, g3, db⟩ := lx3.get q9
          rw [List.getElem?_map, g1] at g3
          cases g3
          exact ⟨.ref a, H', J.inv, rfl, kk p2 _ H' S3 ((f1.trans f2).trans f3) db⟩
    · cases q2
  | _ => cases q2
end

end
section
/-! ### texts, sign by sign; a sign in a text -/
noncomputable def signs (x : Str) : List Mv := x.cps.toList.map fun c => .str ⟨#[c]⟩
noncomputable def miX (A : Fe) : Fi := fun r s => (A r s).ob fun x => match x.1 with
  | .str y => some (.seq (signs y), x.2)
  | _ => none
section
variable {X : Cx} {G : Mg} {e : Expr}
theorem itr_txt {p0 : List Addr} {H0 : Hp} {x : Str} : ItR G (Its x) (.seq (signs x)) p0 H0 := by
  intro p s H i S st fz
  have key : ∀ o, lget (signs x) i = o → o = (x.cps[i]?).map fun c => Mv.str ⟨#[c]⟩ := fun o h => by
    rw [← h, lget_eq]
    unfold signs
    rw [List.getElem?_map, Array.getElem?_toList]
  constructor
  · intro q
    have q' : lget (signs x) i = none := by simpa [It0.at] using q
    have := key _ q'
    cases e : x.cps[i]? with
    | some c => rw [e] at this; cases this
    | none => exact Array.getElem?_eq_none_iff.mp e
  · intro w q
    have q' : lget (signs x) i = some w := by simpa [It0.at] using q
    have := key _ q'
    cases e : x.cps[i]? with
    | none => rw [e] at this; cases this
    | some c =>
      rw [e] at this
      cases this
      refine ⟨(Array.getElem?_eq_some_iff.mp e).1, fun v H' yl => ?_⟩
      obtain ⟨rfl, c', e', rfl⟩ := yl
      rw [e] at e'; cases e'
      exact ⟨S, Fra.refl, .str _⟩
theorem im_txt {tg : Expr} {A : Fe} (h : PE X e (tI G A)) : PI X tg e (tIt G (miX A)) := pi_imp (pi_str h) fun σ H R ⟨p, s, r, it, s', S, E, q, k⟩ => by
  obtain ⟨⟨x, s1⟩, q1, q2⟩ := ob_some.mp q
  refine ⟨p, s, r, x, s1, S, E, q1, fun p1 v1 H1 S1 f1 d1 => ?_⟩
  cases d1 <;> try (cases q2; done)
  cases q2
  exact ⟨_, rfl, k p1 H1 _ S1 f1 itr_txt⟩
noncomputable def sgIn (x y : Mv) (s : Ms) : Option (Mv × Ms) := match x, y with
  | .str a, .str z => match a.cps.toList with
    | [c] => some (.bl (z.cps.toList.any fun d => Nat.beq d c), s)
    | _ => none
  | _, _ => none
theorem any_beq (c : Nat) : ∀ l : List Nat, (l.any fun d => Nat.beq d c) = decide (c ∈ l)
  | [] => by simp
  | d :: l => by
    rw [List.any_cons, any_beq c l]
    by_cases h : d = c
    · subst h; rw [beq_t]; simp
    · rw [beq_f h]
      have : ¬ c = d := fun z => h z.symm
      simp [this]
theorem om_sgIn : OpR X (compareOp .In) (q2R G sgIn) := opr_imp op_in_sign fun x y H Q ⟨p, s, a, b, w, s', S, da, db, q, k⟩ => by
  cases a with
  | str a =>
   cases b with
   | str z =>
    cases da
    cases db
    simp only [sgIn] at q
    split at q
    · rename_i c ec
      cases q
      have e : a = ⟨#[c]⟩ := by
        cases a with
        | mk cps =>
          have : cps.toList = [c] := ec
          have : cps = #[c] := by cases cps; simp_all
          rw [this]
      subst e
      exact ⟨c, z, rfl, rfl, by rw [← any_beq]; exact k p _ H S Fra.refl (.bl _)⟩
    · cases q
   | _ => cases q
  | _ => cases q
end

end
section
/-! ### len(set(t)), t a tuple of texts -/
/-- each once, by its first place -/
def ddS (l : List Str) : List Str := l.foldl (fun acc x => if x ∈ acc then acc else acc ++ [x]) []
theorem ddS_snoc (l : List Str) (x : Str) : ddS (l ++ [x]) = if x ∈ ddS l then ddS l else ddS l ++ [x] := by
  unfold ddS
  rw [List.foldl_append]
  rfl
theorem ddS_mem (l : List Str) : ∀ y, y ∈ ddS l ↔ y ∈ l := by
  suffices h : ∀ (n : Nat) (l : List Str), l.length = n → ∀ y, y ∈ ddS l ↔ y ∈ l from h _ l rfl
  intro n
  induction n with
  | zero => intro l hl y; rw [List.length_eq_zero_iff.mp hl]; exact Iff.rfl
  | succ n ih =>
    intro l hl y
    obtain ⟨l', x, rfl⟩ : ∃ l' x, l = l' ++ [x] := by
      have hne : l ≠ [] := fun z => by rw [z] at hl; cases hl
      exact ⟨l.dropLast, l.getLast hne, (List.dropLast_concat_getLast hne).symm⟩
    have ihl := ih l' (by rw [List.length_append] at hl; simpa using hl)
    rw [ddS_snoc]
    split
    · rename_i hx
      rw [ihl, List.mem_append, List.mem_singleton]
      refine ⟨.inl, fun z => z.elim id fun e => ?_⟩
      rw [e]; exact (ihl x).mp hx
    · rw [List.mem_append, ihl, List.mem_append]
theorem ddS_le (l : List Str) : (ddS l).length ≤ l.length := by
  suffices h : ∀ (l acc : List Str), (l.foldl (fun acc x => if x ∈ acc then acc else acc ++ [x]) acc).length ≤ acc.length + l.length by
    simpa [ddS] using h l []
  intro l
  induction l with
  | nil => intro acc; simp
  | cons x l ih =>
    intro acc
    rw [List.foldl_cons]
    refine Nat.le_trans (ih _) ?_
    rw [List.length_cons]
    split
    · omega
    · rw [List.length_append, List.length_singleton]; omega
section
variable {prog : Program} {w : World} {A : Around} {R : Result → Shared → Prop} {I : Addr} {fp wr : List Addr} {G : Array GenState → Array GenState → Prop} {n : Nat} {P : Nat → Value → Prop} {St : Nat → Shared → Prop}
theorem loop_txts (W : WalksS prog w A.in1 I fp wr G n P St) (S : Addr) (hSf : S ∉ fp) (xs : List Str) (hn : xs.length = n) (hb : n + 1 < scanBound) (hval : ∀ i v, P i v → ∃ y t, xs[i]? = some y ∧ v = .str y t) (k : Nat) :
    ∀ (i : Nat) (s : Shared), n - i = k → i ≤ n → St i s → s.heap.SetOf (PySem.strKind prog w) S (fun y => decide (y ∈ xs.take i)) (ddS (xs.take i)).length →
      (∀ s', Moved (S :: wr) G s s' → s'.heap.SetOf (PySem.strKind prog w) S (fun y => decide (y ∈ xs)) (ddS xs).length → R (.ok (.ret .none)) s') → codeAny (model prog w) A (.builtin "set.update.loop" ⟨[.ref S, .ref I], []⟩) R s := by
  have nw : S ∉ wr := fun z => hSf (W.sub _ z)
  have into : ∀ b ∈ wr, b ∈ S :: wr := fun b z => List.mem_cons_of_mem _ z
  have carry : ∀ {s s' : Shared} {F : Str → Bool} {c : Nat}, Moved wr G s s' → s.heap.SetOf (PySem.strKind prog w) S F c → s'.heap.SetOf (PySem.strKind prog w) S F c := fun m ⟨o, es, ep, t, ho, rest⟩ => ⟨o, es, ep, t, m.heap S _ nw ho, rest⟩
  induction k with
  | zero =>
    intro i s hk hi st hS hR
    have e : i = n := by omega
    have et : xs.take i = xs := List.take_of_length_le (by omega)
    rw [et] at hS
    refine codeAny_builtin PyProof.Rows.F.entry_set_update_loop ?_
    rw [Around.under_plainId PyProof.Rows.F.plain_set_update_loop]
    refine wpAny_bind (m := pyNext (.ref I)) (W.done s _ _ (e ▸ st) fun s' m => ?_)
    exact wpAny_pure (hR s' (m.mono into) (carry m hS))
  | succ k ih =>
    intro i s hk hi st hS hR
    have lt : i < n := by omega
    refine codeAny_builtin PyProof.Rows.F.entry_set_update_loop ?_
    rw [Around.under_plainId PyProof.Rows.F.plain_set_update_loop]
    refine wpAny_bind (m := pyNext (.ref I)) (W.item i s _ _ lt st fun v s' hP st' m => ?_)
    obtain ⟨y, t, hy, rfl⟩ := hval i v hP
    refine wpAny_bind (m := holding [Value.str y t] (setAdd S (.str y t))) (wpAny_holding ?_)
    unfold setAdd
    refine wpAny_holding (wpAny_bind ((PySem.strKind prog w).pyHash (k := y) (strKind_is _ _ _ _) ?_))
    have hSm := carry m hS
    have hle := ddS_le (xs.take i)
    rw [List.length_take] at hle
    refine wpAny_setAddHashed_of (knd := PySem.strKind prog w) (s := { s' with toks := s'.toks + 1 }) (strKind_is _ _ _ _) rfl hSm (by omega) fun h' sb hS2 => ?_
    have tk : xs.take (i + 1) = xs.take i ++ [y] := by rw [List.take_add_one, hy]; rfl
    have hS3 : h'.SetOf (PySem.strKind prog w) S (fun z => decide (z ∈ xs.take (i + 1))) (ddS (xs.take (i + 1))).length := by
      refine SetOf_congr hS2 (fun z => ?_) ?_
      · rw [tk]; simp [List.mem_append]
      · rw [tk, ddS_snoc]
        by_cases h : y ∈ xs.take i
        · rw [if_pos ((ddS_mem _ y).mpr h), if_pos (decide_eq_true h)]
        · rw [if_neg (fun z => h ((ddS_mem _ y).mp z)), if_neg (by simpa using h), List.length_append]; rfl
    refine wpAny_pure ⟨plainId_quiet PyProof.Rows.F.plain_set_update_loop _, ih (i + 1) _ (by omega) lt (W.frame _ s' _ _ st' (Nat.le_succ _) fun b hb o eo => ?_) hS3 fun s2 m2 hS4 => ?_⟩
    · rw [sb.2 b (fun z => hSf (z ▸ hb))]; exact eo
    · refine hR s2 (Moved.trans W.gtrans ((m.mono into).then_heap (Nat.le_succ _) fun b o hb eo => ?_) m2) hS4
      rw [sb.2 b (fun z => hb (by rw [z]; exact List.mem_cons_self))]; exact eo
end
section
variable {prog : Program} {w : World} {A : Around} {E : Value → Shared → Prop} {s : Shared}
abbrev newSetO (b : Bool) : Obj := { cls := .type "set", dict := none, data := .set #[] 0 (.fresh 0 0 b) }
theorem call_set_txt {l : Addr} {us : Array Value} {xs : List Str} {Q : Value → Shared → Prop} (hh : A.handled = none) (hl : s.heap.IsTuple l us) (hx : PyProof.Rows.StrsAre us.toList xs) (hb : xs.length + 1 < scanBound)
    (h : ∀ (h' : Heap) (tk : Nat), h'.SetOf (PySem.strKind prog w) s.heap.objs.size (fun y => decide (y ∈ xs)) (ddS xs).length → (∀ b o, s.heap.get? b = some o → h'.get? b = some o) → Q (.ref s.heap.objs.size) { s with heap := h', toks := tk }) :
    wpAny (model prog w) A (call (.type "set") [.ref l]) Q E s := by
  obtain ⟨c0, t0, m0⟩ := PySem.F.called_set.mro
  have m1 := PySem.F.called_set.made
  have m2 := PySem.F.called_set.sub
  have m3 := PySem.F.called_set.notType
  have m4 := PySem.F.called_set.canCreate
  have m5 := PySem.F.typeCall_set_1 (.ref l)
  apply wpAny_call
  apply codeAny_of_tree
  show wpAny _ _ (callAny (.type "set") ⟨[.ref l], []⟩) _ _ s
  refine wpAny_pure ⟨Code.quiet_builtin _ (by decide +kernel), ?_⟩
  refine codeAny_builtin PySem.F.entry_type_call ?_
  rw [Around.under_plain (weight_type_call_type "set" [Value.ref l] []) rfl]
  repeat any_goals (first | assumption | wp_step)
  refine codeAny_mono (code_set_new_1 (.ref l) (E := E) (Q₁ := fun v s1 => ∃ b : Bool, v = .ref s.heap.objs.size ∧ s1 = { s with heap := s.heap.push (newSetO b) }) fun b => ⟨b, rfl, rfl⟩) fun r s1 hr => ?_
  cases r with
  | error e => exact hr
  | ok fl =>
    cases fl with
    | ret v =>
      obtain ⟨b, rfl, rfl⟩ := hr
      have gS : (s.heap.push (newSetO b)).get? s.heap.objs.size = some (newSetO b) := Heap.get?_push_size _ rfl
      have tS : Shared.TypeIs { s with heap := s.heap.push (newSetO b) } (.ref s.heap.objs.size) "set" := ⟨_, gS, rfl⟩
      have i1 := PySem.F.called_set.init.lookup
      have i2 := PySem.F.called_set.init.bind (.ref s.heap.objs.size)
      repeat any_goals (first | assumption | wp_step)
      refine codeAny_mono (codeAny_call_builtin (R := wants (fun r s2 => r = .none ∧ ∃ h' tk, s2 = { s with heap := h', toks := tk } ∧ h'.SetOf (PySem.strKind prog w) s.heap.objs.size (fun y => decide (y ∈ xs)) (ddS xs).length ∧ ∀ b o, s.heap.get? b = some o → h'.get? b = some o) E)
        PySem.F.called_set.init.plain PySem.F.entry_set_init (check_set_init_1 tS ?_)) fun r2 s2 hr2 => ?_
      · obtain ⟨⟨oc, od, oa, os⟩, g, c1, m, c2⟩ := hl
        simp only at c1 c2
        subst c1 c2
        have g1 : (s.heap.push (newSetO b)).get? l = some { cls := .type "tuple", dict := od, data := .seq us m, slots := os } := Heap.get?_push_of_some _ g
        have j1 := PySem.F.sub_tuple_set
        have j2 := PySem.F.sub_tuple_frozenset
        have j3 : (Value.type "tuple" == Value.type "dict") = false := by decide
        have hl1 : (s.heap.push (newSetO b)).IsTuple l us := ⟨_, g1, rfl, m, rfl⟩
        unfold Builtin.«set.__init__» noKeywords Builtin.Frozenset.updateFrom
        generalize eI : pyIter = PI
        wp_walk
        subst eI
        refine wpAny_pyIter_tuple hl1 (wpAny_bind (wpAny_runValue ?_))
        have ll : l < s.heap.objs.size := Heap.lt_size g
        have sz1 : (s.heap.push (newSetO b)).objs.size = s.heap.objs.size + 1 := Heap.size_push _ _
        have nl : l ≠ (s.heap.push (newSetO b)).objs.size := by rw [sz1]; exact Nat.ne_of_lt (Nat.lt_succ_of_lt ll)
        have nS : s.heap.objs.size ∉ [(s.heap.push (newSetO b)).objs.size, l] := fun z => by
          rcases List.mem_cons.mp z with z | z
          · rw [sz1] at z; exact Nat.ne_of_lt (Nat.lt_succ_self _) z
          · exact Nat.ne_of_gt ll (List.mem_singleton.mp z)
        have len : xs.length = us.size := by rw [← StrsAre.len_eq hx, Array.length_toList]
        have vals : ∀ (i : Nat) (v : Value), us[i]? = some v → ∃ y t, xs[i]? = some y ∧ v = .str y t := fun i v hv => by
          obtain ⟨t, e⟩ := SS.strs_at hx i v (by rw [Array.getElem?_toList]; exact hv)
          have lt : i < xs.length := by rw [len]; exact (Array.getElem?_eq_some_iff.mp hv).1
          exact ⟨xs[i], t, List.getElem?_eq_getElem lt, by rw [e, List.getD_eq_getElem?_getD, List.getElem?_eq_getElem lt]; rfl⟩
        refine loop_txts ((Walks.tuple (show A.in1.in1.in1.handled = none from hh) _ l nl us).toS) s.heap.objs.size nS xs len (by rw [← len]; exact hb) vals (us.size - 0) 0 _ rfl (Nat.zero_le _) ⟨⟨_, Heap.get?_push_size _ rfl, rfl, rfl⟩, hl1.push _⟩ ?_ fun s3 mv hS3 => ?_
        · have g2 : ((s.heap.push (newSetO b)).push { cls := .type "tuple_iterator", data := .fields #[.ref l, .int 0 0] }).get? s.heap.objs.size = some (newSetO b) := Heap.get?_push_of_some _ gS
          exact SetOf_congr ((PyProof.Rows.setObjOf_fresh (knd := PySem.strKind prog w) b).setOf g2 (by unfold scanBound; omega)) (fun _ => by simp) rfl
        · obtain ⟨h3, g3, d3, k3, o3⟩ := s3
          obtain rfl : g3 = s.gens := mv.gens
          obtain rfl : d3 = s.drawn := mv.drawn
          obtain rfl : o3 = s.os := mv.os
          refine wpAny_pure (show wpAny _ _ (ret Value.none) _ _ _ from wpAny_pure ⟨rfl, h3, k3, rfl, hS3, fun a o ho => ?_⟩)
          refine mv.heap a o (fun z => ?_) (Heap.get?_push_of_some _ (Heap.get?_push_of_some _ ho))
          have la := Heap.lt_size ho
          rcases List.mem_cons.mp z with z | z
          · rw [z] at la; exact Nat.lt_irrefl _ la
          · rw [List.mem_singleton.mp z, sz1] at la; exact Nat.not_lt.mpr (Nat.le_succ _) la
      · cases r2 with
        | error e => exact hr2
        | ok fl2 =>
          cases fl2 with
          | ret v2 =>
            obtain ⟨rfl, h', tk, rfl, hS, hk⟩ := hr2
            repeat any_goals (first | assumption | wp_step)
            exact h _ _ hS hk
          | _ => exact hr2.elim
    | _ => exact hr.elim
end

end
section
noncomputable def ddF (l : List Str) : List Str := l.foldl (fun acc x => cond (acc.any fun y => strEq y x) acc (acc ++ [x])) []
theorem any_str (x : Str) : ∀ l : List Str, (l.any fun y => strEq y x) = decide (x ∈ l)
  | [] => by simp
  | y :: l => by
    rw [List.any_cons, any_str x l, strEq_eq]
    by_cases h : y = x
    · subst h; simp
    · have : ¬ x = y := fun z => h z.symm
      simp [h, this]
theorem ddF_eq (l : List Str) : ddF l = ddS l := by
  unfold ddF ddS
  congr 1
  funext acc x
  rw [any_str]
  by_cases h : x ∈ acc
  · rw [if_pos h, decide_eq_true h]; rfl
  · rw [if_neg h, decide_eq_false h]; rfl
noncomputable def mlenS (A : Fe) : Fe := fun r s => (A r s).ob fun x => match x.1 with
  | .tup ws => (strsOf ws).ob fun ys => cond (Nat.ble (llen ys) 1000) (some (.int ((ddF ys).length : Nat), x.2)) none
  | _ => none
section
variable {X : Cx} {G : Mg} {a : Expr}
theorem pm_lenS {A : Fe} {p p2 q pos : Pos} (hc : X.calm = true) (hg : Gl X "len") (hm : X.mg "len" = none) (hg2 : Gl X "set") (hm2 : X.mg "set" = none) (ha : PE X a (tI G A)) (na : starEach [a] X.env = (false, eval a X.env) :: starEach [] X.env := by rfl) (hK : X.K = G.K := by rfl) :
    PE X (.Call (.Name "len" p) [.Call (.Name "set" p2) [a] [] q] [] pos) (tI G (mlenS A)) := by
  refine ⟨fun pins s σ H Q I ⟨p0, ms, r, w, ms', S, Er, q0, kk⟩ => ?_⟩
  obtain ⟨⟨xv, s1⟩, q1, q2⟩ := ob_some.mp q0
  refine Call_ (ld_blt I hg hm boot_len (PyProof.Rows.callWith_builtin1 (PyProof.Rows.args_cons (Call_ (ld_blt I hg2 hm2 boot_set ?_)) rfl) rfl rfl))
  refine PyProof.Rows.callWith_type1 (PyProof.Rows.args_cons (thn (ha.run pins s σ H (fun v1 H1 => ∃ p1, Sim G p1 s1 H1 ∧ Fra p0 H p1 H1 ∧ Den G p1 H1 xv v1) I ⟨p0, ms, r, xv, s1, S, Er, q1, fun p1 v1 H1 S1 f1 d1 => ⟨p1, S1, f1, d1⟩⟩) fun u t1 ⟨vx, H1, I1, rx, p1, S1, f1, d1⟩ => PyProof.Rows.args_nil ?_) na) na rfl
  cases xv with
  | tup ws =>
    obtain ⟨ys, q3, q4⟩ := ob_some.mp q2
    cases eb : Nat.ble (llen ys) 1000 with
    | false => rw [eb] at q4; cases q4
    | true =>
      rw [eb] at q4; cases q4
      obtain ⟨l, vs, rfl, sq, lx⟩ := d1.tup_inv
      cases rx
      rw [← hK] at sq
      have ev := (strsOf_ok lx q3).1
      subst ev
      obtain ⟨its, rv, tp, _⟩ := I1.tuple sq
      have hlen : ys.length ≤ 1000 := by rw [← llen_eq]; exact Nat.le_of_ble_eq_true eb
      refine call_set_txt (I1.ok.hd hc) tp (by simpa using strsAre_of rv) (by unfold scanBound; omega) fun h' tk hS hk => ?_
      obtain ⟨o, es, ep, t, ho, hex, hd, _, _, _, hf, hn⟩ := hS
      have I2 : Inv X pins σ H1 { t1 with heap := h', toks := tk } := I1.kept hk
      refine PyProof.Rows.args_nil (call_len_set ho hex hd hf (by have := ddS_le ys; rw [hn]; omega) ⟨.int ((ddF ys).length : Nat), H1, I2.tok _, ⟨_, by rw [hn, ddF_eq]⟩, kk p1 _ H1 S1 f1 (.int _)⟩)
  | _ => cases q2
end

end
section
/-! ### xs[::k], k a written number above nought -/
def picks (n : Nat) (k : Int) : List Nat := sliceRange (sliceBounds none none (some k) n).1 (sliceBounds none none (some k) n).2.1 (sliceBounds none none (some k) n).2.2
noncomputable def mstp (k : Int) (A : Fe) : Fe := fun r s => (A r s).ob fun x => match x.1 with
  | .ref n => match x.2.get n with
    | some (.lst ws) => cond (Nat.ble ((picks (llen ws) k).length) 1000) (newO (.lst ((picks (llen ws) k).filterMap fun i => lget ws i)) x.2) none
    | _ => none
  | _ => none
section
variable {X : Cx} {G : Mg} {e : Expr} {pos : Pos}
theorem denL_pick {p : List Addr} {H : Hp} {ws : List Mv} {vs : List V} (l : DenL G p H ws vs) : ∀ is : List Nat, DenL G p H (is.filterMap fun i => lget ws i) (is.filterMap fun i => vs[i]?)
  | [] => .nil
  | i :: is => by
    rw [List.filterMap_cons, List.filterMap_cons, lget_eq]
    cases h : ws[i]? with
    | none =>
      have : vs[i]? = none := by
        rw [List.getElem?_eq_none_iff] at h ⊢
        rw [← l.length]; exact h
      rw [this]
      exact denL_pick l is
    | some w =>
      obtain ⟨v, hv, d⟩ := l.get h
      rw [hv]
      exact .cons d (denL_pick l is)
theorem vals_pick {vs : List V} {us : List Value} (r : Vals vs us) : ∀ is : List Nat, Vals (is.filterMap fun i => vs[i]?) (is.filterMap fun i => us[i]?)
  | [] => .nil
  | i :: is => by
    rw [List.filterMap_cons, List.filterMap_cons]
    cases h : vs[i]? with
    | none =>
      have : us[i]? = none := by
        rw [List.getElem?_eq_none_iff] at h ⊢
        rw [← r.length]; exact h
      rw [this]
      exact vals_pick r is
    | some v =>
      obtain ⟨u, hu, d⟩ := r.get h
      rw [hu]
      exact .cons d (vals_pick r is)
theorem pm_stp {A : Fe} {k : Int} {k0 : Nat} {pk1 p3 : Pos} (hk : k ≠ 0) (he : PE X e (tI G A)) (hK : X.K = G.K := by rfl) : PE X (.Subscript e (.Slice none none (some (.Constant (.int k) k0 pk1)) p3) pos) (tI G (mstp k A)) := by
  refine ⟨fun pins s σ H Q I ⟨p, ms, r, w, ms', S, Er, q, kk⟩ => ?_⟩
  obtain ⟨⟨xv, s1⟩, q1, q2⟩ := ob_some.mp q
  refine Subscript_ (thn (he.run pins s σ H (fun v1 H1 => ∃ p1, Sim G p1 s1 H1 ∧ Fra p H p1 H1 ∧ Den G p1 H1 xv v1) I ⟨p, ms, r, xv, s1, S, Er, q1, fun p1 v1 H1 S1 f1 d1 => ⟨p1, S1, f1, d1⟩⟩) fun u t1 ⟨vx, H1, I1, rx, p1, S1, f1, d1⟩ => ?_)
  cases xv with
  | ref n =>
    cases d1
    rename_i a hn
    cases rx
    simp only at q2
    split at q2
    · rename_i ws ew
      cases eb : Nat.ble ((picks (llen ws) k).length) 1000 with
      | false => rw [eb] at q2; cases q2
      | true =>
        rw [eb] at q2
        obtain ⟨ho, hl, vs, rfl, lx, hz⟩ := S1.get hn ew
        have stp : PO X (some (.Constant (.int k) k0 pk1)) (tPart (tC (.int k))) := po_some pe_int
        refine wpAny_Slice (thn (po_none.run pins t1 σ H1 (fun o H2 => o = none ∧ H2 = H1) I1 ⟨rfl, rfl⟩) fun vl t2 ⟨o1, H2, I2, pl, el, e2⟩ => ?_)
        subst el e2
        refine thn (po_none.run pins t2 σ H2 (fun o H3 => o = none ∧ H3 = H2) I2 ⟨rfl, rfl⟩) fun vu t3 ⟨o2, H3, I3, pu, eu, e3⟩ => ?_
        subst eu e3
        refine thn (stp.run pins t3 σ H3 (fun o H4 => o = some k ∧ H4 = H3) I3 ⟨k, rfl, rfl, rfl⟩) fun vs' t4 ⟨o3, H4, I4, ps, eo, e4⟩ => ?_
        subst eo e4
        have I5 : Inv X pins σ H4 { t4 with heap := t4.heap.push { cls := .type "slice", data := .fields #[vl, vu, vs'] } } := I4.kept (t' := t4.toks) fun b ob z => Heap.get?_push_of_some _ z
        obtain ⟨its, rv, tl, _⟩ := I5.list (SqL.of hl)
        have hlen := rv.length
        refine tail_any (ops := [.ref a, .ref t4.heap.objs.size]) tl.isList.typeIs (PySem.slot_list_getitem.lookup) ?_ (by with_unfolding_all rfl)
        refine wpAny_getItem_list_slice tl.isList (Heap.IsSliceOf.new _ vl vu vs') pl pu ps (by simpa using hk) ?_ (by rw [List.size_toArray]; omega)
        have lw : llen ws = its.toArray.size := by rw [llen_eq, lx.length, hlen, List.size_toArray]
        have pk : slicePick its.toArray none none (some k) = ((picks (llen ws) k).filterMap fun i => its[i]?).toArray := by
          unfold slicePick picks
          rw [lw]
          simp
        rw [pk]
        have small : ∀ {α : Type} (l : List α), ((picks (llen ws) k).filterMap fun i => l[i]?).length ≤ sizeLine := fun l => by
          refine Nat.le_trans (List.length_filterMap_le _ _) (Nat.le_trans (Nat.le_of_ble_eq_true eb) ?_)
          rw [sz_eq]; decide
        refine ⟨.ref _, _, I5.laid (t' := t4.toks) (o := .lst ((picks (llen ws) k).filterMap fun i => vs[i]?)) (fun b ob z => Heap.get?_push_of_some _ z) (Nat.le_refl _) ⟨small vs, _, 0, vals_pick rv _, Heap.get?_push_size _ rfl⟩, rfl, ?_⟩
        exact newO_fresh S1 q2 (kk.of f1) (I5.hok.fresh (Nat.le_refl _)) ⟨_, rfl, denL_pick lx _, small vs⟩
    · cases q2
  | _ => cases q2
end

end
section
/-! ### a small store, written out; a run over a part of the store -/
noncomputable def push (s : Ms) (o : Mo) : Ms := ⟨Nat.succ s.sz, s.t.set s.sz o⟩
theorem push_get (s : Ms) (o : Mo) (n : Nat) : (push s o).get n = if n = s.sz then some o else s.get n := Mt.get_set s.t s.sz o n
theorem put_get' (s : Ms) (b : Nat) (o : Mo) (n : Nat) : (s.put b o).get n = if n = b then some o else s.get n := Mt.get_set s.t b o n
noncomputable def mkS (os : List Mo) : Ms := os.foldl push ⟨0, .nil⟩
theorem fold_get : ∀ (os : List Mo) (s : Ms), (os.foldl push s).sz = s.sz + os.length ∧ ∀ n, (os.foldl push s).get n = if s.sz ≤ n ∧ n < s.sz + os.length then os[n - s.sz]? else s.get n
  | [], s => ⟨rfl, fun n => by rw [if_neg (by simp)]; rfl⟩
  | o :: os, s => by
    obtain ⟨h1, h2⟩ := fold_get os (push s o)
    have hz : (push s o).sz = s.sz + 1 := rfl
    rw [hz] at h1 h2
    refine ⟨by show (os.foldl push (push s o)).sz = _; rw [h1, List.length_cons]; omega, fun n => ?_⟩
    show (os.foldl push (push s o)).get n = _
    rw [h2, List.length_cons, push_get]
    by_cases c1 : s.sz + 1 ≤ n ∧ n < s.sz + 1 + os.length
    · rw [if_pos c1, if_pos (by omega), show n - s.sz = (n - (s.sz + 1)) + 1 by omega, List.getElem?_cons_succ]
    · rw [if_neg c1]
      by_cases c2 : n = s.sz
      · subst c2
        rw [if_pos rfl, if_pos (by omega), Nat.sub_self]
        rfl
      · rw [if_neg c2, if_neg (by omega)]
theorem mkS_get (os : List Mo) (n : Nat) : (mkS os).get n = os[n]? := by
  obtain ⟨_, h2⟩ := fold_get os ⟨0, .nil⟩
  show (os.foldl push ⟨0, .nil⟩).get n = _
  rw [h2]
  show (if 0 ≤ n ∧ n < 0 + os.length then os[n - 0]? else (Mt.nil).get n) = _
  by_cases h : n < os.length
  · rw [if_pos (by omega), Nat.sub_zero]
  · rw [if_neg (by omega), Mt.get_nil, List.getElem?_eq_none (by omega)]
theorem mkS_sz (os : List Mo) : (mkS os).sz = os.length := by
  obtain ⟨h1, _⟩ := fold_get os ⟨0, .nil⟩
  show (os.foldl push ⟨0, .nil⟩).sz = _
  rw [h1]
  show 0 + os.length = _
  omega
section
variable {G : Mg}
theorem Sim.mk' {H : Hp} {as : List Addr} {os : List Mo} (hl : as.length = os.length) (nd : as.Nodup) (h : ∀ (n : Nat) (a : Addr) (o : Mo), as[n]? = some a → os[n]? = some o → ∃ ho, H a = some ho ∧ DenO G as H a o ho) : Sim G as (mkS os) H := by
  refine ⟨by rw [mkS_sz]; exact hl, nd, fun n a ha => ?_, fun n hn => ?_⟩
  · have hn : n < os.length := by rw [← hl]; exact (List.getElem?_eq_some_iff.mp ha).1
    obtain ⟨ho, h1, h2⟩ := h n a os[n] ha (List.getElem?_eq_getElem hn)
    exact ⟨os[n], ho, by rw [mkS_get, List.getElem?_eq_getElem hn], h1, h2⟩
  · rw [mkS_sz] at hn
    rw [mkS_get, List.getElem?_eq_none hn]
theorem Sim.addr {p : List Addr} {s : Ms} {H : Hp} (S : Sim G p s H) {n : Nat} {o : Mo} (h : s.get n = some o) : ∃ a ho, p[n]? = some a ∧ H a = some ho ∧ DenO G p H a o ho := by
  have hn : n < p.length := by
    rw [S.len]
    refine Nat.lt_of_not_le fun z => ?_
    rw [S.out n z] at h; cases h
  obtain ⟨o1, ho, q1, q2, q3⟩ := S.ob n p[n] (List.getElem?_eq_getElem hn)
  rw [h] at q1; cases q1
  exact ⟨p[n], ho, List.getElem?_eq_getElem hn, q2, q3⟩
theorem Sim.part {p p0 q x : List Addr} {s s1 s' : Ms} {H H' : Hp} (S : Sim G p s H) (h0 : ∀ a ∈ p0, a ∈ p) (S1 : Sim G (p0 ++ q) s1 H') (f1 : Fra p0 H (p0 ++ q) H') (hx : ∀ a ∈ x, a ∈ q) (xnd : x.Nodup) (hlen : s'.sz = s.sz + x.length) (hout : ∀ n, s'.sz ≤ n → s'.get n = none)
    (hold : ∀ n a, p[n]? = some a → a ∉ p0 → s'.get n = s.get n) (hnew : ∀ n a, (p ++ x)[n]? = some a → a ∈ p0 ∨ a ∈ x → ∃ o ho, s'.get n = some o ∧ H' a = some ho ∧ DenO G (p ++ x) H' a o ho) : Sim G (p ++ x) s' H' ∧ Fra p H (p ++ x) H' := by
  have fresh : ∀ a ∈ q, H a = none := fun a ha => by
    obtain ⟨q', e, hq⟩ := f1.pre
    have e' : q = q' := List.append_cancel_left e
    subst e'
    refine hq a ha fun z => ?_
    have := S1.nd
    rw [List.nodup_append] at this
    exact this.2.2 a z a ha rfl
  have nin : ∀ a ∈ q, a ∉ p := fun a ha z => by
    obtain ⟨n, hn⟩ := List.mem_iff_getElem?.mp z
    obtain ⟨_, _, _, e, _⟩ := S.ob n a hn
    rw [fresh a ha] at e; cases e
  have ff : Fra p H (p ++ x) H' := ⟨⟨x, rfl, fun a ha _ => fresh a (hx a ha)⟩, fun a o e n => f1.kee a o e fun z => n (h0 a z), f1.frz⟩
  have st := ff.stays S
  refine ⟨⟨by rw [List.length_append, S.len, hlen], ?_, fun n a ha => ?_, hout⟩, ff⟩
  · rw [List.nodup_append]
    exact ⟨S.nd, xnd, fun a ha b hb => by rintro rfl; exact nin a (hx a hb) ha⟩
  · by_cases c : a ∈ p0 ∨ a ∈ x
    · exact hnew n a ha c
    · have hn : n < p.length := by
        refine Nat.lt_of_not_le fun z => ?_
        rw [List.getElem?_append_right z] at ha
        exact c (.inr (List.mem_of_getElem? ha))
      have ha' : p[n]? = some a := by rw [← List.getElem?_append_left hn]; exact ha
      obtain ⟨o, ho, q1, q2, q3⟩ := S.ob n a ha'
      have c0 : a ∉ p0 := fun z => c (.inl z)
      exact ⟨o, ho, by rw [hold n a ha' c0]; exact q1, f1.kee a ho q2 c0, q3.stay st⟩
/-! ### a def that makes a lambda: its table, made or not yet -/
noncomputable def tmade (l c : Nat) (q : Str) (s : Ms) (j : Nat) : Prop := s.get 0 = some (.tab 0 (some (l, c, j))) ∧ s.get j = some (.cod q)
noncomputable def isCod (q : Str) : Option Mo → Bool
  | some (.cod q') => strEq q q'
  | _ => false
theorem isCod_of {q : Str} {o : Option Mo} (h : isCod q o = true) : o = some (.cod q) := by
  cases o with
  | none => cases h
  | some o =>
    cases o with
    | cod q' =>
      have h : strEq q q' = true := h
      rw [strEq_eq] at h
      rw [of_decide_eq_true h]
    | _ => cases h
noncomputable def tabIs (l c : Nat) (q : Str) (j0 : Option Nat) (s : Ms) : Bool := match s.get 0 with
  | some (.tab 0 (some x)) => Nat.beq l x.1 && (Nat.beq c x.2.1 && (isCod q (s.get x.2.2) && (match j0 with
    | none => true
    | some j => Nat.beq x.2.2 j)))
  | _ => false
theorem tabIs_of {l c : Nat} {q : Str} {j0 : Option Nat} {s : Ms} (h : tabIs l c q j0 s = true) : ∃ j, tmade l c q s j ∧ ∀ j1, j0 = some j1 → j = j1 := by
  unfold tabIs at h
  split at h
  · rename_i x e
    obtain ⟨h1, h2⟩ := Bool.and_eq_true_iff.mp h
    obtain ⟨h3, h4⟩ := Bool.and_eq_true_iff.mp h2
    obtain ⟨h5, h6⟩ := Bool.and_eq_true_iff.mp h4
    obtain ⟨l', c', j⟩ := x
    have e1 : l = l' := Nat.eq_of_beq_eq_true h1
    have e2 : c = c' := Nat.eq_of_beq_eq_true h3
    subst e1 e2
    refine ⟨j, ⟨e, isCod_of h5⟩, fun j1 z => ?_⟩
    subst z
    exact Nat.eq_of_beq_eq_true h6
  · cases h
noncomputable def mkTab (l c : Nat) (q : Str) (s : Ms) : Ms := push (s.put 0 (.tab 0 (some (l, c, s.sz)))) (.cod q)
theorem mkTab_get {l c : Nat} {q : Str} {s : Ms} (n : Nat) : (mkTab l c q s).get n = if n = s.sz then some (.cod q) else if n = 0 then some (.tab 0 (some (l, c, s.sz))) else s.get n := by
  unfold mkTab
  rw [push_get, put_get']
  rfl
/-- the state behind a run that leaves the table made; which tables it began with -/
noncomputable def behind (l c : Nat) (q : Str) (s : Ms) : Option Ms := match s.get 0 with
  | some (.tab 0 none) => some (mkTab l c q s)
  | some (.tab 0 (some x)) => cond (Nat.beq l x.1 && (Nat.beq c x.2.1 && isCod q (s.get x.2.2))) (some s) none
  | _ => none
theorem behind_of {l c : Nat} {q : Str} {s s' : Ms} (h : behind l c q s = some s') : (s.get 0 = some (.tab 0 none) ∧ s' = mkTab l c q s) ∨ ((∃ j, tmade l c q s j) ∧ s' = s) := by
  unfold behind at h
  split at h
  · rename_i e
    exact .inl ⟨e, (Option.some.inj h).symm⟩
  · rename_i x e
    obtain ⟨l', c', j⟩ := x
    cases ec : (Nat.beq l l' && (Nat.beq c c' && isCod q (s.get j))) with
    | false =>
      have h : cond (Nat.beq l l' && (Nat.beq c c' && isCod q (s.get j))) (some s) none = some s' := h
      rw [ec] at h; cases h
    | true =>
      have h : cond (Nat.beq l l' && (Nat.beq c c' && isCod q (s.get j))) (some s) none = some s' := h
      rw [ec] at h; cases h
      obtain ⟨h1, h2⟩ := Bool.and_eq_true_iff.mp ec
      obtain ⟨h3, h4⟩ := Bool.and_eq_true_iff.mp h2
      have e1 : l = l' := Nat.eq_of_beq_eq_true h1
      have e2 : c = c' := Nat.eq_of_beq_eq_true h3
      subst e1 e2
      exact .inr ⟨⟨j, e, isCod_of h4⟩, rfl⟩
  · cases h
variable {P : Program} {w : World} {K : PySem.W.Frag} {mg : Str → Option Value} {base : Heap} {k : Nat} {fa : Addr} {fd : FuncData} {ps : List Str}
/-- the code object of a def whose table is among the head's -/
theorem cod_of {x qual : Str} {params : Arguments} {body : List Stmt} {scope : Scope} {dvs : List V} {kws : List (Str × V)} {q : He.Defn} (F : FunD K x qual params body scope dvs kws (He.fAd K q) fd) : fd.code = .ref (He.cT K q).1 := by
  obtain ⟨oc, od, dV, kV, doc, pm, an, cdv, ct, osl, rfl, lk, ci, _, _⟩ := F.ex
  obtain ⟨c, rfl⟩ := He.codeIn_ref ci
  have e : (PySem.W.fnOf x qual params body scope dV kV doc pm an (.ref c) ct).code = .ref c := rfl
  rw [e]
  show Value.ref c = .ref (He.codeOf K q)
  rw [He.codeOf_eq lk e]
/-! ### a def of plain arguments that tells True -/
noncomputable def eqB : Mv → Mv → Bool
  | .int i, .int j => iEq i j
  | .str x, .str y => strEq x y
  | .bl a, .bl b => Bool.rec (Bool.rec true false b) b a
  | _, _ => false
theorem eqB_of {a b : Mv} (h : eqB a b = true) : a = b ∧ Fl1 a := by
  cases a with
  | int i =>
    cases b with
    | int j =>
      have h : iEq i j = true := h
      rw [iEq_eq] at h
      exact ⟨by rw [of_decide_eq_true h], fun G p p' H v d => by cases d; exact .int i⟩
    | _ => cases h
  | str x =>
    cases b with
    | str y =>
      have h : strEq x y = true := h
      rw [strEq_eq] at h
      exact ⟨by rw [of_decide_eq_true h], fun G p p' H v d => by cases d; exact .str x⟩
    | _ => cases h
  | bl x =>
    cases b with
    | bl y =>
      have e : x = y := by
        cases x <;> cases y
        · rfl
        · cases h
        · cases h
        · rfl
      exact ⟨by rw [e], fun G p p' H v d => by cases d; exact .bl x⟩
    | _ => cases h
  | _ => cases b <;> cases h
noncomputable def eqA : List Mv → List Mv → Bool
  | [], [] => true
  | a :: as, b :: bs => eqB a b && eqA as bs
  | _, _ => false
theorem eqA_of : ∀ {as bs : List Mv}, eqA as bs = true → as = bs ∧ FlL as
  | [], [], _ => ⟨rfl, FlL.nil⟩
  | a :: as, b :: bs, h => by
    obtain ⟨h1, h2⟩ := Bool.and_eq_true_iff.mp (show (eqB a b && eqA as bs) = true from h)
    obtain ⟨e1, e2⟩ := eqB_of h1
    obtain ⟨e3, e4⟩ := eqA_of h2
    exact ⟨by rw [e1, e3], FlL.cons e2 e4⟩
  | [], _ :: _, h => by cases h
  | _ :: _, [], h => by cases h
noncomputable def memA (ws : List Mv) : List (List Mv) → Bool
  | [] => false
  | d :: ds => eqA ws d || memA ws ds
theorem memA_of {ws : List Mv} : ∀ {ds : List (List Mv)}, memA ws ds = true → ws ∈ ds ∧ FlL ws
  | [], h => by cases h
  | d :: ds, h => by
    rcases Bool.or_eq_true_iff.mp (show (eqA ws d || memA ws ds) = true from h) with h | h
    · obtain ⟨e, f⟩ := eqA_of h
      exact ⟨by rw [e]; exact List.mem_cons_self, f⟩
    · obtain ⟨e, f⟩ := memA_of h
      exact ⟨List.mem_cons_of_mem _ e, f⟩
noncomputable def isT (o : Option (Mv × Ms)) (g : Ms → Bool) : Bool := match o with
  | some (.bl true, s) => g s
  | _ => false
theorem isT_of {o : Option (Mv × Ms)} {g : Ms → Bool} (h : isT o g = true) : ∃ s, o = some (.bl true, s) ∧ g s = true := by
  unfold isT at h
  split at h
  · rename_i s
    exact ⟨s, rfl, h⟩
  · cases h
/-- D0: the arguments with which it may be called while the table is empty, D1: while it is made -/
noncomputable def tabK (l c : Nat) (q : Str) (D0 D1 : List (List Mv)) : Fn := fun ws s => cond (match s.get 0 with
    | some (.tab 0 none) => memA ws D0
    | _ => memA ws D1) ((behind l c q s).om fun s' => (.bl true, s')) none
theorem tab_ok {f : Fn} {l c : Nat} {q : Str} {D0 D1 : List (List Mv)} (F : FnOk P w K mg base CX0 k fa fd ps (spM G f)) (h0 : ∀ ws ∈ D0, isT (f ws (mkS [.tab 0 none])) (tabIs l c q none) = true) (h1 : ∀ ws ∈ D1, isT (f ws (mkS [.tab 0 (some (l, c, 1)), .cod q])) (tabIs l c q (some 1)) = true) : FnOk P w K mg base CX0 k fa fd ps (spM G (tabK l c q D0 D1)) := by
  refine F.imp fun vs H Q E hs => ?_
  obtain ⟨p, s, ws, w, s', S, lw, qq, kk⟩ := hs
  have qq : cond (match s.get 0 with
    | some (.tab 0 none) => memA ws D0
    | _ => memA ws D1) ((behind l c q s).om fun s' => (Mv.bl true, s')) none = some (w, s') := qq
  cases eb : behind l c q s with
  | none => rw [eb] at qq; cases z : (match s.get 0 with
    | some (.tab 0 none) => memA ws D0
    | _ => memA ws D1) <;> rw [z] at qq <;> cases qq
  | some s2 =>
    rw [eb] at qq
    rcases behind_of eb with ⟨e0, e2⟩ | ⟨⟨j, e0, ej⟩, e2⟩
    · subst e2
      rw [e0] at qq
      have qq : cond (memA ws D0) (some (Mv.bl true, mkTab l c q s)) none = some (w, s') := qq
      cases em : memA ws D0 with
      | false => rw [em] at qq; cases qq
      | true =>
        rw [em] at qq; cases qq
        obtain ⟨mem, fl⟩ := memA_of em
        obtain ⟨s1, r1, r2⟩ := isT_of (h0 ws mem)
        obtain ⟨j, ⟨t1, t2⟩, _⟩ := tabIs_of r2
        obtain ⟨Pa, ho, hP, hH, hd⟩ := S.addr e0
        refine ⟨[Pa], _, ws, .bl true, s1, Sim.mk' (as := [Pa]) rfl (by simp) (fun n a o ha ho' => ?_), fl G p _ H vs lw, r1, fun p1 v H' S1 f1 d1 => ?_⟩
        · match n, ha, ho' with
          | 0, ha, ho' => cases ha; cases ho'; exact ⟨ho, hH, hd⟩
        · obtain ⟨q1, rfl, _⟩ := id f1.pre
          obtain ⟨cA, hoc, hc, hcH, hcd⟩ := S1.addr t2
          have hj : j ≠ 0 := by rintro rfl; rw [t1] at t2; cases t2
          have hcq : cA ∈ q1 := by
            rw [List.getElem?_append_right (by show 1 ≤ j; omega)] at hc
            exact List.mem_of_getElem? hc
          obtain ⟨P1, ho1, hP1, hH1, hd1⟩ := S1.addr t1
          cases hP1
          obtain ⟨tp, b, hb, rfl⟩ := hd1
          rw [hc] at hb; cases hb
          have hlen : (p ++ [cA])[s.sz]? = some cA := by rw [← S.len]; simp
          have lt0 : 0 < s.sz := by rw [← S.len]; exact (List.getElem?_eq_some_iff.mp hP).1
          have S2 := Sim.part (x := [cA]) (s' := mkTab l c q s) S (p0 := [Pa]) (fun a ha => by rw [List.mem_singleton.mp ha]; exact List.mem_of_getElem? hP) S1 f1 (fun a ha => by rw [List.mem_singleton.mp ha]; exact hcq) (by simp) rfl (fun n hn => by
            have hn : s.sz + 1 ≤ n := hn
            rw [mkTab_get, if_neg (by omega), if_neg (by omega)]
            exact S.out n (by omega)) (fun n a ha na => by
            have : n < s.sz := by rw [← S.len]; exact (List.getElem?_eq_some_iff.mp ha).1
            rw [mkTab_get, if_neg (by omega), if_neg]
            rintro rfl
            rw [hP] at ha; cases ha
            exact na (by simp)) (fun n a ha hc => ?_)
          · cases d1
            exact kk _ _ H' S2.1 S2.2 (.bl _)
          · have nd2 : (p ++ [cA]).Nodup := by
              have hnone : H cA = none := by
                obtain ⟨q', e, hq⟩ := f1.pre
                have e' : q1 = q' := List.append_cancel_left e
                subst e'
                refine hq cA hcq fun z => ?_
                have := S1.nd
                rw [List.nodup_append] at this
                exact this.2.2 cA z cA hcq rfl
              rw [List.nodup_append]
              refine ⟨S.nd, by simp, fun y hy z hz yz => ?_⟩
              rw [List.mem_singleton.mp hz] at yz
              rw [yz] at hy
              obtain ⟨n, hn⟩ := List.mem_iff_getElem?.mp hy
              obtain ⟨_, _, _, e, _⟩ := S.ob n cA hn
              rw [hnone] at e; cases e
            rcases hc with hc | hc
            · rw [List.mem_singleton.mp hc] at ha ⊢
              have hp' : (p ++ [cA])[0]? = some Pa := by rw [List.getElem?_append_left (by rw [S.len]; exact lt0)]; exact hP
              have hn : n = 0 := nodup_at nd2 ha hp'
              subst hn
              exact ⟨.tab 0 (some (l, c, s.sz)), _, by rw [mkTab_get, if_neg (by omega), if_pos rfl], hH1, tp, cA, hlen, rfl⟩
            · rw [List.mem_singleton.mp hc] at ha ⊢
              have hn : n = s.sz := nodup_at nd2 ha hlen
              subst hn
              exact ⟨.cod q, hoc, by rw [mkTab_get, if_pos rfl], hcH, hcd⟩
    · rw [e2] at qq
      rw [e0] at qq
      have qq : cond (memA ws D1) (some (Mv.bl true, s)) none = some (w, s') := qq
      cases em : memA ws D1 with
      | false => rw [em] at qq; cases qq
      | true =>
        rw [em] at qq; cases qq
        obtain ⟨mem, fl⟩ := memA_of em
        obtain ⟨s1, r1, r2⟩ := isT_of (h1 ws mem)
        obtain ⟨j1, ⟨t1, t2⟩, hj1⟩ := tabIs_of r2
        have hj1 := hj1 1 rfl
        subst hj1
        obtain ⟨Pa, ho, hP, hH, tp, b, hb, rfl⟩ := S.addr e0
        obtain ⟨cA, hoc, hc, hcH, hcd⟩ := S.addr ej
        have ebc := Option.some.inj (hc.symm.trans hb)
        subst ebc
        have hj : j ≠ 0 := by rintro rfl; rw [e0] at ej; cases ej
        have ne : Pa ≠ cA := by rintro rfl; exact hj (nodup_at S.nd hc hP)
        refine ⟨[Pa, cA], _, ws, .bl true, s1, Sim.mk' (as := [Pa, cA]) rfl (by simp [ne]) (fun n a o ha ho' => ?_), fl G p _ H vs lw, r1, fun p1 v H' S1 f1 d1 => ?_⟩
        · match n, ha, ho' with
          | 0, ha, ho' => cases ha; cases ho'; exact ⟨_, hH, tp, cA, rfl, rfl⟩
          | 1, ha, ho' => cases ha; cases ho'; exact ⟨_, hcH, hcd⟩
        · obtain ⟨q1, rfl, _⟩ := id f1.pre
          obtain ⟨P1, ho1, hP1, hH1, hd1⟩ := S1.addr t1
          cases hP1
          obtain ⟨_, b, hb, rfl⟩ := hd1
          cases hb
          obtain ⟨c1, hoc1, hc1, hcH1, hcd1⟩ := S1.addr t2
          cases hc1
          have S2 := Sim.part (x := []) (s' := s) S (p0 := [Pa, cA]) (fun a ha => by
            rcases List.mem_cons.mp ha with h | h
            · rw [h]; exact List.mem_of_getElem? hP
            · rw [List.mem_singleton.mp h]; exact List.mem_of_getElem? hc) S1 f1 (fun a ha => by simp at ha) (by simp) rfl S.out (fun _ _ _ _ => rfl) (fun n a ha hm => ?_)
          · rw [List.append_nil] at S2
            cases d1
            exact kk _ _ H' S2.1 S2.2 (.bl _)
          · rw [List.append_nil] at ha ⊢
            rcases hm with hm | hm
            · rcases List.mem_cons.mp hm with h | h
              · subst h
                have hn := nodup_at S.nd ha hP
                subst hn
                exact ⟨_, _, e0, hH1, tp, cA, hc, rfl⟩
              · have h := List.mem_singleton.mp h
                subst h
                have hn := nodup_at S.nd ha hc
                subst hn
                exact ⟨_, _, ej, hcH1, hcd1⟩
            · simp at hm
end

end
section
/-! ### a def of one source that makes some draws, tells True and leaves the table made -/
noncomputable def boxN (ks : List Int) : Option Mo → Option Nat
  | some (.box m []) => cond (Nat.ble (m + ks.length) 1000000) (some (m + ks.length)) none
  | some (.lst [.int a, .int c, .int n]) => cond (decide (0 ≤ a) && (decide (0 ≤ c) && (decide (c < 2 ^ 62) && (decide (n = 0) && Nat.ble ks.length 1000000)))) (some ks.length) none
  | _ => none
section
variable {G : Mg} {P : Program} {w : World} {K : PySem.W.Frag} {mg : Str → Option Value} {base : Heap} {k : Nat} {fa : Addr} {fd : FuncData} {ps : List Str}
theorem boxN_of {ks : List Int} {p : List Addr} {H : Hp} {a0 : Addr} {o : Mo} {ho : HO} {m : Nat} (h : boxN ks (some o) = some m) (d : DenO G p H a0 o ho) : ∃ (a c n : Int) (m0 : Nat), ho = .lst [.int a, .int c, .int n] ∧ BoxOk a c n ∧ n ≤ m0 ∧ m0 + ks.length ≤ 1000000 ∧ m = m0 + ks.length := by
  unfold boxN at h
  split at h
  · rename_i m0 e
    cases e
    cases ec : Nat.ble (m0 + ks.length) 1000000 with
    | false => rw [ec] at h; cases h
    | true =>
      rw [ec] at h
      obtain ⟨a, c, n, rfl, ok, hn, hm, _⟩ := d
      exact ⟨a, c, n, m0, rfl, ok, hn, Nat.le_of_ble_eq_true ec, (Option.some.inj h).symm⟩
  · rename_i a c n e
    cases e
    cases ec : (decide (0 ≤ a) && (decide (0 ≤ c) && (decide (c < 2 ^ 62) && (decide (n = 0) && Nat.ble ks.length 1000000)))) with
    | false => rw [ec] at h; cases h
    | true =>
      rw [ec] at h
      obtain ⟨c1, c2⟩ := Bool.and_eq_true_iff.mp ec
      obtain ⟨c3, c4⟩ := Bool.and_eq_true_iff.mp c2
      obtain ⟨c5, c6⟩ := Bool.and_eq_true_iff.mp c4
      obtain ⟨c7, c8⟩ := Bool.and_eq_true_iff.mp c6
      obtain ⟨vs3, rfl, l3, _⟩ := d
      rw [ints3 l3]
      have hn := of_decide_eq_true c7
      subst hn
      exact ⟨a, c, 0, 0, rfl, ⟨of_decide_eq_true c1, of_decide_eq_true c3, of_decide_eq_true c5, by decide⟩, by decide, by have := Nat.le_of_ble_eq_true c8; omega, by rw [Nat.zero_add]; exact (Option.some.inj h).symm⟩
  · cases h
noncomputable def rightT (l c : Nat) (q : Str) (ks : List Int) : Fn := fun ws s => match ws with
  | [.ref b] => (boxN ks (s.get b)).ob fun m => (behind l c q (s.put b (.box m []))).om fun s' => (.bl true, s')
  | _ => none
theorem rightT_ok {f : Fn} {l c : Nat} {q : Str} {ks : List Int} (F : FnOk P w K mg base CX0 k fa fd ps (spM G f)) (hd : DrIn G.dr) (hk : ∀ k ∈ ks, (1 : Int) ≤ k)
    (h0 : ∀ m ds, InB ks ds → ∃ s', f [.ref 1] (mkS [.tab 0 none, .box m ds]) = some (.bl true, s') ∧ (∃ j, tmade l c q s' j) ∧ s'.get 1 = some (.box (m + ks.length) []))
    (h1 : ∀ m ds, InB ks ds → ∃ s', f [.ref 1] (mkS [.tab 0 (some (l, c, 2)), .box m ds, .cod q]) = some (.bl true, s') ∧ tmade l c q s' 2 ∧ s'.get 1 = some (.box (m + ks.length) [])) : FnOk P w K mg base CX0 k fa fd ps (spM G (rightT l c q ks)) := by
  refine F.imp fun vs H Q E hs => ?_
  obtain ⟨p, s, ws, w, s', S, lw, qq, kk⟩ := hs
  match ws, lw, qq with
  | [.ref b], .cons (.ref hb) .nil, qq =>
    rename_i ab
    obtain ⟨m, em, qq⟩ := ob_some.mp (show (boxN ks (s.get b)).ob (fun m => (behind l c q (s.put b (.box m []))).om fun s' => (Mv.bl true, s')) = some (w, s') from qq)
    obtain ⟨s2, es, e2⟩ := omap_some.mp qq
    cases e2
    obtain ⟨o, ho, g1, g2, g3⟩ := S.ob b ab hb
    rw [g1] at em
    obtain ⟨a, cc, n, m0, rfl, ok, hn, hm, rfl⟩ := boxN_of em g3
    have ntab : b ≠ 0 := by
      rintro rfl
      rcases behind_of es with ⟨e0, _⟩ | ⟨⟨j, e0, _⟩, _⟩
      · rw [put_get', if_pos rfl] at e0; cases e0
      · rw [put_get', if_pos rfl] at e0; cases e0
    have dI := drs_in hd ks hk a cc n ok
    have dB : ∀ p', DenO G p' H ab (.box m0 (drs G.dr ks a cc n)) (.lst [.int a, .int cc, .int n]) := fun p' => ⟨a, cc, n, rfl, ok, hn, by rw [drs_len]; exact hm, drs_Dr G.dr ks a cc n⟩
    rcases behind_of es with ⟨e0, e2⟩ | ⟨⟨j, e0, ej⟩, e2⟩
    · subst e2
      rw [put_get', if_neg (fun z => ntab z.symm)] at e0
      obtain ⟨s1, r1, ⟨j, t1, t2⟩, t3⟩ := h0 m0 _ dI
      obtain ⟨Pa, hoP, hP, hH, hdP⟩ := S.addr e0
      have ne : Pa ≠ ab := by rintro rfl; exact ntab (nodup_at S.nd hb hP)
      refine ⟨[Pa, ab], _, [.ref 1], .bl true, s1, Sim.mk' (as := [Pa, ab]) rfl (by simp [ne]) (fun n a o ha ho' => ?_), .cons (.ref rfl) .nil, r1, fun p1 v H' S1 f1 d1 => ?_⟩
      · match n, ha, ho' with
        | 0, ha, ho' => cases ha; cases ho'; exact ⟨_, hH, hdP⟩
        | 1, ha, ho' => cases ha; cases ho'; exact ⟨_, g2, dB _⟩
      · obtain ⟨q1, rfl, _⟩ := id f1.pre
        obtain ⟨cA, hoc, hc, hcH, hcd⟩ := S1.addr t2
        have hj : j ≠ 0 := by rintro rfl; rw [t1] at t2; cases t2
        have hj1 : j ≠ 1 := by rintro rfl; rw [t3] at t2; cases t2
        have hcq : cA ∈ q1 := by
          rw [List.getElem?_append_right (by show 2 ≤ j; omega)] at hc
          exact List.mem_of_getElem? hc
        obtain ⟨P1, ho1, hP1, hH1, hd1⟩ := S1.addr t1
        cases hP1
        obtain ⟨tp, b1, hb1, rfl⟩ := hd1
        rw [hc] at hb1; cases hb1
        obtain ⟨a1, hoa, ha1, haH, had⟩ := S1.addr t3
        cases ha1
        have hlen : (p ++ [cA])[s.sz]? = some cA := by rw [← S.len]; simp
        have lt0 : 0 < s.sz := by rw [← S.len]; exact (List.getElem?_eq_some_iff.mp hP).1
        have ltb : b < s.sz := by rw [← S.len]; exact (List.getElem?_eq_some_iff.mp hb).1
        have gt : ∀ n, (mkTab l c q (s.put b (.box (m0 + ks.length) []))).get n = if n = s.sz then some (.cod q) else if n = 0 then some (.tab 0 (some (l, c, s.sz))) else if n = b then some (.box (m0 + ks.length) []) else s.get n := fun n => by
          rw [mkTab_get, put_get']
          rfl
        have S2 := Sim.part (x := [cA]) (s' := mkTab l c q (s.put b (.box (m0 + ks.length) []))) S (p0 := [Pa, ab]) (fun a ha => by
          rcases List.mem_cons.mp ha with h | h
          · rw [h]; exact List.mem_of_getElem? hP
          · rw [List.mem_singleton.mp h]; exact List.mem_of_getElem? hb) S1 f1 (fun a ha => by rw [List.mem_singleton.mp ha]; exact hcq) (by simp) rfl (fun n hn => by
          have hn : s.sz + 1 ≤ n := hn
          rw [gt, if_neg (by omega), if_neg (by omega), if_neg (by omega)]
          exact S.out n (by omega)) (fun n a ha na => by
          have : n < s.sz := by rw [← S.len]; exact (List.getElem?_eq_some_iff.mp ha).1
          rw [gt, if_neg (by omega), if_neg, if_neg]
          · rintro rfl
            rw [hb] at ha; cases ha
            exact na (by simp)
          · rintro rfl
            rw [hP] at ha; cases ha
            exact na (by simp)) (fun n a ha hc => ?_)
        · cases d1
          exact kk _ _ H' S2.1 S2.2 (.bl _)
        · have nd2 : (p ++ [cA]).Nodup := by
            have hnone : H cA = none := by
              obtain ⟨q', e, hq⟩ := f1.pre
              have e' : q1 = q' := List.append_cancel_left e
              subst e'
              refine hq cA hcq fun z => ?_
              have := S1.nd
              rw [List.nodup_append] at this
              exact this.2.2 cA z cA hcq rfl
            rw [List.nodup_append]
            refine ⟨S.nd, by simp, fun y hy z hz yz => ?_⟩
            rw [List.mem_singleton.mp hz] at yz
            rw [yz] at hy
            obtain ⟨n, hn⟩ := List.mem_iff_getElem?.mp hy
            obtain ⟨_, _, _, e, _⟩ := S.ob n cA hn
            rw [hnone] at e; cases e
          have up : ∀ {n : Nat} {a : Addr}, p[n]? = some a → (p ++ [cA])[n]? = some a := fun h => by rw [List.getElem?_append_left (List.getElem?_eq_some_iff.mp h).1]; exact h
          rcases hc with hc | hc
          · rcases List.mem_cons.mp hc with h | h
            · subst h
              have hn : n = 0 := nodup_at nd2 ha (up hP)
              subst hn
              exact ⟨.tab 0 (some (l, c, s.sz)), _, by rw [gt, if_neg (by omega), if_pos rfl], hH1, tp, cA, hlen, rfl⟩
            · have h := List.mem_singleton.mp h
              subst h
              have hn : n = b := nodup_at nd2 ha (up hb)
              subst hn
              exact ⟨.box (m0 + ks.length) [], _, by rw [gt, if_neg (by omega), if_neg ntab, if_pos rfl], haH, had⟩
          · rw [List.mem_singleton.mp hc] at ha ⊢
            have hn : n = s.sz := nodup_at nd2 ha hlen
            subst hn
            exact ⟨.cod q, hoc, by rw [gt, if_pos rfl], hcH, hcd⟩
    · subst e2
      rw [put_get', if_neg (fun z => ntab z.symm)] at e0
      have hjb : j ≠ b := by
        rintro rfl
        rw [put_get', if_pos rfl] at ej; cases ej
      rw [put_get', if_neg hjb] at ej
      obtain ⟨s1, r1, ⟨t1, t2⟩, t3⟩ := h1 m0 _ dI
      obtain ⟨Pa, hoP, hP, hH, tp, b1, hb1, rfl⟩ := S.addr e0
      obtain ⟨cA, hoc, hc, hcH, hcd⟩ := S.addr ej
      have ebc := Option.some.inj (hc.symm.trans hb1)
      subst ebc
      have hj : j ≠ 0 := by rintro rfl; rw [e0] at ej; cases ej
      have ne : Pa ≠ ab := by rintro rfl; exact ntab (nodup_at S.nd hb hP)
      have ne2 : Pa ≠ cA := by rintro rfl; exact hj (nodup_at S.nd hc hP)
      have ne3 : ab ≠ cA := by rintro rfl; exact hjb (nodup_at S.nd hc hb)
      refine ⟨[Pa, ab, cA], _, [.ref 1], .bl true, s1, Sim.mk' (as := [Pa, ab, cA]) rfl (by simp [ne, ne2, ne3]) (fun n a o ha ho' => ?_), .cons (.ref rfl) .nil, r1, fun p1 v H' S1 f1 d1 => ?_⟩
      · match n, ha, ho' with
        | 0, ha, ho' => cases ha; cases ho'; exact ⟨_, hH, tp, cA, rfl, rfl⟩
        | 1, ha, ho' => cases ha; cases ho'; exact ⟨_, g2, dB _⟩
        | 2, ha, ho' => cases ha; cases ho'; exact ⟨_, hcH, hcd⟩
      · obtain ⟨q1, rfl, _⟩ := id f1.pre
        obtain ⟨P1, ho1, hP1, hH1, hd1⟩ := S1.addr t1
        cases hP1
        obtain ⟨_, b1, hb1, rfl⟩ := hd1
        cases hb1
        obtain ⟨c1, hoc1, hc1, hcH1, hcd1⟩ := S1.addr t2
        cases hc1
        obtain ⟨a1, hoa, ha1, haH, had⟩ := S1.addr t3
        cases ha1
        have S2 := Sim.part (x := []) (s' := s.put b (.box (m0 + ks.length) [])) S (p0 := [Pa, ab, cA]) (fun a ha => by
          rcases List.mem_cons.mp ha with h | h
          · rw [h]; exact List.mem_of_getElem? hP
          · rcases List.mem_cons.mp h with h | h
            · rw [h]; exact List.mem_of_getElem? hb
            · rw [List.mem_singleton.mp h]; exact List.mem_of_getElem? hc) S1 f1 (fun a ha => by simp at ha) (by simp) rfl (fun n hn => by
          have hn : s.sz ≤ n := hn
          have : b < s.sz := by rw [← S.len]; exact (List.getElem?_eq_some_iff.mp hb).1
          rw [put_get', if_neg (by omega)]
          exact S.out n hn) (fun n a ha na => by
          rw [put_get', if_neg]
          rintro rfl
          rw [hb] at ha; cases ha
          exact na (by simp)) (fun n a ha hm => ?_)
        · rw [List.append_nil] at S2
          cases d1
          exact kk _ _ H' S2.1 S2.2 (.bl _)
        · rw [List.append_nil] at ha ⊢
          rcases hm with hm | hm
          · rcases List.mem_cons.mp hm with h | h
            · subst h
              have hn := nodup_at S.nd ha hP
              subst hn
              exact ⟨.tab 0 (some (l, c, j)), _, by rw [put_get', if_neg (fun z => ntab z.symm)]; exact e0, hH1, tp, cA, hc, rfl⟩
            · rcases List.mem_cons.mp h with h | h
              · subst h
                have hn := nodup_at S.nd ha hb
                subst hn
                exact ⟨.box (m0 + ks.length) [], _, by rw [put_get', if_pos rfl], haH, had⟩
              · have h := List.mem_singleton.mp h
                subst h
                have hn := nodup_at S.nd ha hc
                subst hn
                exact ⟨.cod q, _, by rw [put_get', if_neg hjb]; exact ej, hcH1, hcd1⟩
          · simp at hm
end
/-! ### the law's loop, with a table and a script of either kind -/
/-- the source b stands behind m draws -/
noncomputable def Bx (s : Ms) (b m : Nat) : Prop := (m = 0 ∧ ∃ A C : Int, s.get b = some (.lst [.int A, .int C, .int 0]) ∧ 0 ≤ A ∧ 0 ≤ C ∧ C < 2 ^ 62) ∨ s.get b = some (.box m [])
theorem boxN_bx {ks : List Int} {s : Ms} {b m : Nat} (h : Bx s b m) (hm : m + ks.length ≤ 1000000) : boxN ks (s.get b) = some (m + ks.length) := by
  rcases h with ⟨rfl, A, C, h, h1, h2, h3⟩ | h
  · rw [h]
    show cond (decide (0 ≤ A) && (decide (0 ≤ C) && (decide (C < 2 ^ 62) && (decide ((0 : Int) = 0) && Nat.ble ks.length 1000000)))) (some ks.length) none = _
    rw [decide_eq_true h1, decide_eq_true h2, decide_eq_true h3, decide_eq_true rfl, Nat.ble_eq_true_of_le (by omega), Nat.zero_add]
    rfl
  · rw [h]
    show cond (Nat.ble (m + ks.length) 1000000) (some (m + ks.length)) none = _
    rw [cond_t (Nat.ble_eq_true_of_le hm)]
/-- what stands while the law runs: the table, the script -/
structure LInv (l c : Nat) (q : Str) (lo : Nat) (sv : Mv) (ns : List Int) (s : Ms) : Prop where
  sz : lo ≤ s.sz
  lo0 : 0 < lo
  tab : s.get 0 = some (.tab 0 none) ∨ ∃ j, j < s.sz ∧ tmade l c q s j
  scr : sv = .fl (ns.map .int) ∨ ∃ i, sv = .ref i ∧ i ≠ 0 ∧ i < lo ∧ s.get i = some (.lst (ns.map .int))
theorem LInv.push {l c : Nat} {q : Str} {lo : Nat} {sv : Mv} {ns : List Int} {s : Ms} (h : LInv l c q lo sv ns s) (o : Mo) : LInv l c q lo sv ns (push s o) := by
  have z := h.sz
  have z0 := h.lo0
  refine ⟨by show lo ≤ s.sz + 1; omega, h.lo0, ?_, ?_⟩
  · rcases h.tab with e | ⟨j, hj, e1, e2⟩
    · exact .inl (by rw [push_get, if_neg (by omega)]; exact e)
    · exact .inr ⟨j, by show j < s.sz + 1; omega, by rw [push_get, if_neg (by omega)]; exact e1, by rw [push_get, if_neg (by omega)]; exact e2⟩
  · rcases h.scr with e | ⟨i, e, h0, hi, e2⟩
    · exact .inl e
    · exact .inr ⟨i, e, h0, hi, by rw [push_get, if_neg (by omega)]; exact e2⟩
theorem LInv.right {l c : Nat} {q : Str} {lo : Nat} {sv : Mv} {ns : List Int} {s : Ms} {ks : List Int} {b m : Nat} (h : LInv l c q lo sv ns s) (hlo : lo ≤ b) (hb : b < s.sz) (B : Bx s b m) (hm : m + ks.length ≤ 1000000) : ∃ s', rightT l c q ks [.ref b] s = some (.bl true, s') ∧ LInv l c q lo sv ns s' ∧ b < s'.sz ∧ Bx s' b (m + ks.length) := by
  have z := h.sz
  have z0 := h.lo0
  have run : ∀ s', behind l c q (s.put b (.box (m + ks.length) [])) = some s' → rightT l c q ks [.ref b] s = some (.bl true, s') := fun s' e => by
    show (boxN ks (s.get b)).ob (fun m => (behind l c q (s.put b (.box m []))).om fun s' => (Mv.bl true, s')) = _
    rw [boxN_bx B hm, ob_of, e]
    rfl
  rcases h.tab with e | ⟨j, hj, e1, e2⟩
  · refine ⟨mkTab l c q (s.put b (.box (m + ks.length) [])), run _ ?_, ⟨?_, z0, .inr ⟨s.sz, Nat.lt_succ_self _, ?_, ?_⟩, ?_⟩, ?_, .inr ?_⟩
    · unfold behind
      have e' : (s.put b (.box (m + ks.length) [])).get 0 = some (.tab 0 none) := by rw [put_get', if_neg (by omega)]; exact e
      rw [e']
      rfl
    · show lo ≤ s.sz + 1; omega
    · rw [mkTab_get]
      show (if 0 = s.sz then _ else if 0 = 0 then some (Mo.tab 0 (some (l, c, s.sz))) else _) = _
      rw [if_neg (by omega), if_pos rfl]
    · rw [mkTab_get]
      exact if_pos rfl
    · rcases h.scr with e | ⟨i, e, h0, hi, e2⟩
      · exact .inl e
      · exact .inr ⟨i, e, h0, hi, by rw [mkTab_get, if_neg (show i ≠ (s.put b (.box (m + ks.length) [])).sz from Nat.ne_of_lt (show i < s.sz by omega)), if_neg h0, put_get', if_neg (by omega)]; exact e2⟩
    · show b < s.sz + 1; omega
    · rw [mkTab_get, if_neg (show b ≠ (s.put b (.box (m + ks.length) [])).sz from Nat.ne_of_lt hb), if_neg (by omega), put_get', if_pos rfl]
  · have hjb : j ≠ b := by
      rintro rfl
      rcases B with ⟨_, A, C, h, _⟩ | h
      · rw [h] at e2; cases e2
      · rw [h] at e2; cases e2
    refine ⟨s.put b (.box (m + ks.length) []), run _ ?_, ⟨z, z0, .inr ⟨j, hj, ?_, ?_⟩, ?_⟩, hb, .inr ?_⟩
    · unfold behind
      have e' : (s.put b (.box (m + ks.length) [])).get 0 = some (.tab 0 (some (l, c, j))) := by rw [put_get', if_neg (by omega)]; exact e1
      rw [e']
      show cond (Nat.beq l l && (Nat.beq c c && isCod q ((s.put b (.box (m + ks.length) [])).get j))) _ none = _
      rw [put_get', if_neg hjb, e2]
      show cond (Nat.beq l l && (Nat.beq c c && strEq q q)) _ none = _
      rw [strEq_eq, decide_eq_true rfl, Nat.beq_refl, Nat.beq_refl]
      rfl
    · rw [put_get', if_neg (by omega)]; exact e1
    · rw [put_get', if_neg hjb]; exact e2
    · rcases h.scr with e | ⟨i, e, h0, hi, e2⟩
      · exact .inl e
      · exact .inr ⟨i, e, h0, hi, by rw [put_get', if_neg (by omega)]; exact e2⟩
    · rw [put_get', if_pos rfl]
theorem LInv.len {l c : Nat} {q : Str} {lo : Nat} {sv : Mv} {ns : List Int} {s : Ms} (h : LInv l c q lo sv ns s) : lenW [sv] s = some (.int (ns.length : Int), s) := by
  rcases h.scr with e | ⟨i, e, _, _, e2⟩
  · subst e
    show (some (ns.map Mv.int).length).om (fun (n : Nat) => (Mv.int (n : Int), s)) = _
    rw [List.length_map]
    rfl
  · subst e
    show (match s.get i with
      | some (.lst ws) => some ws.length
      | _ => none).om (fun (n : Nat) => (Mv.int (n : Int), s)) = _
    rw [e2]
    show (some (ns.map Mv.int).length).om (fun (n : Nat) => (Mv.int (n : Int), s)) = _
    rw [List.length_map]
    rfl
theorem LInv.itm {l c : Nat} {q : Str} {lo : Nat} {sv : Mv} {ns : List Int} {s : Ms} (h : LInv l c q lo sv ns s) : items sv s = some (ns.map .int) := by
  rcases h.scr with e | ⟨i, e, _, _, e2⟩
  · subst e; rfl
  · subst e
    show (match s.get i with
      | some (.lst ws) => some ws
      | _ => none) = _
    rw [e2]
/-- what the law's making of a source must be -/
noncomputable def BoxFn2 (l c : Nat) (q : Str) (bx : Fn) : Prop := ∀ (lo : Nat) (sv : Mv) (ns : List Int) (k : Int) (s : Ms), LInv l c q lo sv ns s → 0 ≤ k → k < 1000 → ∃ A C : Int, 0 ≤ A ∧ 0 ≤ C ∧ C < 2 ^ 62 ∧ bx [sv, .int k] s = newL [.int A, .int C, .int 0] s
theorem newL_push {ws : List Mv} {s : Ms} (h : ws.length ≤ 1000) : newL ws s = some (.ref s.sz, push s (.lst ws)) := by
  unfold newL
  rw [llen_eq, cond_t (Nat.ble_eq_true_of_le (by omega))]
  rfl
theorem lap_ok2 {l c : Nat} {q : Str} {lo : Nat} {sv : Mv} {ns : List Int} {ks : List Int} {L : Nat} (hL : L ≤ 100) (hk : ks.length ≤ 1000) {r : Me} {s : Ms} {b : Nat} (hr : (mwipe r [3])[2]? = some (some (.ref b))) (I : LInv l c q lo sv ns s) (hlo : lo ≤ b) (hb : b < s.sz) (B : Bx s b 0) :
    ∃ s', lapB (rightT l c q ks) (L : Int) r s = some (.nx, r, s') ∧ LInv l c q lo sv ns s' := by
  have st : ∀ (i : Nat) (s : Ms) (s' : Ms), rightT l c q ks [.ref b] s = some (.bl true, s') → mstep (.nm 3) myes (mcall (rightT l c q ks) (mcons (mvar 2) mnil)) (mwipe r [3]) (.int (0 + i)) s = some ([.bl true], s') := fun i s s' e => by
    have g : (lset (mwipe r [3]) 3 (some (Mv.int (0 + i))))[2]? = some (some (.ref b)) := by rw [lset_eq, List.getElem?_set_ne (by decide)]; exact hr
    show ((mcall (rightT l c q ks) (mcons (mvar 2) mnil)) (lset (mwipe r [3]) 3 (some (Mv.int (0 + i)))) s).om (fun x => ([x.1], x.2)) = _
    have v : mvar 2 (lset (mwipe r [3]) 3 (some (Mv.int (0 + i)))) s = some (.ref b, s) := by unfold mvar; rw [lget_eq, g]
    have c : mcall (rightT l c q ks) (mcons (mvar 2) mnil) (lset (mwipe r [3]) 3 (some (Mv.int (0 + i)))) s = rightT l c q ks [.ref b] s := by
      unfold mcall mcons
      rw [v]
      rfl
    rw [c, e]
    rfl
  have hk3 : ∀ i : Nat, i ≤ 100 → i * ks.length ≤ 100000 := fun i hi => Nat.le_trans (Nat.mul_le_mul hi hk) (by decide)
  obtain ⟨s1, e1, I1, _, _⟩ := flat_rng (st := mstep (.nm 3) myes (mcall (rightT l c q ks) (mcons (mvar 2) mnil)) (mwipe r [3])) (lo := 0) (n := L) (w := .bl true) (fun i t => LInv l c q lo sv ns t ∧ b < t.sz ∧ Bx t b (i * ks.length)) (fun i t hi ⟨hI, hbt, hB⟩ => by
    have := hk3 i (by omega)
    obtain ⟨t', r1, r2, r3, r4⟩ := hI.right (ks := ks) hlo hbt hB (by omega)
    exact ⟨t', st i t t' r1, r2, r3, by rw [Nat.add_mul, Nat.one_mul]; exact r4⟩) 99999 0 s (by omega) (by omega) ⟨I, hb, by rw [Nat.zero_mul]; exact B⟩
  rw [Nat.sub_zero] at e1
  refine ⟨push s1 (.lst (List.replicate L (.bl true))), ?_, I1.push _⟩
  have okL : okI (L : Int) = true := by unfold okI; rw [decide_eq_true (by omega), decide_eq_true (by omega)]; rfl
  have i1 : miR1 (mcons (mcon (.int (L : Int))) mnil) r s = some (.rng 0 L, s) := range_ok rfl okL
  have nl := newL_push (ws := List.replicate L (.bl true)) (s := s1) (by rw [List.length_replicate]; omega)
  have lc : mlc (miR1 (mcons (mcon (.int (L : Int))) mnil)) (.nm 3) myes (mcall (rightT l c q ks) (mcons (mvar 2) mnil)) [3] r s = some (.ref s1.sz, push s1 (.lst (List.replicate L (.bl true)))) := by
    unfold mlc
    rw [i1, ob_of]
    have e1' : mflat (.rng 0 L) (mstep (.nm 3) myes (mcall (rightT l c q ks) (mcons (mvar 2) mnil)) (mwipe r [3])) 100000 0 s = some (List.replicate L (.bl true), s1) := e1
    dsimp only
    rw [e1', ob_of]
    exact nl
  have al : mcall allW (mcons (mlc (miR1 (mcons (mcon (.int (L : Int))) mnil)) (.nm 3) myes (mcall (rightT l c q ks) (mcons (mvar 2) mnil)) [3]) mnil) r s = some (.bl true, push s1 (.lst (List.replicate L (.bl true)))) := by
    rw [call1 lc]
    have it : lstOf (.ref s1.sz) (push s1 (.lst (List.replicate L (.bl true)))) = some (List.replicate L (.bl true)) := by
      show (match (push s1 (.lst (List.replicate L (.bl true)))).get s1.sz with
        | some (.lst ws) => some ws
        | _ => none) = _
      rw [push_get, if_pos rfl]
    show ((lstOf (.ref s1.sz) (push s1 (.lst (List.replicate L (.bl true))))).ob fun xs => (boolsOf xs).om fun bs => (Mv.bl (bs.all id), push s1 (.lst (List.replicate L (.bl true))))) = _
    rw [it, ob_of, bools_rep, om_of]
    rw [show (List.replicate L true).all id = true by simp]
  have nt : mnot (mtst (mcall allW (mcons (mlc (miR1 (mcons (mcon (.int (L : Int))) mnil)) (.nm 3) myes (mcall (rightT l c q ks) (mcons (mvar 2) mnil)) [3]) mnil))) r s = some (false, push s1 (.lst (List.replicate L (.bl true)))) := by
    unfold mnot mtst
    rw [al]
    rfl
  unfold lapB sif
  rw [nt]
  rfl
theorem law_gen2 {l c : Nat} {q : Str} {bx : Fn} {ks : List Int} {R L : Nat} (hb : BoxFn2 l c q bx) (hR : R ≤ 100) (hL : L ≤ 100) (hk : ks.length ≤ 1000) {lo : Nat} {sv : Mv} {ns : List Int} {s : Ms} (I : LInv l c q lo sv ns s) : ∃ s', fnM 1 4 (lawB bx (rightT l c q ks) (R : Int) (L : Int)) [sv] s = some (.bl true, s') := by
  obtain ⟨N, hN, hN2⟩ : ∃ N : Nat, N ≤ 101 ∧ (1 + (if (ns.length : Int) < (R : Int) then (ns.length : Int) else (R : Int)) : Int) = (N : Int) := by
    by_cases h : (ns.length : Int) < (R : Int)
    · rw [if_pos h]; exact ⟨1 + ns.length, by omega, by omega⟩
    · rw [if_neg h]; exact ⟨1 + R, by omega, by omega⟩
  have okN : okI (N : Int) = true := by unfold okI; rw [decide_eq_true (by omega), decide_eq_true (by omega)]; rfl
  have i1 : miR1 (mcons (mop2 addW (mcon (.int 1)) (mcall min2W (mcons (mcon (.int R)) (mcons (mcall lenW (mcons (mvar 0) mnil)) mnil)))) mnil) [some sv, none, none, none] s = some (.rng 0 N, s) := by
    have hl : mcall lenW (mcons (mvar 0) mnil) [some sv, none, none, none] s = some (.int (ns.length : Int), s) := I.len
    have h2 : mcall min2W (mcons (mcon (.int R)) (mcons (mcall lenW (mcons (mvar 0) mnil)) mnil)) [some sv, none, none, none] s = some (.int (if (ns.length : Int) < (R : Int) then (ns.length : Int) else (R : Int)), s) := by
      have h4 : mcons (mcall lenW (mcons (mvar 0) mnil)) mnil [some sv, none, none, none] s = some ([.int (ns.length : Int)], s) := by
        show (mcall lenW (mcons (mvar 0) mnil) [some sv, none, none, none] s).ob (fun x => (mnil [some sv, none, none, none] x.2).ob fun y => some (x.1 :: y.1, y.2)) = _
        rw [hl]
        rfl
      show (((mcons (mcall lenW (mcons (mvar 0) mnil)) mnil) [some sv, none, none, none] s).ob fun y => some (Mv.int (R : Int) :: y.1, y.2)).ob (fun x => min2W x.1 x.2) = _
      rw [h4]
      rfl
    refine range_ok (j := (N : Int)) ?_ okN
    show ((mop2 addW (mcon (.int 1)) (mcall min2W (mcons (mcon (.int R)) (mcons (mcall lenW (mcons (mvar 0) mnil)) mnil)))) [some sv, none, none, none] s).ob (fun x => (mnil [some sv, none, none, none] x.2).ob fun y => some (x.1 :: y.1, y.2)) = _
    have h3 : mop2 addW (mcon (.int 1)) (mcall min2W (mcons (mcon (.int R)) (mcons (mcall lenW (mcons (mvar 0) mnil)) mnil))) [some sv, none, none, none] s = some (.int (N : Int), s) := by
      unfold mop2
      rw [show mcon (.int 1) [some sv, none, none, none] s = some (.int 1, s) from rfl, ob_of, h2, ob_of]
      show some (Mv.int (1 + (if (ns.length : Int) < (R : Int) then (ns.length : Int) else (R : Int))), s) = _
      rw [hN2]
    rw [h3]
    rfl
  obtain ⟨r', s', e, _⟩ := loop_rng (T := .nm 1) (B := sseq (sset 2 (mcall bx (mcons (mvar 0) (mcons (mvar 1) mnil)))) (lapB (rightT l c q ks) L)) (lo := 0) (n := N) (fun i r s => LInv l c q lo sv ns s ∧ ∃ x y z, r = [some sv, x, y, z]) (fun i r s hi ⟨hI, x, y, z, hr⟩ => by
    subst hr
    obtain ⟨A, C, a1, a2, a3, a4⟩ := hb lo sv ns (0 + i) s hI (by omega) (by omega)
    have nl : newL [.int A, .int C, .int 0] s = some (.ref s.sz, push s (.lst [.int A, .int C, .int 0])) := newL_push (by show 3 ≤ 1000; decide)
    rw [nl] at a4
    obtain ⟨s2, e2, z2⟩ := lap_ok2 (ks := ks) (L := L) hL hk (r := [some sv, some (.int (0 + i)), some (.ref s.sz), z]) (s := push s (.lst [.int A, .int C, .int 0])) (b := s.sz) rfl (hI.push _) hI.sz (Nat.lt_succ_self _) (.inl ⟨rfl, A, C, by rw [push_get, if_pos rfl], a1, a2, a3⟩)
    refine ⟨_, [some sv, some (.int (0 + i)), some (.ref s.sz), z], s2, rfl, ?_, z2, _, _, _, rfl⟩
    have st : sset 2 (mcall bx (mcons (mvar 0) (mcons (mvar 1) mnil))) [some sv, some (.int (0 + i)), y, z] s = some (.nx, [some sv, some (.int (0 + i)), some (.ref s.sz), z], push s (.lst [.int A, .int C, .int 0])) := by
      show (bx [sv, .int (0 + i)] s).om _ = _
      rw [a4]
      rfl
    exact (sseq_nx st).trans e2) 99999 0 [some sv, none, none, none] s (by omega) (by omega) ⟨I, _, _, _, rfl⟩
  refine ⟨s', ?_⟩
  have st : sfor (miR1 (mcons (mop2 addW (mcon (.int 1)) (mcall min2W (mcons (mcon (.int R)) (mcons (mcall lenW (mcons (mvar 0) mnil)) mnil)))) mnil)) (.nm 1) (sseq (sset 2 (mcall bx (mcons (mvar 0) (mcons (mvar 1) mnil)))) (lapB (rightT l c q ks) L)) [some sv, none, none, none] s = some (.nx, r', s') := by
    unfold sfor
    rw [i1, ob_of]
    exact e
  exact fnM_rt ((sseq_nx st).trans rfl)

end
section
/-! ### -x of an int; a, b, c = x, y, z; small things -/
theorem bb_dict : bootBuiltins "dict" = some (.type "dict") := by decide +kernel
section
variable {X : Cx} {G : Mg}
noncomputable def negW (a : Mv) (s : Ms) : Option (Mv × Ms) := match a with
  | .int i => some (.int (-i), s)
  | _ => none
theorem um_neg : UnR X (unaryOp .USub) (q1R G negW) := by
  intro pins s σ H x v Q I r h
  obtain ⟨p, ms, a, w, ms', S, da, q, k⟩ := h
  cases a with
  | int i =>
    cases q
    cases da
    exact un_neg pins s σ H _ v Q I r ⟨i, rfl, k p _ H S Fra.refl (.int _)⟩
  | _ => cases q
theorem sm_par3 {i j l : Nat} {st : Stmt} {A : Fa} (h : PS X st (tPar3 i j l (tA G A))) : PS X st (tS G (spar3 i j l A)) := ps_imp h fun D σ H ⟨p, s, r, f, r', s', S, E, q, k⟩ => by
  obtain ⟨⟨x, s1⟩, q1, q2⟩ := ob_some.mp q
  refine ⟨p, s, r, x, s1, S, E, q1, fun p1 vs H1 S1 f1 d1 => ?_⟩
  match x, q2, d1 with
  | [a, b, c], q2, .cons da (.cons db (.cons dc .nil)) =>
    cases q2
    exact ⟨_, _, _, rfl, k p1 H1 S1 f1 _ ((((E.fra S f1).set da).set db).set dc)⟩
end
theorem no_free {ns : List (Str × NameKind)} {Q : Str × NameKind → Prop} (h : (ns.all fun y => match y.2 with | .free => false | _ => true) = true) : ∀ y ∈ ns, y.2 = .free → Q y := fun y hy hf => by
  have e := List.all_eq_true.mp h y hy
  rw [hf] at e
  cases e

end
section
/-! ### a call over the least store that will do -/
noncomputable def pureX (f : Fn) : Fn := fun ws s => Option.rec (motive := fun _ => Option (Mv × Ms)) (Option.rec (motive := fun _ => Option (Mv × Ms)) (f ws s) (fun r => some r) (pure1 f ws s)) (fun r => some r) (pureF f ws s)
section
variable {P : Program} {w : World} {K : PySem.W.Frag} {mg : Str → Option Value} {base : Heap} {k : Nat} {fa : Addr} {fd : FuncData} {ps : List Str} {G : Mg}
theorem pureF_sp {f : Fn} {vs : List V} {H : Hp} {Q : VK} {E : XK} (hs : spM G (pureF f) vs H Q E) : spM G f vs H Q E := by
  obtain ⟨p, s, ws, w, s', S, l, q, kk⟩ := hs
  obtain ⟨fl, q⟩ := cpL_of ws _ _ q
  obtain ⟨⟨w1, s1⟩, q1, q2⟩ := ob_some.mp q
  refine ⟨[], _, ws, w1, s1, Sim.nil, fl G p [] H vs l, q1, fun p1 v H' S1 f1 d1 => ?_⟩
  obtain ⟨S2, f2⟩ := S.keep (H' := H') fun a o e => f1.kee a o e (by simp)
  obtain ⟨q3, rfl, hq⟩ := id f1.pre
  obtain ⟨p', h1, h2, h3⟩ := bk_of q2 (p0 := []) rfl S2 f2 S1 (fun a ha => hq a ha (by simp)) S d1
  exact kk p' v H' h1 h2 h3
theorem pure1_sp {f : Fn} {vs : List V} {H : Hp} {Q : VK} {E : XK} (hs : spM G (pure1 f) vs H Q E) : spM G f vs H Q E := by
  obtain ⟨p, s, ws, w, s', S, l, q, kk⟩ := hs
  obtain ⟨ws', n, xs, a, us, q, hn, hH, sz, fl, lx, lw⟩ := cp1_of S ws vs _ _ l q
  obtain ⟨⟨w1, s1⟩, q1, q2⟩ := ob_some.mp q
  refine ⟨[a], _, ws', w1, s1, Sim.one (o := .lst xs) hH ⟨us, rfl, fl G p _ H us lx, sz⟩, lw, q1, fun p1 v H' S1 f1 d1 => ?_⟩
  obtain ⟨q3, rfl, hq⟩ := id f1.pre
  have q2 : (match s1.get 0 with
    | some (.lst ys) => cpL ys fun ys' => bk 1 w1 s1 (s.put n (.lst ys'))
    | _ => none) = some (w, s') := q2
  split at q2
  · rename_i ys ey
    obtain ⟨fy, q2⟩ := cpL_of ys _ _ q2
    obtain ⟨S2, f2⟩ := S.back (o' := .lst ys) hn S1 f1 fun ho h2 => by
      obtain ⟨o3, ho3, g1, g2, g3⟩ := S1.ob 0 a (by simp)
      rw [ey] at g1; cases g1
      rw [h2] at g2; cases g2
      obtain ⟨vs3, rfl, l3, z3⟩ := g3
      exact ⟨vs3, rfl, fy G _ p H' vs3 l3, z3⟩
    have nd : a ∉ q3 := fun h => by
      have := S1.nd
      rw [List.nodup_append] at this
      exact this.2.2 a (by simp) a h rfl
    obtain ⟨p', h1, h2, h3⟩ := bk_of q2 (p0 := [a]) rfl S2 f2 S1 (fun z hz => hq z hz (by simp; rintro rfl; exact nd hz)) S d1
    exact kk p' v H' h1 h2 h3
  · cases q2
theorem pureX_ok {f : Fn} (F : FnOk P w K mg base CX0 k fa fd ps (spM G f)) : FnOk P w K mg base CX0 k fa fd ps (spM G (pureX f)) := by
  refine F.imp fun vs H Q E hs => ?_
  obtain ⟨p, s, ws, w, s', S, l, q, kk⟩ := hs
  unfold pureX at q
  cases e1 : pureF f ws s with
  | some r =>
    rw [e1] at q
    exact pureF_sp ⟨p, s, ws, w, s', S, l, e1.trans q, kk⟩
  | none =>
    rw [e1] at q
    cases e2 : pure1 f ws s with
    | some r =>
      rw [e2] at q
      exact pure1_sp ⟨p, s, ws, w, s', S, l, e2.trans q, kk⟩
    | none =>
      rw [e2] at q
      exact ⟨p, s, ws, w, s', S, l, q, kk⟩
end

end
section
/-! ### calls over the least store, with words that the kernel can keep: a value written out, an answer -/
noncomputable def ob2 {α β γ : Type} (o : Option (α × β)) (k : α → β → Option γ) : Option γ := Option.rec (motive := fun _ => Option γ) none (fun x => Prod.rec (motive := fun _ => Option γ) k x) o
theorem ob2_some {α β γ : Type} {o : Option (α × β)} {k : α → β → Option γ} {r : γ} (h : ob2 o k = some r) : ∃ a b, o = some (a, b) ∧ k a b = some r := by
  cases o with
  | none => cases h
  | some x => exact ⟨x.1, x.2, rfl, h⟩
noncomputable def nf (w : Mv) : Option Mv := cp w some
theorem nf_of {w w' : Mv} (h : nf w = some w') : Fl1 w ∧ w' = w := by
  obtain ⟨a, b⟩ := cp_of w some w' h
  exact ⟨a, (Option.some.inj b).symm⟩
noncomputable def nfL (ws : List Mv) : Option (List Mv) := List.rec (motive := fun _ => Option (List Mv)) (some []) (fun a _ ih => Option.rec (motive := fun _ => Option (List Mv)) none (fun a' => Option.rec (motive := fun _ => Option (List Mv)) none (fun as' => some (a' :: as')) ih) (nf a)) ws
theorem nfL_of : ∀ {ws ws' : List Mv}, nfL ws = some ws' → FlL ws ∧ ws' = ws
  | [], _, h => by cases h; exact ⟨FlL.nil, rfl⟩
  | w :: ws, ws', h => by
    have h : Option.rec (motive := fun _ => Option (List Mv)) none (fun a' => Option.rec (motive := fun _ => Option (List Mv)) none (fun as' => some (a' :: as')) (nfL ws)) (nf w) = some ws' := h
    cases e : nf w with
    | none => rw [e] at h; cases h
    | some a =>
      rw [e] at h
      cases e2 : nfL ws with
      | none => rw [e2] at h; cases h
      | some as =>
        rw [e2] at h
        cases h
        obtain ⟨x, rfl⟩ := nf_of e
        obtain ⟨y, rfl⟩ := nfL_of e2
        exact ⟨FlL.cons x y, rfl⟩
inductive Res where
  | v (w : Mv) | l (ws : List Mv)
noncomputable def resOf (lo : Nat) (w : Mv) (s1 : Ms) : Option Res := match w with
  | .ref j => cond (Nat.ble lo j) (match s1.get j with
    | some (.lst xs) => cpL xs fun xs' => some (.l xs')
    | _ => none) none
  | w => cp w fun w' => some (.v w')
noncomputable def resIn (r : Res) (s : Ms) : Option (Mv × Ms) := Res.rec (motive := fun _ => Option (Mv × Ms)) (fun w => some (w, s)) (fun ws => (s.alloc (.lst ws)).om fun y => (.ref y.1, y.2)) r
section
variable {P : Program} {w : World} {K : PySem.W.Frag} {mg : Str → Option Value} {base : Heap} {k : Nat} {fa : Addr} {fd : FuncData} {ps : List Str} {G : Mg}
theorem resIn_of {p q : List Addr} {lo : Nat} {H H' : Hp} {p0 : List Addr} {s0 s1 s s' : Ms} {w w' : Mv} {v : V} {r : Res} (h : resOf lo w s1 = some r) (h2 : resIn r s = some (w', s')) (hp : p0.length = lo) (S : Sim G p s H') (f : Fra p H p H') (S1 : Sim G (p0 ++ q) s1 H') (hq : ∀ a ∈ q, H a = none) (S0 : Sim G p s0 H) (d : Den G (p0 ++ q) H' w v) :
    ∃ p', Sim G p' s' H' ∧ Fra p H p' H' ∧ Den G p' H' w' v := by
  have easy : (cp w fun w' => some (Res.v w')) = some r → ∃ p', Sim G p' s' H' ∧ Fra p H p' H' ∧ Den G p' H' w' v := fun h => by
    obtain ⟨a, b⟩ := cp_of w _ _ h
    cases b
    cases h2
    exact ⟨p, S, f, a G _ p H' v d⟩
  cases w with
  | ref j =>
    have h : cond (Nat.ble lo j) (match s1.get j with
      | some (.lst xs) => cpL xs fun xs' => some (Res.l xs')
      | _ => none) none = some r := h
    cases e : Nat.ble lo j with
    | false => rw [e] at h; cases h
    | true =>
      rw [e, cond_true] at h
      have hl := Nat.le_of_ble_eq_true e
      split at h
      · rename_i xs e1
        obtain ⟨a, b⟩ := cpL_of xs _ _ h
        cases b
        have h2 : (s.alloc (.lst xs)).om (fun y => (Mv.ref y.1, y.2)) = some (w', s') := h2
        obtain ⟨y, e2, e3⟩ := omap_some.mp h2
        cases e3
        cases d with
        | ref hj =>
          rename_i ad
          obtain ⟨o, ho, q1, q2, q3⟩ := S1.ob j ad hj
          rw [e1] at q1; cases q1
          have hin : ad ∈ q := by
            have := List.getElem?_append_right (l₁ := p0) (l₂ := q) (i := j) (by omega)
            rw [this] at hj
            exact List.mem_of_getElem? hj
          have hnone := hq ad hin
          have nin : ad ∉ p := fun h => by
            obtain ⟨n, hn⟩ := List.mem_iff_getElem?.mp h
            obtain ⟨_, _, _, z, _⟩ := S0.ob n ad hn
            rw [hnone] at z; cases z
          obtain ⟨vs, rfl, l, sz⟩ := q3
          obtain ⟨S2, d2⟩ := S.add (n := y.1) (s' := y.2) e2 nin q2 ⟨vs, rfl, a G _ p H' vs l, sz⟩
          exact ⟨p ++ [ad], S2, ⟨⟨[ad], rfl, fun z hz _ => by rw [List.mem_singleton.mp hz]; exact hnone⟩, f.kee, f.frz⟩, d2⟩
      · cases h
  | _ => exact easy h
noncomputable def gF (f : Fn) (ws : List Mv) : Option Res := ob2 (f ws ⟨0, .nil⟩) (resOf 0)
noncomputable def pureG (f : Fn) : Fn := fun ws s => Option.rec (motive := fun _ => Option (Mv × Ms)) none (fun ws' => Option.rec (motive := fun _ => Option (Mv × Ms)) none (fun x => resIn x s) (gF f ws')) (nfL ws)
theorem pureG_sp {f : Fn} {vs : List V} {H : Hp} {Q : VK} {E : XK} (hs : spM G (pureG f) vs H Q E) : spM G f vs H Q E := by
  obtain ⟨p, s, ws, w, s', S, l, q, kk⟩ := hs
  unfold pureG at q
  cases e1 : nfL ws with
  | none => rw [e1] at q; cases q
  | some ws' =>
    rw [e1] at q
    obtain ⟨fl, rfl⟩ := nfL_of e1
    dsimp only at q
    cases e2 : gF f ws' with
    | none => rw [e2] at q; cases q
    | some x =>
      rw [e2] at q
      have q : resIn x s = some (w, s') := q
      obtain ⟨w1, s1, q1, q2⟩ := ob2_some e2
      refine ⟨[], _, ws', w1, s1, Sim.nil, fl G p [] H vs l, q1, fun p1 v H' S1 f1 d1 => ?_⟩
      obtain ⟨S2, f2⟩ := S.keep (H' := H') fun a o e => f1.kee a o e (by simp)
      obtain ⟨q3, rfl, hq⟩ := id f1.pre
      obtain ⟨p', h1, h2, h3⟩ := resIn_of q2 q (p0 := []) rfl S2 f2 S1 (fun a ha => hq a ha (by simp)) S d1
      exact kk p' v H' h1 h2 h3
/-- one argument is a list: its place, its items -/
noncomputable def nf1 (ws : List Mv) (s : Ms) : Option (List Mv × Nat × List Mv) := List.rec (motive := fun _ => Option (List Mv × Nat × List Mv)) none (fun a as ih => match a with
  | .ref n => match s.get n with
    | some (.lst xs) => (nfL xs).ob fun xs' => (nfL as).om fun as' => (.ref 0 :: as', n, xs')
    | _ => none
  | a => (nf a).ob fun a' => ih.om fun y => (a' :: y.1, y.2)) ws
theorem nf1_of {p : List Addr} {s : Ms} {H : Hp} (S : Sim G p s H) : ∀ {ws : List Mv} {vs : List V} {ws' : List Mv} {n : Nat} {xs : List Mv}, DenL G p H ws vs → nf1 ws s = some (ws', n, xs) → ∃ a us, p[n]? = some a ∧ H a = some (.lst us) ∧ us.length ≤ sizeLine ∧ FlL xs ∧ DenL G p H xs us ∧ DenL G [a] H ws' vs := by
  intro ws
  induction ws with
  | nil => intro vs ws' n xs l h; cases h
  | cons w0 ws ih =>
    intro vs ws' n xs l h
    cases l with
    | cons d l =>
      have easy : ((nf w0).ob fun a' => (nf1 ws s).om fun y => (a' :: y.1, y.2)) = some (ws', n, xs) → ∃ a us, p[n]? = some a ∧ H a = some (.lst us) ∧ us.length ≤ sizeLine ∧ FlL xs ∧ DenL G p H xs us ∧ DenL G [a] H ws' (_ :: _) := fun h => by
        obtain ⟨a', e1, h⟩ := ob_some.mp h
        obtain ⟨y, e2, e3⟩ := omap_some.mp h
        obtain ⟨fl, rfl⟩ := nf_of e1
        obtain ⟨ws2, n2, xs2⟩ := y
        cases e3
        obtain ⟨a, us, h1, h2, h3, h4, h5, h6⟩ := ih l e2
        exact ⟨a, us, h1, h2, h3, h4, h5, .cons (fl G p _ H _ d) h6⟩
      cases w0 with
      | ref m =>
        have h : (match s.get m with
          | some (.lst xs) => (nfL xs).ob fun xs' => (nfL ws).om fun as' => (Mv.ref 0 :: as', m, xs')
          | _ => none) = some (ws', n, xs) := h
        split at h
        · rename_i zs e1
          obtain ⟨xs', g1, h⟩ := ob_some.mp h
          obtain ⟨as', g2, g3⟩ := omap_some.mp h
          have en : m = n := congrArg (fun z : List Mv × Nat × List Mv => z.2.1) g3
          subst en
          cases g3
          obtain ⟨fx, rfl⟩ := nfL_of g1
          obtain ⟨fw, rfl⟩ := nfL_of g2
          cases d with
          | ref hn =>
            rename_i ad
            obtain ⟨o, ho, q1, q2, q3⟩ := S.ob _ ad hn
            rw [e1] at q1; cases q1
            obtain ⟨us, rfl, lu, sz⟩ := q3
            exact ⟨ad, us, hn, q2, sz, fx, lu, .cons (.ref rfl) (fw G p _ H _ l)⟩
        · cases h
      | _ => exact easy h
noncomputable def g1 (f : Fn) (ws xs : List Mv) : Option (Res × List Mv) := ob2 (f ws (one (.lst xs))) fun w s => match s.get 0 with
  | some (.lst ys) => (resOf 1 w s).ob fun r => cpL ys fun ys' => some (r, ys')
  | _ => none
noncomputable def pureH (f : Fn) : Fn := fun ws s => Option.rec (motive := fun _ => Option (Mv × Ms)) none (fun x => Prod.rec (motive := fun _ => Option (Mv × Ms)) (fun ws' y => Prod.rec (motive := fun _ => Option (Mv × Ms)) (fun n xs => ob2 (g1 f ws' xs) fun r ys => resIn r (s.put n (.lst ys))) y) x) (nf1 ws s)
theorem pureH_sp {f : Fn} {vs : List V} {H : Hp} {Q : VK} {E : XK} (hs : spM G (pureH f) vs H Q E) : spM G f vs H Q E := by
  obtain ⟨p, s, ws, w, s', S, l, q, kk⟩ := hs
  unfold pureH at q
  cases e0 : nf1 ws s with
  | none => rw [e0] at q; cases q
  | some x =>
    obtain ⟨ws', n, xs⟩ := x
    rw [e0] at q
    have q : ob2 (g1 f ws' xs) (fun r ys => resIn r (s.put n (.lst ys))) = some (w, s') := q
    obtain ⟨r, ys, eg, q⟩ := ob2_some q
    obtain ⟨w1, s1, q1, eg⟩ := ob2_some eg
    obtain ⟨a, us, hn, hH, sz, fl, lx, lw⟩ := nf1_of S l e0
    refine ⟨[a], _, ws', w1, s1, Sim.one (o := .lst xs) hH ⟨us, rfl, fl G p _ H us lx, sz⟩, lw, q1, fun p1 v H' S1 f1 d1 => ?_⟩
    obtain ⟨q3, rfl, hq⟩ := id f1.pre
    split at eg
    · rename_i zs ey
      obtain ⟨r', er, eg⟩ := ob_some.mp eg
      obtain ⟨fy, eg⟩ := cpL_of zs _ _ eg
      have ez : zs = ys := congrArg (fun z : Res × List Mv => z.2) (Option.some.inj eg)
      have ew : r' = r := congrArg (fun z : Res × List Mv => z.1) (Option.some.inj eg)
      subst ez ew
      obtain ⟨S2, f2⟩ := S.back (o' := .lst zs) hn S1 f1 fun ho h2 => by
        obtain ⟨o3, ho3, g1, g2, g3⟩ := S1.ob 0 a (by simp)
        rw [ey] at g1; cases g1
        rw [h2] at g2; cases g2
        obtain ⟨vs3, rfl, l3, z3⟩ := g3
        exact ⟨vs3, rfl, fy G _ p H' vs3 l3, z3⟩
      have nd : a ∉ q3 := fun h => by
        have := S1.nd
        rw [List.nodup_append] at this
        exact this.2.2 a (by simp) a h rfl
      obtain ⟨p', h1, h2, h3⟩ := resIn_of er q (p0 := [a]) rfl S2 f2 S1 (fun z hz => hq z hz (by simp; rintro rfl; exact nd hz)) S d1
      exact kk p' v H' h1 h2 h3
    · cases eg
noncomputable def pureY (f : Fn) : Fn := fun ws s => Option.rec (motive := fun _ => Option (Mv × Ms)) (Option.rec (motive := fun _ => Option (Mv × Ms)) (f ws s) (fun r => some r) (pureH f ws s)) (fun r => some r) (pureG f ws s)
theorem pureY_ok {f : Fn} (F : FnOk P w K mg base CX0 k fa fd ps (spM G f)) : FnOk P w K mg base CX0 k fa fd ps (spM G (pureY f)) := by
  refine F.imp fun vs H Q E hs => ?_
  obtain ⟨p, s, ws, w, s', S, l, q, kk⟩ := hs
  unfold pureY at q
  cases e1 : pureG f ws s with
  | some r =>
    rw [e1] at q
    exact pureG_sp ⟨p, s, ws, w, s', S, l, e1.trans q, kk⟩
  | none =>
    rw [e1] at q
    cases e2 : pureH f ws s with
    | some r =>
      rw [e2] at q
      exact pureH_sp ⟨p, s, ws, w, s', S, l, e2.trans q, kk⟩
    | none =>
      rw [e2] at q
      exact ⟨p, s, ws, w, s', S, l, q, kk⟩
end

end
section
/-! ### promises of defs that are called while nothing is being shown (repr's own guards are empty) -/
structure FnG (P : Program) (w : World) (K : PySem.W.Frag) (mg : Str → Option Value) (base : Heap) (k : Nat) (f : Addr) (fd : FuncData) (ps : List Str) (sp : Sp) : Prop where
  len : ∀ vs H Q E, sp vs H Q E → vs.length = ps.length
  run : ∀ B : Around, B.guards = some [] → ∀ (ou : List Env) (st : Shared) (H : Hp) (ar : Args) (us : List Value) (vs : List V) (Q : VK) (E : XK), Room k B → Env0 P w K mg base B ou st H → BindsTo st fd ar (ps.zip us) → Vals vs us → sp vs H Q E →
    codeAny (model P w) B (.call (.ref f) ar) (CR CX0 ou P w H st Q E) st
section
variable {P : Program} {w : World} {K : PySem.W.Frag} {mg : Str → Option Value} {base : Heap} {k : Nat} {f : Addr} {fd : FuncData} {ps : List Str} {sp sp' : Sp}
theorem FnG.imp (F : FnG P w K mg base k f fd ps sp) (h : ∀ vs H Q E, sp' vs H Q E → sp vs H Q E) : FnG P w K mg base k f fd ps sp' :=
  ⟨fun vs H Q E q => F.len vs H Q E (h vs H Q E q), fun B g ou st H ar us vs Q E a1 a2 a3 a4 a5 => F.run B g ou st H ar us vs Q E a1 a2 a3 a4 (h vs H Q E a5)⟩
theorem fnG_of {x qual : Str} {params : Arguments} {body : List Stmt} {scope : Scope} {dvs : List V} {kws : List (Str × V)} {N : List Str} (F : FunD K x qual params body scope dvs kws f fd) (S : FnScope N ps scope) (len : ∀ vs H Q E, sp vs H Q E → vs.length = ps.length)
    (hb : ∀ (cd : Value) (B : Around), B.guards = some [] → ∀ (ou : List Env) (st : Shared) (H : Hp) (vs : List V) (Q : VK) (E : XK), Room k (B.deeper (envOfC qual scope st.heap.objs.size f cd)) → sp vs H Q E →
      ∃ t, PSs (cxOf CX0 P w K mg base N qual scope f cd B ou st H E) body t ∧ t { nx := fun _ H' => Q .non H', rt := Q } (L2.start N vs) H) : FnG P w K mg base (k + 1) f fd ps sp := by
  obtain ⟨_, _, _, _, _, _, _, cd, _, _, rfl, look, hcode, _, _⟩ := F.ex
  refine ⟨len, fun B g ou st H ar us vs Q E room env bind rel pre => ?_⟩
  have inK : K.In st.heap := env.mod.kin.keeps fun b o z => (env.bs b o z).1
  have noLim : st.heap.NoLimit := env.mod.nolimit.keeps fun b o z => (env.bs b o z).1
  have kinds : ∀ y ∈ ps.zip us, scope.names.lookup y.1 = some .local ∨
      (scope.names.lookup y.1 = some .cell ∧ ((cellsFrom (st.heap.objs.size + 1) scope.names []).lookup y.1).isSome = true) := by
    rintro ⟨nm, v⟩ hy
    cases S.par nm (List.of_mem_zip hy).1 with
    | inl z => exact .inl z
    | inr z => exact .inr ⟨z, PySem.W.cellsFrom_some _ _ _ (.inl z)⟩
  refine codeAny_call_function room.depth (inK _ _ look) rfl S.co S.gen rfl (PySem.W.codeRec_of inK hcode) (bind _ _ _ _ ?_)
  refine wpAny_newFunctionEnv_cells S.kind kinds fun en hen s2 z => ?_
  subst hen
  refine ⟨noLim.keeps z.toInCall.keep, codeAny_func ?_⟩
  obtain ⟨t, ht, hq⟩ := hb cd B g ou st H vs Q E (room.deeper _) pre
  have I0 := inv_start (CX := CX0) (E := E) S room.hd env (len _ _ _ _ pre) rel z
  refine wpAny_mono (ht.run [] s2 (L2.start N vs) H _ I0 hq) (fun fl s3 hs => ?_) fun _ _ hs => hs
  cases fl with
  | ret u =>
    obtain ⟨v, _, H3, J, rv, q⟩ := hs
    exact ⟨v, H3, J.os, J.bare, J.base, J.hok, rv, q⟩
  | next =>
    obtain ⟨_, H3, J, q⟩ := hs
    exact ⟨V.non, H3, J.os, J.bare, J.base, J.hok, rfl, q⟩
  | brk => obtain ⟨_, _, _, q⟩ := hs; exact q.elim
  | cont => obtain ⟨_, _, _, q⟩ := hs; exact q.elim
end
section
variable {X : Cx} {G : Mg} {x : Str} {p0 pos : Pos} {e : Expr} {es : List Expr} {A : Fa} {f : Fn}
theorem pe_callG {k : Nat} {fa : Addr} {fd : FuncData} {ps : List Str} {sp : Sp} {t : TA} {E : XK} (F : FnG X.prog X.w X.K X.mg X.base k fa fd ps sp) (gd : X.A.guards = some []) (hr : Room k X.A) (hg : Gl X x) (hm : X.mg x = some (.ref fa)) (hk : PySem.W.keepIn X.K (.ref fa) = true) (hb : Binds X.K fd ps []) (ha : PA X (e :: es) t)
    (hdb : (x == ("__debug__" : Str)) = false := by decide) (he : starEach (e :: es) X.env = (false, eval e X.env) :: starEach es X.env := by rfl) (hpl : (backTo pos (starEach es X.env)).any (·.1) = false := by rfl) :
    PE X (.Call (.Name x p0) (e :: es) [] pos) (tCall sp [] E t) := by
  refine ⟨fun pins st σ H Q I h => wpAny_Call_Name_kw (ld_glob I hg hm ?_ hdb)⟩
  refine PySem.W.callWith_K (h₀ := X.base) I.ok.mod.kin hk (thn (ha.run pos pins st σ H _ I h) fun us s2 hz => ?_) he hpl
  obtain ⟨vs, H2, I2, rel, pre⟩ := hz
  refine ⟨I2.kIn, ?_⟩
  have rel2 : Vals (vs ++ []) (us ++ []) := rel.append .nil
  have hlen : (us ++ []).length = ps.length := by
    rw [← rel2.length]
    exact F.len _ _ _ _ pre
  refine wpAny_call (codeAny_mono (F.run X.A gd X.stack s2 H2 ⟨us, []⟩ (us ++ []) (vs ++ []) Q E hr I2.env0 (hb s2 us I2.kIn hlen) rel2 pre) fun r s3 hq => ?_)
  match r, hq with
  | .error _, hq => exact hq.elim
  | .ok (.ret u), hq => exact I2.after hq
  | .ok .next, hq => exact hq.elim
  | .ok .brk, hq => exact hq.elim
  | .ok .cont, hq => exact hq.elim
theorem pm_callG {k : Nat} {fa : Addr} {fd : FuncData} {ps : List Str} (F : FnG X.prog X.w X.K X.mg X.base k fa fd ps (spM G f)) (gd : X.A.guards = some []) (hr : Room k X.A) (hg : Gl X x) (hm : X.mg x = some (.ref fa)) (hk : PySem.W.keepIn X.K (.ref fa) = true) (hb : Binds X.K fd ps []) (ha : PA X (e :: es) (tA G A))
    (hdb : (x == ("__debug__" : Str)) = false := by decide) (he : starEach (e :: es) X.env = (false, eval e X.env) :: starEach es X.env := by rfl) (hpl : (backTo pos (starEach es X.env)).any (·.1) = false := by rfl) :
    PE X (.Call (.Name x p0) (e :: es) [] pos) (tI G (mcall f A)) := pe_imp (pe_callG (E := fun _ _ _ => False) F gd hr hg hm hk hb ha hdb he hpl) fun σ H Q h => by
  obtain ⟨p, s, r, w, s', S, E, q, k⟩ := t_call h
  exact ⟨p, s, r, w, s', S, E, q, fun p1 vs H1 S1 f1 d1 => by
    show rF G f (vs ++ []) H1 Q
    rw [List.append_nil]
    exact k p1 vs H1 S1 f1 d1⟩
theorem fn_okG {P : Program} {w : World} {K : PySem.W.Frag} {mg : Str → Option Value} {base : Heap} {x qual : Str} {st : Stmt} {f : Addr} {fd : FuncData} {N ps : List Str} {k : Nat} {B : Fs} {dvs : List V} {kws : List (Str × V)} (F : FunD K x qual (defArgs st) (defBody st) (defScope st) dvs kws f fd) (sc : FnScope N ps (defScope st)) {np nl : Nat} (hnp : ps.length = np := by rfl) (hnl : N.length = nl := by rfl)
    (hb : ∀ (cdv : Value) (A : Around) (_ : A.guards = some []) (outer : List Env) (s : Shared) (H : Hp) (E : XK), Room k (A.deeper (envOfC qual (defScope st) s.heap.objs.size f cdv)) → PSs (cxOf CX0 P w K mg base N qual (defScope st) f cdv A outer s H E).nox (defBody st) (tS G B)) :
    FnG P w K mg base (k + 1) f fd ps (spM G (fnM np nl B)) := by
  subst hnp hnl
  have len : ∀ vs H Q E, spM G (fnM ps.length N.length B) vs H Q E → vs.length = ps.length := by
    rintro vs H Q E ⟨p, s, ws, u, s', S, l, q, k'⟩
    rw [← l.length]
    unfold fnM at q
    cases e : Nat.beq ws.length ps.length with
    | false => rw [e] at q; cases q
    | true => exact Nat.eq_of_beq_eq_true e
  refine fnG_of F sc len fun cdv A gd outer s H vs Q E hr h => ⟨_, PSs.nox (hb cdv A gd outer s H E hr), ?_⟩
  have hlen := len vs H Q E h
  obtain ⟨p, s0, ws, u, s', S, l, q, k'⟩ := h
  unfold fnM at q
  cases e : Nat.beq ws.length ps.length with
  | false => rw [e] at q; cases q
  | true =>
    rw [e] at q
    obtain ⟨⟨fl, r', s1⟩, q1, q2⟩ := ob_some.mp q
    refine ⟨p, s0, _, fl, r', s1, S, ?_, q1, fun p1 H1 S1 f1 => ?_⟩
    · show EnvR G p H _ (L2.start N vs)
      unfold L2.start
      rw [hlen]
      rw [lsome_eq]
      exact envR_start _ l
    · cases fl with
      | rt w' =>
        have q2' : some (w', s1) = some (u, s') := q2
        cases q2'
        exact fun v d => k' p1 v H1 S1 f1 d
      | nx =>
        have q2' : some (Mv.non, s1) = some (u, s') := q2
        cases q2'
        exact fun σ E => k' p1 _ H1 S1 f1 .non
      | bk => cases q2
      | ct => cases q2
end

end
section
/-! ### repr of a list, a tuple; a try that runs through -/
theorem bb_repr : bootBuiltins "repr" = some (.builtin "repr") := by decide +kernel
noncomputable def showD (d : PyData) : Bool := PyData.showable d && (!PyData.hasDict d && (Nat.ble (PyData.depth d) 30 && Nat.ble (PyData.shown d).length 16777216))
noncomputable def reprW : Fn := fun ws s => match ws with
  | [.ref n] => (toD 24 s (.ref n)).ob fun d => cond (showD d) (some (.str (PyData.shown d), s)) none
  | [.tup xs] => (toD 24 s (.tup xs)).ob fun d => cond (showD d) (some (.str (PyData.shown d), s)) none
  | _ => none
section
variable {X : Cx} {G : Mg}
theorem cm_repr (gd : X.A.guards = some []) (hu : X.A.units + 64 < cLine) (hK : X.K = G.K := by rfl) : CallR X (.builtin "repr") (rF G reprW) := by
  intro pins st σ H xs us Q I r h
  obtain ⟨p, ms, ws, w, ms', S, l, q, k⟩ := h
  have core : ∀ (w0 : Mv) (a : Addr) (u : Value), Den G p H w0 (.ref a) → RelV (.ref a) u → (toD 24 ms w0).ob (fun d => cond (showD d) (some (Mv.str (PyData.shown d), ms)) none) = some (w, ms') → wpAny (model X.prog X.w) X.A (call (.builtin "repr") [u]) (EP X pins σ Q) X.xe st := by
    intro w0 a u d0 ru q
    obtain ⟨d, q1, q2⟩ := ob_some.mp q
    cases ec : showD d with
    | false => rw [ec] at q2; cases q2
    | true =>
      rw [ec] at q2
      cases q2
      unfold showD at ec
      obtain ⟨c1, c2⟩ := Bool.and_eq_true_iff.mp ec
      obtain ⟨c3, c4⟩ := Bool.and_eq_true_iff.mp c2
      obtain ⟨c5, c6⟩ := Bool.and_eq_true_iff.mp c4
      have o1 := toD_ok S 24 _ _ _ d0 q1
      obtain ⟨as, rd⟩ := Dp.reads I d (.ref a) u (by rw [hK]; exact o1.dp) ru
      have eu : u = .ref a := ru
      subst eu
      have nd : PyData.hasDict d = false := by
        cases z : PyData.hasDict d with
        | false => rfl
        | true => rw [z] at c3; cases c3
      have hd := Nat.le_of_ble_eq_true c5
      have hz : (PyData.shown d).length ≤ sizeLine := by rw [sz_eq]; exact Nat.le_of_ble_eq_true c6
      exact repr_of_reads' rd c1 (fun z => by rw [nd] at z; cases z) gd (by omega) (fun _ _ e => e) (fun h' u tk hk => ⟨.str _, H, I.kept hk, ⟨u, rfl⟩, k p _ H S Fra.refl (.str _)⟩) hz
  match ws, l, q with
  | [.ref n], .cons (.ref hn) .nil, q =>
    cases r with
    | cons r1 r2 =>
      cases r2
      exact core _ _ _ (.ref hn) r1 q
  | [.tup xs0], .cons (.tup ht lt) .nil, q =>
    cases r with
    | cons r1 r2 =>
      cases r2
      exact core _ _ _ (.tup ht lt) r1 q
/-! sorted(d), d's keys being texts -/
noncomputable def keysS : List (Key × Mv) → Option (List Str)
  | [] => some []
  | (.inr x, _) :: r => (keysS r).om fun ys => x :: ys
  | _ => none
theorem keysS_ok : ∀ {kvs : List (Key × Mv)} {ks : List Str}, keysS kvs = some ks → kvs.map (·.1) = ks.map Sum.inr
  | [], _, h => by cases h; rfl
  | (.inr x, v) :: r, ks, h => by
    obtain ⟨ys, h1, h2⟩ := omap_some.mp (show (keysS r).om (fun ys => x :: ys) = some ks from h)
    cases h2
    show Sum.inr x :: r.map (·.1) = _
    rw [keysS_ok h1]
    rfl
  | (.inl x, v) :: r, ks, h => by cases h
noncomputable def srtDW : Fn := fun ws s => match ws with
  | [.ref n] => match s.get n with
    | some (.dk kvs) => (keysS kvs).ob fun ks => cond (Nat.blt ks.length 64) (newL ((sortS ks).map .str) s) none
    | _ => none
  | _ => none
theorem cm_srtD (hc : X.calm = true) : CallR X (.builtin "sorted") (rF G srtDW) := cal_imp (call_sortedD hc) fun xs H Q ⟨p, s, ws, w, s', S, l, q, k⟩ => by
  match ws, l, q with
  | [.ref n], .cons (.ref hn) .nil, q =>
    have q : (match s.get n with
      | some (.dk kvs) => (keysS kvs).ob fun ks => cond (Nat.blt ks.length 64) (newL ((sortS ks).map .str) s) none
      | _ => none) = some (w, s') := q
    split at q
    · rename_i kvs e
      obtain ⟨ks, g1, g2⟩ := ob_some.mp q
      cases eb : Nat.blt ks.length 64 with
      | false => rw [eb] at g2; cases g2
      | true =>
        rw [eb] at g2
        obtain ⟨ho, hH, kvs', rfl, c1, c2⟩ := S.get hn e
        refine ⟨_, kvs', ks, rfl, .inl hH, by rw [c1]; exact keysS_ok g1, Nat.blt_eq.mp eb, fun ys P hp hsrt hP => ?_⟩
        rw [sortS_uniq hp hsrt]
        exact (newL_ok S (denL_strs (sortS ks)) g2 k).2 P hP
    · cases q
theorem sm_try {body : List Stmt} {h0 : ExceptHandler} {hs : List ExceptHandler} {pos : Pos} {B : Fs} (hn : ∀ e s, ¬ X.xe e s) (hb : PSs X body (tS G B)) : PS X (.Try body (h0 :: hs) [] [] pos) (tS G B) := by
  refine ps_imp (ps_try_never hn hb pss_nil) fun D σ H z => ?_
  exact z
end

end
section
/-! ### the end of a law whose def wants empty guards -/
theorem law_callG {P : Program} {w : World} {K : PySem.W.Frag} {mg mb : Str → Option Value} {k : Nat} {fa a : Addr} {fd : FuncData} {x : Str} {sp : Sp} {st : Shared} {vs : List Value} {ns : List Int}
    (KX : K.In st.heap) (gl : st.heap.Ns mainGlobals mg) (bl : st.heap.Ns builtinsNs mb) (boot : ∀ y : Str, y ≠ "__name__" → mb y = bootBuiltins y) (lim : st.heap.NoLimit) (gens : st.gens = #[])
    (ha : st.heap.get? a = some { cls := .type "list", data := .seq vs.toArray }) (hi : IntsAre vs ns) (hl : ns.length ≤ sizeLine) (room : Room k callerA)
    (F : ∀ base : Heap, K.In base → base.Ns mainGlobals mg → FnG P w K mg base k fa fd [x] sp) (bind : ∀ (s : Shared) (u : Value), BindsTo s fd ⟨[u], []⟩ [(x, u)])
    (pre : ∀ H : Hp, Only H → SqL K H a (ns.map V.int) → sp [.ref a] H (fun v _ => v = .bl true) fun _ _ _ => False) :
    codeAny (model P w) callerA (.call (.ref fa) ⟨[.ref a], []⟩) (fun r s2 => r = .ok (.ret (.bool true)) ∧ OldK st.heap s2.heap ∧ s2.os = st.os ∧ AllBare s2.gens) st := by
  have rel := vals_ints hi
  have main : ∀ H : Hp, (∀ b o, H b = some o → b = a ∧ K.lookup a = none ∧ o = .frz { cls := .type "list", data := .seq vs.toArray } (.lst (ns.map V.int))) → SqL K H a (ns.map V.int) →
      codeAny (model P w) callerA (.call (.ref fa) ⟨[.ref a], []⟩) (fun r s2 => r = .ok (.ret (.bool true)) ∧ OldK st.heap s2.heap ∧ s2.os = st.os ∧ AllBare s2.gens) st := by
    intro H hH hS
    have free : ∀ {b : Addr} {o : Obj}, st.heap.get? b = some o → (∀ us m, o.data ≠ .seq us m) → H b = none := by
      intro b o e hd
      cases q : H b with
      | none => rfl
      | some u =>
        obtain ⟨rfl, _, _⟩ := hH b u q
        rw [ha] at e
        cases e
        exact (hd _ _ rfl).elim
    have spaces : ∀ {b : Addr} {m : Str → Option Value}, st.heap.Ns b m → (hidT st.heap H).Ns b m := by
      rintro b m ⟨o, es, ep, e, d, r⟩
      exact ⟨o, es, ep, hidT_get e (free e fun us m z => by rw [d] at z; cases z), d, r⟩
    have inB : K.In (hidT st.heap H) := fun b o e => by
      refine hidT_get (KX b o e) ?_
      cases q : H b with
      | none => rfl
      | some u =>
        obtain ⟨rfl, z, _⟩ := hH b u q
        rw [z] at e
        cases e
    have md : L2.Mod K mg (hidT st.heap H) := by
      obtain ⟨mc, l1, l2⟩ := lim
      exact ⟨inB, spaces gl, ⟨mb, spaces bl, boot⟩, mc, spaces l1, l2⟩
    have good : HOk P w H st.heap := fun b u z => by
      obtain ⟨rfl, _, rfl⟩ := hH b u z
      exact ⟨ha, by rw [List.length_map]; exact hl, vs, _, rel, ha⟩
    have only : Only H := fun b => by
      cases q : H b with
      | none => exact .inl rfl
      | some u =>
        obtain ⟨_, _, rfl⟩ := hH b u q
        exact .inr ⟨_, _, rfl⟩
    have env : Env0 P w K mg (hidT st.heap H) callerA [] st H :=
      ⟨rfl, md, fun _ _ e => of_hidT e, Nat.le_of_eq (hidT_size _ _), trivial, fun b hb => (by cases (show b ∈ ([] : List Addr) from hb)), good, .of_eq gens⟩
    refine codeAny_mono ((F _ inB (spaces gl)).run callerA rfl [] st H ⟨[.ref a], []⟩ [.ref a] [.ref a] _ _ room env (bind st (.ref a)) (.cons rfl .nil) (pre H only hS)) fun r s2 h => ?_
    match r, h with
    | .error _, h => exact h.elim
    | .ok .next, h => exact h.elim
    | .ok .brk, h => exact h.elim
    | .ok .cont, h => exact h.elim
    | .ok (.ret u), h =>
      obtain ⟨v, H2, os, bare, un, good2, rv, q⟩ := h
      have ev : v = .bl true := q
      subst ev
      have eu : u = Value.bool true := rv
      subst eu
      refine ⟨rfl, OldK.of_keep fun b o e => ?_, os, bare⟩
      cases z : H b with
      | none => exact un.keep b o e z (fun y => by cases (show b ∈ ([] : List Addr) from y)) (by simp)
      | some u2 =>
        obtain ⟨rfl, _, rfl⟩ := hH b u2 z
        obtain ⟨g, _⟩ := good2 b _ (un.frzs b _ _ z)
        rw [ha] at e
        cases e
        exact g
  cases hk : K.lookup a with
  | some o =>
    have e := KX a o hk
    rw [ha] at e
    cases e
    exact main (fun _ => none) (fun b o z => by cases z) (.inr ⟨_, vs.toArray, _, hk, rfl, rfl, rfl, by rw [List.size_toArray, hi.length]; exact hl, by simpa using rel⟩)
  | none =>
    refine main (fun b => if b = a then some (.frz { cls := .type "list", data := .seq vs.toArray } (.lst (ns.map V.int))) else none) (fun b o z => ?_) (.inl (.inr ⟨_, if_pos rfl⟩))
    by_cases hb : b = a
    · have z2 := (if_pos hb).symm.trans z
      cases z2
      exact ⟨hb, hk, rfl⟩
    · have z2 := (if_neg hb).symm.trans z
      cases z2
theorem walk_ofG {l : PySem.W.OpenLaw} {n k : Nat} {q : Program} {loose : List Str} {XP : (Str → Option Value) → Heap → Prop} {YP : World → Heap → Prop} {d : DefRec} {x : Str} (hn : l.most = some n) (hn2 : n ≤ sizeLine) (hdf : d.params.defaults = []) (room : Room k callerA)
    (F : ∀ (w : World) (mg : Str → Option Value) (fa : Addr) (h : Heap), YP w h → h.Ns mainGlobals mg → mg d.name = some (.ref fa) →
      ∃ (K : PySem.W.Frag) (fd : FuncData) (sp : Sp), K.In h ∧ (∀ (s : Shared) (u : Value), BindsTo s fd ⟨[u], []⟩ [(x, u)]) ∧
        (∀ (H : Hp) (a : Addr) (ns : List Int), ns.length ≤ n → Only H → SqL K H a (ns.map V.int) → sp [.ref a] H (fun v _ => v = .bl true) fun _ _ _ => False) ∧
        ∀ base : Heap, K.In base → base.Ns mainGlobals mg → FnG l.prog w K mg base k fa fd [x] sp) :
    PySem.W.WalkO q loose XP YP l.row.toRowW d [] (fun f vs => PySem.call f vs) := by
  refine Att.attach_call hn hdf fun w _ s1 mg mb fa _ _ _ _ a vs ns top Y _ _ _ hmg hob hint hlen gens => ?_
  obtain ⟨K, fd, sp, KX, bind, pre, hF⟩ := F w mg fa _ Y top.T.g hmg
  exact law_callG KX top.T.g top.T.b top.T.builtins top.T.nolimit gens hob hint (Nat.le_trans hlen hn2) room hF bind fun H only sq => pre H a ns hlen only sq
/-! ### a def of one source, as before -/
theorem right_boxG {G : Mg} {P : Program} {w : World} {K : PySem.W.Frag} {mg : Str → Option Value} {base : Heap} {k : Nat} {fa : Addr} {fd : FuncData} {ps : List Str} {f : Fn} {ks : List Int} (F : FnG P w K mg base k fa fd ps (spM G f)) (hd : DrIn G.dr) (hk : ∀ k ∈ ks, (1 : Int) ≤ k) (h : ∀ m ds, InB ks ds → ∃ s', f [.ref 0] (one (.box m ds)) = some (.bl true, s') ∧ s'.get 0 = some (.box (m + ks.length) [])) : FnG P w K mg base k fa fd ps (spM G (rightB ks)) := by
  refine F.imp fun vs H Q E hs => ?_
  obtain ⟨p, s, ws, w, s', S, l, q, kk⟩ := hs
  match ws, l, q with
  | [.ref b], .cons (.ref hb) .nil, q =>
    rename_i ab
    have core : ∀ (a c n : Int) (m : Nat), H ab = some (.lst [.int a, .int c, .int n]) → BoxOk a c n → n ≤ m → m + ks.length ≤ 1000000 → (w, s') = (.bl true, s.put b (.box (m + ks.length) [])) → spM G f [.ref ab] H Q E := by
      intro a c n m hH ok hn hm e
      cases e
      obtain ⟨s1, t1, t2⟩ := h m (drs G.dr ks a c n) (drs_in hd ks hk a c n ok)
      refine ⟨[ab], _, [.ref 0], .bl true, s1, Sim.one (o := .box m (drs G.dr ks a c n)) hH ⟨a, c, n, rfl, ok, hn, by rw [drs_len]; exact hm, drs_Dr G.dr ks a c n⟩, .cons (.ref rfl) .nil, t1, fun p1 v H' S1 f1 d1 => ?_⟩
      obtain ⟨q1, rfl, _⟩ := id f1.pre
      obtain ⟨S2, f2⟩ := S.back (o' := .box (m + ks.length) []) hb S1 f1 fun ho h2 => by
        obtain ⟨o3, ho3, g1, g2, g3⟩ := S1.ob 0 ab (by simp)
        rw [t2] at g1; cases g1
        rw [h2] at g2; cases g2
        exact g3
      cases d1
      exact kk p _ H' S2 f2 (.bl _)
    have q' : (match s.get b with
      | some (.box m []) => cond (Nat.ble (m + ks.length) 1000000) (some (Mv.bl true, s.put b (.box (m + ks.length) []))) none
      | some (.lst [.int a, .int c, .int n]) => cond (decide (0 ≤ a) && (decide (0 ≤ c) && (decide (c < 2 ^ 62) && (decide (n = 0) && Nat.ble ks.length 1000000)))) (some (Mv.bl true, s.put b (.box ks.length []))) none
      | _ => none) = some (w, s') := q
    split at q'
    · rename_i m e
      cases ec : Nat.ble (m + ks.length) 1000000 with
      | false => rw [ec] at q'; cases q'
      | true =>
        rw [ec] at q'
        obtain ⟨ho, hH, a, c, n, rfl, ok, hn, hm, _⟩ := S.get hb e
        exact core a c n m hH ok hn (Nat.le_of_ble_eq_true ec) (Option.some.inj q').symm
    · rename_i a c n e
      cases ec : (decide (0 ≤ a) && (decide (0 ≤ c) && (decide (c < 2 ^ 62) && (decide (n = 0) && Nat.ble ks.length 1000000)))) with
      | false => rw [ec] at q'; cases q'
      | true =>
        rw [ec] at q'
        obtain ⟨c1, c2⟩ := Bool.and_eq_true_iff.mp ec
        obtain ⟨c3, c4⟩ := Bool.and_eq_true_iff.mp c2
        obtain ⟨c5, c6⟩ := Bool.and_eq_true_iff.mp c4
        obtain ⟨c7, c8⟩ := Bool.and_eq_true_iff.mp c6
        obtain ⟨ho, hH, vs3, rfl, l3, _⟩ := S.get hb e
        rw [ints3 l3] at hH
        have hn := of_decide_eq_true c7
        subst hn
        refine core a c 0 0 hH ⟨of_decide_eq_true c1, of_decide_eq_true c3, of_decide_eq_true c5, by decide⟩ (by decide) (by have := Nat.le_of_ble_eq_true c8; omega) ?_
        rw [Nat.zero_add]
        exact (Option.some.inj q').symm
    · cases q'

end
section
/-! ### sets of tuples of texts: at most four of them (the first table) -/
section
variable {P : Program} {w : World} {A : Around} {E : Value → Shared → Prop} {s : Shared}
abbrev TX (P : Program) (w : World) (hp : Heap) (k : List Str) (b : Addr) : Prop := IsTupleKey (PySem.strKind P w) hp k b
abbrev hX (P : Program) (w : World) (k : List Str) : Int := tupleKeyHash (PySem.strKind P w) k
theorem TX.held {hp hp' : Heap} {k : List Str} {b : Addr} (x : TX P w hp k b) (g : ∀ c o, hp.get? c = some o → hp'.get? c = some o) : TX P w hp' k b :=
  let ⟨o, its, n, e, r⟩ := x
  ⟨o, its, n, g b o e, r⟩
theorem TX.but {hp hp' : Heap} {k : List Str} {a b : Addr} {o : Obj} {es : Array (Int × Value)} {ep : Nat} {t : SetTable} (x : TX P w hp k b) (e : hp.get? a = some o) (d : o.data = .set es ep t) (sb : Heap.SameBut a hp hp') : TX P w hp' k b := by
  obtain ⟨o1, its, n, e1, c, d1, r⟩ := x
  refine ⟨o1, its, n, ?_, c, d1, r⟩
  rw [sb.2 b fun z => ?_]
  · exact e1
  · rw [z, e] at e1
    cases e1
    rw [d] at d1
    cases d1
theorem txt_of {k : List Str} {vs : List Value} (h : ItemsAre (PySem.strKind P w) k vs) : ∀ v ∈ vs, ∃ y t, v = Value.str y t := by
  induction h with
  | nil => exact fun _ z => nomatch z
  | @cons y u _ _ hu _ ih =>
    intro v hv
    cases hv with
    | head => obtain ⟨t, e⟩ := Value.isStrOf_shape hu; exact ⟨y, t, e⟩
    | tail _ hv => exact ih v hv
theorem cls_txt (n : Nat) (y : Str) (t : Tok) : ofAClassStatement n (.str y t) = pure false := by cases n <;> rfl
theorem hby_txt (n : Nat) (y : Str) (t : Tok) : hashByValue n (.str y t) = pure false := by cases n <;> rfl
theorem cls_tup {k : List Str} {b : Addr} {Q : Bool → Shared → Prop} (hk : TX P w s.heap k b) (h : Q false s) : wpAny (model P w) A (ofAClassStatement 8 (.ref b)) Q E s := by
  have ty := hk.typeIs
  obtain ⟨o, its, n, e1, _, e2, e3⟩ := hk
  unfold ofAClassStatement
  refine wpAny_bind (wpAny_typeOf ty ?_)
  simp only [show (("tuple" : String) == "tuple") = true by decide, if_true, Bool.not_true, Bool.false_eq_true, if_false]
  refine wpAny_bind (wpAny_pure ?_)
  simp only [Bool.not_true, Bool.false_eq_true, if_false]
  refine wpAny_bind (wpAny_seqItems e1 e2 ?_)
  refine wpAny_bind ?_
  rw [← Array.forIn_toList]
  refine wpAny_forIn_list _ (fun l r z => (r.1 = none ∧ z = s) ∧ ∀ v ∈ l, ∃ y t, v = Value.str y t) _ (fun v l r z q => ?_) (fun r z q => ?_) _ _ ⟨⟨rfl, rfl⟩, txt_of e3⟩
  · obtain ⟨⟨_, rfl⟩, hall⟩ := q
    obtain ⟨y, t, rfl⟩ := hall v (List.mem_cons_self ..)
    rw [cls_txt]
    exact wpAny_bind (wpAny_pure (wpAny_pure ⟨⟨rfl, rfl⟩, fun u hu => hall u (List.mem_cons_of_mem _ hu)⟩))
  · obtain ⟨r1, r2⟩ := r
    obtain ⟨⟨q1, rfl⟩, _⟩ := q
    cases q1
    exact wpAny_pure h
theorem hby_tup {k : List Str} {b : Addr} {Q : Bool → Shared → Prop} (hk : TX P w s.heap k b) (h : ∀ c, Q c s) : wpAny (model P w) A (hashByValue 8 (.ref b)) Q E s := by
  have ty := hk.typeIs
  obtain ⟨o, its, n, e1, _, e2, e3⟩ := hk
  unfold hashByValue
  refine wpAny_bind (wpAny_specialOf ty F.slot_tuple_hash.lookup ?_)
  refine wpAny_bind (wpAny_seqItems e1 e2 ?_)
  refine wpAny_bind ?_
  simp only
  rw [← Array.forIn_toList]
  refine wpAny_forIn_list _ (fun l r z => z = s ∧ r.1 = none ∧ ∀ v ∈ l, ∃ y t, v = Value.str y t) _ (fun v l r z q => ?_) (fun r z q => ?_) _ _ ⟨rfl, rfl, txt_of e3⟩
  · obtain ⟨rfl, hr, hall⟩ := q
    obtain ⟨y, t, rfl⟩ := hall v (List.mem_cons_self ..)
    rw [hby_txt]
    exact wpAny_bind (wpAny_pure (wpAny_pure (wpAny_pure (h false))))
  · obtain ⟨r1, r2⟩ := r
    obtain ⟨rfl, q1, _⟩ := q
    cases q1
    exact wpAny_pure (h true)
theorem quiet_tups {k : List Str} {b : Addr} {Q : Bool → Shared → Prop} (hk : TX P w s.heap k b) {ys : List Value} (hy : ∀ y ∈ ys, ∃ k' c, y = Value.ref c ∧ TX P w s.heap k' c) (h : Q false s) : wpAny (model P w) A (searchCouldBeSeen (.ref b) ys) Q E s := by
  unfold searchCouldBeSeen
  refine wpAny_bind (wpAny_forIn_list _ (fun l r z => (r.1 = none ∧ z = s) ∧ ∀ y ∈ l, y ∈ ys) _ (fun v l r z q => ?_) (fun r z q => ?_) _ _ ⟨⟨rfl, rfl⟩, fun _ z => z⟩)
  · obtain ⟨⟨_, rfl⟩, sub⟩ := q
    obtain ⟨k', c, rfl, hc⟩ := hy v (sub v (List.mem_cons_self ..))
    have fin : ∀ y ∈ l, y ∈ ys := fun u hu => sub u (List.mem_cons_of_mem _ hu)
    dsimp only
    split
    · exact wpAny_pure ⟨⟨rfl, rfl⟩, fin⟩
    · refine wpAny_bind (wpAny_eqIsQuiet_tuple hk ?_)
      refine wp_if_neg (by decide) (wpAny_bind (wpAny_eqIsQuiet_tuple hc ?_))
      refine wp_if_neg (by decide) (wpAny_bind (cls_tup hk ?_))
      refine wp_if_neg (by decide) (wpAny_bind (cls_tup hc ?_))
      exact wp_if_neg (by decide) (wpAny_pure ⟨⟨rfl, rfl⟩, fin⟩)
  · obtain ⟨r1, r2⟩ := r
    obtain ⟨⟨q1, rfl⟩, _⟩ := q
    cases q1
    exact wpAny_pure h
end

end
section
/-! ### such a set, looked through and added to -/
structure Few (P : Program) (w : World) (hp : Heap) (a : Addr) (L : List (Addr × List Str)) (es : Array (Int × Value)) (ep : Nat) (t : SetTable) : Prop where
  at' : ∃ o, hp.get? a = some o ∧ o.ExactSet ∧ o.data = .set es ep t
  row : es.toList = L.map fun q => (hX P w q.2, Value.ref q.1)
  tab : TabOk t (L.map fun q => hX P w q.2)
  once : (L.map (·.2)).Nodup
  key : ∀ q ∈ L, TX P w hp q.2 q.1
  led : w.params.followText "set-order" = true ∨ t.led = true
  m7 : t.mask = 7
  len : L.length ≤ 4
section
variable {P : Program} {w : World} {A : Around} {E : Value → Shared → Prop} {s : Shared} {a : Addr} {L : List (Addr × List Str)} {es : Array (Int × Value)} {ep : Nat} {t : SetTable}
theorem Few.size {hp : Heap} (F : Few P w hp a L es ep t) : es.size = L.length := by rw [← Array.length_toList, F.row, List.length_map]
theorem Few.psz {hp : Heap} (F : Few P w hp a L es ep t) : t.place.size = L.length := by rw [F.tab.sz, List.length_map]
theorem Few.fit {hp : Heap} (F : Few P w hp a L es ep t) : t.fits es.size = true := by
  have e1 := F.psz
  have e2 := F.size
  have e3 := F.len
  unfold SetTable.fits SetTable.fill
  rw [F.tab.dm, F.m7]
  simp only [Bool.and_eq_true, beq_iff_eq, decide_eq_true_eq]
  exact ⟨by omega, by show t.place.size + 0 ≤ 7; omega⟩
theorem Few.nth {hp : Heap} (F : Few P w hp a L es ep t) {i : Nat} {q : Addr × List Str} (h : L[i]? = some q) : es[i]? = some (hX P w q.2, Value.ref q.1) := by
  have z := congrArg (fun l => l[i]?) F.row
  simp only [Array.getElem?_toList, List.getElem?_map, h, Option.map_some] at z
  exact z
theorem Few.noway {hp : Heap} (F : Few P w hp a L es ep t) : ¬ t.gaveWay = true := by
  unfold SetTable.gaveWay
  rw [F.m7]
  decide
/-- the c-th probe for a hash -/
abbrev prb (t : SetTable) (h : Int) (c : Nat) : SetTable.Probe := L2.nth t.mask (runAt t.mask (SetTable.bits h % (t.mask + 1)) (SetTable.bits h)) c
theorem prb_dm (t : SetTable) (h : Int) : ∀ c, (prb t h c).dummy = none
  | 0 => rfl
  | c + 1 => by
    have z := prb_dm t h c
    show (L2.nth t.mask _ (c + 1)).dummy = none
    rw [nth_succ]
    unfold adv
    split <;> exact z
/-- the look, from the c-th probe on; K is the first free place, n the steps that are left -/
theorem look {k : List Str} {x : Addr} {K : Nat} {Q : SetFound → Shared → Prop} (F : Few P w s.heap a L es ep t) (hx : TX P w s.heap k x) (hu : A.units < cLine) (k1 : K < 10 * SetTable.turns t.mask) (k2 : (prb t (hX P w k) K).j ∉ t.place.toList) (k3 : ∀ c, c < K → (prb t (hX P w k) c).j ∈ t.place.toList)
    (yes : k ∈ L.map (·.2) → Q (.there none) s) (no : k ∉ L.map (·.2) → Q (.free (prb t (hX P w k) K).j false) s) (n : Nat) :
    ∀ (f c : Nat) (st : Option SetTable.Probe), K - c = n → c ≤ K → n < f → st.getD (t.probeStart (hX P w k)) = prb t (hX P w k) c →
      (∀ (i : Nat) (q : Addr × List Str), L[i]? = some q → q.2 = k → ∃ d, c ≤ d ∧ d < K ∧ t.place.toList[i]? = some (prb t (hX P w k) d).j) → wpAny (model P w) A (setSearchFrom a (.ref x) (hX P w k) true f st) Q E s := by
  induction n using Nat.strongRecOn with
  | _ n ih =>
    intro f c st hn hc hf hst ahead
    obtain ⟨f, rfl⟩ : ∃ g, f = g + 1 := ⟨f - 1, by omega⟩
    obtain ⟨o, e1, e2, e3⟩ := F.at'
    generalize eh : hX P w k = h at *
    have sh : ∀ d, L2.nth t.mask (prb t h c) d = prb t h (c + d) := fun d => (nth_add t.mask c _ d).symm
    have hashes : ∀ (i : Nat) (q : Addr × List Str), L[i]? = some q → ((es[i]?.map (·.1)).getD 0) = hX P w q.2 := fun i q hq => by rw [F.nth hq]; rfl
    -- nobody of the key has been passed before d
    have unmet : ∀ d' : Nat, (∀ (d i : Nat), d < d' → t.place.toList[i]? = some (L2.nth t.mask (prb t h c) d).j → ((es[i]?.map (·.1)).getD 0) ≠ h) → ∀ (i : Nat) (q : Addr × List Str), L[i]? = some q → q.2 = k → ∀ d, c ≤ d → t.place.toList[i]? = some (prb t h d).j → c + d' ≤ d := fun d' hno i q hq hk d hd hp => by
      apply Classical.byContradiction
      intro hlt
      refine hno (d - c) i (by omega) (by rw [sh, show c + (d - c) = d by omega]; exact hp) ?_
      rw [hashes i q hq, hk]
      exact eh
    rw [setSearchFrom_succ]
    refine wpAny_bind (wpAny_setState_of e1 e3 F.fit ?_)
    refine wp_if_neg F.noway ?_
    have go := go_spec t F.tab.ris F.tab.dm (fun i => (es[i]?.map (·.1)).getD 0) h (10 * SetTable.turns t.mask) (K - c) (prb t h c) (prb_dm t h c) (by omega)
      (fun d hd => by rw [sh]; exact k3 _ (by omega)) (by rw [sh, show c + (K - c) = K by omega]; exact k2)
    rw [hst]
    have pe : ∀ z, SetTable.probe.go t (fun i => (es[i]?.map (·.1)).getD 0) h (10 * SetTable.turns t.mask) (prb t h c) = z → t.probe (fun i => (es[i]?.map (·.1)).getD 0) h (prb t h c) = z := fun _ z => z
    rcases go with ⟨d, i, d1, d2, d3, d4, d5⟩ | ⟨d4, d5⟩
    · rw [pe _ d5]
      rw [sh] at d2
      have il : i < L.length := by
        have z := (List.getElem?_eq_some_iff.mp d2).1
        rw [Array.length_toList, F.psz] at z
        exact z
      obtain ⟨q, hq⟩ : ∃ q, L[i]? = some q := ⟨_, List.getElem?_eq_getElem il⟩
      have qm := List.mem_of_getElem? hq
      have tail : wpAny (model P w) A (searchRest a (.ref x) h true f es t (L2.nth t.mask (prb t h c) d).j i (L2.nth t.mask (prb t h c) (d + 1))) Q E s := by
        unfold searchRest
        rw [F.nth hq]
        refine wpAny_bind (wpAny_holding (wpAny_eqBool_tuple hu (F.key q qm) hx ?_))
        refine wpAny_bind (wpAny_setState_of e1 e3 F.fit ?_)
        by_cases ek : q.2 = k
        · exact wp_if_pos (by simp [ek]) (wpAny_pure (yes (ek ▸ List.mem_map_of_mem qm)))
        · refine wp_if_neg (by simp [ek]) ?_
          rw [sameMem]
          have live : t.slot (L2.nth t.mask (prb t h c) d).j = .live i := by rw [sh]; exact slot_live F.tab.ris d2
          simp only [if_true, live, F.nth hq]
          refine wpAny_bind (wpAny_isSame_ref_self (wpAny_bind (wpAny_pure ?_)))
          simp only [if_true]
          refine wp_if_neg (by simp [ek]) ?_
          refine ih (K - (c + (d + 1))) (by omega) f (c + (d + 1)) _ rfl (by omega) (by omega) (sh (d + 1)) fun j p hp hk => ?_
          obtain ⟨g, g1, g2, g3⟩ := ahead j p hp hk
          have g4 := unmet d d4 j p hp hk g g1 g3
          refine ⟨g, ?_, g2, g3⟩
          by_cases z : g = c + d
          · rw [z] at g3
            have l2 := slot_live F.tab.ris g3
            rw [sh] at live
            rw [live] at l2
            cases l2
            rw [hq] at hp
            cases hp
            exact absurd hk ek
          · omega
      by_cases tl : t.led = true
      · exact wp_if_neg (by simp [tl]) tail
      · refine wp_if_pos (by simp [tl]) (wpAny_bind (quiet_tups hx (fun y hy => ?_) (wp_if_neg (by decide) tail)))
        obtain ⟨e, he, rfl⟩ := List.mem_map.mp hy
        have he' : e ∈ es.toList := by
          have := (show e ∈ es ∧ e.1 = h by simpa using he).1
          simpa using this
        rw [F.row] at he'
        obtain ⟨p, hp, rfl⟩ := List.mem_map.mp he'
        exact ⟨p.2, p.1, rfl, F.key p hp⟩
    · rw [pe _ d5, sh, show c + (K - c) = K by omega]
      refine wpAny_pure (no fun hm => ?_)
      obtain ⟨q, qm, hk⟩ := List.mem_map.mp hm
      obtain ⟨i, hi⟩ := List.mem_iff_getElem?.mp qm
      obtain ⟨g, g1, g2, g3⟩ := ahead i q hi hk
      have := unmet (K - c) d4 i q hi hk g g1 g3
      omega
theorem look0 {k : List Str} {x : Addr} {Q : SetFound → Shared → Prop} (F : Few P w s.heap a L es ep t) (hx : TX P w s.heap k x) (hu : A.units < cLine) (yes : k ∈ L.map (·.2) → Q (.there none) s)
    (no : ∀ K, k ∉ L.map (·.2) → (prb t (hX P w k) K).j ∉ t.place.toList → (∀ c, c < K → (prb t (hX P w k) c).j ∈ t.place.toList) → Q (.free (prb t (hX P w k) K).j false) s) : wpAny (model P w) A (setSearch a (.ref x) (hX P w k) true) Q E s := by
  obtain ⟨K, k1, k2, k3⟩ := F.tab.first (by rw [List.length_map, F.m7]; have := F.len; omega) (hX P w k)
  have tn : SetTable.turns t.mask ≤ 1000 := by rw [F.m7]; decide
  refine look F hx hu k1 k2 k3 yes (fun z => no K z k2 k3) (K - 0) 100000 0 none rfl (Nat.zero_le _) (by omega) rfl fun i q hq hk => ?_
  have il := (List.getElem?_eq_some_iff.mp hq).1
  have pl : i < t.place.toList.length := by rw [Array.length_toList, F.psz]; exact il
  obtain ⟨c, c1, c2⟩ := F.tab.before k2 (i := i) (by rw [List.getElem?_map, hq, ← hk]; rfl) (List.getElem?_eq_getElem pl)
  exact ⟨c, Nat.zero_le _, c1, by rw [List.getElem?_eq_getElem pl]; exact congrArg some c2.symm⟩
end

end
section
section
variable {P : Program} {w : World} {A : Around} {E : Value → Shared → Prop} {s : Shared} {a : Addr} {L : List (Addr × List Str)} {es : Array (Int × Value)} {ep : Nat} {t : SetTable}
theorem Few.held {hp hp' : Heap} (F : Few P w hp a L es ep t) (g : ∀ c o, hp.get? c = some o → hp'.get? c = some o) : Few P w hp' a L es ep t :=
  let ⟨o, e, r⟩ := F.at'
  ⟨⟨o, g a o e, r⟩, F.row, F.tab, F.once, fun q hq => (F.key q hq).held g, F.led, F.m7, F.len⟩
theorem tab_plain {hs : List Int} (T : TabOk t hs) (b : Bool) : TabOk { t with plain := b } hs := ⟨T.ris, T.dm, T.sz, T.mok, T.bd, T.reach⟩
theorem add4 {k : List Str} {x : Addr} {Q : Bool → Shared → Prop} (F : Few P w s.heap a L es ep t) (hx : TX P w s.heap k x) (hu : A.units < cLine) (room : L.length + 1 ≤ 4)
    (hQ : ∀ b h' L' es' ep' t', Heap.SameBut a s.heap h' → Few P w h' a L' es' ep' t' → (k ∈ L.map (·.2) → L' = L) → (k ∉ L.map (·.2) → L'.Perm ((x, k) :: L)) → Q b { s with heap := h' }) :
    wpAny (model P w) A (setAddHashed a (.ref x) (hX P w k)) Q E s := by
  obtain ⟨o, e1, e2, e3⟩ := F.at'
  unfold setAddHashed
  refine wpAny_holding ?_
  rw [show (100000 : Nat) = 99999 + 1 from rfl, setAddHashedIn_succ]
  refine wpAny_bind (wpAny_setState_of e1 e3 F.fit ?_)
  refine wp_if_neg (by simp [byScan, Value.scannable]) ?_
  refine wpAny_bind (look0 F hx hu (fun hm => ?_) fun K hm k2 k3 => ?_)
  · exact wpAny_pure (hQ false s.heap L es ep t (Heap.SameBut.refl ..) F (fun _ => rfl) fun z => absurd hm z)
  · refine wpAny_bind (wpAny_setState_of e1 e3 F.fit ?_)
    obtain ⟨c1, c2, c3, c4, c5, c6, c7, c8, c9⟩ := F.tab.put k2 k3
    dsimp only
    generalize ept : t.put (prb t (hX P w k) K).j = pt at c1 c3 c4 c5 c6 c7 c8 c9 ⊢
    obtain ⟨t1, j⟩ := pt
    dsimp only at c1 c3 c4 c5 c9 ⊢
    rw [← c1] at c2 c3
    have pm := put_perm L j (x, k)
    have row1 : (SetTable.insertAt es j (hX P w k, Value.ref x)).toList = (L.take j ++ (x, k) :: L.drop j).map fun q => (hX P w q.2, Value.ref q.1) := by
      rw [SetTable.toList_insertAt, F.row, List.map_append, List.map_cons, List.map_take, List.map_drop]
    have tab1 : TabOk t1 ((L.take j ++ (x, k) :: L.drop j).map fun q => hX P w q.2) := by
      rw [List.map_append, List.map_cons, List.map_take, List.map_drop]
      exact c3
    have len1 : (L.take j ++ (x, k) :: L.drop j).length = L.length + 1 := pm.length_eq
    have once1 : ((L.take j ++ (x, k) :: L.drop j).map (·.2)).Nodup := (pm.map (·.2)).nodup_iff.mpr (List.nodup_cons.mpr ⟨hm, F.once⟩)
    have sz1 : (SetTable.insertAt es j (hX P w k, Value.ref x)).size = L.length + 1 := by rw [← Array.length_toList, row1, List.length_map, len1]
    generalize SetTable.insertAt es j (hX P w k, Value.ref x) = es1 at row1 sz1 ⊢
    generalize L.take j ++ (x, k) :: L.drop j = L1 at pm row1 tab1 len1 once1
    -- whatever is told of the hash
    have fin : ∀ t2 : SetTable, TabOk t2 (L1.map fun q => hX P w q.2) → t2.mask = 7 → t2.led = t.led → t2.fill = L.length + 1 → wpAny (model P w) A (do
        storeSet a es1 t2
        if !false && t2.tooFull then setRelay a (SetTable.grown (es.size + 1))
        return true) Q E s := fun t2 T2 m2 l2 f2 => by
      refine wpAny_bind (wpAny_storeSet_of e1 e3 ?_ (by rw [sz1, sizeLine_eq]; omega))
      have tf : t2.tooFull = false := by
        unfold SetTable.tooFull
        rw [f2, m2]
        exact decide_eq_false (by omega)
      refine wp_if_neg (by rw [tf]; decide) (wpAny_pure (hQ true _ L1 es1 (ep + 1) t2 (Heap.SameBut.update ..) ⟨⟨_, store_at e1 e3, ⟨e2.1, e2.2.1, e2.2.2⟩, rfl⟩, row1, T2, once1, fun q hq => ?_, by rw [l2]; exact F.led, m2, by omega⟩ (fun z => absurd z hm) fun _ => pm))
      rcases List.mem_cons.mp (pm.mem_iff.mp hq) with rfl | hq
      · exact hx.but e1 e3 (Heap.SameBut.update ..)
      · exact (F.key q hq).but e1 e3 (Heap.SameBut.update ..)
    have f1 : t1.fill = L.length + 1 := by rw [c9, List.length_map]
    have m1 : t1.mask = 7 := by rw [c4, F.m7]
    have both : ∀ b : Bool, wpAny (model P w) A (do
        storeSet a es1 (if b = true then t1 else { t1 with plain := false })
        if !false && (if b = true then t1 else { t1 with plain := false }).tooFull then setRelay a (SetTable.grown (es.size + 1))
        return true) Q E s := fun b => by
      cases b with
      | true => exact fin t1 tab1 m1 c5 f1
      | false => exact fin { t1 with plain := false } (tab_plain tab1 false) m1 c5 f1
    by_cases pl : t1.plain = true
    · rw [if_pos pl]
      exact wpAny_bind (hby_tup hx fun b => both b)
    · rw [if_neg pl]
      exact wpAny_bind (wpAny_pure (both true))
end

end
section
/-! ### set(l) for a list l of at most four tuples of texts -/
/-- what the set holds behind i items -/
structure Holds4 (ks : List (Addr × List Str)) (i : Nat) (L : List (Addr × List Str)) : Prop where
  sub : ∀ q ∈ L, q ∈ ks
  all : ∀ q ∈ ks.take i, q.2 ∈ L.map (·.2)
  few : L.length ≤ i
theorem Holds4.next {ks L L' : List (Addr × List Str)} {i : Nat} {q : Addr × List Str} (h : Holds4 ks i L) (e : ks[i]? = some q) (c1 : q.2 ∈ L.map (·.2) → L' = L) (c2 : q.2 ∉ L.map (·.2) → L'.Perm (q :: L)) : Holds4 ks (i + 1) L' := by
  have tk : ks.take (i + 1) = ks.take i ++ [q] := by rw [List.take_add_one, e]; rfl
  have qm := List.mem_of_getElem? e
  by_cases c : q.2 ∈ L.map (·.2)
  · rw [c1 c]
    refine ⟨h.sub, fun p hp => ?_, Nat.le_succ_of_le h.few⟩
    rw [tk, List.mem_append, List.mem_singleton] at hp
    rcases hp with hp | rfl
    · exact h.all p hp
    · exact c
  · have pm := c2 c
    refine ⟨fun p hp => ?_, fun p hp => ?_, ?_⟩
    · rcases List.mem_cons.mp (pm.mem_iff.mp hp) with rfl | hp
      · exact qm
      · exact h.sub p hp
    · refine (pm.map (·.2)).mem_iff.mpr ?_
      rw [tk, List.mem_append, List.mem_singleton] at hp
      rw [List.map_cons, List.mem_cons]
      rcases hp with hp | rfl
      · exact .inr (h.all p hp)
      · exact .inl rfl
    · rw [pm.length_eq, List.length_cons]
      exact Nat.succ_le_succ h.few
section
variable {prog : Program} {w : World} {A : Around} {R : Result → Shared → Prop} {I : Addr} {fp wr : List Addr} {G : Array GenState → Array GenState → Prop} {n : Nat} {P : Nat → Value → Prop} {St : Nat → Shared → Prop}
theorem loop_tups (W : WalksS prog w A.in1 I fp wr G n P St) (S : Addr) (hSf : S ∉ fp) (ks : List (Addr × List Str)) (hn : ks.length = n) (h4 : n ≤ 4) (hval : ∀ i v, P i v → ∃ q, ks[i]? = some q ∧ v = .ref q.1) (hu : A.in1.units < cLine) (h0 : Heap) (hk : ∀ q ∈ ks, TX prog w h0 q.2 q.1) (nS : h0.get? S = none) (nw0 : ∀ b ∈ wr, h0.get? b = none) (k : Nat) :
    ∀ (i : Nat) (s : Shared), n - i = k → i ≤ n → St i s → (∀ b o, h0.get? b = some o → s.heap.get? b = some o) → (∃ L es ep t, Few prog w s.heap S L es ep t ∧ Holds4 ks i L) →
      (∀ s' L es ep t, Moved (S :: wr) G s s' → Few prog w s'.heap S L es ep t → Holds4 ks n L → (∀ b o, h0.get? b = some o → s'.heap.get? b = some o) → R (.ok (.ret .none)) s') → codeAny (model prog w) A (.builtin "set.update.loop" ⟨[.ref S, .ref I], []⟩) R s := by
  have nw : S ∉ wr := fun z => hSf (W.sub _ z)
  have into : ∀ b ∈ wr, b ∈ S :: wr := fun b z => List.mem_cons_of_mem _ z
  have stay : ∀ {s s' : Shared}, Moved wr G s s' → (∀ b o, h0.get? b = some o → s.heap.get? b = some o) → ∀ b o, h0.get? b = some o → s'.heap.get? b = some o := fun m g b o e => m.heap b o (fun z => by rw [nw0 b z] at e; cases e) (g b o e)
  have carry : ∀ {s s' : Shared} {L : List (Addr × List Str)} {i : Nat} {es : Array (Int × Value)} {ep : Nat} {t : SetTable}, Moved wr G s s' → (∀ b o, h0.get? b = some o → s'.heap.get? b = some o) → Few prog w s.heap S L es ep t → Holds4 ks i L → Few prog w s'.heap S L es ep t := fun m g F h => by
    obtain ⟨o, e, r⟩ := F.at'
    exact ⟨⟨o, m.heap S o nw e, r⟩, F.row, F.tab, F.once, fun q hq => (hk q (h.sub q hq)).held g, F.led, F.m7, F.len⟩
  induction k with
  | zero =>
    intro i s hk0 hi st g0 hF hR
    obtain ⟨L, es, ep, t, F, h⟩ := hF
    have e : i = n := by omega
    refine codeAny_builtin PyProof.Rows.F.entry_set_update_loop ?_
    rw [Around.under_plainId PyProof.Rows.F.plain_set_update_loop]
    refine wpAny_bind (m := pyNext (.ref I)) (W.done s _ _ (e ▸ st) fun s' m => ?_)
    exact wpAny_pure (hR s' L es ep t (m.mono into) (carry m (stay m g0) F h) (e ▸ h) (stay m g0))
  | succ k ih =>
    intro i s hk0 hi st g0 hF hR
    obtain ⟨L, es, ep, t, F, h⟩ := hF
    have lt : i < n := by omega
    refine codeAny_builtin PyProof.Rows.F.entry_set_update_loop ?_
    rw [Around.under_plainId PyProof.Rows.F.plain_set_update_loop]
    refine wpAny_bind (m := pyNext (.ref I)) (W.item i s _ _ lt st fun v s' hP st' m => ?_)
    obtain ⟨q, hq, rfl⟩ := hval i v hP
    have g1 := stay m g0
    have hx := (hk q (List.mem_of_getElem? hq)).held g1
    refine wpAny_bind (m := holding [Value.ref q.1] (setAdd S (.ref q.1))) (wpAny_holding ?_)
    unfold setAdd
    refine wpAny_holding (wpAny_bind (wpAny_pyHash_tuple hu hx ?_))
    have F' := carry m g1 F h
    refine add4 (s := { s' with toks := s'.toks + (q.2.length + 1) }) F' hx hu (by have := h.few; omega) fun b h' L' es' ep' t' sb F2 c1 c2 => ?_
    have g2 : ∀ b o, h0.get? b = some o → h'.get? b = some o := fun b o e => by
      rw [sb.2 b fun z => by rw [z, nS] at e; cases e]
      exact g1 b o e
    refine wpAny_pure ⟨plainId_quiet PyProof.Rows.F.plain_set_update_loop _, ih (i + 1) _ (by omega) lt (W.frame _ s' _ _ st' (Nat.le_add_right _ _) fun b hb o eo => ?_) g2 ⟨L', es', ep', t', F2, h.next hq c1 c2⟩ fun s2 L2 es2 ep2 t2 m2 F3 h3 g3 => ?_⟩
    · rw [sb.2 b (fun z => hSf (z ▸ hb))]; exact eo
    · refine hR s2 L2 es2 ep2 t2 (Moved.trans W.gtrans ((m.mono into).then_heap (Nat.le_add_right _ _) fun b o hb eo => ?_) m2) F3 h3 g3
      rw [sb.2 b (fun z => hb (by rw [z]; exact List.mem_cons_self))]; exact eo
end
section
variable {prog : Program} {w : World} {A : Around} {E : Value → Shared → Prop} {s : Shared}
abbrev setO (w : World) : Obj := { cls := .type "set", dict := none, data := .set #[] 0 (.fresh 0 0 (!w.params.followText "set-order")) }
theorem few_new {hp : Heap} {a : Addr} (e : hp.get? a = some (setO w)) : Few prog w hp a [] #[] 0 (.fresh 0 0 (!w.params.followText "set-order")) :=
  ⟨⟨_, e, ⟨rfl, rfl, rfl⟩, rfl⟩, rfl, ⟨List.Pairwise.nil, rfl, rfl, .inl rfl, (fun _ z => (nomatch z)), (fun i h j z => by simp at z)⟩, List.nodup_nil, (fun _ z => (nomatch z)), by
    show _ ∨ (!w.params.followText "set-order") = true
    cases w.params.followText "set-order"
    · exact .inr rfl
    · exact .inl rfl, rfl, Nat.zero_le _⟩
theorem call_set_few {l : Addr} {us : Array Value} {ks : List (Addr × List Str)} {Q : Value → Shared → Prop} (hh : A.handled = none) (hl : s.heap.IsList l us) (hv : us.toList = ks.map fun q => Value.ref q.1) (hk : ∀ q ∈ ks, TX prog w s.heap q.2 q.1) (h4 : ks.length ≤ 4) (hu : A.units + 3 < cLine)
    (h : ∀ (h' : Heap) (tk : Nat) L es ep t, Few prog w h' s.heap.objs.size L es ep t → Holds4 ks ks.length L → (∀ b o, s.heap.get? b = some o → h'.get? b = some o) → Q (.ref s.heap.objs.size) { s with heap := h', toks := tk }) :
    wpAny (model prog w) A (call (.type "set") [.ref l]) Q E s := by
  obtain ⟨c0, t0, m0⟩ := PySem.F.called_set.mro
  have m1 := PySem.F.called_set.made
  have m2 := PySem.F.called_set.sub
  have m3 := PySem.F.called_set.notType
  have m4 := PySem.F.called_set.canCreate
  have m5 := PySem.F.typeCall_set_1 (.ref l)
  apply wpAny_call
  apply codeAny_of_tree
  show wpAny _ _ (callAny (.type "set") ⟨[.ref l], []⟩) _ _ s
  refine wpAny_pure ⟨Code.quiet_builtin _ (by decide +kernel), ?_⟩
  refine codeAny_builtin PySem.F.entry_type_call ?_
  rw [Around.under_plain (weight_type_call_type "set" [Value.ref l] []) rfl]
  repeat any_goals (first | assumption | wp_step)
  refine codeAny_mono (code_set_led1 (.ref l) (E := E) (Q₁ := fun v s1 => v = .ref s.heap.objs.size ∧ s1 = { s with heap := s.heap.push (setO w) }) ⟨rfl, rfl⟩) fun r s1 hr => ?_
  cases r with
  | error e => exact hr
  | ok fl =>
    cases fl with
    | ret v =>
      obtain ⟨rfl, rfl⟩ := hr
      have gS : (s.heap.push (setO w)).get? s.heap.objs.size = some (setO w) := Heap.get?_push_size _ rfl
      have tS : Shared.TypeIs { s with heap := s.heap.push (setO w) } (.ref s.heap.objs.size) "set" := ⟨_, gS, rfl⟩
      have i1 := PySem.F.called_set.init.lookup
      have i2 := PySem.F.called_set.init.bind (.ref s.heap.objs.size)
      repeat any_goals (first | assumption | wp_step)
      refine codeAny_mono (codeAny_call_builtin (R := wants (fun r s2 => r = .none ∧ ∃ h' tk L es ep t, s2 = { s with heap := h', toks := tk } ∧ Few prog w h' s.heap.objs.size L es ep t ∧ Holds4 ks ks.length L ∧ ∀ b o, s.heap.get? b = some o → h'.get? b = some o) E)
        PySem.F.called_set.init.plain PySem.F.entry_set_init (check_set_init_1 tS ?_)) fun r2 s2 hr2 => ?_
      · obtain ⟨⟨oc, od, oa, os⟩, g, c1, m, c2⟩ := hl
        simp only at c1 c2
        subst c1 c2
        have g1 : (s.heap.push (setO w)).get? l = some { cls := .type "list", dict := od, data := .seq us m, slots := os } := Heap.get?_push_of_some _ g
        have j1 := PySem.F.sub_list_set
        have j2 := PySem.F.sub_list_frozenset
        have j3 : (Value.type "list" == Value.type "dict") = false := by decide
        have hl1 : (s.heap.push (setO w)).IsList l us := ⟨_, g1, rfl, m, rfl⟩
        unfold Builtin.«set.__init__» noKeywords Builtin.Frozenset.updateFrom
        generalize eI : pyIter = PI
        wp_walk
        subst eI
        refine wpAny_pyIter_list hl1 (wpAny_bind (wpAny_runValue ?_))
        have ll : l < s.heap.objs.size := Heap.lt_size g
        have sz1 : (s.heap.push (setO w)).objs.size = s.heap.objs.size + 1 := Heap.size_push _ _
        have nl : l ≠ (s.heap.push (setO w)).objs.size := by rw [sz1]; exact Nat.ne_of_lt (Nat.lt_succ_of_lt ll)
        have nS : s.heap.objs.size ∉ [(s.heap.push (setO w)).objs.size, l] := fun z => by
          rcases List.mem_cons.mp z with z | z
          · rw [sz1] at z; exact Nat.ne_of_lt (Nat.lt_succ_self _) z
          · exact Nat.ne_of_gt ll (List.mem_singleton.mp z)
        have len : ks.length = us.size := by rw [← Array.length_toList, hv, List.length_map]
        have vals : ∀ (i : Nat) (v : Value), us[i]? = some v → ∃ q, ks[i]? = some q ∧ v = .ref q.1 := fun i v e => by
          rw [← Array.getElem?_toList, hv, List.getElem?_map] at e
          obtain ⟨q, e3, e4⟩ := Option.map_eq_some_iff.mp e
          exact ⟨q, e3, e4.symm⟩
        have noo : ∀ b, s.heap.objs.size ≤ b → s.heap.get? b = none := fun b hb => by
          cases q : s.heap.get? b with
          | none => rfl
          | some o => exact absurd (Heap.lt_size q) (Nat.not_lt.mpr hb)
        refine loop_tups ((Walks.list (show A.in1.in1.in1.handled = none from hh) _ l nl us).toS) s.heap.objs.size nS ks len (by omega) vals hu s.heap hk (noo _ (Nat.le_refl _)) (fun b hb => noo b (by rw [List.mem_singleton.mp hb, sz1]; exact Nat.le_succ _)) (us.size - 0) 0 _ rfl (Nat.zero_le _) ⟨⟨_, Heap.get?_push_size _ rfl, rfl, rfl⟩, hl1.push _⟩ (fun b o e => Heap.get?_push_of_some _ (Heap.get?_push_of_some _ e)) ⟨[], #[], 0, _, few_new (Heap.get?_push_of_some _ gS), ⟨(fun _ z => (nomatch z)), (fun _ z => by simp at z), Nat.zero_le _⟩⟩ fun s3 L es ep t mv F3 h3 g3 => ?_
        obtain ⟨h', g', d', k', o'⟩ := s3
        obtain rfl : g' = s.gens := mv.gens
        obtain rfl : d' = s.drawn := mv.drawn
        obtain rfl : o' = s.os := mv.os
        exact wpAny_pure (show wpAny _ _ (ret Value.none) _ _ _ from wpAny_pure ⟨rfl, h', k', L, es, ep, t, rfl, F3, len ▸ h3, g3⟩)
      · cases r2 with
        | error e => exact hr2
        | ok fl2 =>
          cases fl2 with
          | ret v2 =>
            obtain ⟨rfl, h', tk, L, es, ep, t, rfl, F3, h3, g3⟩ := hr2
            repeat any_goals (first | assumption | wp_step)
            exact h _ _ _ _ _ _ F3 h3 g3
          | _ => exact hr2.elim
    | _ => exact hr.elim
end

end
section
open PySem.W (EachIs alike alikeAll keyToks keyToksAll dataLt dataKind SortsAt dataType)
/-! ### sorted(set(l)), l a list of pairs of texts -/
def rowK (k : List Str) : Mv × PyData := (.tup (k.map .str), .tuple (k.map .str))
noncomputable def sortK (ks : List (List Str)) : List Mv := (isort leD (ks.map rowK)).map (·.1)
theorem tk_tri {a b : Int ⊕ List Nat} (h1 : tkLt a b = false) (h2 : tkLt b a = false) : a = b := by
  cases a <;> cases b
  · have e1 := h1.symm.trans (iLt_eq _ _)
    have e2 := h2.symm.trans (iLt_eq _ _)
    have e1 := of_decide_eq_false e1.symm
    have e2 := of_decide_eq_false e2.symm
    exact congrArg _ (by omega)
  · cases h1
  · cases h2
  · rename_i x y
    have e1 : ltCps x y = false := h1
    have e2 : ltCps y x = false := h2
    rw [ltCps_eq] at e1 e2
    have e1 := of_decide_eq_false e1
    have e2 := of_decide_eq_false e2
    exact congrArg _ (List.le_antisymm (List.not_lt.mp e2) (List.not_lt.mp e1))
theorem tks_tri : ∀ {a b : List (Int ⊕ List Nat)}, tksLt a b = false → tksLt b a = false → a = b
  | [], [], _, _ => rfl
  | [], _ :: _, h, _ => by cases h
  | _ :: _, [], _, h => by cases h
  | x :: r, y :: t, h1, h2 => by
    have h1 : cond (tkLt x y) true (cond (tkLt y x) false (tksLt r t)) = false := h1
    have h2 : cond (tkLt y x) true (cond (tkLt x y) false (tksLt t r)) = false := h2
    cases e1 : tkLt x y with
    | true => rw [e1] at h1; cases h1
    | false =>
      cases e2 : tkLt y x with
      | true => rw [e2] at h2; cases h2
      | false =>
        rw [e1, e2] at h1
        rw [e1, e2] at h2
        rw [tk_tri e1 e2, tks_tri h1 h2]
theorem cps_inj {x y : Str} (h : x.cps.toList = y.cps.toList) : x = y := by
  cases x; cases y
  exact congrArg _ (Array.toList_inj.mp h)
theorem toks_inj : ∀ {a b : List Str}, keyToksAll (a.map .str) = keyToksAll (b.map .str) → a = b
  | [], [], _ => rfl
  | [], _ :: _, h => by simp [keyToksAll] at h
  | _ :: _, [], h => by simp [keyToksAll] at h
  | x :: a, y :: b, h => by
    simp only [List.map_cons, keyToksAll, keyToks, List.cons_append, List.nil_append, List.cons.injEq, Sum.inr.injEq, true_and] at h
    rw [cps_inj h.1, toks_inj h.2]
theorem row_tri {a b : List Str} (h1 : leD (rowK a) (rowK b) = true) (h2 : leD (rowK b) (rowK a) = true) : a = b := by
  have e1 : dLt (.tuple (b.map .str)) (.tuple (a.map .str)) = false := by simpa [leD, rowK] using h1
  have e2 : dLt (.tuple (a.map .str)) (.tuple (b.map .str)) = false := by simpa [leD, rowK] using h2
  have e := tks_tri (a := keyToks (.tuple (a.map .str))) (b := keyToks (.tuple (b.map .str))) e2 e1
  simp only [keyToks] at e
  exact toks_inj e
theorem isort_pw {α : Type} {le : α → α → Bool} (T : PySem.W.TotalLe le) : ∀ l : List α, (isort le l).Pairwise fun a b => le a b = true
  | [] => .nil
  | _ :: l => ins1_pw T (isort_pw T l)
theorem isort_perm {α : Type} {le : α → α → Bool} (T : PySem.W.TotalLe le) (l : List α) : (isort le l).Perm l := by rw [isort_eq T]; exact List.mergeSort_perm l le
theorem sortK_perm {k1 k2 : List (List Str)} (h : k1.Perm k2) : sortK k1 = sortK k2 := by
  unfold sortK
  have e : isort leD (k1.map rowK) = isort leD (k2.map rowK) := by
    refine List.Perm.eq_of_pairwise (le := fun a b => leD a b = true) (fun a b ha hb h1 h2 => ?_) (isort_pw leD_total _) (isort_pw leD_total _) ((isort_perm leD_total _).trans ((h.map rowK).trans (isort_perm leD_total _).symm))
    obtain ⟨x, _, rfl⟩ := List.mem_map.mp ((isort_perm leD_total _).mem_iff.mp ha)
    obtain ⟨y, _, rfl⟩ := List.mem_map.mp ((isort_perm leD_total _).mem_iff.mp hb)
    rw [row_tri h1 h2]
  rw [e]
theorem sortK_mem {ks : List (List Str)} {v : Mv} (h : v ∈ sortK ks) : ∃ k ∈ ks, v = .tup (k.map .str) := by
  obtain ⟨q, hq, rfl⟩ := List.mem_map.mp h
  obtain ⟨k, hk, rfl⟩ := List.mem_map.mp ((isort_perm leD_total _).mem_iff.mp hq)
  exact ⟨k, hk, rfl⟩
theorem sortK_len (ks : List (List Str)) : (sortK ks).length = ks.length := by
  unfold sortK
  rw [List.length_map, (isort_perm leD_total _).length_eq, List.length_map]
noncomputable def pairOf (w : Mv) : Option (List Str) := match w with
  | .tup [.str x, .str y] => some [x, y]
  | _ => none
theorem pairOf_eq {w : Mv} {k : List Str} (h : pairOf w = some k) : ∃ x y, w = .tup [.str x, .str y] ∧ k = [x, y] := by
  unfold pairOf at h
  split at h
  · cases h; exact ⟨_, _, rfl, rfl⟩
  · cases h
noncomputable def keysOf (ws : List Mv) : Option (List (List Str)) := ws.foldr (fun w acc => (pairOf w).ob fun k => acc.om fun ks => k :: ks) (some [])
theorem keysOf_cons {w : Mv} {ws : List Mv} {ks : List (List Str)} (h : keysOf (w :: ws) = some ks) : ∃ x y ks', w = .tup [.str x, .str y] ∧ keysOf ws = some ks' ∧ ks = [x, y] :: ks' := by
  have h : (pairOf w).ob (fun k => (keysOf ws).om fun ks => k :: ks) = some ks := h
  obtain ⟨k, h1, h2⟩ := ob_some.mp h
  obtain ⟨ks', h3, rfl⟩ := omap_some.mp h2
  obtain ⟨x, y, rfl, rfl⟩ := pairOf_eq h1
  exact ⟨x, y, ks', rfl, h3, rfl⟩
noncomputable def ddK (l : List (List Str)) : List (List Str) := l.foldr (fun k acc => if k ∈ acc then acc else k :: acc) []
theorem ddK_mem : ∀ {l : List (List Str)} {k : List Str}, k ∈ ddK l ↔ k ∈ l
  | [], k => Iff.rfl
  | x :: l, k => by
    show k ∈ (if x ∈ ddK l then ddK l else x :: ddK l) ↔ _
    have ih := @ddK_mem l
    split
    · rename_i h
      rw [ih, List.mem_cons]
      exact ⟨.inr, fun z => z.elim (fun e => by rw [e]; exact ih.mp h) id⟩
    · rw [List.mem_cons, List.mem_cons, ih]
theorem ddK_nd : ∀ (l : List (List Str)), (ddK l).Nodup
  | [] => List.nodup_nil
  | x :: l => by
    show (if x ∈ ddK l then ddK l else x :: ddK l).Nodup
    split
    · exact ddK_nd l
    · rename_i h; exact List.nodup_cons.mpr ⟨h, ddK_nd l⟩
theorem ddK_len : ∀ (l : List (List Str)), (ddK l).length ≤ l.length
  | [] => Nat.le_refl _
  | x :: l => by
    show (if x ∈ ddK l then ddK l else x :: ddK l).length ≤ _
    have := ddK_len l
    split
    · exact Nat.le_succ_of_le this
    · exact Nat.succ_le_succ this
noncomputable def msrtS (A : Fe) : Fe := fun r s => (A r s).ob fun x => (lstOf x.1 x.2).ob fun ws => (keysOf ws).ob fun ks => cond (Nat.ble ks.length 4) (newO (.lst (sortK (ddK ks))) x.2) none
/-- the set at a, without its tuples -/
def FewO (P : Program) (w : World) (a : Addr) (L : List (Addr × List Str)) : HO := .ext fun h => ∃ es ep t, (∃ o, h.get? a = some o ∧ o.ExactSet ∧ o.data = .set es ep t) ∧ es.toList = (L.map fun q => (hX P w q.2, Value.ref q.1)) ∧ TabOk t (L.map fun q => hX P w q.2) ∧ (L.map (·.2)).Nodup ∧ (w.params.followText "set-order" = true ∨ t.led = true) ∧ t.mask = 7 ∧ L.length ≤ 4
section
variable {X : Cx} {pins : List (Addr × Obj)} {σ : L2.St} {H : Hp} {s : Shared} {G : Mg} {p : List Addr}
theorem fewO_ok {h : Heap} {a : Addr} {L : List (Addr × List Str)} {es : Array (Int × Value)} {ep : Nat} {t : SetTable} {P : Program} {w : World} (F : Few P w h a L es ep t) : ObjOk P w H h a (FewO P w a L) := by
  obtain ⟨o, e, r⟩ := F.at'
  refine ⟨⟨es, ep, t, ⟨o, e, r⟩, F.row, F.tab, F.once, F.led, F.m7, F.len⟩, ⟨o, e⟩, fun h1 h2 ⟨es1, ep1, t1, ⟨o1, e1, r1⟩, q⟩ k => ⟨es1, ep1, t1, ⟨o1, k o1 e1, r1⟩, q⟩⟩
theorem strs_items {P : Program} {w : World} : ∀ {k : List Str} {us : List Value}, Vals (k.map V.str) us → ItemsAre (PySem.strKind P w) k us
  | [], _, .nil => .nil
  | y :: k, _, .cons r t => by
    obtain ⟨tk, rfl⟩ := r
    exact .cons (strKind_is P w y tk) (strs_items t)
theorem tx_of {b : Addr} {k : List Str} (I : Inv X pins σ H s) (h : SqT X.K H b (k.map V.str)) : TX X.prog X.w s.heap k b := by
  obtain ⟨its, r, ⟨o, e1, e2, n, e3⟩, _⟩ := I.tuple h
  exact ⟨o, its.toArray, n, e1, e2, e3, by simpa using strs_items r⟩
theorem keys_ok : ∀ (ws : List Mv) (vs : List V) (ks : List (List Str)), DenL G p H ws vs → keysOf ws = some ks → ∃ L : List (Addr × List Str), L.map (·.2) = ks ∧ vs = (L.map fun q => V.ref q.1) ∧ (∀ q ∈ L, SqT G.K H q.1 (q.2.map V.str)) ∧ ∀ k ∈ ks, k.length = 2 := by
  intro ws
  induction ws with
  | nil =>
    intro vs ks l h
    cases l
    cases h
    exact ⟨[], rfl, rfl, (fun _ z => nomatch z), (fun _ z => nomatch z)⟩
  | cons w ws ih =>
    intro vs ks l h
    obtain ⟨x, y, ks', rfl, h2, rfl⟩ := keysOf_cons h
    cases l with
    | cons d l =>
      obtain ⟨L, l1, rfl, l3, l4⟩ := ih _ _ l h2
      obtain ⟨a, vs0, rfl, sq, dl⟩ := d.tup_inv
      have e0 : vs0 = [V.str x, V.str y] := by
        cases dl with
        | cons d1 dl =>
          cases dl with
          | cons d2 dl =>
            cases dl
            cases d1
            cases d2
            rfl
      subst e0
      refine ⟨(a, [x, y]) :: L, by rw [List.map_cons, l1], rfl, fun q hq => ?_, fun k hk => ?_⟩
      · rcases List.mem_cons.mp hq with e | hq
        · rw [e]; exact sq
        · exact l3 q hq
      · rcases List.mem_cons.mp hk with e | hk
        · rw [e]; rfl
        · exact l4 k hk
noncomputable def rSet4 (G : Mg) : List V → Hp → VK → Prop := fun xs H Q => ∃ p ms w v ws ks, xs = [v] ∧ Sim G p ms H ∧ Den G p H w v ∧ lstOf w ms = some ws ∧ keysOf ws = some ks ∧ ks.length ≤ 4 ∧ ∀ a L, H a = none → (L.map (·.2)).Perm (ddK ks) → (∀ q ∈ L, SqT G.K H q.1 (q.2.map V.str)) → (∀ q ∈ L, q.2.length = 2) → Q (.ref a) (upd H a (FewO G.P G.w a L))
theorem cm_set4 (hc : X.calm = true) (hu : X.A.units + 64 < cLine) (hK : X.K = G.K := by rfl) (hP : X.prog = G.P := by rfl) (hw : X.w = G.w := by rfl) : CallR X (.type "set") (rSet4 G) := by
  intro pins s σ H xs us Q I r h
  obtain ⟨p, ms, w, v, ws, ks, rfl, S, d, q1, q2, q3, k⟩ := h
  obtain ⟨a, vs, rfl, sq, l⟩ := lstOf_ok S d q1
  obtain ⟨L, l1, rfl, l3, l4⟩ := keys_ok _ _ _ l q2
  rw [← hK] at sq
  obtain ⟨its, rv, pl, hz⟩ := I.list sq
  rw [Vals.ref1 r]
  have ev : ∀ {L : List (Addr × List Str)} {us : List Value}, Vals (L.map fun q => V.ref q.1) us → us = L.map fun q => Value.ref q.1 := fun {L} => by
    induction L with
    | nil => intro us r; cases r; rfl
    | cons q L ih => intro us r; cases r with | cons r1 r2 => cases r1; rw [ih r2]; rfl
  have ll : L.length = ks.length := by rw [← l1, List.length_map]
  refine call_set_few (ks := L) (I.ok.hd hc) pl.isList (by simpa using ev rv) (fun q hq => tx_of I (by rw [hK]; exact l3 q hq)) (by omega) (by omega) fun h' tk L' es ep t F hh kp => ?_
  have nn : H s.heap.objs.size = none := I.hok.fresh (Nat.le_refl _)
  refine ⟨.ref s.heap.objs.size, upd H s.heap.objs.size (FewO X.prog X.w s.heap.objs.size L'), I.laid (t' := tk) kp (Nat.le_refl _) (fewO_ok F), rfl, ?_⟩
  rw [hP, hw]
  refine k _ L' nn ?_ (fun q hq => l3 q (hh.sub q hq)) fun q hq => l4 _ (by rw [← l1]; exact List.mem_map_of_mem (hh.sub q hq))
  refine (List.perm_ext_iff_of_nodup F.once (ddK_nd ks)).mpr fun x => ?_
  rw [ddK_mem, ← l1]
  constructor
  · intro hx
    obtain ⟨q, hq, rfl⟩ := List.mem_map.mp hx
    exact List.mem_map_of_mem (hh.sub q hq)
  · intro hx
    obtain ⟨q, hq, rfl⟩ := List.mem_map.mp hx
    exact hh.all q (by rw [List.take_length]; exact hq)
end

end
section
open PyProof.Rows.H
open PySem.W (EachIs alike alikeAll keyToks keyToksAll dataLt dataKind SortsAt dataType)
section
variable {X : Cx} {pins : List (Addr × Obj)} {σ : L2.St} {H : Hp} {s : Shared} {G : Mg} {p : List Addr}
theorem alike_str (x y : Str) : alike (.str x) (.str y) = true := by simp [alike]
theorem lz_strs : ∀ a b : List Str, lz (a.map .str) (b.map .str) = true
  | [], _ => by simp [lz]
  | _ :: _, [] => by simp [lz]
  | x :: a, y :: b => by simp [lz, alike_str, lz_strs a b]
theorem lz_keys {ks : List (List Str)} (h : ∀ k ∈ ks, k.length = 2) : LzAll (ks.map fun k => (rowK k).2) := by
  refine ⟨fun d hd => ?_, fun xs hx ys hy => ?_⟩
  · obtain ⟨k, hk, rfl⟩ := List.mem_map.mp hd
    match k, h k hk with
    | x :: r, _ => exact ⟨_, _, rfl⟩
  · obtain ⟨k, _, e⟩ := List.mem_map.mp hx
    obtain ⟨k', _, e'⟩ := List.mem_map.mp hy
    cases e
    cases e'
    exact lz_strs k k'
theorem depth_key (k : List Str) : (rowK k).2.depth ≤ 24 := by
  have all : ∀ l : List Str, PyData.depthAll (l.map .str) ≤ 8 := by
    intro l
    induction l with
    | nil => simp [PyData.depthAll]
    | cons x l ih => simp [PyData.depthAll, PyData.depth]; omega
  have := all k
  simp only [rowK, PyData.depth]
  omega
theorem den_strs : ∀ (k : List Str), DenL G p H (k.map .str) (k.map V.str)
  | [] => .nil
  | x :: k => .cons (.str x) (den_strs k)
theorem dp_txts {K : PySem.W.Frag} : ∀ (k : List Str), DpAll K H (k.map V.str) (k.map .str)
  | [] => .nil
  | x :: k => .cons (.str x) (dp_txts k)
theorem den_rows : ∀ (L : List (Addr × List Str)), (∀ q ∈ L, SqT G.K H q.1 (q.2.map V.str)) → DenL G p H (L.map fun q => (rowK q.2).1) (L.map fun q => V.ref q.1)
  | [], _ => .nil
  | q :: L, h => .cons (.tup (h q (List.mem_cons_self ..)) (den_strs q.2)) (den_rows L fun r hr => h r (List.mem_cons_of_mem _ hr))
theorem dp_rows {K : PySem.W.Frag} : ∀ (L : List (Addr × List Str)), (∀ q ∈ L, SqT K H q.1 (q.2.map V.str)) → DpAll K H (L.map fun q => V.ref q.1) (L.map fun q => (rowK q.2).2)
  | [], _ => .nil
  | q :: L, h => .cons (.tup (h q (List.mem_cons_self ..)) (dp_txts q.2)) (dp_rows L fun r hr => h r (List.mem_cons_of_mem _ hr))
theorem vals_rows : ∀ (L : List (Addr × List Str)), Vals (L.map fun q => V.ref q.1) (L.map fun q => Value.ref q.1)
  | [] => .nil
  | _ :: L => .cons rfl (vals_rows L)
theorem zip_rows : ∀ (L : List (Addr × List Str)), (L.map fun q => (rowK q.2).1).zip (L.map fun q => (rowK q.2).2) = (L.map (·.2)).map rowK
  | [] => rfl
  | q :: L => by rw [List.map_cons, List.map_cons, List.zip_cons_cons, zip_rows L]; rfl
/-- refs that are a rearrangement of the rows' are those of rearranged rows -/
theorem rows_perm {out : List Value} {L : List (Addr × List Str)} (h : out.Perm (L.map fun q => Value.ref q.1)) : ∃ L' : List (Addr × List Str), out = (L'.map fun q => Value.ref q.1) ∧ L'.Perm L := by
  generalize e : (L.map fun q => Value.ref q.1) = l at h
  have key : ∀ {a b : List Value}, a.Perm b → ∀ L : List (Addr × List Str), (L.map fun q => Value.ref q.1) = b → ∃ L' : List (Addr × List Str), a = (L'.map fun q => Value.ref q.1) ∧ L'.Perm L := by
    intro a b h
    induction h with
    | nil => intro L e; exact ⟨L, e.symm, .refl _⟩
    | cons x _ ih =>
      intro L e
      cases L with
      | nil => cases e
      | cons q L =>
        rw [List.map_cons] at e
        obtain ⟨e1, e2⟩ := List.cons.inj e
        obtain ⟨L', f1, f2⟩ := ih L e2
        exact ⟨q :: L', by rw [List.map_cons, e1, f1], f2.cons q⟩
    | swap x y l =>
      intro L e
      match L, e with
      | q :: r :: L, e =>
        rw [List.map_cons, List.map_cons] at e
        obtain ⟨e1, e2⟩ := List.cons.inj e
        obtain ⟨e3, e4⟩ := List.cons.inj e2
        exact ⟨r :: q :: L, by rw [List.map_cons, List.map_cons, e1, e3, e4], .swap ..⟩
    | trans _ _ ih1 ih2 =>
      intro L e
      obtain ⟨L1, f1, f2⟩ := ih2 L e
      obtain ⟨L2, g1, g2⟩ := ih1 L1 f1.symm
      exact ⟨L2, g1, g2.trans f2⟩
  exact key h L e
noncomputable def rSrt4 (G : Mg) : List V → Hp → VK → Prop := fun xs H Q => ∃ p ms a L w ms', xs = [.ref a] ∧ H a = some (FewO G.P G.w a L) ∧ Sim G p ms H ∧ (∀ q ∈ L, SqT G.K H q.1 (q.2.map V.str)) ∧ (∀ q ∈ L, q.2.length = 2) ∧ newO (.lst (sortK (L.map (·.2)))) ms = some (w, ms') ∧ After G p H w ms' Q
theorem cm_srt4 (hc : X.calm = true) (hu : X.A.units + 64 < cLine) (hK : X.K = G.K := by rfl) (hP : X.prog = G.P := by rfl) (hw : X.w = G.w := by rfl) : CallR X (.builtin "sorted") (rSrt4 G) := by
  intro pins s σ H xs us Q I r h
  obtain ⟨p, ms, a, L, w, ms', rfl, ha, S, sq, l2, q4, k⟩ := h
  rw [Vals.ref1 r]
  rw [← hP, ← hw] at ha
  obtain ⟨es, ep, t, at', row, tab, once, led, m7, len⟩ := (I.hok a _ ha).1
  have sq' : ∀ q ∈ L, SqT X.K H q.1 (q.2.map V.str) := by rw [hK]; exact sq
  have F : Few X.prog X.w s.heap a L es ep t := ⟨at', row, tab, once, fun q hq => tx_of I (sq' q hq), led, m7, len⟩
  obtain ⟨o, e1, e2, e3⟩ := at'
  refine Calls.call_function_entry kind_sorted plain_sorted entry_sorted (args_sorted1 _) ?_
  unfold Builtin.«sorted»
  refine wpAny_bind (m := checkCount "sorted" 1 1 _) (wpAny_pure ?_)
  refine wpAny_bind (collect_set (A := X.A.in1) (I.ok.hd hc) ⟨o, e1, e2.1, e3⟩ F.fit (by rw [F.size]; unfold scanBound; omega) tab.ris led fun s1 out k1 hz g1 o1 pm => ?_)
  have er : es.toList.map (·.2) = L.map fun q => Value.ref q.1 := by rw [row, List.map_map]; rfl
  rw [er] at pm
  obtain ⟨L', rfl, pL⟩ := rows_perm pm
  have sqL : ∀ q ∈ L', SqT X.K H q.1 (q.2.map V.str) := fun q hq => sq' q (pL.mem_iff.mp hq)
  have ln : L'.length ≤ 4 := by rw [pL.length_eq]; exact len
  have hL : (L'.map fun q => Value.ref q.1).length ≤ sizeLine := by rw [List.length_map, sizeLine_eq]; omega
  obtain ⟨as, ra⟩ := Dp.readsAll I _ _ _ (dp_rows L' sqL) (vals_rows L')
  refine wpAny_bind (wpAny_newList ?_ hL)
  have hob : (s1.heap.push (seqObj "list" (L'.map fun q => Value.ref q.1).toArray 0)).get? s1.heap.objs.size = some (seqObj "list" (L'.map fun q => Value.ref q.1).toArray 0) := Heap.get?_push_size _ rfl
  have k2 : ∀ b ob, s.heap.get? b = some ob → b ≠ s1.heap.objs.size ∧ (s1.heap.push (seqObj "list" (L'.map fun q => Value.ref q.1).toArray 0)).get? b = some ob := fun b ob e => ⟨Nat.ne_of_lt (Heap.lt_size (k1 b ob e)), Heap.get?_push_of_some _ (k1 b ob e)⟩
  show wpAny _ _ (holding [Value.ref s1.heap.objs.size] _ >>= _) _ _ { s1 with heap := s1.heap.push (seqObj "list" (L'.map fun q => Value.ref q.1).toArray 0) }
  generalize s1.heap.push (seqObj "list" (L'.map fun q => Value.ref q.1).toArray 0) = h2 at hob k2 ⊢
  have keepS : ∀ b ob, s.heap.get? b = some ob → (PySem.W.sortingHeap h2 s1.heap.objs.size (L'.map fun q => Value.ref q.1)).get? b = some ob := fun b ob e => PySem.W.sortingHeap_old (k2 b ob e).1 (k2 b ob e).2
  obtain ⟨as', ra'⟩ : ∃ as, ReadsAll (PySem.W.sortingHeap h2 s1.heap.objs.size (L'.map fun q => Value.ref q.1)) (L'.map fun q => Value.ref q.1) (L'.map fun q => (rowK q.2).2) as := ⟨as, PyProof.Rows.ReadsAll.keeps keepS ra⟩
  have srt : SortsAt X.prog X.w X.A.in1.in1 { s1 with heap := PySem.W.sortingHeap h2 s1.heap.objs.size (L'.map fun q => Value.ref q.1) } (dataKind (PySem.W.sortingHeap h2 s1.heap.objs.size (L'.map fun q => Value.ref q.1)) (L'.map fun q => (rowK q.2).2)) (L'.map fun q => Value.ref q.1) :=
    sorts_lz (readsAll_each ra') (by
      have z := lz_keys (ks := L'.map (·.2)) fun k hk => by
        obtain ⟨q, hq, rfl⟩ := List.mem_map.mp hk
        exact l2 q (pL.mem_iff.mp hq)
      rwa [List.map_map] at z) fun d hd => by
        obtain ⟨q, _, rfl⟩ := List.mem_map.mp hd
        have := depth_key q.2
        rw [Around.in1_units, Around.in1_units]; omega
  refine wpAny_bind (wpAny_holding (wpAny_call_entry PyProof.Rows.slot_list_sort ⟨_, hob, rfl⟩ PyProof.Rows.entry_list_sort (PySem.W.list_sort_vals (s := { s1 with heap := h2 }) hob srt hL ⟨.none, rfl, ?_⟩) (PyProof.Rows.args_list_sort _)))
  obtain ⟨ep', hat⟩ := PyProof.Rows.sortedHeap_at (out := (PySem.W.sortVals (dataKind (PySem.W.sortingHeap h2 s1.heap.objs.size (L'.map fun q => Value.ref q.1)) (L'.map fun q => (rowK q.2).2)) false (L'.map fun q => Value.ref q.1) (L'.map fun q => Value.ref q.1)).toArray) hob
  have lx := den_rows (G := G) (p := p) L' (by rw [← hK]; exact sqL)
  obtain ⟨zs, z1, z2⟩ := data_sorted lx (vals_rows L') ra'
  have hl2 : zs.length ≤ sizeLine := by rw [z1.length, PySem.W.sortVals_length false rfl]; exact hL
  rw [zip_rows] at z2
  have z3 : DenL G p H (sortK (L.map (·.2))) zs := by rw [← sortK_perm (pL.map (·.2))]; exact z2
  have kF : ∀ b ob, s.heap.get? b = some ob → (PyProof.Rows.sortedHeap h2 s1.heap.objs.size (L'.map fun q => Value.ref q.1) (PySem.W.sortVals (dataKind (PySem.W.sortingHeap h2 s1.heap.objs.size (L'.map fun q => Value.ref q.1)) (L'.map fun q => (rowK q.2).2)) false (L'.map fun q => Value.ref q.1) (L'.map fun q => Value.ref q.1)).toArray).get? b = some ob := fun b ob e => by
    rw [PyProof.Rows.sortedHeap_old (k2 b ob e).1 (Heap.lt_size (k2 b ob e).2)]; exact (k2 b ob e).2
  have nn : H s1.heap.objs.size = none := I.hok.fresh hz
  refine wpAny_pure ⟨_, rfl, .ref s1.heap.objs.size, upd H s1.heap.objs.size (.lst zs), ?_, rfl, newO_fresh S q4 k nn ⟨zs, rfl, z3, hl2⟩⟩
  exact I.call' (ch := []) o1 (Un.laid kF hz nn) (I.hok.laid kF hz ⟨hl2, _, ep', z1, hat⟩) (by show AllBare s1.gens; rw [g1]; exact I.bare) (fun _ z => nomatch z)
end

end
section
section
variable {X : Cx} {G : Mg}
/-- set(a), told to whoever sorts it -/
noncomputable def tSet4 (G : Mg) (A : Fe) : TE := fun σ H Q => ∃ p s r w s' ws ks, Sim G p s H ∧ EnvR G p H r σ ∧ A r s = some (w, s') ∧ lstOf w s' = some ws ∧ keysOf ws = some ks ∧ ks.length ≤ 4 ∧ ∀ p' H' a L, Sim G p' s' H' → Fra p H p' H' → H' a = none → (L.map (·.2)).Perm (ddK ks) → (∀ q ∈ L, SqT G.K H' q.1 (q.2.map V.str)) → (∀ q ∈ L, q.2.length = 2) → Q (.ref a) (upd H' a (FewO G.P G.w a L))
theorem pe_set4 {a : Expr} {A : Fe} {p2 pos : Pos} (hc : X.calm = true) (hu : X.A.units + 64 < cLine) (hg : Gl X "set") (hm : X.mg "set" = none) (ha : PE X a (tI G A)) (hs : starEach [a] X.env = [(false, eval a X.env)] := by rfl) (hpl : (backTo pos (starEach [] X.env)).any (·.1) = false := by rfl) (hK : X.K = G.K := by rfl) (hP : X.prog = G.P := by rfl) (hw : X.w = G.w := by rfl) :
    PE X (.Call (.Name "set" p2) [a] [] pos) (tSet4 G A) :=
  pe_imp (pe_callTy (cm_set4 hc hu hK hP hw) hg hm (by decide +kernel) (pa_cons ha pa_nil hs) (he := hs) (hpl := hpl)) fun σ H Q ⟨p, s, r, w, s', ws, ks, S, E, q1, q2, q3, q4, k⟩ =>
    ⟨p, s, r, w, s', S, E, q1, fun p1 v1 H1 S1 f1 d1 => ⟨p1, s', w, v1, ws, ks, rfl, S1, d1, q2, q3, q4, fun a L na pm sq l2 => k p1 H1 a L S1 f1 na pm sq l2⟩⟩
theorem pm_srtS {a : Expr} {A : Fe} {p1 p2 pos cpos : Pos} (hc : X.calm = true) (hu : X.A.units + 64 < cLine) (hg : Gl X "sorted") (hm : X.mg "sorted" = none) (hg2 : Gl X "set") (hm2 : X.mg "set" = none) (ha : PE X a (tI G A)) (hs : starEach [a] X.env = [(false, eval a X.env)] := by rfl) (hpl : (backTo cpos (starEach [] X.env)).any (·.1) = false := by rfl)
    (hs1 : starEach [.Call (.Name "set" p2) [a] [] cpos] X.env = [(false, eval (.Call (.Name "set" p2) [a] [] cpos) X.env)] := by rfl) (hpl1 : (backTo pos (starEach [] X.env)).any (·.1) = false := by rfl) (hK : X.K = G.K := by rfl) (hP : X.prog = G.P := by rfl) (hw : X.w = G.w := by rfl) :
    PE X (.Call (.Name "sorted" p1) [.Call (.Name "set" p2) [a] [] cpos] [] pos) (tI G (msrtS A)) :=
  pe_imp (pe_callB (cm_srt4 hc hu hK hP hw) hg hm (by decide +kernel) (pa_cons (pe_set4 hc hu hg2 hm2 ha hs hpl hK hP hw) pa_nil hs1) (he := hs1) (hpl := hpl1)) fun σ H Q ⟨p, s, r, w, s', S, E, q, k⟩ => by
    obtain ⟨⟨x, s1⟩, q1, q2⟩ := ob_some.mp q
    obtain ⟨ws, q3, q4⟩ := ob_some.mp q2
    obtain ⟨ks, q5, q6⟩ := ob_some.mp q4
    cases e4 : Nat.ble ks.length 4 with
    | false => rw [e4] at q6; cases q6
    | true =>
      rw [e4] at q6
      refine ⟨p, s, r, x, s1, ws, ks, S, E, q1, q3, q5, Nat.le_of_ble_eq_true e4, fun p' H' a L S' f' na pm sq l2 => ?_⟩
      have f2 := fra_new (p := p') (o := FewO G.P G.w a L) na
      have S2 := S'.fra_new (o := FewO G.P G.w a L) na
      refine ⟨p', s1, a, L, w, s', rfl, upd_same, S2, fun q hq => (f2.stays S').tup (sq q hq), l2, ?_, k.of (f'.trans f2)⟩
      rw [sortK_perm pm]
      exact q6
end

end
section
/-! ### f(k1 = e1, .., kn = en): keywords alone -/
noncomputable def kpick {α : Type} (is : List Nat) (ws : List α) : List α := is.filterMap fun i => ws[i]?
noncomputable def mkw (is : List Nat) (A : Fa) : Fa := fun r s => (A r s).om fun x => (kpick is x.1, x.2)
theorem vals_at : ∀ {zs : List V} {ws : List Value}, Vals zs ws → ∀ i : Nat, (zs[i]? = none ∧ ws[i]? = none) ∨ ∃ z w, zs[i]? = some z ∧ ws[i]? = some w ∧ RelV z w
  | _, _, .nil, i => .inl ⟨by simp, by simp⟩
  | _, _, .cons r _, 0 => .inr ⟨_, _, rfl, rfl, r⟩
  | _, _, .cons _ t, i + 1 => by simpa using vals_at t i
theorem vals_kp {zs : List V} {ws : List Value} (h : Vals zs ws) : ∀ is : List Nat, Vals (kpick is zs) (kpick is ws)
  | [] => .nil
  | i :: is => by
    have ih := vals_kp h is
    unfold kpick at ih ⊢
    rw [List.filterMap_cons, List.filterMap_cons]
    rcases vals_at h i with ⟨e1, e2⟩ | ⟨z, w, e1, e2, r⟩
    · rw [e1, e2]; exact ih
    · rw [e1, e2]; exact .cons r ih
section
variable {X : Cx} {G : Mg} {p : List Addr} {H : Hp}
theorem denL_at : ∀ {ws : List Mv} {vs : List V}, DenL G p H ws vs → ∀ i : Nat, (ws[i]? = none ∧ vs[i]? = none) ∨ ∃ w v, ws[i]? = some w ∧ vs[i]? = some v ∧ Den G p H w v
  | [], _, l, i => by cases l; exact .inl ⟨by simp, by simp⟩
  | w :: ws, _, l, i => by
    cases l with
    | cons d l =>
      cases i with
      | zero => exact .inr ⟨_, _, rfl, rfl, d⟩
      | succ i => simpa using denL_at l i
theorem denL_kp {ws : List Mv} {vs : List V} (l : DenL G p H ws vs) : ∀ is : List Nat, DenL G p H (kpick is ws) (kpick is vs)
  | [] => .nil
  | i :: is => by
    have ih := denL_kp l is
    unfold kpick at ih ⊢
    rw [List.filterMap_cons, List.filterMap_cons]
    rcases denL_at l i with ⟨e1, e2⟩ | ⟨z, w, e1, e2, r⟩
    · rw [e1, e2]; exact ih
    · rw [e1, e2]; exact .cons r ih
theorem pk_imp {kws : List Keyword} {t t' : TA} (h : PK X kws t) (i : ∀ σ H Q, t' σ H Q → t σ H Q) : PK X kws t' := ⟨fun pos pins s σ H Q I q => h.run pos pins s σ H Q I (i σ H Q q)⟩
theorem km_nil : PK X [] (tA G mnil) := pk_imp pk_nil fun σ H Q ⟨p, s, r, ws, s', S, E, q, k⟩ => by cases q; exact k p [] H S Fra.refl .nil
theorem km_cons {e : Expr} {kws : List Keyword} {nm : Option Str} {kpos : Pos} {A : Fe} {B : Fa} (ha : PE X e (tI G A)) (hr : PK X kws (tA G B)) : PK X (⟨nm, e, kpos⟩ :: kws) (tA G (mcons A B)) :=
  pk_imp (pk_cons ha hr) fun σ H Q ⟨p, s, r, ws, s', S, E, q, k⟩ => by
    obtain ⟨⟨x, s1⟩, q1, q2⟩ := ob_some.mp q
    obtain ⟨⟨y, s2⟩, q3, q4⟩ := ob_some.mp q2
    cases q4
    exact ⟨p, s, r, x, s1, S, E, q1, fun p1 v1 H1 S1 f1 d1 => ⟨p1, s1, r, y, s2, S1, E.fra S f1, q3, fun p2 vs H2 S2 f2 d2 => k p2 _ H2 S2 (f1.trans f2) (.cons (d1.fra S1 f2) d2)⟩⟩
def gKw {α : Type} (is : List Nat) (us ws : List α) : List α := match us with
  | [] => kpick is ws
  | _ => []
theorem kb_of {K : PySem.W.Frag} {x qual : Str} {params : Arguments} {body : List Stmt} {scope : Scope} {kws : List (Str × V)} {f : Addr} {fd : FuncData} {ps ks : List Str} {is : List Nat} (F : FunD K x qual params body scope [] kws f fd) (hp : ps ≠ [])
    (h : ∀ (kV doc pm : Value) (an : Option Addr) (cdv ct : Value) (ws : List Value), (kpick is ws).length = ps.length → bindArgs (PySem.W.fnOf x qual params body scope .none kV doc pm an cdv ct) ⟨[], ks.zip ws⟩ = pure (ps.zip (kpick is ws))) : KBinds K fd ps ks (gKw is) (gKw is) := by
  obtain ⟨oc, od, dV, kV, doc, pm, an, cdv, ct, osl, rfl, lk, hcd, hD, hK⟩ := F.ex
  rcases hD with ⟨_, rfl⟩ | ⟨e, _⟩
  · refine ⟨fun s us ws _ hl => ?_, fun {vs us zs ws} r rz => ?_⟩
    · cases us with
      | nil => exact .of_eq (h kV doc pm an cdv ct ws hl)
      | cons u us => exact absurd (List.length_eq_zero_iff.mp (show ps.length = 0 from hl.symm)) hp
    · cases r with
      | nil => exact vals_kp rz is
      | cons _ _ => exact .nil
  · exact absurd rfl e
theorem pm_callKW {x : Str} {p0 pos : Pos} {kws : List Keyword} {f : Fn} {A : Fa} {CX : CXT} {k : Nat} {fa : Addr} {fd : FuncData} {ps ks : List Str} {is : List Nat} {E : XK} (F : FnOk X.prog X.w X.K X.mg X.base CX k fa fd ps (spM G f)) (hr : Room k X.A) (hg : Gl X x) (hm : X.mg x = some (.ref fa)) (hk : PySem.W.keepIn X.K (.ref fa) = true) (hb : KBinds X.K fd ps ks (gKw is) (gKw is)) (hx : Passes CX X E)
    (hkw : PK X kws (tA G A)) (hall : (backToKw pos (keywordEach kws X.env)).all (·.1.isSome) = true := by rfl) (hks : (backToKw pos (keywordEach kws X.env)).filterMap (·.1) = ks := by rfl) (hdb : (x == ("__debug__" : Str)) = false := by decide)
    (hpl : ((backTo pos (starEach [] X.env)).any (·.1) || (backToKw pos (keywordEach kws X.env)).any (·.1.isNone)) = false := by rfl) : PE X (.Call (.Name x p0) [] kws pos) (tI G (mcall f (mkw is A))) := by
  refine ⟨fun pins s σ H Q I h => ?_⟩
  have h := t_call h
  obtain ⟨p, ms, r, ws0, s', S, E0, q, kk⟩ := h
  obtain ⟨⟨ws, s1⟩, q1, q2⟩ := omap_some.mp q
  cases q2
  have h2 : tA G A σ H fun zs H1 => rF G f (kpick is zs) H1 Q := ⟨p, ms, r, ws, s1, S, E0, q1, fun p1 vs H1 S1 f1 d1 => kk p1 _ H1 S1 f1 (denL_kp d1 is)⟩
  refine wpAny_Call_Name_kw (ld_glob I hg hm ?_ hdb)
  refine PySem.W.callWith_KW0 (h₀ := X.base) I.ok.mod.kin hk hall (thn (hkw.run pos pins s σ H _ I h2) fun us s2 ⟨zs, H2, I2, rz, q2⟩ => ⟨I2.kIn, ?_⟩) hpl
  rw [hks]
  exact run_fnk (us := []) (vs := []) F hr hb hx I2 .nil rz q2
end

end
section
/-! ### [..] * k -/
noncomputable def lmulW (a b : Mv) (s : Ms) : Option (Mv × Ms) := match a, b with
  | .ref n, .int k => match s.get n with
    | some (.lst ws) => cond (decide (0 ≤ k) && (decide (k ≤ 1000) && Nat.ble ws.length 1000)) (newL (List.replicate k.toNat ws).flatten s) none
    | _ => none
  | _, _ => none
section
variable {X : Cx} {G : Mg} {p : List Addr} {H : Hp}
theorem denL_app2 : ∀ {ws us : List Mv} {vs zs : List V}, DenL G p H ws vs → DenL G p H us zs → DenL G p H (ws ++ us) (vs ++ zs)
  | [], _, _, _, l, m => by cases l; exact m
  | w :: ws, _, _, _, l, m => by
    cases l with
    | cons d l => exact .cons d (denL_app2 l m)
theorem denL_rep {ws : List Mv} {vs : List V} (l : DenL G p H ws vs) : ∀ n : Nat, DenL G p H (List.replicate n ws).flatten (List.replicate n vs).flatten
  | 0 => .nil
  | n + 1 => by
    rw [List.replicate_succ, List.replicate_succ, List.flatten_cons, List.flatten_cons]
    exact denL_app2 l (denL_rep l n)
theorem denL_len2 : ∀ {ws : List Mv} {vs : List V}, DenL G p H ws vs → ws.length = vs.length
  | [], _, l => by cases l; rfl
  | w :: ws, _, l => by
    cases l with
    | cons d l => rw [List.length_cons, List.length_cons, denL_len2 l]
theorem om_lmul : OpR X (binaryOp .Mult) (q2R G lmulW) := opr_imp op_rep fun x y H Q ⟨p, s, a, b, w, s', S, da, db, q, k⟩ => by
  unfold lmulW at q
  split at q
  · rename_i n j
    split at q
    · rename_i ws e
      cases ec : (decide (0 ≤ j) && (decide (j ≤ 1000) && Nat.ble ws.length 1000)) with
      | false => rw [ec] at q; cases q
      | true =>
        rw [ec] at q
        obtain ⟨c1, c2⟩ := Bool.and_eq_true_iff.mp ec
        obtain ⟨c3, c4⟩ := Bool.and_eq_true_iff.mp c2
        have c1 := of_decide_eq_true c1
        have c3 := of_decide_eq_true c3
        have c4 := Nat.le_of_ble_eq_true c4
        cases da with
        | ref hn =>
          cases db
          obtain ⟨ho, h1, vs, rfl, l, hz⟩ := S.get hn e
          have ln := denL_len2 l
          have hm : vs.length * j.toNat ≤ 1000 * 1000 := Nat.mul_le_mul (by omega) (by omega)
          obtain ⟨g1, g2⟩ := newL_ok S (denL_rep l j.toNat) q k
          exact ⟨_, j, vs, rfl, rfl, h1, by omega, by omega, by rw [sz_eq]; omega, fun P hP => g2 P hP⟩
    · cases q
  · cases q
end

end
section
/-! ### 'x' * k -/
noncomputable def smulW (a b : Mv) (s : Ms) : Option (Mv × Ms) := match a, b with
  | .str x, .int k => cond (decide (1 ≤ k) && (decide (k ≤ 1000) && (Nat.ble x.length 1000 && Nat.ble (if (k == 1 || x.length == 0) = true then x else ⟨(List.replicate k.toNat x.cps).foldl (· ++ ·) #[]⟩).length 16777216))) (some (.str (if (k == 1 || x.length == 0) = true then x else ⟨(List.replicate k.toNat x.cps).foldl (· ++ ·) #[]⟩), s)) none
  | _, _ => none
section
variable {X : Cx} {G : Mg} {p : List Addr} {H : Hp}
theorem om_smul : OpR X (binaryOp .Mult) (q2R G smulW) := by
  intro pins s σ H x y v u Q I rx ry h
  obtain ⟨p, ms, a, b, w, ms', S, da, db, q, k⟩ := h
  unfold smulW at q
  split at q
  · rename_i z j
    cases ec : (decide (1 ≤ j) && (decide (j ≤ 1000) && (Nat.ble z.length 1000 && Nat.ble (if (j == 1 || z.length == 0) = true then z else ⟨(List.replicate j.toNat z.cps).foldl (· ++ ·) #[]⟩).length 16777216))) with
    | false => rw [ec] at q; cases q
    | true =>
      rw [ec] at q
      cases q
      obtain ⟨c1, c2⟩ := Bool.and_eq_true_iff.mp ec
      obtain ⟨c3, c4⟩ := Bool.and_eq_true_iff.mp c2
      have c1 := of_decide_eq_true c1
      have c3 := of_decide_eq_true c3
      obtain ⟨c4, c5⟩ := Bool.and_eq_true_iff.mp c4
      have c4 := Nat.le_of_ble_eq_true c4
      have c5 := ble_sz c5
      cases da
      cases db
      obtain ⟨t, rfl⟩ := rx
      obtain ⟨t', rfl⟩ := ry
      have hm : z.length * j.toNat ≤ 1000 * 1000 := Nat.mul_le_mul c4 (by omega)
      refine PySem.P.mul_str (by rw [decide_eq_false (by omega), decide_eq_false (by omega)]; rfl) (fun _ _ => ?_) (fun _ _ => ?_) ?_
      · have : (2 ^ 63 - 1) / 1000 ≤ (2 ^ 63 - 1 : Int) / j := by
          rw [Int.le_ediv_iff_mul_le (by omega)]
          have : (9223372036854775 : Int) * j ≤ 9223372036854775 * 1000 := Int.mul_le_mul_of_nonneg_left c3 (by decide)
          omega
        omega
      · unfold Builtin.Str.tooLong
        exact decide_eq_false (by rw [sz_eq]; omega)
      · rw [if_neg (by omega)]
        by_cases e : (j == 1 || z.length == 0) = true
        · rw [if_pos e] at k ⊢
          exact ⟨.str z, H, I, ⟨_, rfl⟩, k p _ H S Fra.refl (.str _)⟩
        · rw [if_neg e] at k c5 ⊢
          exact ⟨c5, .str _, H, I.tok _, ⟨_, rfl⟩, k p _ H S Fra.refl (.str _)⟩
  · cases q
end

end
section
/-! ### what a run of the mirror tells, for values that are not known -/
def Wp {α : Type} (o : Option α) (Q : α → Prop) : Prop := ∃ x, o = some x ∧ Q x
section
variable {α β : Type} {o : Option α} {Q R : α → Prop}
theorem wp_ob {f : α → Option β} {Q : β → Prop} : Wp (o.ob f) Q ↔ Wp o fun x => Wp (f x) Q := by
  cases o with
  | none => exact ⟨fun ⟨_, h, _⟩ => (by cases h), fun ⟨_, h, _⟩ => (by cases h)⟩
  | some a => exact ⟨fun h => ⟨a, rfl, h⟩, fun ⟨_, h, q⟩ => by cases h; exact q⟩
theorem wp_om {f : α → β} {Q : β → Prop} : Wp (o.om f) Q ↔ Wp o fun x => Q (f x) := by
  cases o with
  | none => exact ⟨fun ⟨_, h, _⟩ => (by cases h), fun ⟨_, h, _⟩ => (by cases h)⟩
  | some a => exact ⟨fun ⟨_, h, q⟩ => by cases h; exact ⟨a, rfl, q⟩, fun ⟨_, h, q⟩ => by cases h; exact ⟨_, rfl, q⟩⟩
theorem wp_some {x : α} : Wp (some x) Q ↔ Q x := ⟨fun ⟨_, h, q⟩ => by cases h; exact q, fun q => ⟨x, rfl, q⟩⟩
theorem wp_none : Wp (none : Option α) Q ↔ False := ⟨fun ⟨_, h, _⟩ => (by cases h), fun h => h.elim⟩
theorem Wp.mono (h : Wp o Q) (i : ∀ x, Q x → R x) : Wp o R := let ⟨x, e, q⟩ := h; ⟨x, e, i x q⟩
theorem Wp.of {x : α} (e : o = some x) (q : Q x) : Wp o Q := ⟨x, e, q⟩
theorem wp_true {b : Bool} {x y : Option α} (h : b = true) (q : Wp x Q) : Wp (cond b x y) Q := by subst h; exact q
end
/-! ### stores: what stays -/
theorem Ms.get_push {s : Ms} {o : Mo} : (push s o).get s.sz = some o := by rw [push_get, if_pos rfl]
theorem push_sz {s : Ms} {o : Mo} : (push s o).sz = s.sz + 1 := rfl
theorem put_sz {s : Ms} {b : Nat} {o : Mo} : (s.put b o).sz = s.sz := rfl
/-- all but the one at b stay, new ones come behind -/
structure Ext (b : Nat) (s s' : Ms) : Prop where
  sz : s.sz ≤ s'.sz
  get : ∀ n, n < s.sz → n ≠ b → s'.get n = s.get n
theorem Ext.refl {b : Nat} {s : Ms} : Ext b s s := ⟨Nat.le_refl _, fun _ _ _ => rfl⟩
theorem Ext.trans {b : Nat} {s s1 s2 : Ms} (h : Ext b s s1) (g : Ext b s1 s2) : Ext b s s2 := ⟨Nat.le_trans h.sz g.sz, fun n hn hb => (g.get n (Nat.lt_of_lt_of_le hn h.sz) hb).trans (h.get n hn hb)⟩
theorem Ext.push {b : Nat} {s : Ms} {o : Mo} : Ext b s (push s o) := ⟨Nat.le_succ _, fun n hn _ => by rw [push_get, if_neg (by omega)]⟩
theorem Ext.put {b : Nat} {s s' : Ms} {o : Mo} {n : Nat} (h : Ext b s s') (hn : n = b ∨ s.sz ≤ n) : Ext b s (s'.put n o) := ⟨h.sz, fun m hm hb => by
  rw [put_get', if_neg (by omega)]; exact h.get m hm hb⟩
theorem Ext.at {b : Nat} {s s' : Ms} (h : Ext b s s') {n : Nat} {o : Option Mo} (hn : n < s.sz) (hb : n ≠ b) (e : s.get n = o) : s'.get n = o := (h.get n hn hb).trans e
/-- nothing changes, new ones come behind -/
structure Ex0 (s s' : Ms) : Prop where
  sz : s.sz ≤ s'.sz
  get : ∀ n, n < s.sz → s'.get n = s.get n
theorem Ex0.refl {s : Ms} : Ex0 s s := ⟨Nat.le_refl _, fun _ _ => rfl⟩
theorem Ex0.trans {s s1 s2 : Ms} (h : Ex0 s s1) (g : Ex0 s1 s2) : Ex0 s s2 := ⟨Nat.le_trans h.sz g.sz, fun n hn => (g.get n (Nat.lt_of_lt_of_le hn h.sz)).trans (h.get n hn)⟩
theorem Ex0.push {s : Ms} {o : Mo} : Ex0 s (push s o) := ⟨Nat.le_succ _, fun n hn => by rw [push_get, if_neg (by omega)]⟩
theorem Ex0.ext {b : Nat} {s s' : Ms} (h : Ex0 s s') : Ext b s s' := ⟨h.sz, fun n hn _ => h.get n hn⟩
theorem Ex0.at {s s' : Ms} (h : Ex0 s s') {n : Nat} {o : Option Mo} (hn : n < s.sz) (e : s.get n = o) : s'.get n = o := (h.get n hn).trans e
/-- the source of draws -/
structure Bx' (s : Ms) (b m : Nat) : Prop where
  lt : b < s.sz
  ob : ∃ a c n : Int, s.get b = some (.lst [.int a, .int c, .int n]) ∧ BoxOk a c n ∧ n ≤ m
theorem Bx'.mono {s : Ms} {b m m' : Nat} (h : Bx' s b m) (le : m ≤ m') : Bx' s b m' := ⟨h.lt, h.ob.elim fun a ⟨c, n, e, o, l⟩ => ⟨a, c, n, e, o, by omega⟩⟩
theorem Bx'.ex0 {s s' : Ms} {b m : Nat} (h : Bx' s b m) (g : Ex0 s s') : Bx' s' b m := ⟨Nat.lt_of_lt_of_le h.lt g.sz, h.ob.elim fun a ⟨c, n, e, o, l⟩ => ⟨a, c, n, g.at h.lt e, o, l⟩⟩
theorem Bx'.put {s : Ms} {b m n : Nat} {o : Mo} (h : Bx' s b m) (hn : n ≠ b) : Bx' (s.put n o) b m := ⟨h.lt, h.ob.elim fun a ⟨c, n, e, o, l⟩ => ⟨a, c, n, by rw [put_get', if_neg (by omega)]; exact e, o, l⟩⟩
theorem Bx'.push {s : Ms} {b m : Nat} {o : Mo} (h : Bx' s b m) : Bx' (push s o) b m := h.ex0 Ex0.push
/-! ### words -/
theorem newL_of {ws : List Mv} {s : Ms} (h : ws.length ≤ 16777216) : newL ws s = some (.ref s.sz, push s (.lst ws)) := by
  unfold newL
  rw [llen_eq, Nat.ble_eq_true_of_le h]
  rfl
theorem newT_of {ws : List Mv} {s : Ms} (h : ws.length ≤ 16777216) : newT ws s = some (.tup ws, s) := by
  unfold newT
  rw [llen_eq, Nat.ble_eq_true_of_le h]
  rfl
theorem wp_newL {ws : List Mv} {s : Ms} {Q : Mv × Ms → Prop} (h : ws.length ≤ 16777216) : Wp (newL ws s) Q ↔ Q (.ref s.sz, push s (.lst ws)) := by rw [newL_of h, wp_some]
theorem wp_newT {ws : List Mv} {s : Ms} {Q : Mv × Ms → Prop} (h : ws.length ≤ 16777216) : Wp (newT ws s) Q ↔ Q (.tup ws, s) := by rw [newT_of h, wp_some]
theorem newO_of {o : Mo} {s : Ms} : newO o s = some (.ref s.sz, push s o) := rfl
theorem items_ref {s : Ms} {n : Nat} {ws : List Mv} (h : s.get n = some (.lst ws)) : items (.ref n) s = some ws := by
  show (match s.get n with
    | some (.lst ws) => some ws
    | _ => none) = _
  rw [h]
theorem items_tup {s : Ms} {ws : List Mv} : items (.tup ws) s = some ws := rfl
theorem ixA_of {a : Mv} {s : Ms} {i : Int} {ws : List Mv} {w : Mv} (h : items a s = some ws) (e : atF ws i = some w) : ixA a (.int i) s = some (w, s) := by
  unfold ixA
  have : ixW a (.int i) s = some (w, s) := by
    show (items a s).ob (fun ws => (atF ws i).om fun w => (w, s)) = _
    rw [h, ob_of, e, om_of]
  rw [this]
theorem atF_of {α : Type} {ws : List α} {i : Nat} {w : α} (h : ws[i]? = some w) : atF ws (i : Int) = some w := by
  show lget ws i = _
  rw [lget_eq]; exact h
theorem atF_int {α : Type} {ws : List α} {i : Int} {w : α} (h0 : 0 ≤ i) (h : ws[i.toNat]? = some w) : atF ws i = some w := by
  obtain ⟨n, rfl⟩ := Int.eq_ofNat_of_zero_le h0
  exact atF_of h
theorem lenB_of {a : Mv} {s : Ms} {ws : List Mv} (h : items a s = some ws) : lenB a s = some ws.length := by
  unfold items at h
  unfold lenB
  cases a with
  | tup xs => cases h; rfl
  | fl xs => cases h; rfl
  | ref n =>
    simp only at h ⊢
    split at h
    · rename_i e
      cases h
      first
        | rfl
        | rw [e]
    · cases h
  | _ => cases h
theorem lenW_of {a : Mv} {s : Ms} {ws : List Mv} (h : items a s = some ws) : lenW [a] s = some (.int (ws.length : Nat), s) := by
  show (lenB a s).om _ = _
  rw [lenB_of h]; rfl
theorem miS_of {A : Fe} {r : Me} {s s1 : Ms} {a : Mv} {ws : List Mv} (e : A r s = some (a, s1)) (h : items a s1 = some ws) : ∃ it, miS A r s = some (it, s1) ∧ ((∃ n, it = .lst n ∧ a = .ref n) ∨ it = .seq ws) := by
  unfold miS
  rw [e, ob_of]
  cases a with
  | tup xs => cases h; exact ⟨_, rfl, .inr rfl⟩
  | fl xs => cases h; exact ⟨_, rfl, .inr rfl⟩
  | ref n =>
    unfold items at h
    simp only at h ⊢
    split at h
    · rename_i e
      cases h
      first
        | exact ⟨_, rfl, .inl ⟨n, rfl, rfl⟩⟩
        | (rw [e]; exact ⟨_, rfl, .inl ⟨n, rfl, rfl⟩⟩)
    · cases h
  | _ => cases h
/-- the iterator gives these -/
def Gives (it : It0) (ws : List Mv) (s : Ms) : Prop := ∀ i, it.at i s = some ws[i]?
theorem gives_seq {ws : List Mv} {s : Ms} : Gives (.seq ws) ws s := fun i => by show some (lget ws i) = _; rw [lget_eq]
theorem gives_lst {n : Nat} {ws : List Mv} {s : Ms} (h : s.get n = some (.lst ws)) : Gives (.lst n) ws s := fun i => by
  show (match s.get n with
    | some (.lst ws) => some (lget ws i)
    | _ => none) = _
  rw [h]
  show some (lget ws i) = _
  rw [lget_eq]
def rngL (lo : Int) (n : Nat) : List Mv := (List.range n).map fun (i : Nat) => Mv.int (lo + (i : Int))
theorem rngL_len {lo : Int} {n : Nat} : (rngL lo n).length = n := by simp [rngL]
theorem rngL_get {lo : Int} {n i : Nat} {w : Mv} (h : (rngL lo n)[i]? = some w) : i < n ∧ w = .int (lo + (i : Int)) := by
  unfold rngL at h
  rw [List.getElem?_map] at h
  by_cases hi : i < n
  · rw [List.getElem?_range hi] at h
    cases h
    exact ⟨hi, rfl⟩
  · rw [List.getElem?_eq_none (by simp; omega)] at h
    cases h
theorem gives_rng {lo : Int} {n : Nat} {s : Ms} : Gives (.rng lo n) (rngL lo n) s := fun i => by
  show some (cond (Nat.blt i n) (some (Mv.int (lo + i))) none) = _
  rw [nblt]
  unfold rngL
  by_cases hi : i < n
  · rw [decide_eq_true hi, List.getElem?_map, List.getElem?_range hi]; rfl
  · rw [decide_eq_false hi, List.getElem?_eq_none (by simp; omega)]; rfl
/-! ### loops -/
theorem wp_loop {it : It0} {T : Tg} {B : Fs} (ws : List Mv) (I : Nat → Me → Ms → Prop) (ha : ∀ i r s, i ≤ ws.length → I i r s → Gives it ws s)
    (hs : ∀ i w r s, ws[i]? = some w → I i r s → Wp (T.asg w r) fun r1 => Wp (B r1 s) fun x => x.1 = .nx ∧ I (i + 1) x.2.1 x.2.2) : ∀ (m i : Nat) (r : Me) (s : Ms), ws.length < m + i → i ≤ ws.length → I i r s → Wp (mloop it T B m i r s) fun x => x.1 = .nx ∧ I ws.length x.2.1 x.2.2
  | 0, i, r, s, hm, hi, _ => by omega
  | m + 1, i, r, s, hm, hi, h => by
    rw [mloop_succ, ha i r s hi h i]
    cases e : ws[i]? with
    | none =>
      have : i = ws.length := by have := List.getElem?_eq_none_iff.mp e; omega
      subst this
      exact ⟨_, rfl, rfl, h⟩
    | some w =>
      have hl := (List.getElem?_eq_some_iff.mp e).1
      show Wp ((T.asg w r).ob _) _
      rw [wp_ob]
      refine (hs i w r s e h).mono fun r1 h1 => ?_
      rw [wp_ob]
      refine h1.mono fun x hx => ?_
      obtain ⟨fl, r2, s2⟩ := x
      obtain ⟨rfl, h2⟩ := hx
      exact wp_loop ws I ha hs m (i + 1) r2 s2 (by omega) (by omega) h2
theorem wp_flat {it : It0} {st : Mv → Ms → Option (List Mv × Ms)} (ws : List Mv) (I : Nat → List Mv → Ms → Prop) (ha : ∀ i acc s, i ≤ ws.length → I i acc s → Gives it ws s)
    (hs : ∀ i w acc s, ws[i]? = some w → I i acc s → Wp (st w s) fun x => I (i + 1) (acc ++ x.1) x.2) : ∀ (m i : Nat) (acc : List Mv) (s : Ms), ws.length < m + i → i ≤ ws.length → I i acc s → Wp (mflat it st m i s) fun x => I ws.length (acc ++ x.1) x.2
  | 0, i, acc, s, hm, hi, _ => by omega
  | m + 1, i, acc, s, hm, hi, h => by
    rw [mflat_succ, ha i acc s hi h i]
    cases e : ws[i]? with
    | none =>
      have : i = ws.length := by have := List.getElem?_eq_none_iff.mp e; omega
      subst this
      exact ⟨_, rfl, by simpa using h⟩
    | some w =>
      have hl := (List.getElem?_eq_some_iff.mp e).1
      show Wp ((st w s).ob _) _
      rw [wp_ob]
      refine (hs i w acc s e h).mono fun x hx => ?_
      rw [wp_om]
      refine (wp_flat ws I ha hs m (i + 1) (acc ++ x.1) x.2 (by omega) (by omega) hx).mono fun y hy => ?_
      simpa [List.append_assoc] using hy
/-- a comprehension that leaves the store as it is -/
theorem flat_pure {it : It0} {st : Mv → Ms → Option (List Mv × Ms)} {ws : List Mv} {s : Ms} (f : Mv → List Mv) (hl : ws.length < 100000) (ha : Gives it ws s) (hs : ∀ w ∈ ws, st w s = some (f w, s)) : mflat it st 100000 0 s = some (ws.flatMap f, s) := by
  obtain ⟨⟨y, s'⟩, e, h1, h2⟩ := wp_flat (it := it) (st := st) ws (fun i acc s' => s' = s ∧ acc = (ws.take i).flatMap f) (fun i acc s' _ h => h.1 ▸ ha) (fun i w acc s' e h => by
    obtain ⟨rfl, rfl⟩ := h
    refine ⟨_, hs w (List.mem_of_getElem? e), rfl, ?_⟩
    rw [List.take_add_one, e]
    simp) 100000 0 [] s (by omega) (by omega) ⟨rfl, rfl⟩
  simp only [List.nil_append, List.take_length] at h2
  simp only at h1
  rw [e, h1, h2]

end
section
/-! ### words of the mirror, with what is wanted behind them -/
theorem wp_mvar {i : Nat} {r : Me} {s : Ms} {Q : Mv × Ms → Prop} : Wp (mvar i r s) Q ↔ (match r[i]? with
    | some (some w) => Q (w, s)
    | _ => False) := by
  unfold mvar
  rw [lget_eq]
  cases r[i]? with
  | none => exact wp_none
  | some o => cases o with
    | none => exact wp_none
    | some w => exact wp_some
theorem wp_seq {A B : Fs} {r : Me} {s : Ms} {Q : Fl × Me × Ms → Prop} (h : Wp (A r s) fun x => x.1 = .nx ∧ Wp (B x.2.1 x.2.2) Q) : Wp (sseq A B r s) Q := by
  unfold sseq
  rw [wp_ob]
  refine h.mono fun x hx => ?_
  obtain ⟨fl, r1, s1⟩ := x
  obtain ⟨rfl, h⟩ := hx
  exact h
theorem wp_fn {np nl : Nat} {B : Fs} {ws : List Mv} {s : Ms} {Q : Mv × Ms → Prop} (r : Me) (hl : ws.length = np) (hr : lsome (nl - np) ws = r) (h : Wp (B r s) fun x => ∃ w, x.1 = .rt w ∧ Q (w, x.2.2)) : Wp (fnM np nl B ws s) Q := by
  unfold fnM
  rw [hl, beq_t, cond_true, hr, wp_ob]
  refine h.mono fun x hx => ?_
  obtain ⟨fl, r1, s1⟩ := x
  obtain ⟨w, e, q⟩ := hx
  simp only at e
  subst e
  exact ⟨_, rfl, q⟩
theorem wp_for {I : Fi} {T : Tg} {B : Fs} {r : Me} {s : Ms} {Q : Fl × Me × Ms → Prop} (h : Wp (I r s) fun x => Wp (mloop x.1 T B 100000 0 r x.2) Q) : Wp (sfor I T B r s) Q := by
  unfold sfor
  rw [wp_ob]; exact h
theorem wp_R1 {A : Fa} {r : Me} {s : Ms} {Q : It0 × Ms → Prop} (h : Wp (A r s) fun x => ∃ j : Int, x.1 = [.int j] ∧ okI j = true ∧ Q (.rng 0 j.toNat, x.2)) : Wp (miR1 A r s) Q := by
  unfold miR1
  rw [wp_ob]
  refine h.mono fun x hx => ?_
  obtain ⟨ws, s1⟩ := x
  obtain ⟨j, rfl, h1, h2⟩ := hx
  exact ⟨_, by show cond (okI j) _ _ = _; rw [h1]; rfl, h2⟩
theorem okI_of {j : Int} (h0 : 0 ≤ j) (h1 : j ≤ 1000000) : okI j = true := by
  unfold okI
  rw [decide_eq_true (by omega), decide_eq_true (by omega)]; rfl
/-- a sequence whose items stay -/
def Itm (b : Nat) (s : Ms) (v : Mv) (ws : List Mv) : Prop := v = .tup ws ∨ ∃ n, v = .ref n ∧ n < s.sz ∧ n ≠ b ∧ s.get n = some (.lst ws)
theorem Itm.items {b : Nat} {s : Ms} {v : Mv} {ws : List Mv} (h : Itm b s v ws) : items v s = some ws := by
  rcases h with rfl | ⟨n, rfl, _, _, e⟩
  · rfl
  · exact items_ref e
theorem Itm.ext {b : Nat} {s s' : Ms} {v : Mv} {ws : List Mv} (h : Itm b s v ws) (x : Ext b s s') : Itm b s' v ws := by
  rcases h with rfl | ⟨n, rfl, h1, h2, e⟩
  · exact .inl rfl
  · exact .inr ⟨n, rfl, Nat.lt_of_lt_of_le h1 x.sz, h2, x.at h1 h2 e⟩
theorem wp_S {b : Nat} {A : Fe} {r : Me} {s : Ms} {Q : It0 × Ms → Prop} (h : Wp (A r s) fun x => ∃ ws, Itm b x.2 x.1 ws ∧ ∀ it, (∀ s', Ext b x.2 s' → Gives it ws s') → Q (it, x.2)) : Wp (miS A r s) Q := by
  unfold miS
  rw [wp_ob]
  refine h.mono fun x hx => ?_
  obtain ⟨v, s1⟩ := x
  obtain ⟨ws, h1, h2⟩ := hx
  rcases h1 with e | ⟨n, e, e1, e2, e3⟩
  · simp only at e
    subst e
    exact ⟨_, rfl, h2 _ fun s' _ => gives_seq⟩
  · simp only at e e1 e2 e3
    subst e
    refine ⟨(.lst n, s1), ?_, h2 _ fun s' x => gives_lst (x.at e1 e2 e3)⟩
    simp only [e3]
theorem wp_S' {A : Fe} {r : Me} {s : Ms} {Q : It0 × Ms → Prop} (h : Wp (A r s) fun x => ∃ ws, items x.1 x.2 = some ws ∧ ∀ it, (∀ s', items x.1 s' = some ws → Gives it ws s') → Q (it, x.2)) : Wp (miS A r s) Q := by
  unfold miS
  rw [wp_ob]
  refine h.mono fun x hx => ?_
  obtain ⟨v, s1⟩ := x
  obtain ⟨ws, h1, h2⟩ := hx
  have gl : ∀ n (s' : Ms), items (.ref n) s' = some ws → s'.get n = some (.lst ws) := fun n s' e => by
    unfold items at e
    simp only at e
    split at e
    · rename_i e1
      cases e
      exact e1
    · cases e
  cases v with
  | tup xs => cases h1; exact ⟨_, rfl, h2 _ fun s' _ => gives_seq⟩
  | fl xs => cases h1; exact ⟨_, rfl, h2 _ fun s' _ => gives_seq⟩
  | ref n =>
    refine ⟨(.lst n, s1), ?_, h2 _ fun s' e => gives_lst (gl n s' e)⟩
    simp only [gl n s1 h1]
  | _ => cases h1
theorem wp_lc {I : Fi} {T : Tg} {C : Ft} {E : Fe} {vs : List Nat} {r : Me} {s : Ms} {Q : Mv × Ms → Prop} (h : Wp (I r s) fun x => Wp (mflat x.1 (mstep T C E (mwipe r vs)) 100000 0 x.2) fun y => y.1.length ≤ 16777216 ∧ Q (.ref y.2.sz, push y.2 (.lst y.1))) : Wp (mlc I T C E vs r s) Q := by
  unfold mlc
  rw [wp_ob]
  refine h.mono fun x hx => ?_
  rw [wp_ob]
  exact hx.mono fun y hy => ⟨_, newL_of hy.1, hy.2⟩
/-- found.append(..), where found is a list of ours -/
theorem wp_app {O : Fe} {A : Fa} {r : Me} {s : Ms} {Q : Mv × Ms → Prop} {n : Nat} {xs : List Mv} (hO : O r s = some (.ref n, s)) (hn : s.get n = some (.lst xs)) (h : Wp (A r s) fun x => ∃ w ys, x.1 = [w] ∧ x.2.get n = some (.lst ys) ∧ ys.length < 16777216 ∧ Q (.non, x.2.put n (.lst (ys ++ [w])))) : Wp (mbmL appW O A r s) Q := by
  unfold mbmL
  rw [hO, ob_of]
  simp only [hn]
  rw [wp_ob]
  refine h.mono fun x hx => ?_
  obtain ⟨ws, s1⟩ := x
  obtain ⟨w, ys, rfl, e, hl, q⟩ := hx
  simp only at e q
  simp only [e]
  refine ⟨_, ?_, q⟩
  show cond (Nat.blt ys.length 16777216) _ _ = _
  rw [nblt, decide_eq_true hl]; rfl
theorem wp_pop {O : Fe} {A : Fa} {r : Me} {s : Ms} {Q : Mv × Ms → Prop} {n : Nat} {xs : List Mv} (hO : O r s = some (.ref n, s)) (hn : s.get n = some (.lst xs)) (h : Wp (A r s) fun x => ∃ (i : Int) (ys : List Mv) (w : Mv), x.1 = [.int i] ∧ 0 ≤ i ∧ x.2.get n = some (.lst ys) ∧ ys[i.toNat]? = some w ∧ Q (w, x.2.put n (.lst (ys.eraseIdx i.toNat)))) : Wp (mbmL popW O A r s) Q := by
  unfold mbmL
  rw [hO, ob_of]
  simp only [hn]
  rw [wp_ob]
  refine h.mono fun x hx => ?_
  obtain ⟨ws, s1⟩ := x
  obtain ⟨i, ys, w, rfl, h0, e, hw, q⟩ := hx
  simp only at e q
  simp only [e]
  refine ⟨_, ?_, q⟩
  show (ixN ys.length i).ob _ = _
  have : ixN ys.length i = some i.toNat := by
    unfold ixN
    have := (List.getElem?_eq_some_iff.mp hw).1
    rw [if_pos h0, if_pos (by omega)]
  rw [this, ob_of, hw, om_of]
theorem erase_map {α β : Type} (f : α → β) : ∀ (l : List α) (i : Nat), (l.map f).eraseIdx i = (l.eraseIdx i).map f
  | [], _ => rfl
  | _ :: _, 0 => rfl
  | x :: l, i + 1 => congrArg (f x :: ·) (erase_map f l i)
theorem erase_perm {α : Type} : ∀ (l : List α) (i : Nat) (h : i < l.length), (l[i] :: l.eraseIdx i).Perm l
  | x :: l, 0, _ => List.Perm.refl _
  | x :: l, i + 1, h => (List.Perm.swap _ _ _).trans ((erase_perm l i (by simpa using h)).cons x)

end
section
/-! ### the law's own loop, over sources that are lists of numbers -/
theorem len_fl {s : Ms} {ns : List Int} : lenW [.fl (ns.map Mv.int)] s = some (.int (ns.length : Nat), s) := by
  rw [lenW_of (a := .fl (ns.map Mv.int)) (s := s) (ws := ns.map Mv.int) rfl, List.length_map]
theorem all_rep {s : Ms} {n j : Nat} (h : s.get n = some (.lst (List.replicate j (Mv.bl true)))) : allW [.ref n] s = some (.bl true, s) := by
  show ((lstOf (.ref n) s).ob fun xs => (boolsOf xs).om fun bs => (Mv.bl (bs.all id), s)) = _
  have : lstOf (.ref n) s = some (List.replicate j (Mv.bl true)) := items_ref h
  rw [this, ob_of, bools_rep, om_of]
  have : (List.replicate j true).all id = true := by
    rw [List.all_eq_true]
    intro x hx
    rw [List.eq_of_mem_replicate hx]; rfl
  rw [this]
theorem law_genW {bx rt : Fn} {R L D : Nat} (hb : BoxFn bx) (hR : R ≤ 100) (hL : L ≤ 100) (hr : ∀ s b m, Bx' s b m → m + D ≤ L * D → Wp (rt [.ref b] s) fun x => x.1 = .bl true ∧ Bx' x.2 b (m + D)) (ns : List Int) : ∃ s', fnM 1 4 (lawB bx rt (R : Int) (L : Int)) [.fl (ns.map .int)] ⟨0, .nil⟩ = some (.bl true, s') := by
  have key : Wp (fnM 1 4 (lawB bx rt (R : Int) (L : Int)) [.fl (ns.map .int)] ⟨0, .nil⟩) fun y => y.1 = .bl true := by
    refine wp_fn [some (.fl (ns.map .int)), none, none, none] rfl rfl ?_
    unfold lawB
    refine wp_seq ?_
    refine wp_for (wp_R1 ?_)
    simp only [wp_ob, wp_om, wp_some, wp_mvar, sset, sexp, sret, sif, spar, spar3, snx, mtB, mtst, mop1, mop2, mcall, mcons, mnil, mcon, mif, mtup, mlst, mand, mor, mnot, mandV, morV, mnotV, lset_eq, List.getElem?_cons_zero, List.getElem?_cons_succ, List.set_cons_zero, List.set_cons_succ, cond_true, cond_false, len_fl, min2W, addW]
    generalize hj : Int.add 1 (if ((ns.length : Nat) : Int) < (R : Int) then ((ns.length : Nat) : Int) else (R : Int)) = j
    have hj' : 1 + (if ((ns.length : Nat) : Int) < (R : Int) then ((ns.length : Nat) : Int) else (R : Int)) = j := hj
    have j0 : 0 ≤ j ∧ j ≤ 101 := by split at hj' <;> omega
    refine ⟨j, rfl, okI_of j0.1 (by omega), ?_⟩
    refine (wp_loop (rngL 0 j.toNat) (fun i r s' => ∃ o1 o2 o3, r = [some (.fl (ns.map .int)), o1, o2, o3]) (fun i r s' _ _ => gives_rng) ?_ 100000 0 _ _ (by rw [rngL_len]; omega) (by omega) ⟨none, none, none, rfl⟩).mono ?_
    · rintro i w r s' hw ⟨o1, o2, o3, rfl⟩
      obtain ⟨hi, rfl⟩ := rngL_get hw
      refine ⟨_, rfl, wp_seq ?_⟩
      obtain ⟨A, C, hA, hC, hC2, e⟩ := hb ns (0 + (i : Int)) s' (by omega) (by omega)
      rw [newL_of (by simp)] at e
      simp only [wp_ob, wp_om, wp_some, wp_mvar, sset, sexp, sret, sif, spar, spar3, snx, mtB, mtst, mop1, mop2, mcall, mcons, mnil, mcon, mif, mtup, mlst, mand, mor, mnot, mandV, morV, mnotV, lset_eq, List.getElem?_cons_zero, List.getElem?_cons_succ, List.set_cons_zero, List.set_cons_succ, cond_true, cond_false, e]
      refine ⟨trivial, ?_⟩
      unfold lapB
      simp only [wp_ob, wp_om, wp_some, wp_mvar, sset, sexp, sret, sif, spar, spar3, snx, mtB, mtst, mop1, mop2, mcall, mcons, mnil, mcon, mif, mtup, mlst, mand, mor, mnot, mandV, morV, mnotV, lset_eq, List.getElem?_cons_zero, List.getElem?_cons_succ, List.set_cons_zero, List.set_cons_succ, cond_true, cond_false]
      refine wp_lc (wp_R1 ?_)
      simp only [wp_ob, wp_om, wp_some, wp_mvar, sset, sexp, sret, sif, spar, spar3, snx, mtB, mtst, mop1, mop2, mcall, mcons, mnil, mcon, mif, mtup, mlst, mand, mor, mnot, mandV, morV, mnotV, lset_eq, List.getElem?_cons_zero, List.getElem?_cons_succ, List.set_cons_zero, List.set_cons_succ, cond_true, cond_false]
      refine ⟨L, rfl, okI_of (by omega) (by omega), ?_⟩
      have B0 : Bx' (push s' (.lst [.int A, .int C, .int 0])) s'.sz 0 := ⟨by rw [push_sz]; omega, A, C, 0, Ms.get_push, ⟨hA, hC, hC2, by decide⟩, by decide⟩
      refine (wp_flat (rngL 0 (L : Int).toNat) (fun i acc s2 => acc = List.replicate i (Mv.bl true) ∧ Bx' s2 s'.sz (i * D)) (fun i acc s2 _ _ => gives_rng) ?_ 100000 0 [] _ (by rw [rngL_len]; omega) (by omega) ⟨rfl, by simpa using B0⟩).mono ?_
      · rintro k w acc s2 hw2 ⟨rfl, B⟩
        obtain ⟨hk, rfl⟩ := rngL_get hw2
        unfold mstep
        simp only [wp_ob, wp_om, wp_some, wp_mvar, sset, sexp, sret, sif, spar, spar3, snx, mtB, mtst, mop1, mop2, mcall, mcons, mnil, mcon, mif, mtup, mlst, mand, mor, mnot, mandV, morV, mnotV, lset_eq, List.getElem?_cons_zero, List.getElem?_cons_succ, List.set_cons_zero, List.set_cons_succ, cond_true, cond_false, mwipe, Tg.asg, myes]
        have hk' : k < L := by omega
        refine (hr s2 s'.sz (k * D) B ?_).mono fun x hx => ?_
        · calc k * D + D = (k + 1) * D := by rw [Nat.succ_mul]
            _ ≤ L * D := Nat.mul_le_mul_right D hk'
        · obtain ⟨h1, h2⟩ := hx
          rw [h1]
          refine ⟨by rw [List.replicate_succ'], ?_⟩
          rw [Nat.succ_mul]; exact h2
      · rintro ⟨acc, s2⟩ ⟨h1, h2⟩
        simp only [List.nil_append] at h1
        subst h1
        refine ⟨by rw [List.length_replicate, rngL_len]; omega, ?_⟩
        rw [all_rep Ms.get_push]
        simp only [wp_ob, wp_om, wp_some, wp_mvar, sset, sexp, sret, sif, spar, spar3, snx, mtB, mtst, mop1, mop2, mcall, mcons, mnil, mcon, mif, mtup, mlst, mand, mor, mnot, mandV, morV, mnotV, lset_eq, List.getElem?_cons_zero, List.getElem?_cons_succ, List.set_cons_zero, List.set_cons_succ, cond_true, cond_false, tru, Bool.not_true]
        exact ⟨trivial, _, _, _, rfl⟩
    · rintro ⟨fl, r, s'⟩ ⟨e, o1, o2, o3, rfl⟩
      simp only at e
      subst e
      refine ⟨rfl, ?_⟩
      exact ⟨_, rfl, rfl⟩
  obtain ⟨⟨w, s'⟩, h1, h2⟩ := key
  simp only at h2
  subst h2
  exact ⟨s', h1⟩
section
variable {X : Cx} {G : Mg} {x : Str} {p0 pos : Pos} {f : Fn}
theorem pe_callG0 {k : Nat} {fa : Addr} {fd : FuncData} {ps : List Str} {sp : Sp} {E : XK} (F : FnG X.prog X.w X.K X.mg X.base k fa fd ps sp) (gd : X.A.guards = some []) (hr : Room k X.A) (hg : Gl X x) (hm : X.mg x = some (.ref fa)) (hk : PySem.W.keepIn X.K (.ref fa) = true) (hb : Binds X.K fd ps [])
    (hdb : (x == ("__debug__" : Str)) = false := by decide) : PE X (.Call (.Name x p0) [] [] pos) (tCall sp [] E tNil) := by
  refine ⟨fun pins st σ H Q I h => wpAny_Call_Name_kw (ld_glob I hg hm ?_ hdb)⟩
  have h : sp [] H Q E := h
  have hlen : ([] : List Value).length = ps.length := F.len _ _ _ _ h
  refine PySem.W.callWith_K0 I.kIn hk ?_
  refine wpAny_call (codeAny_mono (F.run X.A gd X.stack st H ⟨[], []⟩ [] [] Q E hr I.env0 (hb st [] I.kIn hlen) .nil h) fun r s3 hq => ?_)
  match r, hq with
  | .error _, hq => exact hq.elim
  | .ok (.ret u), hq => exact I.after hq
  | .ok .next, hq => exact hq.elim
  | .ok .brk, hq => exact hq.elim
  | .ok .cont, hq => exact hq.elim
theorem pm_callG0 {k : Nat} {fa : Addr} {fd : FuncData} {ps : List Str} (F : FnG X.prog X.w X.K X.mg X.base k fa fd ps (spM G f)) (gd : X.A.guards = some []) (hr : Room k X.A) (hg : Gl X x) (hm : X.mg x = some (.ref fa)) (hk : PySem.W.keepIn X.K (.ref fa) = true) (hb : Binds X.K fd ps [])
    (hdb : (x == ("__debug__" : Str)) = false := by decide) : PE X (.Call (.Name x p0) [] [] pos) (tI G (mcall f mnil)) := pe_imp (pe_callG0 (E := fun _ _ _ => False) F gd hr hg hm hk hb hdb) fun σ H Q h => by
  obtain ⟨p, s, r, w, s', S, E, q, k⟩ := t_call h
  cases q
  exact k p [] H S Fra.refl .nil
end

end
section
/-! ### the law's draws, as numbers -/
def drawF (k a c n : Int) : Int × Int × Int :=
  if 0 < a then (a % k, a / k, n) else
    ((((((c + 52021 * (n + 1)) * (38039 + (n + 1)) % 2147483647 + (n + 1) + c / 1000003) * ((c + 52021 * (n + 1)) * (38039 + (n + 1)) % 2147483647 % 40009 + 11)) % 2147483629) * 52021 + (c + 52021 * (n + 1)) * (38039 + (n + 1)) % 2147483647) % 2147483587 / 64 % k, a, n + 1)
theorem drawF_in : DrIn drawF := by
  intro a c n k ok hk
  unfold drawF
  by_cases h : 0 < a
  · rw [if_pos h]
    exact ⟨Int.emod_nonneg _ (by omega), Int.emod_lt_of_pos _ (by omega), Int.ediv_nonneg ok.a0 (by omega), ok.c0, ok.c1, ok.n0⟩
  · rw [if_neg h]
    have := ok.n0
    exact ⟨Int.emod_nonneg _ (by omega), Int.emod_lt_of_pos _ (by omega), ok.a0, ok.c0, ok.c1, by show (0 : Int) ≤ n + 1; omega⟩

/-! ### the program of the law, by places -/
def top (i : Nat) : Stmt := PySem.Challenge.pw_latebound_k02_steps_or_none.main.body.getD i (.Pass ⟨0, 0, 0, 0⟩)
abbrev s_law : Stmt := top 24
abbrev s__law_box : Stmt := top 12
abbrev s__law_cell_at : Stmt := top 11
abbrev s__law_right : Stmt := top 23
abbrev s__law_great_right : Stmt := top 22
abbrev s_is_step : Stmt := top 9
abbrev s_is_number : Stmt := top 6
abbrev s_is_name : Stmt := top 7
abbrev s_lib_of : Stmt := top 8
abbrev s__law_same : Stmt := top 15
abbrev s__law_program : Stmt := top 21
abbrev s__law_names : Stmt := top 17
abbrev s__law_take : Stmt := top 13
abbrev s__law_lib : Stmt := top 20
abbrev s__law_some : Stmt := top 18
abbrev s__law_pairs : Stmt := top 19
abbrev s__law_pick : Stmt := top 14
abbrev s__law_lists : Stmt := top 16
/-! ### texts -/
def x_ : Str := ⟨#[]⟩
theorem e_x_ : (Str.ofString "" : Str) = x_ := by decide +kernel
def x_f : Str := ⟨#[102]⟩
theorem e_x_f : (Str.ofString "f" : Str) = x_f := by decide +kernel
def x_b : Str := ⟨#[98]⟩
theorem e_x_b : (Str.ofString "b" : Str) = x_b := by decide +kernel
def x_azz : Str := ⟨#[97, 122, 122]⟩
theorem e_x_azz : (Str.ofString "azz" : Str) = x_azz := by decide +kernel
def x_az : Str := ⟨#[97, 122]⟩
theorem e_x_az : (Str.ofString "az" : Str) = x_az := by decide +kernel
def x_a : Str := ⟨#[97]⟩
theorem e_x_a : (Str.ofString "a" : Str) = x_a := by decide +kernel
def x_main : Str := ⟨#[109, 97, 105, 110]⟩
theorem e_x_main : (Str.ofString "main" : Str) = x_main := by decide +kernel
def x_deep : Str := ⟨#[100, 101, 101, 112]⟩
theorem e_x_deep : (Str.ofString "deep" : Str) = x_deep := by decide +kernel
def x_close : Str := ⟨#[99, 108, 111, 115, 101]⟩
theorem e_x_close : (Str.ofString "close" : Str) = x_close := by decide +kernel
def x_open : Str := ⟨#[111, 112, 101, 110]⟩
theorem e_x_open : (Str.ofString "open" : Str) = x_open := by decide +kernel
def x_call : Str := ⟨#[99, 97, 108, 108]⟩
theorem e_x_call : (Str.ofString "call" : Str) = x_call := by decide +kernel
def xh_6162636465666768696a6b6c6d6e6f707172737475767778797a : Str := ⟨#[97, 98, 99, 100, 101, 102, 103, 104, 105, 106, 107, 108, 109, 110, 111, 112, 113, 114, 115, 116, 117, 118, 119, 120, 121, 122]⟩
theorem e_xh_6162636465666768696a6b6c6d6e6f707172737475767778797a : (Str.ofString "abcdefghijklmnopqrstuvwxyz" : Str) = xh_6162636465666768696a6b6c6d6e6f707172737475767778797a := by decide +kernel
def x_local : Str := ⟨#[108, 111, 99, 97, 108]⟩
theorem e_x_local : (Str.ofString "local" : Str) = x_local := by decide +kernel
def x_q : Str := ⟨#[113]⟩
theorem e_x_q : (Str.ofString "q" : Str) = x_q := by decide +kernel
def x_zlib : Str := ⟨#[122, 108, 105, 98]⟩
theorem e_x_zlib : (Str.ofString "zlib" : Str) = x_zlib := by decide +kernel
def x_cxx : Str := ⟨#[99, 120, 120]⟩
theorem e_x_cxx : (Str.ofString "cxx" : Str) = x_cxx := by decide +kernel
def x_ring : Str := ⟨#[114, 105, 110, 103]⟩
theorem e_x_ring : (Str.ofString "ring" : Str) = x_ring := by decide +kernel
def x_pa : Str := ⟨#[112, 97]⟩
theorem e_x_pa : (Str.ofString "pa" : Str) = x_pa := by decide +kernel
def x_h : Str := ⟨#[104]⟩
theorem e_x_h : (Str.ofString "h" : Str) = x_h := by decide +kernel
def x_g : Str := ⟨#[103]⟩
theorem e_x_g : (Str.ofString "g" : Str) = x_g := by decide +kernel
def x_global : Str := ⟨#[103, 108, 111, 98, 97, 108]⟩
theorem e_x_global : (Str.ofString "global" : Str) = x_global := by decide +kernel
def x_nobody : Str := ⟨#[110, 111, 98, 111, 100, 121]⟩
theorem e_x_nobody : (Str.ofString "nobody" : Str) = x_nobody := by decide +kernel
def x_shut : Str := ⟨#[115, 104, 117, 116]⟩
theorem e_x_shut : (Str.ofString "shut" : Str) = x_shut := by decide +kernel
def x_0 : Str := ⟨#[48]⟩
theorem e_x_0 : (Str.ofString "0" : Str) = x_0 := by decide +kernel
/-! ### what the top leaves: the facts that are asked of it -/
def dd_law : He.DefD := ⟨("law", none), "law", "law", defArgs s_law, defBody s_law, defScope s_law, [], []⟩
def dd__law_box : He.DefD := ⟨("_law_box", none), "_law_box", "_law_box", defArgs s__law_box, defBody s__law_box, defScope s__law_box, [], []⟩
def dd__law_cell_at : He.DefD := ⟨("_law_cell_at", none), "_law_cell_at", "_law_cell_at", defArgs s__law_cell_at, defBody s__law_cell_at, defScope s__law_cell_at, [], []⟩
def dd__law_right : He.DefD := ⟨("_law_right", none), "_law_right", "_law_right", defArgs s__law_right, defBody s__law_right, defScope s__law_right, [], []⟩
def dd__law_great_right : He.DefD := ⟨("_law_great_right", none), "_law_great_right", "_law_great_right", defArgs s__law_great_right, defBody s__law_great_right, defScope s__law_great_right, [], []⟩
def dd_is_step : He.DefD := ⟨("is_step", none), "is_step", "is_step", defArgs s_is_step, defBody s_is_step, defScope s_is_step, [], []⟩
def dd_is_number : He.DefD := ⟨("is_number", none), "is_number", "is_number", defArgs s_is_number, defBody s_is_number, defScope s_is_number, [], []⟩
def dd_is_name : He.DefD := ⟨("is_name", none), "is_name", "is_name", defArgs s_is_name, defBody s_is_name, defScope s_is_name, [], []⟩
def dd_lib_of : He.DefD := ⟨("lib_of", none), "lib_of", "lib_of", defArgs s_lib_of, defBody s_lib_of, defScope s_lib_of, [], []⟩
def dd__law_same : He.DefD := ⟨("_law_same", none), "_law_same", "_law_same", defArgs s__law_same, defBody s__law_same, defScope s__law_same, [], []⟩
def dd__law_program : He.DefD := ⟨("_law_program", none), "_law_program", "_law_program", defArgs s__law_program, defBody s__law_program, defScope s__law_program, [], []⟩
def dd__law_names : He.DefD := ⟨("_law_names", none), "_law_names", "_law_names", defArgs s__law_names, defBody s__law_names, defScope s__law_names, [], []⟩
def dd__law_take : He.DefD := ⟨("_law_take", none), "_law_take", "_law_take", defArgs s__law_take, defBody s__law_take, defScope s__law_take, [], []⟩
def dd__law_lib : He.DefD := ⟨("_law_lib", none), "_law_lib", "_law_lib", defArgs s__law_lib, defBody s__law_lib, defScope s__law_lib, [], []⟩
def dd__law_some : He.DefD := ⟨("_law_some", none), "_law_some", "_law_some", defArgs s__law_some, defBody s__law_some, defScope s__law_some, [], []⟩
def dd__law_pairs : He.DefD := ⟨("_law_pairs", none), "_law_pairs", "_law_pairs", defArgs s__law_pairs, defBody s__law_pairs, defScope s__law_pairs, [], []⟩
def dd__law_pick : He.DefD := ⟨("_law_pick", none), "_law_pick", "_law_pick", defArgs s__law_pick, defBody s__law_pick, defScope s__law_pick, [], []⟩
def dd__law_lists : He.DefD := ⟨("_law_lists", none), "_law_lists", "_law_lists", defArgs s__law_lists, defBody s__law_lists, defScope s__law_lists, [], []⟩
def fn : List He.DefD := ([dd_law, dd__law_box, dd__law_cell_at, dd__law_right, dd__law_great_right, dd_is_step, dd_is_number, dd_is_name, dd_lib_of, dd__law_same, dd__law_program, dd__law_names, dd__law_take, dd__law_lib, dd__law_some, dd__law_pairs, dd__law_pick, dd__law_lists] : List He.DefD)
def glos : List Str := (["_law_cell_at", "_law_box", "is_number", "is_name", "lib_of", "is_step", "_law_same", "_law_great_right", "_law_take", "_law_names", "_law_some", "_law_pick", "_law_pairs", "_law_lib", "_law_program", "_law_lists", "_law_right", "law"] : List Str)
def frees : List Str := ["range", "min", "len", "int", "abs", "all", "tuple", "isinstance", "str", "bool", "repr", "list", "sorted", "set"]
def fa : List He.Fa := ([.int "MOST_LETTERS" 8, .str "CLOSE" "close", .str "OPEN" "open", .str "CALL" "call", .str "LETTERS" "abcdefghijklmnopqrstuvwxyz"] : List He.Fa)
def faAll : List He.Fa := fa ++ (glos.map He.Fa.glo ++ frees.map He.Fa.free)
def tf : List He.Defn := []
def exB (K : PySem.W.Frag) : Bool := (true) && (true)
def fnames : List Str := []
def GG (P : Program) (w : World) (K : PySem.W.Frag) : Mg where
  P := P
  w := w
  K := K
  cad := fun c => He.ga K (([] : List Str).getD c "")
  nf := 0
  nm := fun k => fnames.getD k ""
  dr := drawF
  tad := fun t => (He.cT K (tf.getD t ("", none))).2
  inj := fun i j hi hj h => by
    have nd : fnames.Nodup := by decide +kernel
    have e1 : fnames[i]? = some (fnames.getD i "") := by rw [List.getD_eq_getElem?_getD, List.getElem?_eq_getElem (show i < fnames.length from hi)]; rfl
    have e2 : fnames[j]? = some (fnames.getD j "") := by rw [List.getD_eq_getElem?_getD, List.getElem?_eq_getElem (show j < fnames.length from hj)]; rfl
    exact nodup_at nd e1 (by rw [h]; exact e2)
structure Tx (K : PySem.W.Frag) (mg : Str → Option Value) (base : Heap) where
  fd : Nat → FuncData
  df : ∀ (i : Nat) (d : He.DefD), fn[i]? = some d → FunD K d.name d.qual d.params d.body d.scope (d.dvs K) (d.kws K) (He.fAd K d.at_) (fd i)
  gl : ∀ x, x ∈ glos → mg x = some (.ref (He.ga K x))
  fr : ∀ x, x ∈ frees → mg x = none
  fc : ∀ f, f ∈ fa → f.ok K = true
  gi : ∀ (x : Str) (i : Int), He.Fa.int x i ∈ fa → ∃ t, mg x = some (.int i t)
  gs : ∀ (x z : Str), He.Fa.str x z ∈ fa → ∃ t, mg x = some (.str z t)
  ex : exB K = true
  tb : ∀ p ∈ tf.map (He.cT K), LamX.TabB base mg p.1 p.2
section
variable {P : Program} {w : World} {K : PySem.W.Frag} {mg : Str → Option Value} {base : Heap}
theorem Tx.kp (T : Tx K mg base) (i : Nat) {d : He.DefD} (h : fn[i]? = some d) : PySem.W.keepIn K (.ref (He.fAd K d.at_)) = true := (T.df i d h).kp
theorem Tx.cl (T : Tx K mg base) (x : Str) (h : He.Fa.cls x ∈ fa) : Cls K (He.ga K x) := He.cls_ok (T.fc _ h)
theorem Tx.na (T : Tx K mg base) (x f : Str) (h : He.Fa.noat x f ∈ fa) : NoAttr K (He.ga K x) f := He.noat_ok (T.fc _ h)
theorem Tx.me (T : Tx K mg base) (x m : Str) (h : He.Fa.meth x m ∈ fa) : Meth K (He.ga K x) m (He.ma K (He.ga K x) m) := He.meth_ok (T.fc _ h)
theorem Tx.mkr (T : Tx K mg base) (x : Str) (h : He.Fa.mkr x ∈ fa) : Mk K (He.ga K x) (He.ma K (He.ga K x) "__init__") := He.mkr_ok (T.fc _ h)
end
/-! ### the mirror, def by def, and what each def keeps -/
section
variable {P : Program} {w : World} {K : PySem.W.Frag} {mg : Str → Option Value} {base : Heap}
def N__law_cell_at : List Str := ["_law_script", "_law_gate"]
theorem sc__law_cell_at : FnScope ["_law_script", "_law_gate"] ["_law_script", "_law_gate"] (defScope s__law_cell_at) := ⟨rfl, rfl, rfl, by decide +kernel, rfl, by decide +kernel, by decide +kernel⟩
theorem b__law_cell_at (T : Tx K mg base) : Binds K (T.fd 2) ["_law_script", "_law_gate"] [] := FunD.bindsN (T.df 2 dd__law_cell_at rfl) fun _ _ _ _ _ _ us hl => match us, hl with | [_, _], _ => rfl
def bd__law_cell_at : Fs :=
  sret (mif (mtB (mop2 ltW (mvar 1) (mcall lenW (mcons (mvar 0) (mnil))))) (mop2 ixA (mvar 0) (mvar 1)) (mcon (.int 0)))
def m__law_cell_at : Fn := fnM 2 2 bd__law_cell_at
theorem ok__law_cell_at (T : Tx K mg base) : FnOk P w K mg base CX0 1 (He.ga K "_law_cell_at") (T.fd 2) ["_law_script", "_law_gate"] (spM (GG P w K) m__law_cell_at) :=
  fn_okD (B := bd__law_cell_at) (T.df 2 dd__law_cell_at rfl) sc__law_cell_at (hb := fun cdv A outer s H E hr => sm_one (sm_ret (pm_if (pm_tcmp (om_lt) (pm_var (pv 1)) (pm_cB cm_len (by rfl) (T.fr "len" (by simp [frees])) bb_len (pm_cons (pm_var (pv 0)) (pm_nil))) (nomark _)) (pm_ixA hr.units (pm_var (pv 0)) (pm_var (pv 1))) (pm_int))))
def N__law_box : List Str := ["_law_script", "_law_gate", "_law_cell"]
theorem sc__law_box : FnScope ["_law_script", "_law_gate", "_law_cell"] ["_law_script", "_law_gate"] (defScope s__law_box) := ⟨rfl, rfl, rfl, by decide +kernel, rfl, by decide +kernel, by decide +kernel⟩
theorem b__law_box (T : Tx K mg base) : Binds K (T.fd 1) ["_law_script", "_law_gate"] [] := FunD.bindsN (T.df 1 dd__law_box rfl) fun _ _ _ _ _ _ us hl => match us, hl with | [_, _], _ => rfl
def bd__law_box : Fs :=
  sseq (sset 2 (mcall m__law_cell_at (mcons (mvar 0) (mcons (mvar 1) (mnil)))))
  (sret (mlst (mcons (mop2 mulW (mcall absW (mcons (mvar 2) (mnil))) (mcall intW (mcons (mop2 geW (mcall absW (mcons (mvar 2) (mnil))) (mop2 powW (mcon (.int 10)) (mcon (.int 18)))) (mnil)))) (mcons (mop2 addW (mop2 addW (mop2 modW (mcall intW (mcons (mvar 2) (mnil))) (mcon (.int 2305843009213693951))) (mop2 mulW (mcon (.int 41011)) (mvar 1))) (mcon (.int 19))) (mcons (mcon (.int 0)) (mnil))))))
def m__law_box : Fn := fnM 2 3 bd__law_box
theorem ok__law_box (T : Tx K mg base) : FnOk P w K mg base CX0 2 (He.ga K "_law_box") (T.fd 1) ["_law_script", "_law_gate"] (spM (GG P w K) m__law_box) :=
  fn_okD (B := bd__law_box) (T.df 1 dd__law_box rfl) sc__law_box (hb := fun cdv A outer s H E hr => sm_cons (sm_set (ps_set (i := 2) sc__law_box.nd rfl (Or.inl rfl) (pm_call (ok__law_cell_at T) (hr.mono (by decide)) (by rfl) (T.gl "_law_cell_at" (by simp [glos])) (T.kp 2 rfl) (b__law_cell_at T) pass0 (pm_cons (pm_var (pv 0)) (pm_cons (pm_var (pv 1)) (pm_nil))))))
    (sm_one (sm_ret (pm_lst (pm_cons (pm_bin om_mul (pm_cB cm_abs (by rfl) (T.fr "abs" (by simp [frees])) bb_abs (pm_cons (pm_var (pv 2)) (pm_nil))) (pm_cT cm_int (by rfl) (T.fr "int" (by simp [frees])) bb_int (pm_cons (pm_cmp (om_ge) (pm_cB cm_abs (by rfl) (T.fr "abs" (by simp [frees])) bb_abs (pm_cons (pm_var (pv 2)) (pm_nil))) (pm_bin om_pow (pm_int) (pm_int)) (nomark _)) (pm_nil)))) (pm_cons (pm_bin om_add (pm_bin om_add (pm_bin om_mod (pm_cT cm_int (by rfl) (T.fr "int" (by simp [frees])) bb_int (pm_cons (pm_var (pv 2)) (pm_nil))) (pm_int)) (pm_bin om_mul (pm_int) (pm_var (pv 1)))) (pm_int)) (pm_cons (pm_int) (pm_nil))))))))
def N_is_number : List Str := ["thing"]
theorem sc_is_number : FnScope ["thing"] ["thing"] (defScope s_is_number) := ⟨rfl, rfl, rfl, by decide +kernel, rfl, by decide +kernel, by decide +kernel⟩
theorem b_is_number (T : Tx K mg base) : Binds K (T.fd 6) ["thing"] [] := FunD.bindsN (T.df 6 dd_is_number rfl) fun _ _ _ _ _ _ us hl => match us, hl with | [_], _ => rfl
def bd_is_number : Fs :=
  sret (mandV (mcall isiW (mcons (mvar 0) (mcons (mcon (.ty .int)) mnil))) (mandV (mnotV (mcall isiW (mcons (mvar 0) (mcons (mcon (.ty .bool)) mnil)))) (mop2 geW (mvar 0) (mcon (.int 0)))))
def m_is_number : Fn := fnM 1 1 bd_is_number
theorem ok_is_number (T : Tx K mg base) : FnOk P w K mg base CX0 1 (He.ga K "is_number") (T.fd 6) ["thing"] (spM (GG P w K) m_is_number) :=
  fn_okD (B := bd_is_number) (T.df 6 dd_is_number rfl) sc_is_number (hb := fun cdv A outer s H E hr => sm_one (sm_ret (pm_and (pm_cB cm_isi (by rfl) (T.fr "isinstance" (by simp [frees])) bb_isinstance (pm_cons (pm_var (pv 0)) (pm_cons (pm_con (v := .ty "int") (pe_bltn (by rfl) (T.fr "int" (by simp [frees])) bb_int rfl) (fun _ _ _ _ => .ty .int)) pm_nil))) (pm_and (pm_not (pm_cB cm_isi (by rfl) (T.fr "isinstance" (by simp [frees])) bb_isinstance (pm_cons (pm_var (pv 0)) (pm_cons (pm_con (v := .ty "bool") (pe_bltn (by rfl) (T.fr "bool" (by simp [frees])) bb_bool rfl) (fun _ _ _ _ => .ty .bool)) pm_nil)))) (pm_one (pm_cmp (om_ge) (pm_var (pv 0)) (pm_int) (nomark _)))))))
def N_is_name : List Str := ["thing", "sign"]
theorem sc_is_name : FnScope ["thing", "sign"] ["thing"] (defScope s_is_name) := ⟨rfl, rfl, rfl, by decide +kernel, rfl, by decide +kernel, by decide +kernel⟩
theorem b_is_name (T : Tx K mg base) : Binds K (T.fd 7) ["thing"] [] := FunD.bindsN (T.df 7 dd_is_name rfl) fun _ _ _ _ _ _ us hl => match us, hl with | [_], _ => rfl
def bd_is_name : Fs :=
  sseq (sif (mor (mnot (mtst (mcall isiW (mcons (mvar 0) (mcons (mcon (.ty .str)) mnil))))) (mnot (mtB (mchain ltW leW (mcon (.int 0)) (mcall lenW (mcons (mvar 0) (mnil))) (mcon (.int 8)))))) (sret (mcon (.bl false))) (snx))
  (sret (mcall allW (mcons (mlc (miX (mvar 0)) (.nm 1) (myes) (mop2 sgIn (mvar 1) (mcon (.str xh_6162636465666768696a6b6c6d6e6f707172737475767778797a))) [1]) (mnil))))
def m_is_name : Fn := fnM 1 2 bd_is_name
theorem ok_is_name (T : Tx K mg base) : FnOk P w K mg base CX0 1 (He.ga K "is_name") (T.fd 7) ["thing"] (spM (GG P w K) m_is_name) :=
  fn_okD (B := bd_is_name) (T.df 7 dd_is_name rfl) sc_is_name (hb := fun cdv A outer s H E hr => sm_cons (sm_if (PW.pt (pm_wor (pm_tnot (pm_tst (pm_cB cm_isi (by rfl) (T.fr "isinstance" (by simp [frees])) bb_isinstance (pm_cons (pm_var (pv 0)) (pm_cons (pm_con (v := .ty "str") (pe_bltn (by rfl) (T.fr "str" (by simp [frees])) bb_str rfl) (fun _ _ _ _ => .ty .str)) pm_nil))))) (pm_wor1 (pm_tnot (pm_tchain (om_lt) (om_le) (pm_int) (pm_cB cm_len (by rfl) (T.fr "len" (by simp [frees])) bb_len (pm_cons (pm_var (pv 0)) (pm_nil))) (pm_gint (T.gi "MOST_LETTERS" 8 (by simp [fa])) (by rfl))))))) (sm_one (sm_ret (pm_bl))) (sm_nil))
    (sm_one (sm_ret (pm_cB cm_all (by rfl) (T.fr "all" (by simp [frees])) bb_all (pm_cons (pm_lc (own := [("sign", 1)]) rfl sc_is_name.nd (im_txt (pm_var (pv 0))) (blkOk_by (own := [("sign", 1)]) (N := N_is_name) (sc := defScope s_is_name) (by decide +kernel)) (fun _ _ _ _ _ => gm_name (pg_name (i := 1) sc_is_name.nd rfl (Or.inl rfl))) (fun _ _ _ _ _ => tm_nil) (fun _ _ _ _ _ => pm_cmp (om_sgIn) (pm_var (pv 1)) (pm_gstr (T.gs "LETTERS" "abcdefghijklmnopqrstuvwxyz" (by simp [fa])) e_xh_6162636465666768696a6b6c6d6e6f707172737475767778797a (by rfl)) (by rfl))) (pm_nil))))))
def N_lib_of : List Str := ["program", "name", "some", "lib"]
theorem sc_lib_of : FnScope ["program", "name", "some", "lib"] ["program", "name"] (defScope s_lib_of) := ⟨rfl, rfl, rfl, by decide +kernel, rfl, by decide +kernel, by decide +kernel⟩
theorem b_lib_of (T : Tx K mg base) : Binds K (T.fd 8) ["program", "name"] [] := FunD.bindsN (T.df 8 dd_lib_of rfl) fun _ _ _ _ _ _ us hl => match us, hl with | [_, _], _ => rfl
def bd_lib_of : Fs :=
  sseq (sset 2 (mlc (miS (mop2 ixA (mvar 0) (mcon (.int 0)))) (.nm 3) (mtB (mop2 eqW (mop2 ixA (mvar 3) (mcon (.int 0))) (mvar 1))) (mvar 3) [3]))
  (sret (mif (mtB (mop2 gtW (mcall lenW (mcons (mvar 2) (mnil))) (mcon (.int 0)))) (mop2 ixA (mvar 2) (mcon (.int 0))) (mcon .non)))
def m_lib_of : Fn := fnM 2 4 bd_lib_of
theorem ok_lib_of (T : Tx K mg base) : FnOk P w K mg base CX0 1 (He.ga K "lib_of") (T.fd 8) ["program", "name"] (spM (GG P w K) m_lib_of) :=
  fn_okD (B := bd_lib_of) (T.df 8 dd_lib_of rfl) sc_lib_of (hb := fun cdv A outer s H E hr => sm_cons (sm_setLc (i := 2) (own := [("lib", 3)]) rfl sc_lib_of.nd rfl rfl (sw_true rfl rfl rfl (by decide +kernel)) (im_seq (pm_ixA hr.units (pm_var (pv 0)) (pm_int))) (blkOk_by (own := [("lib", 3)]) (N := N_lib_of) (sc := defScope s_lib_of) (by decide +kernel)) (fun _ _ _ _ _ => gm_name (pg_name (i := 3) sc_lib_of.nd rfl (Or.inl rfl))) (fun _ _ _ _ _ => tm_one (pm_tcmp (om_eq hr.units) (pm_ixA hr.units (pm_var (pv 3)) (pm_int)) (pm_var (pv 1)) (nomark _))) (fun _ _ _ _ _ => pm_var (pv 3)))
    (sm_one (sm_ret (pm_if (pm_tcmp (om_gt) (pm_cB cm_len (by rfl) (T.fr "len" (by simp [frees])) bb_len (pm_cons (pm_var (pv 2)) (pm_nil))) (pm_int) (nomark _)) (pm_ixA hr.units (pm_var (pv 2)) (pm_int)) (pm_non)))))
def N_is_step : List Str := ["program", "thing", "lib"]
theorem sc_is_step : FnScope ["program", "thing", "lib"] ["program", "thing"] (defScope s_is_step) := ⟨rfl, rfl, rfl, by decide +kernel, rfl, by decide +kernel, by decide +kernel⟩
theorem kb_is_step_10 (T : Tx K mg base) : KBinds K (T.fd 5) ["program", "thing"] ["thing", "program"] (gKw [1, 0]) (gKw [1, 0]) := kb_of (T.df 5 dd_is_step rfl) (by simp) fun _ _ _ _ _ _ ws hl => match ws, hl with | _ :: _ :: _, _ => rfl | [], hl => absurd hl (by simp [kpick]) | [_], hl => absurd hl (by simp [kpick])
theorem b_is_step (T : Tx K mg base) : Binds K (T.fd 5) ["program", "thing"] [] := FunD.bindsN (T.df 5 dd_is_step rfl) fun _ _ _ _ _ _ us hl => match us, hl with | [_, _], _ => rfl
def bd_is_step : Fs :=
  sseq (sif (mor (mnot (mtst (mcall isiW (mcons (mvar 1) (mcons (mcon (.ty .tuple)) mnil))))) (mor (mtB (mop2 ltW (mcall lenW (mcons (mvar 1) (mnil))) (mcon (.int 2)))) (mnot (mtst (mcall isiW (mcons (mop2 ixA (mvar 1) (mcon (.int 0))) (mcons (mcon (.ty .str)) mnil))))))) (sret (mcon (.bl false))) (snx))
  (sseq (sif (mtB (mop2 inA (mop2 ixA (mvar 1) (mcon (.int 0))) (mtup (mcons (mcon (.str x_open)) (mcons (mcon (.str x_close)) (mnil)))))) (sret (mandV (mop2 eqW (mcall lenW (mcons (mvar 1) (mnil))) (mcon (.int 2))) (mandV (mcall m_is_number (mcons (mop2 ixA (mvar 1) (mcon (.int 1))) (mnil))) (mop2 ltW (mop2 ixA (mvar 1) (mcon (.int 1))) (mcall lenW (mcons (mop2 ixA (mvar 0) (mcon (.int 2))) (mnil))))))) (snx))
  (sseq (sif (mor (mtB (mop2 neW (mop2 ixA (mvar 1) (mcon (.int 0))) (mcon (.str x_call)))) (mor (mtB (mop2 neW (mcall lenW (mcons (mvar 1) (mnil))) (mcon (.int 3)))) (mor (mnot (mtst (mcall m_is_name (mcons (mop2 ixA (mvar 1) (mcon (.int 1))) (mnil))))) (mnot (mtst (mcall m_is_number (mcons (mop2 ixA (mvar 1) (mcon (.int 2))) (mnil)))))))) (sret (mcon (.bl false))) (snx))
  (sseq (sset 2 (mcall m_lib_of (mcons (mvar 0) (mcons (mop2 ixA (mvar 1) (mcon (.int 1))) (mnil)))))
  (sret (mandV (mop2 (isW true) (mvar 2) (mcon .non)) (mop2 ltW (mop2 ixA (mvar 1) (mcon (.int 2))) (mcall lenW (mcons (mop2 ixA (mvar 2) (mcon (.int 3))) (mnil)))))))))
def m_is_step : Fn := fnM 2 3 bd_is_step
theorem ok_is_step (T : Tx K mg base) : FnOk P w K mg base CX0 2 (He.ga K "is_step") (T.fd 5) ["program", "thing"] (spM (GG P w K) m_is_step) :=
  fn_okD (B := bd_is_step) (T.df 5 dd_is_step rfl) sc_is_step (hb := fun cdv A outer s H E hr => sm_cons (sm_if (PW.pt (pm_wor (pm_tnot (pm_tst (pm_cB cm_isi (by rfl) (T.fr "isinstance" (by simp [frees])) bb_isinstance (pm_cons (pm_var (pv 1)) (pm_cons (pm_con (v := .ty "tuple") (pe_bltn (by rfl) (T.fr "tuple" (by simp [frees])) bb_tuple rfl) (fun _ _ _ _ => .ty .tuple)) pm_nil))))) (pm_wor (pm_tcmp (om_lt) (pm_cB cm_len (by rfl) (T.fr "len" (by simp [frees])) bb_len (pm_cons (pm_var (pv 1)) (pm_nil))) (pm_int) (nomark _)) (pm_wor1 (pm_tnot (pm_tst (pm_cB cm_isi (by rfl) (T.fr "isinstance" (by simp [frees])) bb_isinstance (pm_cons (pm_ixA hr.units (pm_var (pv 1)) (pm_int)) (pm_cons (pm_con (v := .ty "str") (pe_bltn (by rfl) (T.fr "str" (by simp [frees])) bb_str rfl) (fun _ _ _ _ => .ty .str)) pm_nil))))))))) (sm_one (sm_ret (pm_bl))) (sm_nil))
    (sm_cons (sm_if (pm_tcmp (om_inA (u65 hr)) (pm_ixA hr.units (pm_var (pv 1)) (pm_int)) (pm_tup (pm_cons (pm_gstr (T.gs "OPEN" "open" (by simp [fa])) e_x_open (by rfl)) (pm_cons (pm_gstr (T.gs "CLOSE" "close" (by simp [fa])) e_x_close (by rfl)) (pm_nil)))) (by rfl)) (sm_one (sm_ret (pm_and (pm_cmp (om_eq hr.units) (pm_cB cm_len (by rfl) (T.fr "len" (by simp [frees])) bb_len (pm_cons (pm_var (pv 1)) (pm_nil))) (pm_int) (nomark _)) (pm_and (pm_call (ok_is_number T) (hr.mono (by decide)) (by rfl) (T.gl "is_number" (by simp [glos])) (T.kp 6 rfl) (b_is_number T) pass0 (pm_cons (pm_ixA hr.units (pm_var (pv 1)) (pm_int)) (pm_nil))) (pm_one (pm_cmp (om_lt) (pm_ixA hr.units (pm_var (pv 1)) (pm_int)) (pm_cB cm_len (by rfl) (T.fr "len" (by simp [frees])) bb_len (pm_cons (pm_ixA hr.units (pm_var (pv 0)) (pm_int)) (pm_nil))) (nomark _))))))) (sm_nil))
    (sm_cons (sm_if (PW.pt (pm_wor (pm_tcmp (om_ne hr.units) (pm_ixA hr.units (pm_var (pv 1)) (pm_int)) (pm_gstr (T.gs "CALL" "call" (by simp [fa])) e_x_call (by rfl)) (nomark _)) (pm_wor (pm_tcmp (om_ne hr.units) (pm_cB cm_len (by rfl) (T.fr "len" (by simp [frees])) bb_len (pm_cons (pm_var (pv 1)) (pm_nil))) (pm_int) (nomark _)) (pm_wor (pm_tnot (pm_tst (pm_call (ok_is_name T) (hr.mono (by decide)) (by rfl) (T.gl "is_name" (by simp [glos])) (T.kp 7 rfl) (b_is_name T) pass0 (pm_cons (pm_ixA hr.units (pm_var (pv 1)) (pm_int)) (pm_nil))))) (pm_wor1 (pm_tnot (pm_tst (pm_call (ok_is_number T) (hr.mono (by decide)) (by rfl) (T.gl "is_number" (by simp [glos])) (T.kp 6 rfl) (b_is_number T) pass0 (pm_cons (pm_ixA hr.units (pm_var (pv 1)) (pm_int)) (pm_nil)))))))))) (sm_one (sm_ret (pm_bl))) (sm_nil))
    (sm_cons (sm_set (ps_set (i := 2) sc_is_step.nd rfl (Or.inl rfl) (pm_call (ok_lib_of T) (hr.mono (by decide)) (by rfl) (T.gl "lib_of" (by simp [glos])) (T.kp 8 rfl) (b_lib_of T) pass0 (pm_cons (pm_var (pv 0)) (pm_cons (pm_ixA hr.units (pm_var (pv 1)) (pm_int)) (pm_nil))))))
    (sm_one (sm_ret (pm_and (pm_cmp (om_isnot) (pm_var (pv 2)) (pm_non) (nomark _)) (pm_one (pm_cmp (om_lt) (pm_ixA hr.units (pm_var (pv 1)) (pm_int)) (pm_cB cm_len (by rfl) (T.fr "len" (by simp [frees])) bb_len (pm_cons (pm_ixA hr.units (pm_var (pv 2)) (pm_int)) (pm_nil))) (nomark _))))))))))
def N__law_same : List Str := ["_law_found", "_law_due"]
theorem sc__law_same : FnScope ["_law_found", "_law_due"] ["_law_found", "_law_due"] (defScope s__law_same) := ⟨rfl, rfl, rfl, by decide +kernel, rfl, by decide +kernel, by decide +kernel⟩
theorem b__law_same (T : Tx K mg base) : Binds K (T.fd 9) ["_law_found", "_law_due"] [] := FunD.bindsN (T.df 9 dd__law_same rfl) fun _ _ _ _ _ _ us hl => match us, hl with | [_, _], _ => rfl
def bd__law_same : Fs :=
  sret (mop2 eqW (mcall reprW (mcons (mvar 0) (mnil))) (mcall reprW (mcons (mvar 1) (mnil))))
def m__law_same : Fn := fnM 2 2 bd__law_same
theorem ok__law_same (T : Tx K mg base) : FnG P w K mg base 1 (He.ga K "_law_same") (T.fd 9) ["_law_found", "_law_due"] (spM (GG P w K) m__law_same) :=
  fn_okG (B := bd__law_same) (T.df 9 dd__law_same rfl) sc__law_same (hb := fun cdv A gd outer s H E hr => sm_one (sm_ret (pm_cmp (om_eq hr.units) (pm_cB (cm_repr gd hr.units) (by rfl) (T.fr "repr" (by simp [frees])) bb_repr (pm_cons (pm_var (pv 0)) (pm_nil))) (pm_cB (cm_repr gd hr.units) (by rfl) (T.fr "repr" (by simp [frees])) bb_repr (pm_cons (pm_var (pv 1)) (pm_nil))) (nomark _))))
def N__law_great_right : List Str := ["_law_uses", "_law_folk", "_law_libs", "_law_plot", "_law_told", "_law_many", "_law_own"]
theorem sc__law_great_right : FnScope ["_law_uses", "_law_folk", "_law_libs", "_law_plot", "_law_told", "_law_many", "_law_own"] [] (defScope s__law_great_right) := ⟨rfl, rfl, rfl, by decide +kernel, rfl, by decide +kernel, by decide +kernel⟩
theorem b__law_great_right (T : Tx K mg base) : Binds K (T.fd 4) [] [] := FunD.bindsN (T.df 4 dd__law_great_right rfl) fun _ _ _ _ _ _ us hl => match us, hl with | [], _ => rfl
def bd__law_great_right : Fs :=
  sseq (sset 0 (mcall tupleW (mcons (mlc (miR2 (mcons (mcon (.int 1)) (mcons (mcon (.int 5)) (mnil)))) (.nm 5) (myes) (mtup (mcons (mop2 smulW (mcon (.str x_f)) (mvar 5)) (mcons (mcon (.str x_)) (mcons (mcon (.bl false)) (mnil))))) [5]) (mnil))))
  (sseq (sset 1 (mlst (mcons (mcon (.str x_a)) (mcons (mcon (.str x_az)) (mcons (mcon (.str x_azz)) (mcons (mcon (.str x_b)) (mnil)))))))
  (sseq (sset 2 (mop2 addW (mtup (mcons (mtup (mcons (mcon (.str x_main)) (mcons (mtup (mnil)) (mcons (mtup (mnil)) (mcons (mvar 0) (mnil)))))) (mnil))) (mcall tupleW (mcons (mlc (miS (mvar 1)) (.nm 6) (myes) (mtup (mcons (mvar 6) (mcons (mtup (mnil)) (mcons (mtup (mnil)) (mcons (mtup (mnil)) (mnil)))))) [6]) (mnil)))))
  (sseq (sset 3 (mtup (mcons (mvar 2) (mcons (mtup (mnil)) (mcons (mcall tupleW (mcons (mlc (miS (mvar 1)) (.nm 6) (myes) (mtup (mcons (mvar 6) (mcons (mcon (.str x_deep)) (mnil)))) [6]) (mnil))) (mnil))))))
  (sseq (sset 4 (mlst (mcons (mcall m_is_step (mcons (mvar 3) (mcons (mtup (mcons (mcon (.str x_open)) (mcons (mcon (.int 3)) (mnil)))) (mnil)))) (mcons (mcall m_is_step (mcons (mvar 3) (mcons (mtup (mcons (mcon (.str x_close)) (mcons (mcon (.int 4)) (mnil)))) (mnil)))) (mcons (mcall m_is_step (mcons (mvar 3) (mcons (mtup (mcons (mcon (.str x_call)) (mcons (mcon (.str x_main)) (mcons (mcon (.int 3)) (mnil))))) (mnil)))) (mnil))))))
  (sret (mcall m__law_same (mcons (mop2 addW (mvar 4) (mlst (mcons (mcall m_is_step (mcons (mvar 3) (mcons (mtup (mcons (mcon (.str x_call)) (mcons (mcon (.str x_main)) (mcons (mcon (.int 4)) (mnil))))) (mnil)))) (mnil)))) (mcons (mlst (mcons (mcon (.bl true)) (mcons (mcon (.bl false)) (mcons (mcon (.bl true)) (mcons (mcon (.bl false)) (mnil)))))) (mnil)))))))))
def m__law_great_right : Fn := fnM 0 7 bd__law_great_right
theorem ok__law_great_right (T : Tx K mg base) : FnG P w K mg base 3 (He.ga K "_law_great_right") (T.fd 4) [] (spM (GG P w K) m__law_great_right) :=
  fn_okG (B := bd__law_great_right) (T.df 4 dd__law_great_right rfl) sc__law_great_right (hb := fun cdv A gd outer s H E hr => sm_cons (sm_set (ps_set (i := 0) sc__law_great_right.nd rfl (Or.inl rfl) (pm_cT cm_tuple (by rfl) (T.fr "tuple" (by simp [frees])) bb_tuple (pm_cons (pm_lc (own := [("_law_many", 5)]) rfl sc__law_great_right.nd (im_range2 (by rfl) (T.fr "range" (by simp [frees])) (pm_cons (pm_int) (pm_cons (pm_int) (pm_nil)))) (blkOk_by (own := [("_law_many", 5)]) (N := N__law_great_right) (sc := defScope s__law_great_right) (by decide +kernel)) (fun _ _ _ _ _ => gm_name (pg_name (i := 5) sc__law_great_right.nd rfl (Or.inl rfl))) (fun _ _ _ _ _ => tm_nil) (fun _ _ _ _ _ => pm_tup (pm_cons (pm_bin om_smul (pm_str e_x_f) (pm_var (pv 5))) (pm_cons (pm_str e_x_) (pm_cons (pm_bl) (pm_nil)))))) (pm_nil)))))
    (sm_cons (sm_set (ps_set (i := 1) sc__law_great_right.nd rfl (Or.inl rfl) (pm_lst (pm_cons (pm_str e_x_a) (pm_cons (pm_str e_x_az) (pm_cons (pm_str e_x_azz) (pm_cons (pm_str e_x_b) (pm_nil))))))))
    (sm_cons (sm_set (ps_set (i := 2) sc__law_great_right.nd rfl (Or.inl rfl) (pm_bin om_add (pm_tup (pm_cons (pm_tup (pm_cons (pm_str e_x_main) (pm_cons (pm_tup (pm_nil)) (pm_cons (pm_tup (pm_nil)) (pm_cons (pm_var (pv 0)) (pm_nil)))))) (pm_nil))) (pm_cT cm_tuple (by rfl) (T.fr "tuple" (by simp [frees])) bb_tuple (pm_cons (pm_lc (own := [("_law_own", 6)]) rfl sc__law_great_right.nd (im_seq (pm_var (pv 1))) (blkOk_by (own := [("_law_own", 6)]) (N := N__law_great_right) (sc := defScope s__law_great_right) (by decide +kernel)) (fun _ _ _ _ _ => gm_name (pg_name (i := 6) sc__law_great_right.nd rfl (Or.inl rfl))) (fun _ _ _ _ _ => tm_nil) (fun _ _ _ _ _ => pm_tup (pm_cons (pm_var (pv 6)) (pm_cons (pm_tup (pm_nil)) (pm_cons (pm_tup (pm_nil)) (pm_cons (pm_tup (pm_nil)) (pm_nil))))))) (pm_nil))))))
    (sm_cons (sm_set (ps_set (i := 3) sc__law_great_right.nd rfl (Or.inl rfl) (pm_tup (pm_cons (pm_var (pv 2)) (pm_cons (pm_tup (pm_nil)) (pm_cons (pm_cT cm_tuple (by rfl) (T.fr "tuple" (by simp [frees])) bb_tuple (pm_cons (pm_lc (own := [("_law_own", 6)]) rfl sc__law_great_right.nd (im_seq (pm_var (pv 1))) (blkOk_by (own := [("_law_own", 6)]) (N := N__law_great_right) (sc := defScope s__law_great_right) (by decide +kernel)) (fun _ _ _ _ _ => gm_name (pg_name (i := 6) sc__law_great_right.nd rfl (Or.inl rfl))) (fun _ _ _ _ _ => tm_nil) (fun _ _ _ _ _ => pm_tup (pm_cons (pm_var (pv 6)) (pm_cons (pm_str e_x_deep) (pm_nil))))) (pm_nil))) (pm_nil)))))))
    (sm_cons (sm_set (ps_set (i := 4) sc__law_great_right.nd rfl (Or.inl rfl) (pm_lst (pm_cons (pm_call (ok_is_step T) (hr.mono (by decide)) (by rfl) (T.gl "is_step" (by simp [glos])) (T.kp 5 rfl) (b_is_step T) pass0 (pm_cons (pm_var (pv 3)) (pm_cons (pm_tup (pm_cons (pm_str e_x_open) (pm_cons (pm_int) (pm_nil)))) (pm_nil)))) (pm_cons (pm_call (ok_is_step T) (hr.mono (by decide)) (by rfl) (T.gl "is_step" (by simp [glos])) (T.kp 5 rfl) (b_is_step T) pass0 (pm_cons (pm_var (pv 3)) (pm_cons (pm_tup (pm_cons (pm_str e_x_close) (pm_cons (pm_int) (pm_nil)))) (pm_nil)))) (pm_cons (pm_call (ok_is_step T) (hr.mono (by decide)) (by rfl) (T.gl "is_step" (by simp [glos])) (T.kp 5 rfl) (b_is_step T) pass0 (pm_cons (pm_var (pv 3)) (pm_cons (pm_tup (pm_cons (pm_str e_x_call) (pm_cons (pm_str e_x_main) (pm_cons (pm_int) (pm_nil))))) (pm_nil)))) (pm_nil)))))))
    (sm_one (sm_ret (pm_callG (ok__law_same T) gd (hr.mono (by decide)) (by rfl) (T.gl "_law_same" (by simp [glos])) (T.kp 9 rfl) (b__law_same T) (pm_cons (pm_bin om_add (pm_var (pv 4)) (pm_lst (pm_cons (pm_call (ok_is_step T) (hr.mono (by decide)) (by rfl) (T.gl "is_step" (by simp [glos])) (T.kp 5 rfl) (b_is_step T) pass0 (pm_cons (pm_var (pv 3)) (pm_cons (pm_tup (pm_cons (pm_str e_x_call) (pm_cons (pm_str e_x_main) (pm_cons (pm_int) (pm_nil))))) (pm_nil)))) (pm_nil)))) (pm_cons (pm_lst (pm_cons (pm_bl) (pm_cons (pm_bl) (pm_cons (pm_bl) (pm_cons (pm_bl) (pm_nil)))))) (pm_nil)))))))))))
def N__law_take : List Str := ["_law_box_here", "_law_many", "_law_found", "_law_once", "_law_odd", "_law_twice"]
theorem sc__law_take : FnScope ["_law_box_here", "_law_many", "_law_found", "_law_once", "_law_odd", "_law_twice"] ["_law_box_here", "_law_many"] (defScope s__law_take) := ⟨rfl, rfl, rfl, by decide +kernel, rfl, by decide +kernel, by decide +kernel⟩
theorem b__law_take (T : Tx K mg base) : Binds K (T.fd 12) ["_law_box_here", "_law_many"] [] := FunD.bindsN (T.df 12 dd__law_take rfl) fun _ _ _ _ _ _ us hl => match us, hl with | [_, _], _ => rfl
def bd__law_take : Fs :=
  sseq (sif (mtB (mop2 gtW (mop2 ixA (mvar 0) (mcon (.int 0))) (mcon (.int 0)))) (sseq (sset 2 (mop2 modW (mcall intW (mcons (mop2 ixA (mvar 0) (mcon (.int 0))) (mnil))) (mvar 1)))
  (sseq (ssubA (mvar 0) (mcon (.int 0)) (mop2 divW (mop2 ixA (mvar 0) (mcon (.int 0))) (mvar 1)))
  (sret (mvar 2)))) (snx))
  (sseq (ssubA (mvar 0) (mcon (.int 2)) (mop2 addW (mop2 ixA (mvar 0) (mcon (.int 2))) (mcon (.int 1))))
  (sseq (sset 3 (mop2 modW (mcall intW (mcons (mop2 mulW (mop2 addW (mop2 ixA (mvar 0) (mcon (.int 1))) (mop2 mulW (mcon (.int 52021)) (mop2 ixA (mvar 0) (mcon (.int 2))))) (mop2 addW (mcon (.int 38039)) (mop2 ixA (mvar 0) (mcon (.int 2))))) (mnil))) (mcon (.int 2147483647))))
  (sseq (sset 4 (mop2 addW (mop2 modW (mcall intW (mcons (mvar 3) (mnil))) (mcon (.int 40009))) (mcon (.int 11))))
  (sseq (sset 5 (mop2 modW (mcall intW (mcons (mop2 mulW (mop2 addW (mop2 addW (mvar 3) (mop2 ixA (mvar 0) (mcon (.int 2)))) (mop2 divW (mop2 ixA (mvar 0) (mcon (.int 1))) (mcon (.int 1000003)))) (mvar 4)) (mnil))) (mcon (.int 2147483629))))
  (sret (mop2 modW (mcall intW (mcons (mop2 divW (mop2 modW (mcall intW (mcons (mop2 addW (mop2 mulW (mvar 5) (mcon (.int 52021))) (mvar 3)) (mnil))) (mcon (.int 2147483587))) (mcon (.int 64))) (mnil))) (mvar 1)))))))
def m__law_take : Fn := fnM 2 6 bd__law_take
theorem ok__law_take (T : Tx K mg base) : FnOk P w K mg base CX0 1 (He.ga K "_law_take") (T.fd 12) ["_law_box_here", "_law_many"] (spM (GG P w K) m__law_take) :=
  fn_okD (B := bd__law_take) (T.df 12 dd__law_take rfl) sc__law_take (hb := fun cdv A outer s H E hr => sm_cons (sm_if (pm_tcmp (om_gt) (pm_ixA hr.units (pm_var (pv 0)) (pm_int)) (pm_int) (nomark _)) (sm_cons (sm_set (ps_set (i := 2) sc__law_take.nd rfl (Or.inl rfl) (pm_bin om_mod (pm_cT cm_int (by rfl) (T.fr "int" (by simp [frees])) bb_int (pm_cons (pm_ixA hr.units (pm_var (pv 0)) (pm_int)) (pm_nil))) (pm_var (pv 1)))))
    (sm_cons (sm_subA (ps_asg (pm_bin om_div (pm_ixA hr.units (pm_var (pv 0)) (pm_int)) (pm_var (pv 1))) (pg_sub (pm_var (pv 0)) (pm_int) (set_any hr.units rfl))))
    (sm_one (sm_ret (pm_var (pv 2)))))) (sm_nil))
    (sm_cons (sm_subA (ps_asg (pm_bin om_add (pm_ixA hr.units (pm_var (pv 0)) (pm_int)) (pm_int)) (pg_sub (pm_var (pv 0)) (pm_int) (set_any hr.units rfl))))
    (sm_cons (sm_set (ps_set (i := 3) sc__law_take.nd rfl (Or.inl rfl) (pm_bin om_mod (pm_cT cm_int (by rfl) (T.fr "int" (by simp [frees])) bb_int (pm_cons (pm_bin om_mul (pm_bin om_add (pm_ixA hr.units (pm_var (pv 0)) (pm_int)) (pm_bin om_mul (pm_int) (pm_ixA hr.units (pm_var (pv 0)) (pm_int)))) (pm_bin om_add (pm_int) (pm_ixA hr.units (pm_var (pv 0)) (pm_int)))) (pm_nil))) (pm_int))))
    (sm_cons (sm_set (ps_set (i := 4) sc__law_take.nd rfl (Or.inl rfl) (pm_bin om_add (pm_bin om_mod (pm_cT cm_int (by rfl) (T.fr "int" (by simp [frees])) bb_int (pm_cons (pm_var (pv 3)) (pm_nil))) (pm_int)) (pm_int))))
    (sm_cons (sm_set (ps_set (i := 5) sc__law_take.nd rfl (Or.inl rfl) (pm_bin om_mod (pm_cT cm_int (by rfl) (T.fr "int" (by simp [frees])) bb_int (pm_cons (pm_bin om_mul (pm_bin om_add (pm_bin om_add (pm_var (pv 3)) (pm_ixA hr.units (pm_var (pv 0)) (pm_int))) (pm_bin om_div (pm_ixA hr.units (pm_var (pv 0)) (pm_int)) (pm_int))) (pm_var (pv 4))) (pm_nil))) (pm_int))))
    (sm_one (sm_ret (pm_bin om_mod (pm_cT cm_int (by rfl) (T.fr "int" (by simp [frees])) bb_int (pm_cons (pm_bin om_div (pm_bin om_mod (pm_cT cm_int (by rfl) (T.fr "int" (by simp [frees])) bb_int (pm_cons (pm_bin om_add (pm_bin om_mul (pm_var (pv 5)) (pm_int)) (pm_var (pv 3))) (pm_nil))) (pm_int)) (pm_int)) (pm_nil))) (pm_var (pv 1))))))))))
def N__law_names : List Str := ["_law_box_here", "_law_many", "_law_pool", "_law_found", "_law_time"]
theorem sc__law_names : FnScope ["_law_box_here", "_law_many", "_law_pool", "_law_found", "_law_time"] ["_law_box_here", "_law_many"] (defScope s__law_names) := ⟨rfl, rfl, rfl, by decide +kernel, rfl, by decide +kernel, by decide +kernel⟩
theorem b__law_names (T : Tx K mg base) : Binds K (T.fd 11) ["_law_box_here", "_law_many"] [] := FunD.bindsN (T.df 11 dd__law_names rfl) fun _ _ _ _ _ _ us hl => match us, hl with | [_, _], _ => rfl
def bd__law_names : Fs :=
  sseq (spar 2 3 (mcons (mlst (mcons (mcon (.str x_pa)) (mcons (mcon (.str x_b)) (mcons (mcon (.str x_ring)) (mcons (mcon (.str x_cxx)) (mcons (mcon (.str x_deep)) (mcons (mcon (.str x_a)) (mcons (mcon (.str x_zlib)) (mcons (mcon (.str x_open)) (mcons (mcon (.str x_q)) (mcons (mcon (.str x_local)) (mnil)))))))))))) (mcons (mlst (mnil)) (mnil))))
  (sseq (sfor (miR1 (mcons (mvar 1) (mnil))) (.nm 4) (sexp (mbmL appW (mvar 3) (mcons (mbmL popW (mvar 2) (mcons (mcall m__law_take (mcons (mvar 0) (mcons (mcall lenW (mcons (mvar 2) (mnil))) (mnil)))) (mnil))) (mnil)))))
  (sret (mvar 3)))
def m__law_names : Fn := fnM 2 5 bd__law_names
theorem ok__law_names (T : Tx K mg base) : FnOk P w K mg base CX0 2 (He.ga K "_law_names") (T.fd 11) ["_law_box_here", "_law_many"] (spM (GG P w K) m__law_names) :=
  fn_okD (B := bd__law_names) (T.df 11 dd__law_names rfl) sc__law_names (hb := fun cdv A outer s H E hr => sm_cons (sm_par (ps_par (i := 2) (j := 3) rfl sc__law_names.nd rfl rfl (by decide) rfl rfl (pm_cons (pm_lst (pm_cons (pm_str e_x_pa) (pm_cons (pm_str e_x_b) (pm_cons (pm_str e_x_ring) (pm_cons (pm_str e_x_cxx) (pm_cons (pm_str e_x_deep) (pm_cons (pm_str e_x_a) (pm_cons (pm_str e_x_zlib) (pm_cons (pm_str e_x_open) (pm_cons (pm_str e_x_q) (pm_cons (pm_str e_x_local) (pm_nil)))))))))))) (pm_cons (pm_lst (pm_nil)) (pm_nil))) (by rfl)))
    (sm_cons (sm_for' PassesOwn.never rfl (im_range1 (by rfl) (T.fr "range" (by simp [frees])) (pm_cons (pm_var (pv 1)) (pm_nil))) (gm_name (pg_name (i := 4) sc__law_names.nd rfl (Or.inl rfl))) (sm_one (sm_exp (pm_bmL lm_app (pe_bm PySem.F.plainAttrs_list PySem.F.slot_list_append PySem.F.type_list_append mt_append (pm_var (pv 3)) (pm_cons (pm_bmL lm_pop (pe_bm PySem.F.plainAttrs_list PySem.F.slot_list_pop PySem.F.type_list_pop mt_popAt (pm_var (pv 2)) (pm_cons (pm_call (ok__law_take T) (hr.mono (by decide)) (by rfl) (T.gl "_law_take" (by simp [glos])) (T.kp 12 rfl) (b__law_take T) pass0 (pm_cons (pm_var (pv 0)) (pm_cons (pm_cB cm_len (by rfl) (T.fr "len" (by simp [frees])) bb_len (pm_cons (pm_var (pv 2)) (pm_nil))) (pm_nil)))) (pm_nil)))) (pm_nil)))))))
    (sm_one (sm_ret (pm_var (pv 3))))))
def N__law_some : List Str := ["_law_box_here", "_law_some_here", "_law_most", "_law_left", "_law_found", "_law_time"]
theorem sc__law_some : FnScope ["_law_box_here", "_law_some_here", "_law_most", "_law_left", "_law_found", "_law_time"] ["_law_box_here", "_law_some_here", "_law_most"] (defScope s__law_some) := ⟨rfl, rfl, rfl, by decide +kernel, rfl, by decide +kernel, by decide +kernel⟩
theorem b__law_some (T : Tx K mg base) : Binds K (T.fd 14) ["_law_box_here", "_law_some_here", "_law_most"] [] := FunD.bindsN (T.df 14 dd__law_some rfl) fun _ _ _ _ _ _ us hl => match us, hl with | [_, _, _], _ => rfl
def bd__law_some : Fs :=
  sseq (spar 3 4 (mcons (mcall listW (mcons (mvar 1) (mnil))) (mcons (mlst (mnil)) (mnil))))
  (sseq (sfor (miR1 (mcons (mcall m__law_take (mcons (mvar 0) (mcons (mop2 addW (mvar 2) (mcon (.int 1))) (mnil)))) (mnil))) (.nm 5) (sif (mtB (mop2 neW (mvar 3) (mlst (mnil)))) (sexp (mbmL appW (mvar 4) (mcons (mbmL popW (mvar 3) (mcons (mcall m__law_take (mcons (mvar 0) (mcons (mcall lenW (mcons (mvar 3) (mnil))) (mnil)))) (mnil))) (mnil)))) (snx)))
  (sret (mvar 4)))
def m__law_some : Fn := fnM 3 6 bd__law_some
theorem ok__law_some (T : Tx K mg base) : FnOk P w K mg base CX0 2 (He.ga K "_law_some") (T.fd 14) ["_law_box_here", "_law_some_here", "_law_most"] (spM (GG P w K) m__law_some) :=
  fn_okD (B := bd__law_some) (T.df 14 dd__law_some rfl) sc__law_some (hb := fun cdv A outer s H E hr => sm_cons (sm_par (ps_par (i := 3) (j := 4) rfl sc__law_some.nd rfl rfl (by decide) rfl rfl (pm_cons (pm_cT cm_list (by rfl) (T.fr "list" (by simp [frees])) bb_list (pm_cons (pm_var (pv 1)) (pm_nil))) (pm_cons (pm_lst (pm_nil)) (pm_nil))) (by rfl)))
    (sm_cons (sm_for' PassesOwn.never rfl (im_range1 (by rfl) (T.fr "range" (by simp [frees])) (pm_cons (pm_call (ok__law_take T) (hr.mono (by decide)) (by rfl) (T.gl "_law_take" (by simp [glos])) (T.kp 12 rfl) (b__law_take T) pass0 (pm_cons (pm_var (pv 0)) (pm_cons (pm_bin om_add (pm_var (pv 2)) (pm_int)) (pm_nil)))) (pm_nil))) (gm_name (pg_name (i := 5) sc__law_some.nd rfl (Or.inl rfl))) (sm_one (sm_if (pm_tcmp (om_ne hr.units) (pm_var (pv 3)) (pm_lst (pm_nil)) (nomark _)) (sm_one (sm_exp (pm_bmL lm_app (pe_bm PySem.F.plainAttrs_list PySem.F.slot_list_append PySem.F.type_list_append mt_append (pm_var (pv 4)) (pm_cons (pm_bmL lm_pop (pe_bm PySem.F.plainAttrs_list PySem.F.slot_list_pop PySem.F.type_list_pop mt_popAt (pm_var (pv 3)) (pm_cons (pm_call (ok__law_take T) (hr.mono (by decide)) (by rfl) (T.gl "_law_take" (by simp [glos])) (T.kp 12 rfl) (b__law_take T) pass0 (pm_cons (pm_var (pv 0)) (pm_cons (pm_cB cm_len (by rfl) (T.fr "len" (by simp [frees])) bb_len (pm_cons (pm_var (pv 3)) (pm_nil))) (pm_nil)))) (pm_nil)))) (pm_nil)))))) (sm_nil))))
    (sm_one (sm_ret (pm_var (pv 4))))))
def N__law_pick : List Str := ["_law_box_here", "_law_some_here"]
theorem sc__law_pick : FnScope ["_law_box_here", "_law_some_here"] ["_law_box_here", "_law_some_here"] (defScope s__law_pick) := ⟨rfl, rfl, rfl, by decide +kernel, rfl, by decide +kernel, by decide +kernel⟩
theorem b__law_pick (T : Tx K mg base) : Binds K (T.fd 16) ["_law_box_here", "_law_some_here"] [] := FunD.bindsN (T.df 16 dd__law_pick rfl) fun _ _ _ _ _ _ us hl => match us, hl with | [_, _], _ => rfl
def bd__law_pick : Fs :=
  sret (mop2 ixA (mvar 1) (mcall m__law_take (mcons (mvar 0) (mcons (mcall lenW (mcons (mvar 1) (mnil))) (mnil)))))
def m__law_pick : Fn := fnM 2 2 bd__law_pick
theorem ok__law_pick (T : Tx K mg base) : FnOk P w K mg base CX0 2 (He.ga K "_law_pick") (T.fd 16) ["_law_box_here", "_law_some_here"] (spM (GG P w K) m__law_pick) :=
  fn_okD (B := bd__law_pick) (T.df 16 dd__law_pick rfl) sc__law_pick (hb := fun cdv A outer s H E hr => sm_one (sm_ret (pm_ixA hr.units (pm_var (pv 1)) (pm_call (ok__law_take T) (hr.mono (by decide)) (by rfl) (T.gl "_law_take" (by simp [glos])) (T.kp 12 rfl) (b__law_take T) pass0 (pm_cons (pm_var (pv 0)) (pm_cons (pm_cB cm_len (by rfl) (T.fr "len" (by simp [frees])) bb_len (pm_cons (pm_var (pv 1)) (pm_nil))) (pm_nil)))))))
def N__law_pairs : List Str := ["_law_box_here", "_law_most", "_law_found", "_law_time"]
theorem sc__law_pairs : FnScope ["_law_box_here", "_law_most", "_law_found", "_law_time"] ["_law_box_here", "_law_most"] (defScope s__law_pairs) := ⟨rfl, rfl, rfl, by decide +kernel, rfl, by decide +kernel, by decide +kernel⟩
theorem b__law_pairs (T : Tx K mg base) : Binds K (T.fd 15) ["_law_box_here", "_law_most"] [] := FunD.bindsN (T.df 15 dd__law_pairs rfl) fun _ _ _ _ _ _ us hl => match us, hl with | [_, _], _ => rfl
def bd__law_pairs : Fs :=
  sseq (sset 2 (mlst (mnil)))
  (sseq (sfor (miR1 (mcons (mcall m__law_take (mcons (mvar 0) (mcons (mop2 addW (mvar 1) (mcon (.int 1))) (mnil)))) (mnil))) (.nm 3) (sexp (mbmL appW (mvar 2) (mcons (mtup (mcons (mcall m__law_pick (mcons (mvar 0) (mcons (mlst (mcons (mcon (.str x_f)) (mcons (mcon (.str x_f)) (mcons (mcon (.str x_g)) (mcons (mcon (.str x_h)) (mnil)))))) (mnil)))) (mcons (mcall m__law_pick (mcons (mvar 0) (mcons (mlst (mcons (mcon (.str x_)) (mcons (mcon (.str x_)) (mcons (mcon (.str x_a)) (mcons (mcon (.str x_b)) (mnil)))))) (mnil)))) (mnil)))) (mnil)))))
  (sret (msrtS (mvar 2))))
def m__law_pairs : Fn := fnM 2 4 bd__law_pairs
theorem ok__law_pairs (T : Tx K mg base) : FnOk P w K mg base CX0 3 (He.ga K "_law_pairs") (T.fd 15) ["_law_box_here", "_law_most"] (spM (GG P w K) m__law_pairs) :=
  fn_okD (B := bd__law_pairs) (T.df 15 dd__law_pairs rfl) sc__law_pairs (hb := fun cdv A outer s H E hr => sm_cons (sm_set (ps_set (i := 2) sc__law_pairs.nd rfl (Or.inl rfl) (pm_lst (pm_nil))))
    (sm_cons (sm_for' PassesOwn.never rfl (im_range1 (by rfl) (T.fr "range" (by simp [frees])) (pm_cons (pm_call (ok__law_take T) (hr.mono (by decide)) (by rfl) (T.gl "_law_take" (by simp [glos])) (T.kp 12 rfl) (b__law_take T) pass0 (pm_cons (pm_var (pv 0)) (pm_cons (pm_bin om_add (pm_var (pv 1)) (pm_int)) (pm_nil)))) (pm_nil))) (gm_name (pg_name (i := 3) sc__law_pairs.nd rfl (Or.inl rfl))) (sm_one (sm_exp (pm_bmL lm_app (pe_bm PySem.F.plainAttrs_list PySem.F.slot_list_append PySem.F.type_list_append mt_append (pm_var (pv 2)) (pm_cons (pm_tup (pm_cons (pm_call (ok__law_pick T) (hr.mono (by decide)) (by rfl) (T.gl "_law_pick" (by simp [glos])) (T.kp 16 rfl) (b__law_pick T) pass0 (pm_cons (pm_var (pv 0)) (pm_cons (pm_lst (pm_cons (pm_str e_x_f) (pm_cons (pm_str e_x_f) (pm_cons (pm_str e_x_g) (pm_cons (pm_str e_x_h) (pm_nil)))))) (pm_nil)))) (pm_cons (pm_call (ok__law_pick T) (hr.mono (by decide)) (by rfl) (T.gl "_law_pick" (by simp [glos])) (T.kp 16 rfl) (b__law_pick T) pass0 (pm_cons (pm_var (pv 0)) (pm_cons (pm_lst (pm_cons (pm_str e_x_) (pm_cons (pm_str e_x_) (pm_cons (pm_str e_x_a) (pm_cons (pm_str e_x_b) (pm_nil)))))) (pm_nil)))) (pm_nil)))) (pm_nil)))))))
    (sm_one (sm_ret (pm_srtS rfl hr.units (by rfl) (T.fr "sorted" (by simp [frees])) (by rfl) (T.fr "set" (by simp [frees])) (pm_var (pv 2)))))))
def N__law_lib : List Str := ["_law_box_here", "_law_own", "_law_others", "_law_is_main", "_law_needs", "_law_defs", "_law_uses", "_law_one", "_law_pair"]
theorem sc__law_lib : FnScope ["_law_box_here", "_law_own", "_law_others", "_law_is_main", "_law_needs", "_law_defs", "_law_uses", "_law_one", "_law_pair"] ["_law_box_here", "_law_own", "_law_others", "_law_is_main"] (defScope s__law_lib) := ⟨rfl, rfl, rfl, by decide +kernel, rfl, by decide +kernel, by decide +kernel⟩
theorem b__law_lib (T : Tx K mg base) : Binds K (T.fd 13) ["_law_box_here", "_law_own", "_law_others", "_law_is_main"] [] := FunD.bindsN (T.df 13 dd__law_lib rfl) fun _ _ _ _ _ _ us hl => match us, hl with | [_, _, _, _], _ => rfl
def bd__law_lib : Fs :=
  sseq (sset 4 (mcall tupleW (mcons (mcall m__law_some (mcons (mvar 0) (mcons (mlc (miS (mvar 2)) (.nm 7) (mtB (mop2 neW (mvar 7) (mvar 1))) (mvar 7) [7]) (mcons (mcon (.int 2)) (mnil))))) (mnil))))
  (sseq (sset 5 (mcall tupleW (mcons (mcall m__law_pairs (mcons (mvar 0) (mcons (mif (mtst (mvar 3)) (mcon (.int 1)) (mcon (.int 3))) (mnil)))) (mnil))))
  (sseq (sset 6 (mcall tupleW (mcons (mlc (miS (mcall m__law_pairs (mcons (mvar 0) (mcons (mcon (.int 3)) (mnil))))) (.nm 8) (myes) (mop2 addW (mvar 8) (mtup (mcons (mop2 eqW (mcall m__law_take (mcons (mvar 0) (mcons (mcon (.int 4)) (mnil)))) (mcon (.int 0))) (mnil)))) [8]) (mnil))))
  (sret (mtup (mcons (mvar 1) (mcons (mvar 4) (mcons (mvar 5) (mcons (mvar 6) (mnil)))))))))
def m__law_lib : Fn := fnM 4 9 bd__law_lib
theorem ok__law_lib (T : Tx K mg base) : FnOk P w K mg base CX0 4 (He.ga K "_law_lib") (T.fd 13) ["_law_box_here", "_law_own", "_law_others", "_law_is_main"] (spM (GG P w K) m__law_lib) :=
  fn_okD (B := bd__law_lib) (T.df 13 dd__law_lib rfl) sc__law_lib (hb := fun cdv A outer s H E hr => sm_cons (sm_set (ps_set (i := 4) sc__law_lib.nd rfl (Or.inl rfl) (pm_cT cm_tuple (by rfl) (T.fr "tuple" (by simp [frees])) bb_tuple (pm_cons (pm_call (ok__law_some T) (hr.mono (by decide)) (by rfl) (T.gl "_law_some" (by simp [glos])) (T.kp 14 rfl) (b__law_some T) pass0 (pm_cons (pm_var (pv 0)) (pm_cons (pm_lc (own := [("_law_one", 7)]) rfl sc__law_lib.nd (im_seq (pm_var (pv 2))) (blkOk_by (own := [("_law_one", 7)]) (N := N__law_lib) (sc := defScope s__law_lib) (by decide +kernel)) (fun _ _ _ _ _ => gm_name (pg_name (i := 7) sc__law_lib.nd rfl (Or.inl rfl))) (fun _ _ _ _ _ => tm_one (pm_tcmp (om_ne hr.units) (pm_var (pv 7)) (pm_var (pv 1)) (nomark _))) (fun _ _ _ _ _ => pm_var (pv 7))) (pm_cons (pm_int) (pm_nil))))) (pm_nil)))))
    (sm_cons (sm_set (ps_set (i := 5) sc__law_lib.nd rfl (Or.inl rfl) (pm_cT cm_tuple (by rfl) (T.fr "tuple" (by simp [frees])) bb_tuple (pm_cons (pm_call (ok__law_pairs T) (hr.mono (by decide)) (by rfl) (T.gl "_law_pairs" (by simp [glos])) (T.kp 15 rfl) (b__law_pairs T) pass0 (pm_cons (pm_var (pv 0)) (pm_cons (pm_if (pm_tst (pm_var (pv 3))) (pm_int) (pm_int)) (pm_nil)))) (pm_nil)))))
    (sm_cons (sm_set (ps_set (i := 6) sc__law_lib.nd rfl (Or.inl rfl) (pm_cT cm_tuple (by rfl) (T.fr "tuple" (by simp [frees])) bb_tuple (pm_cons (pm_lc (own := [("_law_pair", 8)]) rfl sc__law_lib.nd (im_seq (pm_call (ok__law_pairs T) (hr.mono (by decide)) (by rfl) (T.gl "_law_pairs" (by simp [glos])) (T.kp 15 rfl) (b__law_pairs T) pass0 (pm_cons (pm_var (pv 0)) (pm_cons (pm_int) (pm_nil))))) (blkOk_by (own := [("_law_pair", 8)]) (N := N__law_lib) (sc := defScope s__law_lib) (by decide +kernel)) (fun _ _ _ _ _ => gm_name (pg_name (i := 8) sc__law_lib.nd rfl (Or.inl rfl))) (fun _ _ _ _ _ => tm_nil) (fun _ _ _ _ _ => pm_bin om_add (pm_var (pv 8)) (pm_tup (pm_cons (pm_cmp (om_eq hr.units) (pm_call (ok__law_take T) (hr.mono (by decide)) (by rfl) (T.gl "_law_take" (by simp [glos])) (T.kp 12 rfl) (b__law_take T) pass0 (pm_cons (pm_var (pv 0)) (pm_cons (pm_int) (pm_nil)))) (pm_int) (nomark _)) (pm_nil))))) (pm_nil)))))
    (sm_one (sm_ret (pm_tup (pm_cons (pm_var (pv 1)) (pm_cons (pm_var (pv 4)) (pm_cons (pm_var (pv 5)) (pm_cons (pm_var (pv 6)) (pm_nil)))))))))))
def N__law_program : List Str := ["_law_box_here", "_law_most", "_law_gates", "_law_folk", "_law_others", "_law_libs", "_law_own", "_law_doors", "_law_time", "_law_door", "_law_early"]
theorem sc__law_program : FnScope ["_law_box_here", "_law_most", "_law_gates", "_law_folk", "_law_others", "_law_libs", "_law_own", "_law_doors", "_law_time", "_law_door", "_law_early"] ["_law_box_here", "_law_most", "_law_gates"] (defScope s__law_program) := ⟨rfl, rfl, rfl, by decide +kernel, rfl, by decide +kernel, by decide +kernel⟩
theorem b__law_program (T : Tx K mg base) : Binds K (T.fd 10) ["_law_box_here", "_law_most", "_law_gates"] [] := FunD.bindsN (T.df 10 dd__law_program rfl) fun _ _ _ _ _ _ us hl => match us, hl with | [_, _, _], _ => rfl
def bd__law_program : Fs :=
  sseq (sset 3 (mcall m__law_names (mcons (mvar 0) (mcons (mop2 addW (mcon (.int 2)) (mcall m__law_take (mcons (mvar 0) (mcons (mvar 1) (mnil))))) (mnil)))))
  (sseq (spar 4 5 (mcons (mslice (mvar 3) (osome (mcon (.int 1))) (onone)) (mcons (mlst (mnil)) (mnil))))
  (sseq (sfor (miS (mvar 3)) (.nm 6) (sexp (mbmL appW (mvar 5) (mcons (mcall m__law_lib (mcons (mvar 0) (mcons (mvar 6) (mcons (mvar 4) (mcons (mop2 eqW (mvar 6) (mop2 ixA (mvar 3) (mcon (.int 0)))) (mnil)))))) (mnil)))))
  (sseq (sset 7 (mlst (mnil)))
  (sseq (sfor (miR1 (mcons (mop2 addW (mcon (.int 1)) (mcall m__law_take (mcons (mvar 0) (mcons (mvar 2) (mnil))))) (mnil))) (.nm 8) (sseq (sset 9 (mtup (mcons (mcall m__law_pick (mcons (mvar 0) (mcons (mvar 4) (mnil)))) (mcons (mcall m__law_pick (mcons (mvar 0) (mcons (mlst (mcons (mcon (.str x_global)) (mcons (mcon (.str x_local)) (mcons (mcon (.str x_deep)) (mcons (mcon (.str x_global)) (mnil)))))) (mnil)))) (mnil)))))
  (sset 7 (mop2 addW (mvar 7) (mop2 lmulW (mlst (mcons (mvar 9) (mnil))) (mcall intW (mcons (mop2 ninA (mvar 9) (mvar 7)) (mnil))))))))
  (sseq (sset 10 (mif (mtB (mop2 eqW (mcall m__law_take (mcons (mvar 0) (mcons (mcon (.int 2)) (mnil)))) (mcon (.int 0)))) (mcall m__law_some (mcons (mvar 0) (mcons (mvar 4) (mcons (mop2 addW (mcon (.int 1)) (mcall intW (mcons (mop2 eqW (mcall m__law_take (mcons (mvar 0) (mcons (mcon (.int 4)) (mnil)))) (mcon (.int 0))) (mnil)))) (mnil))))) (mlst (mnil))))
  (sret (mtup (mcons (mcall tupleW (mcons (mvar 5) (mnil))) (mcons (mcall tupleW (mcons (mvar 10) (mnil))) (mcons (mcall tupleW (mcons (mvar 7) (mnil))) (mnil)))))))))))
def m__law_program : Fn := fnM 3 11 bd__law_program
theorem ok__law_program (T : Tx K mg base) : FnOk P w K mg base CX0 5 (He.ga K "_law_program") (T.fd 10) ["_law_box_here", "_law_most", "_law_gates"] (spM (GG P w K) m__law_program) :=
  fn_okD (B := bd__law_program) (T.df 10 dd__law_program rfl) sc__law_program (hb := fun cdv A outer s H E hr => sm_cons (sm_set (ps_set (i := 3) sc__law_program.nd rfl (Or.inl rfl) (pm_call (ok__law_names T) (hr.mono (by decide)) (by rfl) (T.gl "_law_names" (by simp [glos])) (T.kp 11 rfl) (b__law_names T) pass0 (pm_cons (pm_var (pv 0)) (pm_cons (pm_bin om_add (pm_int) (pm_call (ok__law_take T) (hr.mono (by decide)) (by rfl) (T.gl "_law_take" (by simp [glos])) (T.kp 12 rfl) (b__law_take T) pass0 (pm_cons (pm_var (pv 0)) (pm_cons (pm_var (pv 1)) (pm_nil))))) (pm_nil))))))
    (sm_cons (sm_par (ps_par (i := 4) (j := 5) rfl sc__law_program.nd rfl rfl (by decide) rfl rfl (pm_cons (pm_slice (pm_var (pv 3)) (om_some (pm_int)) (om_none)) (pm_cons (pm_lst (pm_nil)) (pm_nil))) (by rfl)))
    (sm_cons (sm_for' PassesOwn.never rfl (im_seq (pm_var (pv 3))) (gm_name (pg_name (i := 6) sc__law_program.nd rfl (Or.inl rfl))) (sm_one (sm_exp (pm_bmL lm_app (pe_bm PySem.F.plainAttrs_list PySem.F.slot_list_append PySem.F.type_list_append mt_append (pm_var (pv 5)) (pm_cons (pm_call (ok__law_lib T) (hr.mono (by decide)) (by rfl) (T.gl "_law_lib" (by simp [glos])) (T.kp 13 rfl) (b__law_lib T) pass0 (pm_cons (pm_var (pv 0)) (pm_cons (pm_var (pv 6)) (pm_cons (pm_var (pv 4)) (pm_cons (pm_cmp (om_eq hr.units) (pm_var (pv 6)) (pm_ixA hr.units (pm_var (pv 3)) (pm_int)) (nomark _)) (pm_nil)))))) (pm_nil)))))))
    (sm_cons (sm_set (ps_set (i := 7) sc__law_program.nd rfl (Or.inl rfl) (pm_lst (pm_nil))))
    (sm_cons (sm_for' PassesOwn.never rfl (im_range1 (by rfl) (T.fr "range" (by simp [frees])) (pm_cons (pm_bin om_add (pm_int) (pm_call (ok__law_take T) (hr.mono (by decide)) (by rfl) (T.gl "_law_take" (by simp [glos])) (T.kp 12 rfl) (b__law_take T) pass0 (pm_cons (pm_var (pv 0)) (pm_cons (pm_var (pv 2)) (pm_nil))))) (pm_nil))) (gm_name (pg_name (i := 8) sc__law_program.nd rfl (Or.inl rfl))) (sm_cons (sm_set (ps_set (i := 9) sc__law_program.nd rfl (Or.inl rfl) (pm_tup (pm_cons (pm_call (ok__law_pick T) (hr.mono (by decide)) (by rfl) (T.gl "_law_pick" (by simp [glos])) (T.kp 16 rfl) (b__law_pick T) pass0 (pm_cons (pm_var (pv 0)) (pm_cons (pm_var (pv 4)) (pm_nil)))) (pm_cons (pm_call (ok__law_pick T) (hr.mono (by decide)) (by rfl) (T.gl "_law_pick" (by simp [glos])) (T.kp 16 rfl) (b__law_pick T) pass0 (pm_cons (pm_var (pv 0)) (pm_cons (pm_lst (pm_cons (pm_str e_x_global) (pm_cons (pm_str e_x_local) (pm_cons (pm_str e_x_deep) (pm_cons (pm_str e_x_global) (pm_nil)))))) (pm_nil)))) (pm_nil))))))
    (sm_one (sm_set (ps_set (i := 7) sc__law_program.nd rfl (Or.inl rfl) (pm_bin om_add (pm_var (pv 7)) (pm_bin om_lmul (pm_lst (pm_cons (pm_var (pv 9)) (pm_nil))) (pm_cT cm_int (by rfl) (T.fr "int" (by simp [frees])) bb_int (pm_cons (pm_cmp (om_ninA (u65 hr)) (pm_var (pv 9)) (pm_var (pv 7)) (by rfl)) (pm_nil))))))))))
    (sm_cons (sm_set (ps_set (i := 10) sc__law_program.nd rfl (Or.inl rfl) (pm_if (pm_tcmp (om_eq hr.units) (pm_call (ok__law_take T) (hr.mono (by decide)) (by rfl) (T.gl "_law_take" (by simp [glos])) (T.kp 12 rfl) (b__law_take T) pass0 (pm_cons (pm_var (pv 0)) (pm_cons (pm_int) (pm_nil)))) (pm_int) (nomark _)) (pm_call (ok__law_some T) (hr.mono (by decide)) (by rfl) (T.gl "_law_some" (by simp [glos])) (T.kp 14 rfl) (b__law_some T) pass0 (pm_cons (pm_var (pv 0)) (pm_cons (pm_var (pv 4)) (pm_cons (pm_bin om_add (pm_int) (pm_cT cm_int (by rfl) (T.fr "int" (by simp [frees])) bb_int (pm_cons (pm_cmp (om_eq hr.units) (pm_call (ok__law_take T) (hr.mono (by decide)) (by rfl) (T.gl "_law_take" (by simp [glos])) (T.kp 12 rfl) (b__law_take T) pass0 (pm_cons (pm_var (pv 0)) (pm_cons (pm_int) (pm_nil)))) (pm_int) (nomark _)) (pm_nil)))) (pm_nil))))) (pm_lst (pm_nil)))))
    (sm_one (sm_ret (pm_tup (pm_cons (pm_cT cm_tuple (by rfl) (T.fr "tuple" (by simp [frees])) bb_tuple (pm_cons (pm_var (pv 5)) (pm_nil))) (pm_cons (pm_cT cm_tuple (by rfl) (T.fr "tuple" (by simp [frees])) bb_tuple (pm_cons (pm_var (pv 10)) (pm_nil))) (pm_cons (pm_cT cm_tuple (by rfl) (T.fr "tuple" (by simp [frees])) bb_tuple (pm_cons (pm_var (pv 7)) (pm_nil))) (pm_nil)))))))))))))
def N__law_lists : List Str := ["_law_matter", "_law_part"]
theorem sc__law_lists : FnScope ["_law_matter", "_law_part"] ["_law_matter"] (defScope s__law_lists) := ⟨rfl, rfl, rfl, by decide +kernel, rfl, by decide +kernel, by decide +kernel⟩
theorem b__law_lists (T : Tx K mg base) : Binds K (T.fd 17) ["_law_matter"] [] := FunD.bindsN (T.df 17 dd__law_lists rfl) fun _ _ _ _ _ _ us hl => match us, hl with | [_], _ => rfl
def b0__law_lists (m__law_lists : Nat → Fn) (d : Nat) : Fs :=
  sret (mif (mtst (misiT (mvar 0) [.list, .tuple])) (mlc (miS (mvar 0)) (.nm 1) (myes) (mcall (m__law_lists d) (mcons (mvar 1) (mnil))) [1]) (mvar 0))
def m__law_lists : Nat → Fn
  | 0 => fun _ _ => none
  | d + 1 => fnM 1 2 (b0__law_lists (fun _ => m__law_lists d) d)
theorem ok__law_lists (T : Tx K mg base) : ∀ d : Nat, FnOk P w K mg base CX0 (d + 1) (He.ga K "_law_lists") (T.fd 17) ["_law_matter"] (spM (GG P w K) (m__law_lists d))
  | 0 => fn_none
  | d + 1 => fn_okD (T.df 17 dd__law_lists rfl) sc__law_lists (hb := fun cdv A outer s H E hr => sm_one (sm_ret (pm_if (pm_tst (pm_isiT (pm_var (pv 0)) (py_cons (t := .list) (pe_bltn (by rfl) (T.fr "list" (by simp [frees])) bb_list rfl) (py_cons (t := .tuple) (pe_bltn (by rfl) (T.fr "tuple" (by simp [frees])) bb_tuple rfl) (py_nil))) (by rfl) (T.fr "isinstance" (by simp [frees])))) (pm_lc (own := [("_law_part", 1)]) rfl sc__law_lists.nd (im_seq (pm_var (pv 0))) (blkOk_by (own := [("_law_part", 1)]) (N := N__law_lists) (sc := defScope s__law_lists) (by decide +kernel)) (fun _ _ _ _ _ => gm_name (pg_name (i := 1) sc__law_lists.nd rfl (Or.inl rfl))) (fun _ _ _ _ _ => tm_nil) (fun _ _ _ _ _ => pm_call (ok__law_lists T d) hr (by rfl) (T.gl "_law_lists" (by simp [glos])) (T.kp 17 rfl) (b__law_lists T) pass0 (pm_cons (pm_var (pv 1)) (pm_nil)))) (pm_var (pv 0)))))
def N__law_right : List Str := ["_law_box_here", "_law_turn", "_law_plot", "_law_strides", "_law_gate", "_law_lib_here", "_law_many", "_law_own", "_law_bad", "_law_matters", "_law_due", "_law_matter", "_law_told", "_law_spot", "_law_stride"]
theorem sc__law_right : FnScope ["_law_box_here", "_law_turn", "_law_plot", "_law_strides", "_law_gate", "_law_lib_here", "_law_many", "_law_own", "_law_bad", "_law_matters", "_law_due", "_law_matter", "_law_told", "_law_spot", "_law_stride"] ["_law_box_here"] (defScope s__law_right) := ⟨rfl, rfl, rfl, by decide +kernel, rfl, by decide +kernel, by decide +kernel⟩
theorem b__law_right (T : Tx K mg base) : Binds K (T.fd 3) ["_law_box_here"] [] := FunD.bindsN (T.df 3 dd__law_right rfl) fun _ _ _ _ _ _ us hl => match us, hl with | [_], _ => rfl
def bd__law_right : Fs :=
  sseq (sif (mnot (mtst (mcall m__law_great_right (mnil)))) (sret (mcon (.bl false))) (snx))
  (sseq (sfor (miR1 (mcons (mcon (.int 3)) (mnil))) (.nm 1) (sseq (spar 2 3 (mcons (mcall m__law_program (mcons (mvar 0) (mcons (mcon (.int 4)) (mcons (mcon (.int 4)) (mnil))))) (mcons (mlst (mnil)) (mnil))))
  (sseq (sfor (miR1 (mcons (mcall lenW (mcons (mop2 ixA (mvar 2) (mcon (.int 2))) (mnil))) (mnil))) (.nm 4) (sset 3 (mop2 addW (mvar 3) (mlst (mcons (mtup (mcons (mcon (.str x_open)) (mcons (mvar 4) (mnil)))) (mcons (mtup (mcons (mcon (.str x_close)) (mcons (mvar 4) (mnil)))) (mnil)))))))
  (sseq (sfor (miS (mop2 ixA (mvar 2) (mcon (.int 0)))) (.nm 5) (sset 3 (mop2 addW (mvar 3) (mlc (miR1 (mcons (mcall lenW (mcons (mop2 ixA (mvar 5) (mcon (.int 3))) (mnil))) (mnil))) (.nm 13) (myes) (mtup (mcons (mcon (.str x_call)) (mcons (mop2 ixA (mvar 5) (mcon (.int 0))) (mcons (mvar 13) (mnil))))) [13]))))
  (sseq (spar 6 7 (mcons (mcall lenW (mcons (mop2 ixA (mvar 2) (mcon (.int 2))) (mnil))) (mcons (mcall m__law_pick (mcons (mvar 0) (mcons (mop2 ixA (mvar 2) (mcon (.int 0))) (mnil)))) (mnil))))
  (sseq (sset 8 (mlst (mcons (mtup (mcons (mcon (.str x_open)) (mcons (mvar 6) (mnil)))) (mcons (mtup (mcons (mcon (.str x_close)) (mcons (mop1 negW (mcon (.int 1))) (mnil)))) (mcons (mtup (mcons (mcon (.str x_open)) (mcons (mcon (.bl true)) (mnil)))) (mcons (mtup (mcons (mcon (.str x_open)) (mnil))) (mcons (mtup (mcons (mcon (.str x_open)) (mcons (mcon (.int 0)) (mcons (mcon (.int 0)) (mnil))))) (mcons (mtup (mcons (mcon (.str x_call)) (mcons (mop2 ixA (mvar 7) (mcon (.int 0))) (mcons (mcall lenW (mcons (mop2 ixA (mvar 7) (mcon (.int 3))) (mnil))) (mnil))))) (mnil)))))))))
  (sseq (sset 8 (mop2 addW (mvar 8) (mlst (mcons (mtup (mcons (mcon (.str x_call)) (mcons (mop2 ixA (mvar 7) (mcon (.int 0))) (mcons (mop1 negW (mcon (.int 1))) (mnil))))) (mcons (mtup (mcons (mcon (.str x_call)) (mcons (mop2 ixA (mvar 7) (mcon (.int 0))) (mcons (mcon (.bl false)) (mnil))))) (mcons (mtup (mcons (mcon (.str x_call)) (mcons (mcon (.str x_nobody)) (mcons (mcon (.int 0)) (mnil))))) (mcons (mtup (mcons (mcon (.str x_call)) (mcons (mcon (.int 0)) (mcons (mcon (.int 0)) (mnil))))) (mnil))))))))
  (sseq (sset 8 (mop2 addW (mvar 8) (mlst (mcons (mtup (mcons (mcon (.str x_call)) (mcons (mop2 ixA (mvar 7) (mcon (.int 0))) (mnil)))) (mcons (mtup (mcons (mcon (.str x_shut)) (mcons (mcon (.int 0)) (mnil)))) (mcons (mtup (mnil)) (mcons (mcon .non) (mcons (mcon (.str x_open)) (mcons (mlst (mcons (mcon (.str x_open)) (mcons (mcon (.int 0)) (mnil)))) (mcons (mcon (.int 0)) (mcons (mtup (mcons (mcon (.str x_call)) (mcons (mtup (mcons (mop2 ixA (mvar 7) (mcon (.int 0))) (mnil))) (mcons (mcon (.int 0)) (mnil))))) (mnil))))))))))))
  (sseq (sset 8 (mop2 addW (mvar 8) (mlst (mcons (mtup (mcons (mcon .non) (mcons (mcon (.int 0)) (mnil)))) (mcons (mtup (mcons (mcon (.str x_open)) (mcons (mcon (.str x_0)) (mnil)))) (mcons (mtup (mcons (mtup (mcons (mcon (.str x_open)) (mcons (mcon (.int 0)) (mnil)))) (mnil))) (mnil)))))))
  (sseq (sset 8 (mop2 addW (mop2 addW (mvar 8) (mlc (miS (mvar 3)) (.nm 14) (myes) (mcall listW (mcons (mvar 14) (mnil))) [14])) (mlc (miS (mvar 3)) (.nm 14) (myes) (mop2 addW (mvar 14) (mtup (mcons (mcon (.int 0)) (mnil)))) [14])))
  (sfor (miS (mtup (mcons (mtup (mcons (mvar 3) (mcons (mcon (.bl true)) (mnil)))) (mcons (mtup (mcons (mvar 8) (mcons (mcon (.bl false)) (mnil)))) (mnil))))) (.tp [9, 10]) (sfor (miS (mvar 9)) (.nm 11) (sseq (sset 12 (mlst (mcons (mcall m_is_step (mcons (mvar 2) (mcons (mvar 11) (mnil)))) (mcons (mcall m_is_step (mkw [1, 0] (mcons (mvar 11) (mcons (mcall (m__law_lists 8) (mcons (mvar 2) (mnil))) (mnil))))) (mnil)))))
  (sif (mnot (mtst (mcall m__law_same (mcons (mvar 12) (mcons (mlst (mcons (mvar 10) (mcons (mvar 10) (mnil)))) (mnil)))))) (sret (mcon (.bl false))) (snx)))))))))))))))
  (sret (mcon (.bl true))))
def m__law_right : Fn := fnM 1 15 bd__law_right
theorem ok__law_right (T : Tx K mg base) : FnG P w K mg base 10 (He.ga K "_law_right") (T.fd 3) ["_law_box_here"] (spM (GG P w K) m__law_right) :=
  fn_okG (B := bd__law_right) (T.df 3 dd__law_right rfl) sc__law_right (hb := fun cdv A gd outer s H E hr => sm_cons (sm_if (pm_tnot (pm_tst (pm_callG0 (ok__law_great_right T) gd (hr.mono (by decide)) (by rfl) (T.gl "_law_great_right" (by simp [glos])) (T.kp 4 rfl) (b__law_great_right T)))) (sm_one (sm_ret (pm_bl))) (sm_nil))
    (sm_cons (sm_for' PassesOwn.never rfl (im_range1 (by rfl) (T.fr "range" (by simp [frees])) (pm_cons (pm_int) (pm_nil))) (gm_name (pg_name (i := 1) sc__law_right.nd rfl (Or.inl rfl))) (sm_cons (sm_par (ps_par (i := 2) (j := 3) rfl sc__law_right.nd rfl rfl (by decide) rfl rfl (pm_cons (pm_call (ok__law_program T) (hr.mono (by decide)) (by rfl) (T.gl "_law_program" (by simp [glos])) (T.kp 10 rfl) (b__law_program T) pass0 (pm_cons (pm_var (pv 0)) (pm_cons (pm_int) (pm_cons (pm_int) (pm_nil))))) (pm_cons (pm_lst (pm_nil)) (pm_nil))) (by rfl)))
    (sm_cons (sm_for' PassesOwn.never rfl (im_range1 (by rfl) (T.fr "range" (by simp [frees])) (pm_cons (pm_cB cm_len (by rfl) (T.fr "len" (by simp [frees])) bb_len (pm_cons (pm_ixA hr.units (pm_var (pv 2)) (pm_int)) (pm_nil))) (pm_nil))) (gm_name (pg_name (i := 4) sc__law_right.nd rfl (Or.inl rfl))) (sm_one (sm_set (ps_set (i := 3) sc__law_right.nd rfl (Or.inl rfl) (pm_bin om_add (pm_var (pv 3)) (pm_lst (pm_cons (pm_tup (pm_cons (pm_str e_x_open) (pm_cons (pm_var (pv 4)) (pm_nil)))) (pm_cons (pm_tup (pm_cons (pm_str e_x_close) (pm_cons (pm_var (pv 4)) (pm_nil)))) (pm_nil)))))))))
    (sm_cons (sm_for' PassesOwn.never rfl (im_seq (pm_ixA hr.units (pm_var (pv 2)) (pm_int))) (gm_name (pg_name (i := 5) sc__law_right.nd rfl (Or.inr rfl))) (sm_one (sm_set (ps_set (i := 3) sc__law_right.nd rfl (Or.inl rfl) (pm_bin om_add (pm_var (pv 3)) (pm_lc (own := [("_law_spot", 13)]) rfl sc__law_right.nd (im_range1 (by rfl) (T.fr "range" (by simp [frees])) (pm_cons (pm_cB cm_len (by rfl) (T.fr "len" (by simp [frees])) bb_len (pm_cons (pm_ixA hr.units (pm_var (pv 5)) (pm_int)) (pm_nil))) (pm_nil))) (blkOk_by (own := [("_law_spot", 13)]) (N := N__law_right) (sc := defScope s__law_right) (by decide +kernel)) (fun _ _ _ _ _ => gm_name (pg_name (i := 13) sc__law_right.nd rfl (Or.inl rfl))) (fun _ _ _ _ _ => tm_nil) (fun _ _ _ _ _ => pm_tup (pm_cons (pm_str e_x_call) (pm_cons (pm_ixA hr.units (pm_var (pv 5)) (pm_int)) (pm_cons (pm_var (pv 13)) (pm_nil)))))))))))
    (sm_cons (sm_par (ps_par (i := 6) (j := 7) rfl sc__law_right.nd rfl rfl (by decide) rfl rfl (pm_cons (pm_cB cm_len (by rfl) (T.fr "len" (by simp [frees])) bb_len (pm_cons (pm_ixA hr.units (pm_var (pv 2)) (pm_int)) (pm_nil))) (pm_cons (pm_call (ok__law_pick T) (hr.mono (by decide)) (by rfl) (T.gl "_law_pick" (by simp [glos])) (T.kp 16 rfl) (b__law_pick T) pass0 (pm_cons (pm_var (pv 0)) (pm_cons (pm_ixA hr.units (pm_var (pv 2)) (pm_int)) (pm_nil)))) (pm_nil))) (by rfl)))
    (sm_cons (sm_set (ps_set (i := 8) sc__law_right.nd rfl (Or.inl rfl) (pm_lst (pm_cons (pm_tup (pm_cons (pm_str e_x_open) (pm_cons (pm_var (pv 6)) (pm_nil)))) (pm_cons (pm_tup (pm_cons (pm_str e_x_close) (pm_cons (pm_un um_neg (pm_int)) (pm_nil)))) (pm_cons (pm_tup (pm_cons (pm_str e_x_open) (pm_cons (pm_bl) (pm_nil)))) (pm_cons (pm_tup (pm_cons (pm_str e_x_open) (pm_nil))) (pm_cons (pm_tup (pm_cons (pm_str e_x_open) (pm_cons (pm_int) (pm_cons (pm_int) (pm_nil))))) (pm_cons (pm_tup (pm_cons (pm_str e_x_call) (pm_cons (pm_ixA hr.units (pm_var (pv 7)) (pm_int)) (pm_cons (pm_cB cm_len (by rfl) (T.fr "len" (by simp [frees])) bb_len (pm_cons (pm_ixA hr.units (pm_var (pv 7)) (pm_int)) (pm_nil))) (pm_nil))))) (pm_nil))))))))))
    (sm_cons (sm_set (ps_set (i := 8) sc__law_right.nd rfl (Or.inl rfl) (pm_bin om_add (pm_var (pv 8)) (pm_lst (pm_cons (pm_tup (pm_cons (pm_str e_x_call) (pm_cons (pm_ixA hr.units (pm_var (pv 7)) (pm_int)) (pm_cons (pm_un um_neg (pm_int)) (pm_nil))))) (pm_cons (pm_tup (pm_cons (pm_str e_x_call) (pm_cons (pm_ixA hr.units (pm_var (pv 7)) (pm_int)) (pm_cons (pm_bl) (pm_nil))))) (pm_cons (pm_tup (pm_cons (pm_str e_x_call) (pm_cons (pm_str e_x_nobody) (pm_cons (pm_int) (pm_nil))))) (pm_cons (pm_tup (pm_cons (pm_str e_x_call) (pm_cons (pm_int) (pm_cons (pm_int) (pm_nil))))) (pm_nil)))))))))
    (sm_cons (sm_set (ps_set (i := 8) sc__law_right.nd rfl (Or.inl rfl) (pm_bin om_add (pm_var (pv 8)) (pm_lst (pm_cons (pm_tup (pm_cons (pm_str e_x_call) (pm_cons (pm_ixA hr.units (pm_var (pv 7)) (pm_int)) (pm_nil)))) (pm_cons (pm_tup (pm_cons (pm_str e_x_shut) (pm_cons (pm_int) (pm_nil)))) (pm_cons (pm_tup (pm_nil)) (pm_cons (pm_non) (pm_cons (pm_str e_x_open) (pm_cons (pm_lst (pm_cons (pm_str e_x_open) (pm_cons (pm_int) (pm_nil)))) (pm_cons (pm_int) (pm_cons (pm_tup (pm_cons (pm_str e_x_call) (pm_cons (pm_tup (pm_cons (pm_ixA hr.units (pm_var (pv 7)) (pm_int)) (pm_nil))) (pm_cons (pm_int) (pm_nil))))) (pm_nil)))))))))))))
    (sm_cons (sm_set (ps_set (i := 8) sc__law_right.nd rfl (Or.inl rfl) (pm_bin om_add (pm_var (pv 8)) (pm_lst (pm_cons (pm_tup (pm_cons (pm_non) (pm_cons (pm_int) (pm_nil)))) (pm_cons (pm_tup (pm_cons (pm_str e_x_open) (pm_cons (pm_str e_x_0) (pm_nil)))) (pm_cons (pm_tup (pm_cons (pm_tup (pm_cons (pm_str e_x_open) (pm_cons (pm_int) (pm_nil)))) (pm_nil))) (pm_nil))))))))
    (sm_cons (sm_set (ps_set (i := 8) sc__law_right.nd rfl (Or.inl rfl) (pm_bin om_add (pm_bin om_add (pm_var (pv 8)) (pm_lc (own := [("_law_stride", 14)]) rfl sc__law_right.nd (im_seq (pm_var (pv 3))) (blkOk_by (own := [("_law_stride", 14)]) (N := N__law_right) (sc := defScope s__law_right) (by decide +kernel)) (fun _ _ _ _ _ => gm_name (pg_name (i := 14) sc__law_right.nd rfl (Or.inl rfl))) (fun _ _ _ _ _ => tm_nil) (fun _ _ _ _ _ => pm_cT cm_list (by rfl) (T.fr "list" (by simp [frees])) bb_list (pm_cons (pm_var (pv 14)) (pm_nil))))) (pm_lc (own := [("_law_stride", 14)]) rfl sc__law_right.nd (im_seq (pm_var (pv 3))) (blkOk_by (own := [("_law_stride", 14)]) (N := N__law_right) (sc := defScope s__law_right) (by decide +kernel)) (fun _ _ _ _ _ => gm_name (pg_name (i := 14) sc__law_right.nd rfl (Or.inl rfl))) (fun _ _ _ _ _ => tm_nil) (fun _ _ _ _ _ => pm_bin om_add (pm_var (pv 14)) (pm_tup (pm_cons (pm_int) (pm_nil))))))))
    (sm_one (sm_for' PassesOwn.never rfl (im_seq (pm_tup (pm_cons (pm_tup (pm_cons (pm_var (pv 3)) (pm_cons (pm_bl) (pm_nil)))) (pm_cons (pm_tup (pm_cons (pm_var (pv 8)) (pm_cons (pm_bl) (pm_nil)))) (pm_nil))))) (gm_tup rfl (gm_cons (pg_name (i := 9) sc__law_right.nd rfl (Or.inl rfl)) (gm_cons (pg_name (i := 10) sc__law_right.nd rfl (Or.inl rfl)) (gm_nil)))) (sm_one (sm_for' PassesOwn.never rfl (im_seq (pm_var (pv 9))) (gm_name (pg_name (i := 11) sc__law_right.nd rfl (Or.inl rfl))) (sm_cons (sm_set (ps_set (i := 12) sc__law_right.nd rfl (Or.inl rfl) (pm_lst (pm_cons (pm_call (ok_is_step T) (hr.mono (by decide)) (by rfl) (T.gl "is_step" (by simp [glos])) (T.kp 5 rfl) (b_is_step T) pass0 (pm_cons (pm_var (pv 2)) (pm_cons (pm_var (pv 11)) (pm_nil)))) (pm_cons (pm_callKW (ks := ["thing", "program"]) (is := [1, 0]) (ok_is_step T) (hr.mono (by decide)) (by rfl) (T.gl "is_step" (by simp [glos])) (T.kp 5 rfl) (kb_is_step_10 T) pass0 (km_cons (pm_var (pv 11)) (km_cons (pm_call (ok__law_lists T 8) (hr.mono (by decide)) (by rfl) (T.gl "_law_lists" (by simp [glos])) (T.kp 17 rfl) (b__law_lists T) pass0 (pm_cons (pm_var (pv 2)) (pm_nil))) (km_nil)))) (pm_nil))))))
    (sm_one (sm_if (pm_tnot (pm_tst (pm_callG (ok__law_same T) gd (hr.mono (by decide)) (by rfl) (T.gl "_law_same" (by simp [glos])) (T.kp 9 rfl) (b__law_same T) (pm_cons (pm_var (pv 12)) (pm_cons (pm_lst (pm_cons (pm_var (pv 10)) (pm_cons (pm_var (pv 10)) (pm_nil)))) (pm_nil)))))) (sm_one (sm_ret (pm_bl))) (sm_nil))))))))))))))))))
    (sm_one (sm_ret (pm_bl)))))
def N_law : List Str := ["_law_script", "_law_gate", "_law_box_here", "_law_time"]
theorem sc_law : FnScope ["_law_script", "_law_gate", "_law_box_here", "_law_time"] ["_law_script"] (defScope s_law) := ⟨rfl, rfl, rfl, by decide +kernel, rfl, by decide +kernel, by decide +kernel⟩
theorem b_law (T : Tx K mg base) : Binds K (T.fd 0) ["_law_script"] [] := FunD.bindsN (T.df 0 dd_law rfl) fun _ _ _ _ _ _ us hl => match us, hl with | [_], _ => rfl
def bd_law : Fs :=
  sseq (sfor (miR1 (mcons (mop2 addW (mcon (.int 1)) (mcall min2W (mcons (mcon (.int 3)) (mcons (mcall lenW (mcons (mvar 0) (mnil))) (mnil))))) (mnil))) (.nm 1) (sseq (sset 2 (mcall m__law_box (mcons (mvar 0) (mcons (mvar 1) (mnil)))))
  (sif (mnot (mtst (mcall allW (mcons (mlc (miR1 (mcons (mcon (.int 1)) (mnil))) (.nm 3) (myes) (mcall m__law_right (mcons (mvar 2) (mnil))) [3]) (mnil))))) (sret (mcon (.bl false))) (snx))))
  (sret (mcon (.bl true)))
def m_law : Fn := fnM 1 4 bd_law
theorem ok_law (T : Tx K mg base) : FnG P w K mg base 11 (He.ga K "law") (T.fd 0) ["_law_script"] (spM (GG P w K) m_law) :=
  fn_okG (B := bd_law) (T.df 0 dd_law rfl) sc_law (hb := fun cdv A gd outer s H E hr => sm_cons (sm_for' PassesOwn.never rfl (im_range1 (by rfl) (T.fr "range" (by simp [frees])) (pm_cons (pm_bin om_add (pm_int) (pm_cB cm_min2 (by rfl) (T.fr "min" (by simp [frees])) bb_min (pm_cons (pm_int) (pm_cons (pm_cB cm_len (by rfl) (T.fr "len" (by simp [frees])) bb_len (pm_cons (pm_var (pv 0)) (pm_nil))) (pm_nil))))) (pm_nil))) (gm_name (pg_name (i := 1) sc_law.nd rfl (Or.inl rfl))) (sm_cons (sm_set (ps_set (i := 2) sc_law.nd rfl (Or.inr rfl) (pm_call (ok__law_box T) (hr.mono (by decide)) (by rfl) (T.gl "_law_box" (by simp [glos])) (T.kp 1 rfl) (b__law_box T) pass0 (pm_cons (pm_var (pv 0)) (pm_cons (pm_var (pv 1)) (pm_nil))))))
    (sm_one (sm_if (pm_tnot (pm_tst (pm_cB cm_all (by rfl) (T.fr "all" (by simp [frees])) bb_all (pm_cons (pm_lc (own := [("_law_time", 3)]) rfl sc_law.nd (im_range1 (by rfl) (T.fr "range" (by simp [frees])) (pm_cons (pm_int) (pm_nil))) (blkOk_by (own := [("_law_time", 3)]) (N := N_law) (sc := defScope s_law) (by decide +kernel)) (fun _ _ _ _ _ => gm_name (pg_name (i := 3) sc_law.nd rfl (Or.inl rfl))) (fun _ _ _ _ _ => tm_nil) (fun _ _ _ _ _ => pm_callG (ok__law_right T) gd (hr.mono (by decide)) (by rfl) (T.gl "_law_right" (by simp [glos])) (T.kp 3 rfl) (b__law_right T) (pm_cons (pm_var (pv 2)) (pm_nil)))) (pm_nil))))) (sm_one (sm_ret (pm_bl))) (sm_nil)))))
    (sm_one (sm_ret (pm_bl))))
end

end
section
/-! ### the law's draws, over any store -/
theorem put_same {s : Ms} {b : Nat} {o : Mo} : (s.put b o).get b = some o := by rw [put_get', if_pos rfl]
theorem take_sp {s : Ms} {b m : Nat} {k : Int} (h : Bx' s b m) (hm : m < 1000000) (k1 : 1 ≤ k) (k2 : k ≤ 1000) : Wp (m__law_take [.ref b, .int k] s) fun x => ∃ j : Int, x.1 = .int j ∧ 0 ≤ j ∧ j < k ∧ x.2.sz = s.sz ∧ Ext b s x.2 ∧ Bx' x.2 b (m + 1) := by
  obtain ⟨a, c, n, hb, ok, hn⟩ := h.ob
  have hin := drawF_in a c n k ok k1
  have fin : ∀ s' : Ms, m__law_take [.ref b, .int k] s = some (.int (drawF k a c n).1, s') → s' = s.put b (.lst [.int (drawF k a c n).2.1, .int c, .int (drawF k a c n).2.2]) → (drawF k a c n).2.2 ≤ n + 1 → Wp (m__law_take [.ref b, .int k] s) fun x => ∃ j : Int, x.1 = .int j ∧ 0 ≤ j ∧ j < k ∧ x.2.sz = s.sz ∧ Ext b s x.2 ∧ Bx' x.2 b (m + 1) := by
    intro s' e1 e2 e3
    subst e2
    exact ⟨_, e1, _, rfl, hin.1, hin.2.1, rfl, Ext.refl.put (.inl rfl), ⟨h.lt, _, _, _, put_same, hin.2.2, by omega⟩⟩
  have k0 : decide (0 < k) = true := decide_eq_true (by omega)
  have k1' : decide (k < 1073741824) = true := decide_eq_true (by omega)
  have ix0 : ixA (.ref b) (.int 0) s = some (.int a, s) := ixA_of (items_ref hb) rfl
  have ix1 : ixA (.ref b) (.int 1) s = some (.int c, s) := ixA_of (items_ref hb) rfl
  have ix2 : ixA (.ref b) (.int 2) s = some (.int n, s) := ixA_of (items_ref hb) rfl
  have ixN0 : ixN 3 0 = some 0 := rfl
  have ixN2 : ixN 3 2 = some 2 := rfl
  by_cases hp : 0 < a
  · have hd : decide (0 < a) = true := decide_eq_true hp
    refine fin _ ?_ rfl (by simp [drawF, hp]; omega)
    simp [iLt_eq, iEq_eq, lget_eq, lset_eq, lsome_eq, llen_eq, m__law_take, fnM, bd__law_take, sseq, sif, mtB, mop2, mvar, mcon, ix0, ix1, ix2, gtW, cmpI, sset, mcall, mcons, mnil, intW, modW, divW, ssubA, sret, hb, ixN0, drawF, hp, k0, k1', hd, k1]
  · have hd : decide (0 < a) = false := decide_eq_false hp
    have hc := ok.c0
    have hc1 := ok.c1
    have hn0 := ok.n0
    have sm : smI (c + 52021 * (n + 1)) = true := by unfold smI; rw [decide_eq_true (by omega), decide_eq_true (by omega)]; rfl
    have sm0 : smI (38039 + (n + 1)) = true := by unfold smI; rw [decide_eq_true (by omega), decide_eq_true (by omega)]; rfl
    have sm1 : smI 52021 = true := by decide
    have sm3 : ∀ j : Int, smI (j % 40009 + 11) = true := fun j => by unfold smI; rw [decide_eq_true (by omega), decide_eq_true (by omega)]; rfl
    have jx1 : ixA (.ref b) (.int 1) (s.put b (.lst [.int a, .int c, .int (n + 1)])) = some (.int c, s.put b (.lst [.int a, .int c, .int (n + 1)])) := ixA_of (items_ref put_same) rfl
    have jx2 : ixA (.ref b) (.int 2) (s.put b (.lst [.int a, .int c, .int (n + 1)])) = some (.int (n + 1), s.put b (.lst [.int a, .int c, .int (n + 1)])) := ixA_of (items_ref put_same) rfl
    refine fin _ ?_ rfl (by simp [drawF, hp])
    simp [iLt_eq, iEq_eq, lget_eq, lset_eq, lsome_eq, llen_eq, m__law_take, fnM, bd__law_take, sseq, sif, mtB, mop2, mvar, mcon, ix0, ix1, ix2, jx1, jx2, gtW, cmpI, sset, mcall, mcons, mnil, intW, modW, divW, addW, mulW, powW, ssubA, snx, sret, hb, ixN2, drawF, hp, k0, k1', hd, k1, sm, sm0, sm1, sm3]
theorem pick_sp {s : Ms} {b m : Nat} {v : Mv} {ws : List Mv} (h : Bx' s b m) (hm : m < 1000000) (hv : Itm b s v ws) (h0 : ws ≠ []) (h1 : ws.length ≤ 1000) : Wp (m__law_pick [.ref b, v] s) fun x => x.1 ∈ ws ∧ x.2.sz = s.sz ∧ Ext b s x.2 ∧ Bx' x.2 b (m + 1) := by
  refine wp_fn [some (.ref b), some v] rfl rfl ?_
  unfold bd__law_pick
  simp only [wp_ob, wp_om, wp_some, wp_mvar, sset, sexp, sret, sif, spar, spar3, snx, mtB, mtst, mop1, mop2, mcall, mcons, mnil, mcon, mif, mtup, mlst, mand, mor, mnot, mandV, morV, mnotV, lset_eq, List.getElem?_cons_zero, List.getElem?_cons_succ, List.set_cons_zero, List.set_cons_succ, cond_true, cond_false, lenW_of hv.items]
  have l0 : 0 < ws.length := List.length_pos_iff.mpr h0
  refine (take_sp h hm (k := (ws.length : Nat)) (by omega) (by omega)).mono fun x hx => ?_
  obtain ⟨w, s1⟩ := x
  obtain ⟨j, e, j0, j1, e1, e2, e3⟩ := hx
  simp only at e e1 e2 e3
  subst e
  have hj : j.toNat < ws.length := by omega
  exact ⟨_, ixA_of (hv.ext e2).items (atF_int j0 (List.getElem?_eq_getElem hj)), _, rfl, List.getElem_mem hj, e1, e2, e3⟩
def strV (xs : List Str) : List Mv := xs.map .str
theorem names_sp {s : Ms} {b m : Nat} {k : Int} (h : Bx' s b m) (hm : m + 10 < 1000000) (k0 : 0 ≤ k) (k1 : k ≤ 10) : Wp (m__law_names [.ref b, .int k] s) fun x => ∃ n xs, x.1 = .ref n ∧ s.sz ≤ n ∧ n < x.2.sz ∧ x.2.get n = some (.lst (strV xs)) ∧ xs.length = k.toNat ∧ (∃ ys, (ys ++ xs).Perm [x_pa, x_b, x_ring, x_cxx, x_deep, x_a, x_zlib, x_open, x_q, x_local]) ∧ Ext b s x.2 ∧ Bx' x.2 b (m + 10) := by
  refine wp_fn [some (.ref b), some (.int k), none, none, none] rfl rfl ?_
  unfold bd__law_names
  refine wp_seq ?_
  simp only [wp_ob, wp_om, wp_some, wp_mvar, sset, sexp, sret, sif, spar, spar3, snx, mtB, mtst, mop1, mop2, mcall, mcons, mnil, mcon, mif, mtup, mlst, mand, mor, mnot, mandV, morV, mnotV, lset_eq, List.getElem?_cons_zero, List.getElem?_cons_succ, List.set_cons_zero, List.set_cons_succ, cond_true, cond_false, newL_of (show [Mv.str x_pa, .str x_b, .str x_ring, .str x_cxx, .str x_deep, .str x_a, .str x_zlib, .str x_open, .str x_q, .str x_local].length ≤ 16777216 by decide), newL_of (show ([] : List Mv).length ≤ 16777216 by decide)]
  refine ⟨trivial, wp_seq ?_⟩
  refine wp_for (wp_R1 ?_)
  simp only [wp_ob, wp_om, wp_some, wp_mvar, sset, sexp, sret, sif, spar, spar3, snx, mtB, mtst, mop1, mop2, mcall, mcons, mnil, mcon, mif, mtup, mlst, mand, mor, mnot, mandV, morV, mnotV, lset_eq, List.getElem?_cons_zero, List.getElem?_cons_succ, List.set_cons_zero, List.set_cons_succ, cond_true, cond_false]
  refine ⟨k, rfl, okI_of k0 (by omega), ?_⟩
  have lt := h.lt
  refine (wp_loop (rngL 0 k.toNat) (fun i r s' => ∃ o xs ys, r = [some (.ref b), some (.int k), some (.ref s.sz), some (.ref (s.sz + 1)), o] ∧ s'.get s.sz = some (.lst (strV ys)) ∧ s'.get (s.sz + 1) = some (.lst (strV xs)) ∧ xs.length = i ∧ (ys ++ xs).Perm [x_pa, x_b, x_ring, x_cxx, x_deep, x_a, x_zlib, x_open, x_q, x_local] ∧ s'.sz = s.sz + 2 ∧ Ext b s s' ∧ Bx' s' b (m + i)) (fun i r s' _ _ => gives_rng) ?_ 100000 0 _ _ (by rw [rngL_len]; omega) (by omega) ?_).mono ?_
  · rintro i w r s' hw ⟨o, xs, ys, rfl, g1, g2, hl, hp, hz, hx, hB⟩
    obtain ⟨hi, rfl⟩ := rngL_get hw
    have hln := hp.length_eq
    simp only [List.length_append, List.length_cons, List.length_nil] at hln
    refine ⟨_, rfl, ?_⟩
    simp only [wp_ob, wp_om, wp_some, wp_mvar, sset, sexp, sret, sif, spar, spar3, snx, mtB, mtst, mop1, mop2, mcall, mcons, mnil, mcon, mif, mtup, mlst, mand, mor, mnot, mandV, morV, mnotV, lset_eq, List.getElem?_cons_zero, List.getElem?_cons_succ, List.set_cons_zero, List.set_cons_succ, cond_true, cond_false]
    refine wp_app (n := s.sz + 1) (by rfl) g2 ?_
    simp only [wp_ob, wp_om, wp_some, wp_mvar, sset, sexp, sret, sif, spar, spar3, snx, mtB, mtst, mop1, mop2, mcall, mcons, mnil, mcon, mif, mtup, mlst, mand, mor, mnot, mandV, morV, mnotV, lset_eq, List.getElem?_cons_zero, List.getElem?_cons_succ, List.set_cons_zero, List.set_cons_succ, cond_true, cond_false]
    refine wp_pop (n := s.sz) (by rfl) g1 ?_
    simp only [wp_ob, wp_om, wp_some, wp_mvar, sset, sexp, sret, sif, spar, spar3, snx, mtB, mtst, mop1, mop2, mcall, mcons, mnil, mcon, mif, mtup, mlst, mand, mor, mnot, mandV, morV, mnotV, lset_eq, List.getElem?_cons_zero, List.getElem?_cons_succ, List.set_cons_zero, List.set_cons_succ, cond_true, cond_false, lenW_of (items_ref g1)]
    refine (take_sp hB (by omega) (by simp [strV]; omega) (by simp [strV]; omega)).mono fun x hx' => ?_
    obtain ⟨w, s1⟩ := x
    obtain ⟨j, e, j0, j1, e1, e2, e3⟩ := hx'
    simp only at e e1 e2 e3
    subst e
    have lj : j.toNat < ys.length := by simp [strV] at j1; omega
    refine ⟨j, strV ys, .str ys[j.toNat], rfl, j0, e2.at (by omega) (by omega) g1, by simp [strV, lj], ?_⟩
    refine ⟨_, strV xs, rfl, ?_, by simp [strV]; omega, ?_⟩
    · show (s1.put s.sz _).get (s.sz + 1) = _
      rw [put_get', if_neg (by omega)]
      exact e2.at (by omega) (by omega) g2
    refine ⟨trivial, _, xs ++ [ys[j.toNat]], ys.eraseIdx j.toNat, rfl, ?_, ?_, ?_, ?_, ?_, ?_, ?_⟩
    · rw [put_get', if_neg (by omega), put_get', if_pos rfl]
      simp [strV, erase_map]
    · rw [put_get', if_pos rfl]
      simp [strV]
    · simp [hl]
    · refine List.Perm.trans ?_ hp
      have p1 : (ys[j.toNat] :: ys.eraseIdx j.toNat).Perm ys := erase_perm ys _ lj
      have p2 : (ys.eraseIdx j.toNat ++ (xs ++ [ys[j.toNat]])).Perm ((ys[j.toNat] :: ys.eraseIdx j.toNat) ++ xs) := by
        rw [← List.append_assoc]
        exact (List.perm_append_singleton _ _)
      exact p2.trans (p1.append_right xs)
    · show s1.sz = _
      rw [e1, hz]
    · refine (Ext.put (Ext.put (hx.trans e2) ?_) ?_)
      · exact .inr (Nat.le_refl _)
      · exact .inr (by omega)
    · exact (Bx'.put (Bx'.put e3 (by omega)) (by omega))
  · refine ⟨none, [], [x_pa, x_b, x_ring, x_cxx, x_deep, x_a, x_zlib, x_open, x_q, x_local], rfl, ?_, ?_, rfl, by simp, rfl, Ext.push.trans Ext.push, (h.push).push⟩
    · rw [push_get, if_neg (by rw [push_sz]; omega), push_get, if_pos rfl]; rfl
    · rw [push_get, if_pos push_sz.symm]; rfl
  · rintro ⟨fl, r, s'⟩ ⟨e, o, xs, ys, e1, g1, g2, hl, hp, hz, hx, hB⟩
    simp only at e e1 g1 g2 hz hx hB
    subst e e1
    rw [rngL_len] at hl hB
    refine ⟨rfl, ?_⟩
    simp only [wp_ob, wp_om, wp_some, wp_mvar, sset, sexp, sret, sif, spar, spar3, snx, mtB, mtst, mop1, mop2, mcall, mcons, mnil, mcon, mif, mtup, mlst, mand, mor, mnot, mandV, morV, mnotV, lset_eq, List.getElem?_cons_zero, List.getElem?_cons_succ, List.set_cons_zero, List.set_cons_succ, cond_true, cond_false]
    exact ⟨_, rfl, s.sz + 1, xs, rfl, by omega, by omega, g2, hl, ⟨ys, hp⟩, hx, hB.mono (by omega)⟩

end
section
theorem strOk_all {s : Ms} : ∀ (ys : List Str) (n : Nat), (∀ y ∈ ys, PyData.strOk y = true) → toDL (toD (n + 1) s) (strV ys) = some (ys.map .str)
  | [], _, _ => rfl
  | y :: ys, n, h => by
    show (toD (n + 1) s (.str y)).ob (fun d => (toDL (toD (n + 1) s) (strV ys)).om fun ds => d :: ds) = _
    rw [strOk_all ys n fun z hz => h z (by simp [hz])]
    show (cond (PyData.strOk y) (some (PyData.str y)) none).ob _ = _
    rw [h y (by simp)]; rfl
theorem toD_strs {s : Ms} {n : Nat} {ys : List Str} (g : s.get n = some (.lst (strV ys))) (h : ∀ y ∈ ys, PyData.strOk y = true) : toD 24 s (.ref n) = some (.list (ys.map .str)) := by
  show (match s.get n with
    | some (.lst ws) => (toDL (toD 23 s) ws).om PyData.list
    | _ => none) = _
  rw [g]
  show (toDL (toD 23 s) (strV ys)).om PyData.list = _
  rw [strOk_all ys 22 h]; rfl
theorem ne_nil {s : Ms} {n t : Nat} {ys : List Str} (g : s.get n = some (.lst (strV ys))) (g' : s.get t = some (.lst [])) (h : ∀ y ∈ ys, PyData.strOk y = true) : neW (.ref n) (.ref t) s = some (.bl (!ys.isEmpty), s) := by
  show (eqBo (.ref n) (.ref t) s).om _ = _
  have e : eqBo (.ref n) (.ref t) s = some ys.isEmpty := by
    show (toD 24 s (.ref n)).ob (fun d => (toD 24 s (.ref t)).om fun e => PyData.eqv d e) = _
    rw [toD_strs g h, toD_strs (ys := []) g' (by simp)]
    cases ys <;> simp [PyData.eqv, PyData.eqvAll]
  rw [e]; rfl
theorem some_sp {s : Ms} {b m : Nat} {v : Mv} {xs : List Str} {k : Int} (h : Bx' s b m) (hm : m + 12 < 1000000) (hv : Itm b s v (strV xs)) (hl : xs.length ≤ 100) (ho : ∀ y ∈ xs, PyData.strOk y = true) (k0 : 0 ≤ k) (k1 : k ≤ 10) : Wp (m__law_some [.ref b, v, .int k] s) fun x => ∃ n ys zs, x.1 = .ref n ∧ s.sz ≤ n ∧ n < x.2.sz ∧ x.2.get n = some (.lst (strV ys)) ∧ ys.length ≤ k.toNat ∧ (zs ++ ys).Perm xs ∧ Ext b s x.2 ∧ Bx' x.2 b (m + 12) := by
  refine wp_fn [some (.ref b), some v, some (.int k), none, none, none] rfl rfl ?_
  unfold bd__law_some
  refine wp_seq ?_
  have lt := h.lt
  have hL : listW [v] s = some (.ref s.sz, push s (.lst (strV xs))) := by
    show (items v s).ob (fun xs => newL xs s) = _
    rw [hv.items, ob_of, newL_of (by simp [strV]; omega)]
  simp only [wp_ob, wp_om, wp_some, wp_mvar, sset, sexp, sret, sif, spar, spar3, snx, mtB, mtst, mop1, mop2, mcall, mcons, mnil, mcon, mif, mtup, mlst, mand, mor, mnot, mandV, morV, mnotV, lset_eq, List.getElem?_cons_zero, List.getElem?_cons_succ, List.set_cons_zero, List.set_cons_succ, cond_true, cond_false, hL, newL_of (show ([] : List Mv).length ≤ 16777216 by decide)]
  refine ⟨trivial, wp_seq ?_⟩
  refine wp_for (wp_R1 ?_)
  simp only [wp_ob, wp_om, wp_some, wp_mvar, sset, sexp, sret, sif, spar, spar3, snx, mtB, mtst, mop1, mop2, mcall, mcons, mnil, mcon, mif, mtup, mlst, mand, mor, mnot, mandV, morV, mnotV, lset_eq, List.getElem?_cons_zero, List.getElem?_cons_succ, List.set_cons_zero, List.set_cons_succ, cond_true, cond_false, addW]
  refine (take_sp ((h.push).push) (by omega) (show 1 ≤ Int.add k 1 by show 1 ≤ k + 1; omega) (show k + 1 ≤ 1000 by omega)).mono fun x hx => ?_
  obtain ⟨w, s1⟩ := x
  obtain ⟨j, e, j0, j1, e1, e2, e3⟩ := hx
  simp only at e e1 e2 e3
  subst e
  have j1 : j < k + 1 := j1
  refine ⟨j, rfl, okI_of j0 (by omega), ?_⟩
  have gL : s1.get s.sz = some (.lst (strV xs)) := e2.at (by rw [push_sz, push_sz]; omega) (by omega) (by rw [push_get, if_neg (by rw [push_sz]; omega), push_get, if_pos rfl])
  have gF : s1.get (s.sz + 1) = some (.lst (strV [])) := e2.at (by rw [push_sz, push_sz]; omega) (by omega) (by rw [push_get, if_pos push_sz.symm]; rfl)
  have ex1 : Ext b s s1 := (Ext.push.trans Ext.push).trans e2
  have z1 : s1.sz = s.sz + 2 := e1
  refine (wp_loop (rngL 0 j.toNat) (fun i r s' => ∃ o ys zs, r = [some (.ref b), some v, some (.int k), some (.ref s.sz), some (.ref (s.sz + 1)), o] ∧ s'.get s.sz = some (.lst (strV zs)) ∧ s'.get (s.sz + 1) = some (.lst (strV ys)) ∧ ys.length ≤ i ∧ (zs ++ ys).Perm xs ∧ s.sz + 2 ≤ s'.sz ∧ Ext b s s' ∧ Bx' s' b (m + 1 + i)) (fun i r s' _ _ => gives_rng) ?_ 100000 0 _ _ (by rw [rngL_len]; omega) (by omega) ?_).mono ?_
  · rintro i w r s' hw ⟨o, ys, zs, rfl, g1, g2, hl', hp, hz, hx, hB⟩
    obtain ⟨hi, rfl⟩ := rngL_get hw
    have hln := hp.length_eq
    simp only [List.length_append] at hln
    have ok : ∀ y ∈ zs, PyData.strOk y = true := fun y hy => ho y (hp.subset (List.mem_append_left _ hy))
    refine ⟨_, rfl, ?_⟩
    have p1 : (push s' (.lst [])).get s.sz = some (.lst (strV zs)) := by rw [push_get, if_neg (by omega)]; exact g1
    have p2 : (push s' (.lst [])).get (s.sz + 1) = some (.lst (strV ys)) := by rw [push_get, if_neg (by omega)]; exact g2
    simp only [wp_ob, wp_om, wp_some, wp_mvar, sset, sexp, sret, sif, spar, spar3, snx, mtB, mtst, mop1, mop2, mcall, mcons, mnil, mcon, mif, mtup, mlst, mand, mor, mnot, mandV, morV, mnotV, lset_eq, List.getElem?_cons_zero, List.getElem?_cons_succ, List.set_cons_zero, List.set_cons_succ, cond_true, cond_false, newL_of (show ([] : List Mv).length ≤ 16777216 by decide), ne_nil p1 Ms.get_push ok]
    cases zs with
    | nil =>
      simp only [wp_ob, wp_om, wp_some, wp_mvar, sset, sexp, sret, sif, spar, spar3, snx, mtB, mtst, mop1, mop2, mcall, mcons, mnil, mcon, mif, mtup, mlst, mand, mor, mnot, mandV, morV, mnotV, lset_eq, List.getElem?_cons_zero, List.getElem?_cons_succ, List.set_cons_zero, List.set_cons_succ, cond_true, cond_false, List.isEmpty_nil, Bool.not_true]
      exact ⟨trivial, _, ys, [], rfl, p1, p2, by omega, hp, by rw [push_sz]; omega, hx.trans Ext.push, hB.push.mono (by omega)⟩
    | cons z zs =>
      simp only [wp_ob, wp_om, wp_some, wp_mvar, sset, sexp, sret, sif, spar, spar3, snx, mtB, mtst, mop1, mop2, mcall, mcons, mnil, mcon, mif, mtup, mlst, mand, mor, mnot, mandV, morV, mnotV, lset_eq, List.getElem?_cons_zero, List.getElem?_cons_succ, List.set_cons_zero, List.set_cons_succ, cond_true, cond_false, List.isEmpty_cons, Bool.not_false]
      refine wp_app (n := s.sz + 1) (by rfl) p2 ?_
      simp only [wp_ob, wp_om, wp_some, wp_mvar, sset, sexp, sret, sif, spar, spar3, snx, mtB, mtst, mop1, mop2, mcall, mcons, mnil, mcon, mif, mtup, mlst, mand, mor, mnot, mandV, morV, mnotV, lset_eq, List.getElem?_cons_zero, List.getElem?_cons_succ, List.set_cons_zero, List.set_cons_succ, cond_true, cond_false]
      refine wp_pop (n := s.sz) (by rfl) p1 ?_
      simp only [wp_ob, wp_om, wp_some, wp_mvar, sset, sexp, sret, sif, spar, spar3, snx, mtB, mtst, mop1, mop2, mcall, mcons, mnil, mcon, mif, mtup, mlst, mand, mor, mnot, mandV, morV, mnotV, lset_eq, List.getElem?_cons_zero, List.getElem?_cons_succ, List.set_cons_zero, List.set_cons_succ, cond_true, cond_false, lenW_of (items_ref p1)]
      refine (take_sp hB.push (by omega) (by simp [strV]; omega) (by simp [strV]; simp at hln; omega)).mono fun x hx' => ?_
      obtain ⟨w, s2⟩ := x
      obtain ⟨j', e', j0', j1', e1', e2', e3'⟩ := hx'
      simp only at e' e1' e2' e3'
      subst e'
      have lj : j'.toNat < (z :: zs).length := by simp [strV] at j1' ⊢; omega
      refine ⟨j', strV (z :: zs), .str (z :: zs)[j'.toNat], rfl, j0', e2'.at (by rw [push_sz]; omega) (by omega) p1, by unfold strV; rw [List.getElem?_map, List.getElem?_eq_getElem lj]; rfl, ?_⟩
      refine ⟨_, strV ys, rfl, ?_, by simp [strV]; omega, ?_⟩
      · show (s2.put s.sz _).get (s.sz + 1) = _
        rw [put_get', if_neg (by omega)]
        exact e2'.at (by rw [push_sz]; omega) (by omega) p2
      rw [push_sz] at e1'
      refine ⟨trivial, _, ys ++ [(z :: zs)[j'.toNat]], (z :: zs).eraseIdx j'.toNat, rfl, ?_, ?_, ?_, ?_, ?_, ?_, ?_⟩
      · rw [put_get', if_neg (by omega), put_get', if_pos rfl]
        simp only [strV, erase_map]
      · rw [put_get', if_pos rfl]
        simp [strV]
      · simp; omega
      · refine List.Perm.trans ?_ hp
        have q1 := erase_perm (z :: zs) j'.toNat lj
        have q2 : ((z :: zs).eraseIdx j'.toNat ++ (ys ++ [(z :: zs)[j'.toNat]])).Perm (((z :: zs)[j'.toNat] :: (z :: zs).eraseIdx j'.toNat) ++ ys) := by
          rw [← List.append_assoc]
          exact (List.perm_append_singleton _ _)
        exact q2.trans (q1.append_right ys)
      · show _ ≤ s2.sz
        omega
      · refine (Ext.put (Ext.put ((hx.trans Ext.push).trans e2') ?_) ?_)
        · exact .inr (Nat.le_refl _)
        · exact .inr (by omega)
      · exact (Bx'.put (Bx'.put e3' (by omega)) (by omega)).mono (by omega)
  · exact ⟨none, [], xs, rfl, gL, gF, by simp, by simp, Nat.le_of_eq z1.symm, ex1, e3.mono (by omega)⟩
  · rintro ⟨fl, r, s'⟩ ⟨e, o, ys, zs, e1, g1, g2, hl', hp, hz, hx, hB⟩
    simp only at e e1 g1 g2 hz hx hB
    subst e e1
    rw [rngL_len] at hl' hB
    refine ⟨rfl, ?_⟩
    simp only [wp_ob, wp_om, wp_some, wp_mvar, sset, sexp, sret, sif, spar, spar3, snx, mtB, mtst, mop1, mop2, mcall, mcons, mnil, mcon, mif, mtup, mlst, mand, mor, mnot, mandV, morV, mnotV, lset_eq, List.getElem?_cons_zero, List.getElem?_cons_succ, List.set_cons_zero, List.set_cons_succ, cond_true, cond_false]
    exact ⟨_, rfl, s.sz + 1, ys, zs, rfl, by omega, by omega, g2, by omega, hp, hx, hB.mono (by omega)⟩
def pairV (ds : List (Str × Str)) : List Mv := ds.map fun d => .tup [.str d.1, .str d.2]
theorem keys_pairs : ∀ ds : List (Str × Str), keysOf (pairV ds) = some (ds.map fun d => [d.1, d.2])
  | [] => rfl
  | d :: ds => by
    show ((pairOf (.tup [.str d.1, .str d.2])).ob fun k => (keysOf (pairV ds)).om fun ks => k :: ks) = _
    rw [keys_pairs ds]; rfl
theorem list_ex {α β : Type} {f : α → β} {P : α → Prop} : ∀ {l : List β}, (∀ v ∈ l, ∃ d, v = f d ∧ P d) → ∃ ds : List α, l = ds.map f ∧ ∀ d ∈ ds, P d
  | [], _ => ⟨[], rfl, by simp⟩
  | v :: l, h => by
    obtain ⟨d, rfl, hd⟩ := h v (by simp)
    obtain ⟨ds, rfl, hds⟩ := list_ex (l := l) fun z hz => h z (by simp [hz])
    exact ⟨d :: ds, rfl, by simpa using ⟨hd, hds⟩⟩
def PairIn (d : Str × Str) : Prop := d.1 ∈ [x_f, x_g, x_h] ∧ d.2 ∈ [x_, x_a, x_b]
theorem pairs_sp {s : Ms} {b m : Nat} {k : Int} (h : Bx' s b m) (hm : m + 9 < 1000000) (k0 : 0 ≤ k) (k1 : k ≤ 3) : Wp (m__law_pairs [.ref b, .int k] s) fun x => ∃ n ds, x.1 = .ref n ∧ s.sz ≤ n ∧ n < x.2.sz ∧ x.2.get n = some (.lst (pairV ds)) ∧ ds.length ≤ k.toNat ∧ (∀ d ∈ ds, PairIn d) ∧ Ext b s x.2 ∧ Bx' x.2 b (m + 9) := by
  refine wp_fn [some (.ref b), some (.int k), none, none] rfl rfl ?_
  unfold bd__law_pairs
  refine wp_seq ?_
  have lt := h.lt
  simp only [wp_ob, wp_om, wp_some, wp_mvar, sset, sexp, sret, sif, spar, spar3, snx, mtB, mtst, mop1, mop2, mcall, mcons, mnil, mcon, mif, mtup, mlst, mand, mor, mnot, mandV, morV, mnotV, lset_eq, List.getElem?_cons_zero, List.getElem?_cons_succ, List.set_cons_zero, List.set_cons_succ, cond_true, cond_false, newL_of (show ([] : List Mv).length ≤ 16777216 by decide)]
  refine ⟨trivial, wp_seq ?_⟩
  refine wp_for (wp_R1 ?_)
  simp only [wp_ob, wp_om, wp_some, wp_mvar, sset, sexp, sret, sif, spar, spar3, snx, mtB, mtst, mop1, mop2, mcall, mcons, mnil, mcon, mif, mtup, mlst, mand, mor, mnot, mandV, morV, mnotV, lset_eq, List.getElem?_cons_zero, List.getElem?_cons_succ, List.set_cons_zero, List.set_cons_succ, cond_true, cond_false, addW]
  refine (take_sp (h.push) (by omega) (show 1 ≤ Int.add k 1 by show 1 ≤ k + 1; omega) (show k + 1 ≤ 1000 by omega)).mono fun x hx => ?_
  obtain ⟨w, s1⟩ := x
  obtain ⟨j, e, j0, j1, e1, e2, e3⟩ := hx
  simp only at e e1 e2 e3
  subst e
  have j1 : j < k + 1 := j1
  refine ⟨j, rfl, okI_of j0 (by omega), ?_⟩
  have gF : s1.get s.sz = some (.lst (pairV [])) := e2.at (by rw [push_sz]; omega) (by omega) (by rw [push_get, if_pos rfl]; rfl)
  have ex1 : Ext b s s1 := (Ext.push).trans e2
  have z1 : s1.sz = s.sz + 1 := e1
  refine (wp_loop (rngL 0 j.toNat) (fun i r s' => ∃ o ds, r = [some (.ref b), some (.int k), some (.ref s.sz), o] ∧ s'.get s.sz = some (.lst (pairV ds)) ∧ ds.length = i ∧ (∀ d ∈ ds, PairIn d) ∧ s.sz + 1 ≤ s'.sz ∧ Ext b s s' ∧ Bx' s' b (m + 1 + 2 * i)) (fun i r s' _ _ => gives_rng) ?_ 100000 0 _ _ (by rw [rngL_len]; omega) (by omega) ?_).mono ?_
  · rintro i w r s' hw ⟨o, ds, rfl, g1, hl', hp, hz, hx, hB⟩
    obtain ⟨hi, rfl⟩ := rngL_get hw
    refine ⟨_, rfl, ?_⟩
    simp only [wp_ob, wp_om, wp_some, wp_mvar, sset, sexp, sret, sif, spar, spar3, snx, mtB, mtst, mop1, mop2, mcall, mcons, mnil, mcon, mif, mtup, mlst, mand, mor, mnot, mandV, morV, mnotV, lset_eq, List.getElem?_cons_zero, List.getElem?_cons_succ, List.set_cons_zero, List.set_cons_succ, cond_true, cond_false]
    refine wp_app (n := s.sz) (by rfl) g1 ?_
    simp only [wp_ob, wp_om, wp_some, wp_mvar, sset, sexp, sret, sif, spar, spar3, snx, mtB, mtst, mop1, mop2, mcall, mcons, mnil, mcon, mif, mtup, mlst, mand, mor, mnot, mandV, morV, mnotV, lset_eq, List.getElem?_cons_zero, List.getElem?_cons_succ, List.set_cons_zero, List.set_cons_succ, cond_true, cond_false, newL_of (show [Mv.str x_f, .str x_f, .str x_g, .str x_h].length ≤ 16777216 by decide)]
    refine (pick_sp hB.push (by omega) (ws := [Mv.str x_f, .str x_f, .str x_g, .str x_h]) (.inr ⟨s'.sz, rfl, by rw [push_sz]; omega, by have := hB.lt; omega, Ms.get_push⟩) (by simp) (by simp)).mono fun x hx1 => ?_
    obtain ⟨w1, s2⟩ := x
    obtain ⟨m1, a1, a2, a3⟩ := hx1
    simp only at m1 a1 a2 a3
    rw [push_sz] at a1
    simp only [wp_ob, wp_om, wp_some, wp_mvar, sset, sexp, sret, sif, spar, spar3, snx, mtB, mtst, mop1, mop2, mcall, mcons, mnil, mcon, mif, mtup, mlst, mand, mor, mnot, mandV, morV, mnotV, lset_eq, List.getElem?_cons_zero, List.getElem?_cons_succ, List.set_cons_zero, List.set_cons_succ, cond_true, cond_false, newL_of (show [Mv.str x_, .str x_, .str x_a, .str x_b].length ≤ 16777216 by decide)]
    refine (pick_sp a3.push (by omega) (ws := [Mv.str x_, .str x_, .str x_a, .str x_b]) (.inr ⟨s2.sz, rfl, by rw [push_sz]; omega, by have := hB.lt; omega, Ms.get_push⟩) (by simp) (by simp)).mono fun x hx2 => ?_
    obtain ⟨w2, s3⟩ := x
    obtain ⟨m2, c1, c2, c3⟩ := hx2
    simp only at m2 c1 c2 c3
    rw [push_sz] at c1
    simp only [wp_ob, wp_om, wp_some, wp_mvar, sset, sexp, sret, sif, spar, spar3, snx, mtB, mtst, mop1, mop2, mcall, mcons, mnil, mcon, mif, mtup, mlst, mand, mor, mnot, mandV, morV, mnotV, lset_eq, List.getElem?_cons_zero, List.getElem?_cons_succ, List.set_cons_zero, List.set_cons_succ, cond_true, cond_false, newT_of (show [w1, w2].length ≤ 16777216 by simp)]
    have xx : Ext b s' s3 := ((Ext.push.trans a2).trans Ext.push).trans c2
    have hw1 : ∃ y, w1 = .str y ∧ y ∈ [x_f, x_g, x_h] := by
      simp only [List.mem_cons, List.not_mem_nil, or_false] at m1
      rcases m1 with rfl | rfl | rfl | rfl <;> exact ⟨_, rfl, by simp⟩
    have hw2 : ∃ y, w2 = .str y ∧ y ∈ [x_, x_a, x_b] := by
      simp only [List.mem_cons, List.not_mem_nil, or_false] at m2
      rcases m2 with rfl | rfl | rfl | rfl <;> exact ⟨_, rfl, by simp⟩
    obtain ⟨y1, rfl, my1⟩ := hw1
    obtain ⟨y2, rfl, my2⟩ := hw2
    refine ⟨_, _, rfl, xx.at (by omega) (by omega) g1, by simp [pairV]; omega, trivial, _, ds ++ [(y1, y2)], rfl, ?_, by simp [hl'], ?_, ?_, ?_, ?_⟩
    · rw [put_get', if_pos rfl]; simp [pairV]
    · intro d hd
      rcases List.mem_append.mp hd with hd | hd
      · exact hp d hd
      · simp at hd; subst hd; exact ⟨my1, my2⟩
    · show _ ≤ s3.sz
      omega
    · exact (hx.trans xx).put (.inr (Nat.le_refl _))
    · exact (Bx'.put c3 (by omega)).mono (by omega)
  · exact ⟨none, [], rfl, gF, rfl, by simp, Nat.le_of_eq z1.symm, ex1, e3.mono (by omega)⟩
  · rintro ⟨fl, r, s'⟩ ⟨e, o, ds, e1, g1, hl', hp, hz, hx, hB⟩
    simp only at e e1 g1 hz hx hB
    subst e e1
    rw [rngL_len] at hl' hB
    refine ⟨rfl, ?_⟩
    have hq : ∀ v ∈ sortK (ddK (ds.map fun d => [d.1, d.2])), ∃ d : Str × Str, v = .tup [.str d.1, .str d.2] ∧ PairIn d := by
      intro v hv
      obtain ⟨k, hk, rfl⟩ := sortK_mem hv
      have := ddK_mem.mp hk
      obtain ⟨d, hd, rfl⟩ := List.mem_map.mp this
      exact ⟨d, rfl, hp d hd⟩
    obtain ⟨es, he, hes⟩ := list_ex (f := fun d : Str × Str => Mv.tup [.str d.1, .str d.2]) hq
    have hle : es.length ≤ ds.length := by
      have h1 := congrArg List.length he
      rw [sortK_len, List.length_map] at h1
      have h2 := ddK_len (ds.map fun d => [d.1, d.2])
      rw [List.length_map] at h2
      omega
    have hS : msrtS (mvar 2) [some (.ref b), some (.int k), some (.ref s.sz), o] s' = some (.ref s'.sz, push s' (.lst (pairV es))) := by
      show ((lstOf (.ref s.sz) s').ob fun ws => (keysOf ws).ob fun ks => cond (Nat.ble ks.length 4) (newO (.lst (sortK (ddK ks))) s') none) = _
      have : lstOf (.ref s.sz) s' = some (pairV ds) := items_ref g1
      rw [this, ob_of, keys_pairs, ob_of, Nat.ble_eq_true_of_le (by simp; omega), cond_true, newO_of, he]
      rfl
    simp only [wp_ob, wp_om, wp_some, wp_mvar, sset, sexp, sret, sif, spar, spar3, snx, mtB, mtst, mop1, mop2, mcall, mcons, mnil, mcon, mif, mtup, mlst, mand, mor, mnot, mandV, morV, mnotV, lset_eq, List.getElem?_cons_zero, List.getElem?_cons_succ, List.set_cons_zero, List.set_cons_succ, cond_true, cond_false, hS]
    exact ⟨_, rfl, s'.sz, es, rfl, by omega, by rw [push_sz]; omega, Ms.get_push, by omega, hes, hx.trans Ext.push, hB.push.mono (by omega)⟩

end
section
/-! ### a drawn library, a drawn program -/
structure PLib where
  own : Str
  needs : List Str
  defs : List (Str × Str)
  uses : List ((Str × Str) × Bool)
def useV (us : List ((Str × Str) × Bool)) : List Mv := us.map fun u => .tup [.str u.1.1, .str u.1.2, .bl u.2]
def PLib.mv (l : PLib) : Mv := .tup [.str l.own, .tup (strV l.needs), .tup (pairV l.defs), .tup (useV l.uses)]
def POOL : List Str := [x_pa, x_b, x_ring, x_cxx, x_deep, x_a, x_zlib, x_open, x_q, x_local]
theorem pool_ok : ∀ y ∈ POOL, PyData.strOk y = true := by decide +kernel
theorem pool_nd : POOL.Nodup := by decide +kernel
structure LibOk (others : List Str) (l : PLib) : Prop where
  nd : l.needs.Nodup
  nin : ∀ x ∈ l.needs, x ∈ others ∧ x ≠ l.own
  nl : l.needs.length ≤ 2
  df : ∀ d ∈ l.defs, PairIn d
  dl : l.defs.length ≤ 3
  us : ∀ u ∈ l.uses, PairIn u.1
  ul : l.uses.length ≤ 3
theorem eq_str {x y : Str} {s : Ms} : eqW (.str x) (.str y) s = some (.bl (decide (x = y)), s) := by
  show (eqBo (.str x) (.str y) s).om _ = _
  show (some (strEq x y)).om _ = _
  rw [strEq_eq]; rfl
theorem ne_str {x y : Str} {s : Ms} : neW (.str x) (.str y) s = some (.bl (!decide (x = y)), s) := by
  show (some (strEq x y)).om _ = _
  rw [strEq_eq]; rfl
theorem eq_int {x y : Int} {s : Ms} : eqW (.int x) (.int y) s = some (.bl (decide (x = y)), s) := by
  show (some (iEq x y)).om _ = _
  rw [iEq_eq]; rfl
theorem tup_of {v : Mv} {ws : List Mv} {s : Ms} (h : items v s = some ws) (hl : ws.length ≤ 16777216) : tupleW [v] s = some (.tup ws, s) := by
  show (items v s).ob (fun xs => newT xs s) = _
  rw [h, ob_of, newT_of hl]
theorem lib_sp {s : Ms} {b m : Nat} {v : Mv} {own : Str} {xs : List Str} {im : Bool} (h : Bx' s b m) (hm : m + 40 < 1000000) (hv : Itm b s v (strV xs)) (hl : xs.length ≤ 100) (ho : ∀ y ∈ xs, PyData.strOk y = true) (hnd : xs.Nodup) : Wp (m__law_lib [.ref b, .str own, v, .bl im] s) fun x => ∃ l : PLib, x.1 = l.mv ∧ l.own = own ∧ LibOk xs l ∧ Ext b s x.2 ∧ Bx' x.2 b (m + 40) := by
  refine wp_fn [some (.ref b), some (.str own), some v, some (.bl im), none, none, none, none, none] rfl rfl ?_
  unfold bd__law_lib
  have lt := h.lt
  refine wp_seq ?_
  simp only [wp_ob, wp_om, wp_some, wp_mvar, sset, sexp, sret, sif, spar, spar3, snx, mtB, mtst, mop1, mop2, mcall, mcons, mnil, mcon, mif, mtup, mlst, mand, mor, mnot, mandV, morV, mnotV, lset_eq, List.getElem?_cons_zero, List.getElem?_cons_succ, List.set_cons_zero, List.set_cons_succ, cond_true, cond_false]
  refine wp_lc (wp_S (b := b) ?_)
  simp only [wp_ob, wp_om, wp_some, wp_mvar, sset, sexp, sret, sif, spar, spar3, snx, mtB, mtst, mop1, mop2, mcall, mcons, mnil, mcon, mif, mtup, mlst, mand, mor, mnot, mandV, morV, mnotV, lset_eq, List.getElem?_cons_zero, List.getElem?_cons_succ, List.set_cons_zero, List.set_cons_succ, cond_true, cond_false]
  refine ⟨strV xs, hv, fun it git => ?_⟩
  have hf : mflat it (mstep (.nm 7) (mtB (mop2 neW (mvar 7) (mvar 1))) (mvar 7) (mwipe [some (.ref b), some (.str own), some v, some (.bl im), none, none, none, none, none] [7])) 100000 0 s = some ((strV xs).flatMap (fun w => match w with | .str y => if y = own then [] else [.str y] | _ => []), s) := by
    refine flat_pure _ (by simp [strV]; omega) (git s Ext.refl) fun w hw => ?_
    obtain ⟨y, hy, rfl⟩ := List.mem_map.mp hw
    by_cases hyo : y = own
    · simp [mstep, mwipe, lset_eq, Tg.asg, mtB, mop2, mvar, lget_eq, ne_str, hyo]
    · simp [mstep, mwipe, lset_eq, Tg.asg, mtB, mop2, mvar, lget_eq, ne_str, hyo]
  have hf2 : (strV xs).flatMap (fun w => match w with | .str y => if y = own then [] else [.str y] | _ => []) = strV (xs.filter (fun y => !decide (y = own))) := by
    clear hf git hv hl ho hnd
    induction xs with
    | nil => rfl
    | cons x xs ih =>
      show ((if x = own then [] else [Mv.str x]) ++ (strV xs).flatMap _) = _
      rw [ih]
      by_cases hx : x = own <;> simp [hx, strV]
  rw [hf, hf2, wp_some]
  refine ⟨by simp [strV]; have := List.length_filter_le (fun y => !decide (y = own)) xs; omega, ?_⟩
  refine (some_sp (xs := xs.filter (fun y => !decide (y = own))) h.push (by omega) (.inr ⟨s.sz, rfl, by rw [push_sz]; omega, by omega, Ms.get_push⟩) (by have := List.length_filter_le (fun y => !decide (y = own)) xs; omega) (fun y hy => ho y (List.mem_filter.mp hy).1) (by omega) (by omega)).mono fun x hx => ?_
  obtain ⟨w, s1⟩ := x
  obtain ⟨n, ys, zs, e, e1, e2, e3, e4, e5, e6, e7⟩ := hx
  simp only at e e1 e2 e3 e4 e5 e6 e7
  subst e
  rw [push_sz] at e1
  have yl : ys.length ≤ 2 := e4
  simp only [wp_ob, wp_om, wp_some, wp_mvar, sset, sexp, sret, sif, spar, spar3, snx, mtB, mtst, mop1, mop2, mcall, mcons, mnil, mcon, mif, mtup, mlst, mand, mor, mnot, mandV, morV, mnotV, lset_eq, List.getElem?_cons_zero, List.getElem?_cons_succ, List.set_cons_zero, List.set_cons_succ, cond_true, cond_false, tup_of (items_ref e3) (show (strV ys).length ≤ 16777216 by simp [strV]; omega)]
  refine ⟨trivial, wp_seq ?_⟩
  have E1 : Ext b s s1 := Ext.push.trans e6
  have hpr : ∀ k : Int, 0 ≤ k → k ≤ 3 → Wp (m__law_pairs [.ref b, .int k] s1) fun x => ∃ n ds, x.1 = .ref n ∧ s1.sz ≤ n ∧ n < x.2.sz ∧ x.2.get n = some (.lst (pairV ds)) ∧ ds.length ≤ 3 ∧ (∀ d ∈ ds, PairIn d) ∧ Ext b s1 x.2 ∧ Bx' x.2 b (m + 12 + 9) := fun k k0 k1 => (pairs_sp e7 (by omega) k0 k1).mono fun x ⟨n, ds, a1, a2, a3, a4, a5, a6⟩ => ⟨n, ds, a1, a2, a3, a4, by omega, a6⟩
  have hpr2 : Wp (mcall m__law_pairs (mcons (mvar 0) (mcons (mif (mtst (mvar 3)) (mcon (.int 1)) (mcon (.int 3))) (mnil))) [some (.ref b), some (.str own), some v, some (.bl im), some (.tup (strV ys)), none, none, none, none] s1) fun x => ∃ n ds, x.1 = .ref n ∧ s1.sz ≤ n ∧ n < x.2.sz ∧ x.2.get n = some (.lst (pairV ds)) ∧ ds.length ≤ 3 ∧ (∀ d ∈ ds, PairIn d) ∧ Ext b s1 x.2 ∧ Bx' x.2 b (m + 12 + 9) := by
    cases im
    · simp only [wp_ob, wp_om, wp_some, wp_mvar, sset, sexp, sret, sif, spar, spar3, snx, mtB, mtst, mop1, mop2, mcall, mcons, mnil, mcon, mif, mtup, mlst, mand, mor, mnot, mandV, morV, mnotV, lset_eq, List.getElem?_cons_zero, List.getElem?_cons_succ, List.set_cons_zero, List.set_cons_succ, cond_true, cond_false, tru]
      exact hpr 3 (by omega) (by omega)
    · simp only [wp_ob, wp_om, wp_some, wp_mvar, sset, sexp, sret, sif, spar, spar3, snx, mtB, mtst, mop1, mop2, mcall, mcons, mnil, mcon, mif, mtup, mlst, mand, mor, mnot, mandV, morV, mnotV, lset_eq, List.getElem?_cons_zero, List.getElem?_cons_succ, List.set_cons_zero, List.set_cons_succ, cond_true, cond_false, tru]
      exact hpr 1 (by omega) (by omega)
  simp only [sset, wp_om, mcall, mcons, wp_ob, mnil, wp_some] at hpr2 ⊢
  refine hpr2.mono fun x hx => ?_
  refine hx.mono fun y hy => ?_
  refine hy.mono fun z hz => ?_
  obtain ⟨w, s2⟩ := z
  obtain ⟨n2, ds, a0, a1, a2, a3, a4, a5, a6, a7⟩ := hz
  simp only at a0 a1 a2 a3 a4 a5 a6 a7
  subst a0
  simp only [wp_ob, wp_om, wp_some, wp_mvar, sset, sexp, sret, sif, spar, spar3, snx, mtB, mtst, mop1, mop2, mcall, mcons, mnil, mcon, mif, mtup, mlst, mand, mor, mnot, mandV, morV, mnotV, lset_eq, List.getElem?_cons_zero, List.getElem?_cons_succ, List.set_cons_zero, List.set_cons_succ, cond_true, cond_false, tup_of (items_ref a3) (show (pairV ds).length ≤ 16777216 by simp [pairV]; omega)]
  refine ⟨trivial, wp_seq ?_⟩
  simp only [wp_ob, wp_om, wp_some, wp_mvar, sset, sexp, sret, sif, spar, spar3, snx, mtB, mtst, mop1, mop2, mcall, mcons, mnil, mcon, mif, mtup, mlst, mand, mor, mnot, mandV, morV, mnotV, lset_eq, List.getElem?_cons_zero, List.getElem?_cons_succ, List.set_cons_zero, List.set_cons_succ, cond_true, cond_false]
  refine wp_lc (wp_S (b := b) ?_)
  simp only [wp_ob, wp_om, wp_some, wp_mvar, sset, sexp, sret, sif, spar, spar3, snx, mtB, mtst, mop1, mop2, mcall, mcons, mnil, mcon, mif, mtup, mlst, mand, mor, mnot, mandV, morV, mnotV, lset_eq, List.getElem?_cons_zero, List.getElem?_cons_succ, List.set_cons_zero, List.set_cons_succ, cond_true, cond_false]
  refine (pairs_sp a7 (by omega) (by omega) (by omega)).mono fun x hx => ?_
  obtain ⟨w, s3⟩ := x
  obtain ⟨n3, us, c0, c1, c2, c3, c4, c5, c6, c7⟩ := hx
  simp only at c0 c1 c2 c3 c4 c5 c6 c7
  subst c0
  have ul : us.length ≤ 3 := c4
  have lt2 : b < s2.sz := a7.lt
  refine ⟨pairV us, .inr ⟨n3, rfl, c2, by omega, c3⟩, fun it git => ?_⟩
  refine (wp_flat (pairV us) (fun i acc s' => ∃ fs : List ((Str × Str) × Bool), acc = useV fs ∧ fs.map (·.1) = us.take i ∧ Ext b s3 s' ∧ Bx' s' b (m + 30 + i)) (fun i acc s' _ ⟨_, _, _, x, _⟩ => git s' x) ?_ 100000 0 [] s3 (by simp [pairV]; omega) (by omega) ⟨[], rfl, rfl, Ext.refl, c7.mono (by omega)⟩).mono ?_
  · rintro i w acc s' hw ⟨fs, rfl, f1, f2, f3⟩
    have hi : i < us.length := by have := (List.getElem?_eq_some_iff.mp hw).1; simpa [pairV] using this
    have hwe : w = .tup [.str us[i].1, .str us[i].2] := by
      unfold pairV at hw
      rw [List.getElem?_map, List.getElem?_eq_getElem hi] at hw
      cases hw; rfl
    subst hwe
    unfold mstep
    simp only [wp_ob, wp_om, wp_some, wp_mvar, sset, sexp, sret, sif, spar, spar3, snx, mtB, mtst, mop1, mop2, mcall, mcons, mnil, mcon, mif, mtup, mlst, mand, mor, mnot, mandV, morV, mnotV, lset_eq, List.getElem?_cons_zero, List.getElem?_cons_succ, List.set_cons_zero, List.set_cons_succ, cond_true, cond_false, mwipe, Tg.asg, myes]
    refine (take_sp f3 (by omega) (by omega) (by omega)).mono fun x hx => ?_
    obtain ⟨w, s4⟩ := x
    obtain ⟨j, g0, g1, g2, g3, g4, g5⟩ := hx
    simp only at g0 g1 g2 g3 g4 g5
    subst g0
    simp only [wp_ob, wp_om, wp_some, wp_mvar, sset, sexp, sret, sif, spar, spar3, snx, mtB, mtst, mop1, mop2, mcall, mcons, mnil, mcon, mif, mtup, mlst, mand, mor, mnot, mandV, morV, mnotV, lset_eq, List.getElem?_cons_zero, List.getElem?_cons_succ, List.set_cons_zero, List.set_cons_succ, cond_true, cond_false, eq_int, newT_of (show [Mv.bl (decide (j = 0))].length ≤ 16777216 by simp), addW, newT_of (show ([Mv.str us[i].1, .str us[i].2] ++ [Mv.bl (decide (j = 0))]).length ≤ 16777216 by simp)]
    refine ⟨fs ++ [(us[i], decide (j = 0))], by simp [useV], ?_, f2.trans g4, g5.mono (by omega)⟩
    rw [List.map_append, f1, List.take_add_one, List.getElem?_eq_getElem hi]
    rfl
  · rintro ⟨acc, s4⟩ ⟨fs, f0, f1, f2, f3⟩
    simp only [List.nil_append] at f0 f1 f2 f3
    have pl : (pairV us).length = us.length := by simp [pairV]
    rw [pl] at f3 f1
    rw [List.take_length] at f1
    subst f0
    have fl : fs.length = us.length := by rw [← f1, List.length_map]
    refine ⟨by simp [useV]; omega, ?_⟩
    simp only [wp_ob, wp_om, wp_some, wp_mvar, sset, sexp, sret, sif, spar, spar3, snx, mtB, mtst, mop1, mop2, mcall, mcons, mnil, mcon, mif, mtup, mlst, mand, mor, mnot, mandV, morV, mnotV, lset_eq, List.getElem?_cons_zero, List.getElem?_cons_succ, List.set_cons_zero, List.set_cons_succ, cond_true, cond_false, tup_of (items_ref Ms.get_push) (show (useV fs).length ≤ 16777216 by simp [useV]; omega)]
    refine ⟨trivial, ?_⟩
    simp only [wp_ob, wp_om, wp_some, wp_mvar, sset, sexp, sret, sif, spar, spar3, snx, mtB, mtst, mop1, mop2, mcall, mcons, mnil, mcon, mif, mtup, mlst, mand, mor, mnot, mandV, morV, mnotV, lset_eq, List.getElem?_cons_zero, List.getElem?_cons_succ, List.set_cons_zero, List.set_cons_succ, cond_true, cond_false, newT_of (show [Mv.str own, .tup (strV ys), .tup (pairV ds), .tup (useV fs)].length ≤ 16777216 by simp)]
    have sb : ∀ x ∈ ys, x ∈ xs.filter (fun y => !decide (y = own)) := fun x hx => e5.subset (List.mem_append_right _ hx)
    refine ⟨_, rfl, ⟨own, ys, ds, fs⟩, rfl, rfl, ⟨?_, ?_, yl, a5, a4, ?_, by show fs.length ≤ 3; omega⟩, ((E1.trans a6).trans c6).trans (f2.trans Ext.push), f3.push.mono (by omega)⟩
    · exact (List.nodup_append.mp (e5.nodup_iff.mpr (hnd.filter _))).2.1
    · intro x hx
      have := List.mem_filter.mp (sb x hx)
      exact ⟨this.1, by simpa using this.2⟩
    · intro u hu
      exact c5 u.1 (f1 ▸ List.mem_map_of_mem hu)

end
section
structure Plot where
  libs : List PLib
  early : List Str
  doors : List (Str × Str)
def Plot.mv (P : Plot) : Mv := .tup [.tup (P.libs.map PLib.mv), .tup (strV P.early), .tup (pairV P.doors)]
def Plot.folk (P : Plot) : List Str := P.libs.map (·.own)
def MODESD : List Str := [x_global, x_local, x_deep]
structure PlotOk (most gates : Nat) (P : Plot) : Prop where
  nd : P.folk.Nodup
  pool : ∀ x ∈ P.folk, x ∈ POOL
  two : 2 ≤ P.folk.length
  len : P.folk.length ≤ most + 1
  libs : ∀ l ∈ P.libs, LibOk P.folk.tail l
  end_ : P.early.Nodup
  ein : ∀ x ∈ P.early, x ∈ P.folk.tail
  elen : P.early.length ≤ 2
  dnd : P.doors.Nodup
  din : ∀ d ∈ P.doors, d.1 ∈ P.folk.tail ∧ d.2 ∈ MODESD
  dlen : P.doors.length ≤ gates
theorem modes_ok : ∀ y ∈ MODESD, PyData.strOk y = true := by decide +kernel
theorem toD_pair {s : Ms} {n : Nat} {d : Str × Str} (h1 : PyData.strOk d.1 = true) (h2 : PyData.strOk d.2 = true) : toD (n + 2) s (.tup [.str d.1, .str d.2]) = some (.tuple [.str d.1, .str d.2]) := by
  show (toDL (toD (n + 1) s) (strV [d.1, d.2])).om PyData.tuple = _
  rw [strOk_all [d.1, d.2] n (by simp [h1, h2])]; rfl
theorem toDL_pairs {s : Ms} {n : Nat} : ∀ (ds : List (Str × Str)), (∀ d ∈ ds, PyData.strOk d.1 = true ∧ PyData.strOk d.2 = true) → toDL (toD (n + 2) s) (pairV ds) = some (ds.map fun d => .tuple [.str d.1, .str d.2])
  | [], _ => rfl
  | d :: ds, h => by
    show (toD (n + 2) s (.tup [.str d.1, .str d.2])).ob (fun z => (toDL (toD (n + 2) s) (pairV ds)).om fun zs => z :: zs) = _
    rw [toD_pair (h d (by simp)).1 (h d (by simp)).2, toDL_pairs ds fun z hz => h z (by simp [hz])]; rfl
theorem any_pair (d : Str × Str) : ∀ ds : List (Str × Str), ((ds.map fun d => PyData.tuple [.str d.1, .str d.2]).any fun z => PyData.eqv z (.tuple [.str d.1, .str d.2])) = decide (d ∈ ds)
  | [] => by simp
  | e :: ds => by
    rw [List.map_cons, List.any_cons, any_pair d ds]
    have : PyData.eqv (.tuple [.str e.1, .str e.2]) (.tuple [.str d.1, .str d.2]) = decide (d = e) := by
      obtain ⟨e1, e2⟩ := e
      obtain ⟨d1, d2⟩ := d
      simp only [PyData.eqv, PyData.eqvAll, Bool.and_true, Prod.mk.injEq]
      by_cases h1 : e1 = d1
      · by_cases h2 : e2 = d2
        · subst h1; subst h2; simp
        · have h2' : ¬ d2 = e2 := fun z => h2 z.symm
          simp [h1, h2, h2']
      · have h1' : ¬ d1 = e1 := fun z => h1 z.symm
        simp [h1, h1']
    rw [this]
    by_cases h : d = e <;> simp [h]
theorem nin_pair {s : Ms} {n : Nat} {d : Str × Str} {ds : List (Str × Str)} (g : s.get n = some (.lst (pairV ds))) (hd : PyData.strOk d.1 = true ∧ PyData.strOk d.2 = true) (h : ∀ d ∈ ds, PyData.strOk d.1 = true ∧ PyData.strOk d.2 = true) : ninA (.tup [.str d.1, .str d.2]) (.ref n) s = some (.bl (!decide (d ∈ ds)), s) := by
  have h1 : dinW true (.tup [.str d.1, .str d.2]) (.ref n) s = none := by
    unfold dinW
    simp only [g]
    rfl
  have h2 : inBo (.tup [.str d.1, .str d.2]) (.ref n) s = some (decide (d ∈ ds)) := by
    unfold inBo
    rw [items_ref g, ob_of]
    show ((toD 24 s (.tup [.str d.1, .str d.2])).ob fun e => (toDL (toD 23 s) (pairV ds)).om fun es => es.any fun z => PyData.eqv z e) = _
    rw [toD_pair hd.1 hd.2, ob_of, toDL_pairs ds h, om_of, any_pair]
  unfold ninA
  rw [h1]
  show (inBo _ _ s).om _ = _
  rw [h2]; rfl
theorem slice1 {s : Ms} {n : Nat} {ws : List Mv} (g : s.get n = some (.lst ws)) (hl : ws.length ≤ 16777216) : slW (.ref n) (some 1) none s = some (.ref s.sz, push s (.lst ws.tail)) := by
  unfold slW
  simp only [g]
  have : cutM ws (some 1) none = ws.tail := by
    unfold cutM
    rw [HT.sIx_none, show (1 : Int) = ((1 : Nat) : Int) from rfl, HT.sIx_nat]
    cases ws with
    | nil => rfl
    | cons w ws => simp
  rw [this, newL_of (by rw [List.length_tail]; omega)]
theorem program_sp {s : Ms} {b m : Nat} {most gates : Nat} (h : Bx' s b m) (hm : m + 600 < 1000000) (m1 : 1 ≤ most) (m2 : most ≤ 8) (g1 : 1 ≤ gates) (g2 : gates ≤ 8) : Wp (m__law_program [.ref b, .int most, .int gates] s) fun x => ∃ P : Plot, x.1 = P.mv ∧ PlotOk most gates P ∧ Ext b s x.2 ∧ Bx' x.2 b (m + 600) := by
  refine wp_fn [some (.ref b), some (.int most), some (.int gates), none, none, none, none, none, none, none, none] rfl rfl ?_
  unfold bd__law_program
  have lt := h.lt
  refine wp_seq ?_
  simp only [wp_ob, wp_om, wp_some, wp_mvar, sset, sexp, sret, sif, spar, spar3, snx, mtB, mtst, mop1, mop2, mcall, mcons, mnil, mcon, mif, mtup, mlst, mand, mor, mnot, mandV, morV, mnotV, lset_eq, List.getElem?_cons_zero, List.getElem?_cons_succ, List.set_cons_zero, List.set_cons_succ, cond_true, cond_false]
  refine (take_sp h (by omega) (by omega) (by omega)).mono fun x hx => ?_
  obtain ⟨w, s1⟩ := x
  obtain ⟨j, e, j0, j1, e1, e2, e3⟩ := hx
  simp only at e e1 e2 e3
  subst e
  simp only [wp_ob, wp_om, wp_some, wp_mvar, sset, sexp, sret, sif, spar, spar3, snx, mtB, mtst, mop1, mop2, mcall, mcons, mnil, mcon, mif, mtup, mlst, mand, mor, mnot, mandV, morV, mnotV, lset_eq, List.getElem?_cons_zero, List.getElem?_cons_succ, List.set_cons_zero, List.set_cons_succ, cond_true, cond_false, addW]
  have jj : Int.add 2 j = 2 + j := rfl
  rw [jj]
  refine (names_sp e3 (by omega) (by omega) (by omega)).mono fun x hx => ?_
  obtain ⟨w, s2⟩ := x
  obtain ⟨nf, folk, c0, c1, c2, c3, c4, ⟨left, c5⟩, c6, c7⟩ := hx
  simp only at c0 c1 c2 c3 c4 c5 c6 c7
  subst c0
  have fnd : folk.Nodup := (List.nodup_append.mp (c5.nodup_iff.mpr pool_nd)).2.1
  have fin : ∀ x ∈ folk, x ∈ POOL := fun x hx => c5.subset (List.mem_append_right _ hx)
  have E2 : Ext b s s2 := e2.trans c6
  have fl : folk.length = (2 + j).toNat := c4
  refine ⟨trivial, wp_seq ?_⟩
  simp only [wp_ob, wp_om, wp_some, wp_mvar, sset, sexp, sret, sif, spar, spar3, snx, mtB, mtst, mop1, mop2, mcall, mcons, mnil, mcon, mif, mtup, mlst, mand, mor, mnot, mandV, morV, mnotV, lset_eq, List.getElem?_cons_zero, List.getElem?_cons_succ, List.set_cons_zero, List.set_cons_succ, cond_true, cond_false, mslice, osome, onone, slice1 c3 (show (strV folk).length ≤ 16777216 by simp [strV]; omega), newL_of (show ([] : List Mv).length ≤ 16777216 by decide)]
  refine ⟨trivial, wp_seq ?_⟩
  have tl : (strV folk).tail = strV folk.tail := by simp [strV]
  rw [tl]
  generalize hs3 : push (push s2 (Mo.lst (strV folk.tail))) (Mo.lst []) = s3
  have z3 : s3.sz = s2.sz + 2 := by rw [← hs3]; rfl
  have x3 : Ex0 s2 s3 := by rw [← hs3]; exact Ex0.push.trans Ex0.push
  have q1 : s3.get nf = some (.lst (strV folk)) := x3.at c2 c3
  have q2 : s3.get s2.sz = some (.lst (strV folk.tail)) := by rw [← hs3, push_get, if_neg (by rw [push_sz]; omega), push_get, if_pos rfl]
  have q3 : s3.get (s2.sz + 1) = some (.lst (List.map PLib.mv [])) := by rw [← hs3, push_get, if_pos push_sz.symm]; rfl
  have s2s : s.sz ≤ s2.sz := E2.sz
  have B3 : Bx' s3 b (m + 11) := (c7.ex0 x3).mono (by omega)
  have E3 : Ext b s s3 := E2.trans x3.ext
  have okt : ∀ y ∈ folk.tail, PyData.strOk y = true := fun y hy => pool_ok y (fin y (List.mem_of_mem_tail hy))
  have tnd : folk.tail.Nodup := fnd.tail
  refine wp_for (wp_S' ?_)
  simp only [wp_ob, wp_om, wp_some, wp_mvar, sset, sexp, sret, sif, spar, spar3, snx, mtB, mtst, mop1, mop2, mcall, mcons, mnil, mcon, mif, mtup, mlst, mand, mor, mnot, mandV, morV, mnotV, lset_eq, List.getElem?_cons_zero, List.getElem?_cons_succ, List.set_cons_zero, List.set_cons_succ, cond_true, cond_false]
  rw [show (push s2 (Mo.lst (strV folk.tail))).sz = s2.sz + 1 from rfl]
  refine ⟨strV folk, items_ref q1, fun it git => ?_⟩
  refine (wp_loop (strV folk) (fun i r s' => ∃ o ls, r = [some (.ref b), some (.int most), some (.int gates), some (.ref nf), some (.ref s2.sz), some (.ref (s2.sz + 1)), o, none, none, none, none] ∧ s'.get nf = some (.lst (strV folk)) ∧ s'.get s2.sz = some (.lst (strV folk.tail)) ∧ s'.get (s2.sz + 1) = some (.lst (ls.map PLib.mv)) ∧ ls.map (·.own) = folk.take i ∧ (∀ l ∈ ls, LibOk folk.tail l) ∧ s2.sz + 2 ≤ s'.sz ∧ Ext b s s' ∧ Bx' s' b (m + 11 + 40 * i)) (fun i r s' _ hI => by
    obtain ⟨_, _, _, g, _⟩ := hI
    exact git s' (items_ref g)) ?_ 100000 0 _ s3 (by simp [strV]; omega) (by omega) ⟨none, [], rfl, q1, q2, q3, rfl, by simp, by omega, E3, B3⟩).mono ?_
  · rintro i w r s' hw ⟨o, ls, rfl, a1, a2, a3, a4, a5, a6, a7, a8⟩
    have hi : i < folk.length := by have := (List.getElem?_eq_some_iff.mp hw).1; simpa [strV] using this
    have hwe : w = .str folk[i] := by
      unfold strV at hw
      rw [List.getElem?_map, List.getElem?_eq_getElem hi] at hw
      cases hw; rfl
    subst hwe
    refine ⟨_, rfl, ?_⟩
    simp only [wp_ob, wp_om, wp_some, wp_mvar, sset, sexp, sret, sif, spar, spar3, snx, mtB, mtst, mop1, mop2, mcall, mcons, mnil, mcon, mif, mtup, mlst, mand, mor, mnot, mandV, morV, mnotV, lset_eq, List.getElem?_cons_zero, List.getElem?_cons_succ, List.set_cons_zero, List.set_cons_succ, cond_true, cond_false]
    refine wp_app (n := s2.sz + 1) (by rfl) a3 ?_
    have f0 : ixA (.ref nf) (.int 0) s' = some (.str folk[0], s') := ixA_of (items_ref a1) (atF_of (i := 0) (by unfold strV; rw [List.getElem?_map, List.getElem?_eq_getElem (by omega)]; rfl))
    simp only [wp_ob, wp_om, wp_some, wp_mvar, sset, sexp, sret, sif, spar, spar3, snx, mtB, mtst, mop1, mop2, mcall, mcons, mnil, mcon, mif, mtup, mlst, mand, mor, mnot, mandV, morV, mnotV, lset_eq, List.getElem?_cons_zero, List.getElem?_cons_succ, List.set_cons_zero, List.set_cons_succ, cond_true, cond_false, f0, eq_str]
    refine (lib_sp a8 (by omega) (xs := folk.tail) (.inr ⟨s2.sz, rfl, by omega, by omega, a2⟩) (by rw [List.length_tail]; omega) okt tnd).mono fun x hx => ?_
    obtain ⟨w, s4⟩ := x
    obtain ⟨l, d0, d1, d2, d3, d4⟩ := hx
    simp only at d0 d1 d2 d3 d4
    subst d0
    refine ⟨_, _, rfl, d3.at (by omega) (by omega) a3, by simp; have := congrArg List.length a4; simp at this; omega, trivial, _, ls ++ [l], rfl, ?_, ?_, ?_, ?_, ?_, ?_, ?_, ?_⟩
    · rw [put_get', if_neg (by omega)]; exact d3.at (by omega) (by omega) a1
    · rw [put_get', if_neg (by omega)]; exact d3.at (by omega) (by omega) a2
    · rw [put_get', if_pos rfl, List.map_append]; rfl
    · rw [List.map_append, a4, List.take_add_one, List.getElem?_eq_getElem hi, ← d1]; rfl
    · intro l' hl'
      rcases List.mem_append.mp hl' with z | z
      · exact a5 l' z
      · simp at z; subst z; exact d2
    · show _ ≤ s4.sz
      have := d3.sz
      omega
    · exact (a7.trans d3).put (.inr (by omega))
    · exact (Bx'.put d4 (by omega)).mono (by omega)
  rintro ⟨fl1, r, s5⟩ ⟨e, o, ls, e1, a1, a2, a3, a4, a5, a6, a7, a8⟩
  simp only at e e1 a1 a2 a3 a4 a5 a6 a7 a8
  subst e e1
  have sl : (strV folk).length = folk.length := by simp [strV]
  rw [sl] at a4 a8
  rw [List.take_length] at a4
  refine ⟨rfl, wp_seq ?_⟩
  simp only [wp_ob, wp_om, wp_some, wp_mvar, sset, sexp, sret, sif, spar, spar3, snx, mtB, mtst, mop1, mop2, mcall, mcons, mnil, mcon, mif, mtup, mlst, mand, mor, mnot, mandV, morV, mnotV, lset_eq, List.getElem?_cons_zero, List.getElem?_cons_succ, List.set_cons_zero, List.set_cons_succ, cond_true, cond_false, newL_of (show ([] : List Mv).length ≤ 16777216 by decide)]
  refine ⟨trivial, wp_seq ?_⟩
  refine wp_for (wp_R1 ?_)
  simp only [wp_ob, wp_om, wp_some, wp_mvar, sset, sexp, sret, sif, spar, spar3, snx, mtB, mtst, mop1, mop2, mcall, mcons, mnil, mcon, mif, mtup, mlst, mand, mor, mnot, mandV, morV, mnotV, lset_eq, List.getElem?_cons_zero, List.getElem?_cons_succ, List.set_cons_zero, List.set_cons_succ, cond_true, cond_false]
  refine (take_sp a8.push (by omega) (by omega) (by omega)).mono fun x hx => ?_
  obtain ⟨w, s6⟩ := x
  obtain ⟨k, u0, u1, u2, u3, u4, u5⟩ := hx
  simp only at u0 u1 u2 u3 u4 u5
  subst u0
  simp only [wp_ob, wp_om, wp_some, wp_mvar, sset, sexp, sret, sif, spar, spar3, snx, mtB, mtst, mop1, mop2, mcall, mcons, mnil, mcon, mif, mtup, mlst, mand, mor, mnot, mandV, morV, mnotV, lset_eq, List.getElem?_cons_zero, List.getElem?_cons_succ, List.set_cons_zero, List.set_cons_succ, cond_true, cond_false, addW]
  have kk : Int.add 1 k = 1 + k := rfl
  rw [kk]
  refine ⟨1 + k, rfl, okI_of (by omega) (by omega), ?_⟩
  rw [push_sz] at u3
  have E6 : Ext b s s6 := a7.trans (Ext.push.trans u4)
  have X6 : Ext b s5 s6 := Ext.push.trans u4
  have l2 : folk.length ≤ 9 := by omega
  refine (wp_loop (rngL 0 (1 + k).toNat) (fun i r s' => ∃ o' o'' nd ds, r = [some (.ref b), some (.int most), some (.int gates), some (.ref nf), some (.ref s2.sz), some (.ref (s2.sz + 1)), o, some (.ref nd), o', o'', none] ∧ s2.sz + 1 < nd ∧ nd < s'.sz ∧ s'.get nd = some (.lst (pairV ds)) ∧ ds.Nodup ∧ (∀ d ∈ ds, d.1 ∈ folk.tail ∧ d.2 ∈ MODESD) ∧ ds.length ≤ i ∧ Ext b s5 s' ∧ Bx' s' b (m + 11 + 40 * folk.length + 1 + 2 * i)) (fun i r s' _ _ => gives_rng) ?_ 100000 0 _ s6 (by rw [rngL_len]; omega) (by omega) ⟨none, none, s5.sz, [], rfl, by omega, by omega, u4.at (by rw [push_sz]; omega) (by omega) (by rw [push_get, if_pos rfl]; rfl), by simp, by simp, by simp, X6, u5.mono (by omega)⟩).mono ?_
  · rintro i w r s' hw ⟨o', o'', nd, ds, rfl, b1, b2, b3, b4, b5, b6, b7, b8⟩
    obtain ⟨hi, rfl⟩ := rngL_get hw
    refine ⟨_, rfl, wp_seq ?_⟩
    simp only [wp_ob, wp_om, wp_some, wp_mvar, sset, sexp, sret, sif, spar, spar3, snx, mtB, mtst, mop1, mop2, mcall, mcons, mnil, mcon, mif, mtup, mlst, mand, mor, mnot, mandV, morV, mnotV, lset_eq, List.getElem?_cons_zero, List.getElem?_cons_succ, List.set_cons_zero, List.set_cons_succ, cond_true, cond_false]
    have T1 : Itm b s' (.ref s2.sz) (strV folk.tail) := .inr ⟨s2.sz, rfl, by have := b7.sz; omega, by omega, b7.at (by omega) (by omega) a2⟩
    have tl2 : folk.tail ≠ [] := fun z => by have := congrArg List.length z; simp at this; omega
    refine (pick_sp b8 (by omega) T1 (fun z => tl2 (List.map_eq_nil_iff.mp z)) (by simp [strV]; omega)).mono fun x hx => ?_
    obtain ⟨w1, s7⟩ := x
    obtain ⟨p1, p2, p3, p4⟩ := hx
    simp only at p1 p2 p3 p4
    obtain ⟨y1, hy1, rfl⟩ := List.mem_map.mp p1
    simp only [wp_ob, wp_om, wp_some, wp_mvar, sset, sexp, sret, sif, spar, spar3, snx, mtB, mtst, mop1, mop2, mcall, mcons, mnil, mcon, mif, mtup, mlst, mand, mor, mnot, mandV, morV, mnotV, lset_eq, List.getElem?_cons_zero, List.getElem?_cons_succ, List.set_cons_zero, List.set_cons_succ, cond_true, cond_false, newL_of (show [Mv.str x_global, .str x_local, .str x_deep, .str x_global].length ≤ 16777216 by decide)]
    refine (pick_sp p4.push (by omega) (ws := [Mv.str x_global, .str x_local, .str x_deep, .str x_global]) (.inr ⟨s7.sz, rfl, by rw [push_sz]; omega, by have := b7.sz; omega, Ms.get_push⟩) (by simp) (by simp)).mono fun x hx => ?_
    obtain ⟨w2, s8⟩ := x
    obtain ⟨v1, v2, v3, v4⟩ := hx
    simp only at v1 v2 v3 v4
    rw [push_sz] at v2
    have hw2 : ∃ y, w2 = .str y ∧ y ∈ MODESD := by
      simp only [List.mem_cons, List.not_mem_nil, or_false] at v1
      rcases v1 with rfl | rfl | rfl | rfl <;> exact ⟨_, rfl, by simp [MODESD]⟩
    obtain ⟨y2, rfl, hy2⟩ := hw2
    simp only [wp_ob, wp_om, wp_some, wp_mvar, sset, sexp, sret, sif, spar, spar3, snx, mtB, mtst, mop1, mop2, mcall, mcons, mnil, mcon, mif, mtup, mlst, mand, mor, mnot, mandV, morV, mnotV, lset_eq, List.getElem?_cons_zero, List.getElem?_cons_succ, List.set_cons_zero, List.set_cons_succ, cond_true, cond_false, newT_of (show [Mv.str y1, Mv.str y2].length ≤ 16777216 by simp)]
    refine ⟨trivial, ?_⟩
    have X8 : Ext b s' s8 := (p3.trans Ext.push).trans v3
    have nds : s8.get nd = some (.lst (pairV ds)) := X8.at b2 (by omega) b3
    have dok : ∀ d ∈ ds, PyData.strOk d.1 = true ∧ PyData.strOk d.2 = true := fun d hd => ⟨okt _ (b5 d hd).1, modes_ok _ (b5 d hd).2⟩
    have hnin : ninA (.tup [.str y1, .str y2]) (.ref nd) (push s8 (.lst [.tup [.str y1, .str y2]])) = some (.bl (!decide ((y1, y2) ∈ ds)), push s8 (.lst [.tup [.str y1, .str y2]])) := nin_pair (d := (y1, y2)) (by rw [push_get, if_neg (by omega)]; exact nds) ⟨okt _ hy1, modes_ok _ hy2⟩ dok
    have nds1 : (push s8 (.lst [.tup [.str y1, .str y2]])).get nd = some (.lst (pairV ds)) := by rw [push_get, if_neg (by omega)]; exact nds
    simp only [wp_ob, wp_om, wp_some, wp_mvar, sset, sexp, sret, sif, spar, spar3, snx, mtB, mtst, mop1, mop2, mcall, mcons, mnil, mcon, mif, mtup, mlst, mand, mor, mnot, mandV, morV, mnotV, lset_eq, List.getElem?_cons_zero, List.getElem?_cons_succ, List.set_cons_zero, List.set_cons_succ, cond_true, cond_false, newL_of (show [Mv.tup [.str y1, .str y2]].length ≤ 16777216 by simp), hnin, intW]
    have hmul : lmulW (.ref s8.sz) (.int (if (!decide ((y1, y2) ∈ ds)) = true then 1 else 0)) (push s8 (.lst [.tup [.str y1, .str y2]])) = some (.ref (s8.sz + 1), push (push s8 (.lst [.tup [.str y1, .str y2]])) (.lst (pairV (if (y1, y2) ∈ ds then [] else [(y1, y2)])))) := by
      unfold lmulW
      simp only [Ms.get_push]
      by_cases hin : (y1, y2) ∈ ds
      · simp only [hin, decide_true, Bool.not_true, if_true]
        rfl
      · simp only [hin, decide_false, Bool.not_false, if_false, if_true]
        rfl
    have nds2 : (push (push s8 (.lst [.tup [.str y1, .str y2]])) (.lst (pairV (if (y1, y2) ∈ ds then [] else [(y1, y2)])))).get nd = some (.lst (pairV ds)) := by rw [push_get, if_neg (by rw [push_sz]; omega)]; exact nds1
    have nds3 : (push (push s8 (.lst [.tup [.str y1, .str y2]])) (.lst (pairV (if (y1, y2) ∈ ds then [] else [(y1, y2)])))).get (s8.sz + 1) = some (.lst (pairV (if (y1, y2) ∈ ds then [] else [(y1, y2)]))) := by rw [push_get, if_pos push_sz.symm]
    have il : (if (y1, y2) ∈ ds then [] else [(y1, y2)]).length ≤ 1 := by split <;> simp
    simp only [wp_ob, wp_om, wp_some, wp_mvar, sset, sexp, sret, sif, spar, spar3, snx, mtB, mtst, mop1, mop2, mcall, mcons, mnil, mcon, mif, mtup, mlst, mand, mor, mnot, mandV, morV, mnotV, lset_eq, List.getElem?_cons_zero, List.getElem?_cons_succ, List.set_cons_zero, List.set_cons_succ, cond_true, cond_false, hmul, addW, nds2, nds3, newL_of (show (pairV ds ++ pairV (if (y1, y2) ∈ ds then [] else [(y1, y2)])).length ≤ 16777216 by simp [pairV]; omega)]
    refine ⟨trivial, _, _, s8.sz + 2, ds ++ (if (y1, y2) ∈ ds then [] else [(y1, y2)]), rfl, by have := X8.sz; omega, by rw [push_sz, push_sz, push_sz]; omega, ?_, ?_, ?_, ?_, ?_, ?_⟩
    · rw [push_get, if_pos (by rw [push_sz, push_sz])]; simp [pairV]
    · by_cases hin : (y1, y2) ∈ ds
      · simp [hin, b4]
      · rw [if_neg hin]
        refine List.nodup_append.mpr ⟨b4, by simp, ?_⟩
        intro a ha c hc
        simp at hc
        subst hc
        exact fun z => hin (z ▸ ha)
    · intro d hd
      rcases List.mem_append.mp hd with z | z
      · exact b5 d z
      · split at z
        · cases z
        · simp at z; subst z; exact ⟨hy1, hy2⟩
    · rw [List.length_append]; omega
    · exact ((b7.trans X8).trans Ext.push).trans (Ext.push.trans Ext.push)
    · exact v4.push.push.push.mono (by omega)
  rintro ⟨fl2, r, s7⟩ ⟨e, o', o'', nd, ds, e1, b1, b2, b3, b4, b5, b6, b7, b8⟩
  simp only at e e1 b1 b2 b3 b4 b5 b6 b7 b8
  subst e e1
  rw [rngL_len] at b6 b8
  refine ⟨rfl, wp_seq ?_⟩
  have T1 : ∀ s', Ext b s7 s' → Itm b s' (.ref s2.sz) (strV folk.tail) := fun s' x => .inr ⟨s2.sz, rfl, by have := b7.sz; have := x.sz; omega, by omega, (b7.trans x).at (by omega) (by omega) a2⟩
  have hE : Wp (mif (mtB (mop2 eqW (mcall m__law_take (mcons (mvar 0) (mcons (mcon (.int 2)) (mnil)))) (mcon (.int 0)))) (mcall m__law_some (mcons (mvar 0) (mcons (mvar 4) (mcons (mop2 addW (mcon (.int 1)) (mcall intW (mcons (mop2 eqW (mcall m__law_take (mcons (mvar 0) (mcons (mcon (.int 4)) (mnil)))) (mcon (.int 0))) (mnil)))) (mnil))))) (mlst (mnil)) [some (.ref b), some (.int most), some (.int gates), some (.ref nf), some (.ref s2.sz), some (.ref (s2.sz + 1)), o, some (.ref nd), o', o'', none] s7) fun x => ∃ n ys zs, x.1 = .ref n ∧ x.2.get n = some (.lst (strV ys)) ∧ ys.length ≤ 2 ∧ (zs ++ ys).Perm folk.tail ∧ Ext b s7 x.2 ∧ Bx' x.2 b (m + 590) := by
    simp only [wp_ob, wp_om, wp_some, wp_mvar, sset, sexp, sret, sif, spar, spar3, snx, mtB, mtst, mop1, mop2, mcall, mcons, mnil, mcon, mif, mtup, mlst, mand, mor, mnot, mandV, morV, mnotV, lset_eq, List.getElem?_cons_zero, List.getElem?_cons_succ, List.set_cons_zero, List.set_cons_succ, cond_true, cond_false]
    refine (take_sp b8 (by omega) (by omega) (by omega)).mono fun x hx => ?_
    obtain ⟨w, s8⟩ := x
    obtain ⟨q, y0, y1, y2, y3, y4, y5⟩ := hx
    simp only at y0 y1 y2 y3 y4 y5
    subst y0
    simp only [wp_ob, wp_om, wp_some, wp_mvar, sset, sexp, sret, sif, spar, spar3, snx, mtB, mtst, mop1, mop2, mcall, mcons, mnil, mcon, mif, mtup, mlst, mand, mor, mnot, mandV, morV, mnotV, lset_eq, List.getElem?_cons_zero, List.getElem?_cons_succ, List.set_cons_zero, List.set_cons_succ, cond_true, cond_false, eq_int]
    by_cases hq : q = 0
    · simp only [hq, decide_true]
      simp only [wp_ob, wp_om, wp_some, wp_mvar, sset, sexp, sret, sif, spar, spar3, snx, mtB, mtst, mop1, mop2, mcall, mcons, mnil, mcon, mif, mtup, mlst, mand, mor, mnot, mandV, morV, mnotV, lset_eq, List.getElem?_cons_zero, List.getElem?_cons_succ, List.set_cons_zero, List.set_cons_succ, cond_true, cond_false]
      refine (take_sp y5 (by omega) (by omega) (by omega)).mono fun x hx => ?_
      obtain ⟨w, s9⟩ := x
      obtain ⟨q', y0', y1', y2', y3', y4', y5'⟩ := hx
      simp only at y0' y1' y2' y3' y4' y5'
      subst y0'
      simp only [wp_ob, wp_om, wp_some, wp_mvar, sset, sexp, sret, sif, spar, spar3, snx, mtB, mtst, mop1, mop2, mcall, mcons, mnil, mcon, mif, mtup, mlst, mand, mor, mnot, mandV, morV, mnotV, lset_eq, List.getElem?_cons_zero, List.getElem?_cons_succ, List.set_cons_zero, List.set_cons_succ, cond_true, cond_false, eq_int, intW, addW]
      have hk : ∃ kk : Int, Int.add 1 (if decide (q' = 0) = true then 1 else 0) = kk ∧ 0 ≤ kk ∧ kk ≤ 2 := by
        by_cases z : q' = 0
        · exact ⟨2, by simp [z], by omega, by omega⟩
        · exact ⟨1, by simp [z], by omega, by omega⟩
      obtain ⟨kk, hk, hk0, hk1⟩ := hk
      rw [hk]
      refine (some_sp y5' (by omega) (T1 s9 (y4.trans y4')) (by rw [List.length_tail]; omega) okt hk0 (by omega)).mono fun x hx => ?_
      obtain ⟨w, s10⟩ := x
      obtain ⟨n, ys, zs, t0, t1, t2, t3, t4, t5, t6, t7⟩ := hx
      simp only at t0 t1 t2 t3 t4 t5 t6 t7
      exact ⟨n, ys, zs, t0, t3, by omega, t5, (y4.trans y4').trans t6, t7.mono (by omega)⟩
    · simp only [hq, decide_false]
      simp only [wp_ob, wp_om, wp_some, wp_mvar, sset, sexp, sret, sif, spar, spar3, snx, mtB, mtst, mop1, mop2, mcall, mcons, mnil, mcon, mif, mtup, mlst, mand, mor, mnot, mandV, morV, mnotV, lset_eq, List.getElem?_cons_zero, List.getElem?_cons_succ, List.set_cons_zero, List.set_cons_succ, cond_true, cond_false, newL_of (show ([] : List Mv).length ≤ 16777216 by decide)]
      exact ⟨s8.sz, [], folk.tail, rfl, Ms.get_push, by simp, by simp, y4.trans Ext.push, y5.push.mono (by omega)⟩
  simp only [sset, wp_om]
  refine hE.mono fun x hx => ?_
  obtain ⟨w, s8⟩ := x
  obtain ⟨n, ys, zs, t0, t1, t2, t3, t4, t5⟩ := hx
  simp only at t0 t1 t2 t3 t4 t5
  subst t0
  have E8 : Ext b s5 s8 := b7.trans t4
  have ll : ls.length = folk.length := by have := congrArg List.length a4; simpa using this
  have T2 : tupleW [.ref (s2.sz + 1)] s8 = some (.tup (ls.map PLib.mv), s8) := tup_of (items_ref (E8.at (by omega) (by omega) a3)) (by simp; omega)
  have T3 : tupleW [.ref n] s8 = some (.tup (strV ys), s8) := tup_of (items_ref t1) (by simp [strV]; omega)
  have T4 : tupleW [.ref nd] s8 = some (.tup (pairV ds), s8) := tup_of (items_ref (t4.at b2 (by omega) b3)) (by simp [pairV]; omega)
  simp only [wp_ob, wp_om, wp_some, wp_mvar, sset, sexp, sret, sif, spar, spar3, snx, mtB, mtst, mop1, mop2, mcall, mcons, mnil, mcon, mif, mtup, mlst, mand, mor, mnot, mandV, morV, mnotV, lset_eq, List.getElem?_cons_zero, List.getElem?_cons_succ, List.set_cons_zero, List.set_cons_succ, cond_true, cond_false, T2, T3, T4, newT_of (show [Mv.tup (ls.map PLib.mv), .tup (strV ys), .tup (pairV ds)].length ≤ 16777216 by simp)]
  refine ⟨trivial, _, rfl, ⟨ls, ys, ds⟩, rfl, ?_, a7.trans E8, t5.mono (by omega)⟩
  have fk : (Plot.mk ls ys ds).folk = folk := a4
  constructor
  · rw [fk]; exact fnd
  · rw [fk]; exact fin
  · rw [fk]; omega
  · rw [fk]; omega
  · rw [fk]; exact a5
  · exact (List.nodup_append.mp (t3.nodup_iff.mpr tnd)).2.1
  · rw [fk]; exact fun x hx => t3.subset (List.mem_append_right _ hx)
  · exact t2
  · exact b4
  · rw [fk]; exact b5
  · show ds.length ≤ gates; omega

end
section
/-! ### values that read like tuples -/
mutual
inductive Rd (s : Ms) : Mv → Mv → Prop
  | non : Rd s .non .non
  | bl (b : Bool) : Rd s (.bl b) (.bl b)
  | int (i : Int) : Rd s (.int i) (.int i)
  | str (x : Str) : Rd s (.str x) (.str x)
  | tup {ws vs : List Mv} : RdL s ws vs → Rd s (.tup ws) (.tup vs)
  | lst {ws vs : List Mv} {n : Nat} : n < s.sz → s.get n = some (.lst vs) → RdL s ws vs → Rd s (.tup ws) (.ref n)
inductive RdL (s : Ms) : List Mv → List Mv → Prop
  | nil : RdL s [] []
  | cons {w v : Mv} {ws vs : List Mv} : Rd s w v → RdL s ws vs → RdL s (w :: ws) (v :: vs)
end
mutual
theorem Rd.ex0 {s s' : Ms} (x : Ex0 s s') : ∀ {w v : Mv}, Rd s w v → Rd s' w v
  | _, _, .non => .non
  | _, _, .bl b => .bl b
  | _, _, .int i => .int i
  | _, _, .str y => .str y
  | _, _, .tup l => .tup (RdL.ex0 x l)
  | _, _, .lst h g l => .lst (Nat.lt_of_lt_of_le h x.sz) (x.at h g) (RdL.ex0 x l)
theorem RdL.ex0 {s s' : Ms} (x : Ex0 s s') : ∀ {w v : List Mv}, RdL s w v → RdL s' w v
  | _, _, .nil => .nil
  | _, _, .cons a l => .cons (Rd.ex0 x a) (RdL.ex0 x l)
end
theorem RdL.length {s : Ms} : ∀ {ws vs : List Mv}, RdL s ws vs → vs.length = ws.length
  | _, _, .nil => rfl
  | _, _, .cons _ l => by rw [List.length_cons, List.length_cons, l.length]
theorem RdL.get {s : Ms} : ∀ {ws vs : List Mv}, RdL s ws vs → ∀ {i : Nat} {v : Mv}, vs[i]? = some v → ∃ w, ws[i]? = some w ∧ Rd s w v
  | _, _, .nil, i, v, e => by simp at e
  | _, _, .cons h l, 0, v, e => by simp at e; subst e; exact ⟨_, rfl, h⟩
  | _, _, .cons h l, i + 1, v, e => by simpa using l.get (i := i) (by simpa using e)
theorem RdL.append {s : Ms} : ∀ {ws ws' vs vs' : List Mv}, RdL s ws vs → RdL s ws' vs' → RdL s (ws ++ ws') (vs ++ vs')
  | _, _, _, _, .nil, h => h
  | _, _, _, _, .cons a l, h => .cons a (l.append h)
theorem Rd.items {s : Ms} {ws : List Mv} {v : Mv} (h : Rd s (.tup ws) v) : ∃ vs, items v s = some vs ∧ RdL s ws vs := by
  cases h with
  | tup l => exact ⟨_, rfl, l⟩
  | lst h g l => exact ⟨_, items_ref g, l⟩
theorem Rd.at {s : Ms} {ws : List Mv} {v : Mv} (h : Rd s (.tup ws) v) {i : Nat} {w : Mv} (e : ws[i]? = some w) : ∃ u, ixA v (.int (i : Int)) s = some (u, s) ∧ Rd s w u := by
  obtain ⟨vs, h1, h2⟩ := h.items
  have hi := (List.getElem?_eq_some_iff.mp e).1
  have hv : i < vs.length := by rw [h2.length]; exact hi
  obtain ⟨w', e1, e2⟩ := h2.get (List.getElem?_eq_getElem hv)
  rw [e] at e1; cases e1
  exact ⟨_, ixA_of h1 (atF_of (List.getElem?_eq_getElem hv)), e2⟩
theorem Rd.len {s : Ms} {ws : List Mv} {v : Mv} (h : Rd s (.tup ws) v) : lenW [v] s = some (.int (ws.length : Nat), s) := by
  obtain ⟨vs, h1, h2⟩ := h.items
  rw [lenW_of h1, h2.length]
theorem Rd.str_inv {s : Ms} {x : Str} {v : Mv} (h : Rd s (.str x) v) : v = .str x := by cases h; rfl
theorem rd_map {s : Ms} {α : Type} {f : α → Mv} (h : ∀ a, Rd s (f a) (f a)) : ∀ l : List α, RdL s (l.map f) (l.map f)
  | [] => .nil
  | a :: l => .cons (h a) (rd_map h l)
theorem rd_strV {s : Ms} (xs : List Str) : RdL s (strV xs) (strV xs) := rd_map (fun _ => .str _) xs
theorem rd_pairV {s : Ms} (xs : List (Str × Str)) : RdL s (pairV xs) (pairV xs) := rd_map (fun _ => .tup (.cons (.str _) (.cons (.str _) .nil))) xs
theorem rd_useV {s : Ms} (xs : List ((Str × Str) × Bool)) : RdL s (useV xs) (useV xs) := rd_map (fun _ => .tup (.cons (.str _) (.cons (.str _) (.cons (.bl _) .nil)))) xs
theorem rd_lib {s : Ms} (l : PLib) : Rd s l.mv l.mv := .tup (.cons (.str _) (.cons (.tup (rd_strV _)) (.cons (.tup (rd_pairV _)) (.cons (.tup (rd_useV _)) .nil))))
theorem rd_plot {s : Ms} (P : Plot) : Rd s P.mv P.mv := .tup (.cons (.tup (rd_map rd_lib _)) (.cons (.tup (rd_strV _)) (.cons (.tup (rd_pairV _)) .nil)))
/-! ### lists in the place of tuples -/
inductive Pu : Nat → Mv → Prop
  | non {n : Nat} : Pu n .non
  | bl {n : Nat} (b : Bool) : Pu n (.bl b)
  | int {n : Nat} (i : Int) : Pu n (.int i)
  | str {n : Nat} (x : Str) : Pu n (.str x)
  | tup {n : Nat} {ws : List Mv} : ws.length ≤ 1000 → (∀ w ∈ ws, Pu n w) → Pu (n + 1) (.tup ws)
theorem ty_tup {s : Ms} {ws : List Mv} : tyOf (.tup ws) s = some .tuple := rfl
theorem lists_sp : ∀ (d : Nat) (w : Mv) (s : Ms), Pu d w → Wp (m__law_lists (d + 1) [w] s) fun x => Rd x.2 w x.1 ∧ Ex0 s x.2
  | d, .non, s, _ => ⟨_, rfl, .non, Ex0.refl⟩
  | d, .bl b, s, _ => ⟨_, rfl, .bl b, Ex0.refl⟩
  | d, .int i, s, _ => ⟨_, rfl, .int i, Ex0.refl⟩
  | d, .str x, s, _ => ⟨_, rfl, .str x, Ex0.refl⟩
  | d + 1, .tup ws, s, h => by
    have hl : ws.length ≤ 1000 ∧ ∀ w ∈ ws, Pu d w := by cases h with | tup a b => exact ⟨a, b⟩
    refine wp_fn [some (.tup ws), none] rfl rfl ?_
    unfold b0__law_lists
    simp only [wp_ob, wp_om, wp_some, wp_mvar, sset, sexp, sret, sif, spar, spar3, snx, mtB, mtst, mop1, mop2, mcall, mcons, mnil, mcon, mif, mtup, mlst, mand, mor, mnot, mandV, morV, mnotV, lset_eq, List.getElem?_cons_zero, List.getElem?_cons_succ, List.set_cons_zero, List.set_cons_succ, cond_true, cond_false, misiT, ty_tup, isaT, List.any_cons, List.any_nil, decide_true, decide_false, Bool.or_true, Bool.true_or, Bool.or_false, tru, reduceCtorEq]
    refine wp_lc (wp_S' ?_)
    simp only [wp_ob, wp_om, wp_some, wp_mvar, sset, sexp, sret, sif, spar, spar3, snx, mtB, mtst, mop1, mop2, mcall, mcons, mnil, mcon, mif, mtup, mlst, mand, mor, mnot, mandV, morV, mnotV, lset_eq, List.getElem?_cons_zero, List.getElem?_cons_succ, List.set_cons_zero, List.set_cons_succ, cond_true, cond_false]
    refine ⟨ws, rfl, fun it git => ?_⟩
    refine (wp_flat ws (fun i acc s' => RdL s' (ws.take i) acc ∧ Ex0 s s') (fun i acc s' _ _ => git s' rfl) ?_ 100000 0 [] s (by omega) (by omega) ⟨.nil, Ex0.refl⟩).mono ?_
    · rintro i w acc s' hw ⟨a1, a2⟩
      unfold mstep
      simp only [wp_ob, wp_om, wp_some, wp_mvar, sset, sexp, sret, sif, spar, spar3, snx, mtB, mtst, mop1, mop2, mcall, mcons, mnil, mcon, mif, mtup, mlst, mand, mor, mnot, mandV, morV, mnotV, lset_eq, List.getElem?_cons_zero, List.getElem?_cons_succ, List.set_cons_zero, List.set_cons_succ, cond_true, cond_false, mwipe, Tg.asg, myes]
      refine (lists_sp d w s' (hl.2 w (List.mem_of_getElem? hw))).mono fun x hx => ?_
      refine ⟨?_, a2.trans hx.2⟩
      rw [List.take_add_one, hw]
      exact (a1.ex0 hx.2).append (.cons hx.1 .nil)
    · rintro ⟨acc, s'⟩ ⟨a1, a2⟩
      simp only [List.nil_append, List.take_length] at a1 a2
      refine ⟨by rw [a1.length]; omega, _, rfl, .lst (by rw [push_sz]; omega) Ms.get_push (a1.ex0 Ex0.push), a2.trans Ex0.push⟩
  | 0, .tup ws, s, h => by cases h
  | _, .ref _, _, h => by cases h
  | _, .ty _, _, h => by cases h
  | _, .fl _, _, h => by cases h
  | _, .cls _, _, h => by cases h
theorem pu_map {α : Type} {n : Nat} {f : α → Mv} (h : ∀ a, Pu n (f a)) {l : List α} (hl : l.length ≤ 1000) : Pu (n + 1) (.tup (l.map f)) := .tup (by simpa using hl) (fun w hw => by obtain ⟨a, _, rfl⟩ := List.mem_map.mp hw; exact h a)
theorem Pu.up {n m : Nat} {w : Mv} (h : Pu n w) : n ≤ m → Pu m w := by
  induction h generalizing m with
  | non => exact fun _ => .non
  | bl b => exact fun _ => .bl b
  | int i => exact fun _ => .int i
  | str x => exact fun _ => .str x
  | tup l _ ih =>
    intro hm
    obtain ⟨k, rfl⟩ : ∃ k, m = k + 1 := ⟨m - 1, by omega⟩
    exact .tup l fun w hw => ih w hw (by omega)
theorem pu_lib (l : PLib) (h1 : l.needs.length ≤ 1000) (h2 : l.defs.length ≤ 1000) (h3 : l.uses.length ≤ 1000) : Pu 3 l.mv := .tup (by simp) (by
  intro w hw
  simp only [List.mem_cons, List.not_mem_nil, or_false] at hw
  rcases hw with rfl | rfl | rfl | rfl
  · exact .str _
  · exact (pu_map (n := 0) (fun _ => .str _) h1).up (by omega)
  · exact pu_map (n := 1) (fun _ => .tup (by simp) (by simp; exact ⟨.str _, .str _⟩)) h2
  · exact pu_map (n := 1) (fun _ => .tup (by simp) (by simp; exact ⟨.str _, .str _, .bl _⟩)) h3)
theorem pu_plot {most gates : Nat} {P : Plot} (h : PlotOk most gates P) (hm : most ≤ 100) (hg : gates ≤ 100) : Pu 5 P.mv := .tup (by simp) (by
  intro w hw
  simp only [List.mem_cons, List.not_mem_nil, or_false] at hw
  rcases hw with rfl | rfl | rfl
  · refine .tup ?_ fun w hw => ?_
    · have := h.len
      unfold Plot.folk at this
      simp at this ⊢
      omega
    · obtain ⟨l, hl, rfl⟩ := List.mem_map.mp hw
      have := h.libs l hl
      have a1 := this.nl
      have a2 := this.dl
      have a3 := this.ul
      exact pu_lib l (by omega) (by omega) (by omega)
  · exact (pu_map (n := 0) (fun _ => .str _) (by have := h.elen; omega)).up (by omega)
  · exact (pu_map (n := 1) (fun _ => .tup (by simp) (by simp; exact ⟨.str _, .str _⟩)) (by have := h.dlen; omega)).up (by omega))

end
section
/-! ### names, numbers, libraries by name, steps -/
abbrev LETS : Str := xh_6162636465666768696a6b6c6d6e6f707172737475767778797a
def nameB (x : Str) : Bool := (decide (0 < x.length) && decide (x.length ≤ 8)) && (x.cps.toList.all fun c => LETS.cps.toList.any fun d => Nat.beq d c)
theorem bools_of : ∀ bs : List Bool, boolsOf (bs.map .bl) = some bs
  | [] => rfl
  | b :: bs => by
    show (boolsOf (bs.map .bl)).om (fun r => b :: r) = _
    rw [bools_of bs]; rfl
theorem is_name_str {s : Ms} {x : Str} (hl : x.length ≤ 1000) : Wp (m_is_name [.str x] s) fun y => y.1 = .bl (nameB x) ∧ Ex0 s y.2 := by
  refine wp_fn [some (.str x), none] rfl rfl ?_
  unfold bd_is_name
  have hL : lenW [.str x] s = some (.int (x.length : Nat), s) := by
    show (cond (Nat.ble x.length 16777216) (some x.length) none).om _ = _
    rw [Nat.ble_eq_true_of_le (by omega)]; rfl
  by_cases hc : 0 < x.length ∧ x.length ≤ 8
  · refine wp_seq ?_
    have c1 : iLt 0 (x.length : Int) = true := by rw [iLt_eq]; exact decide_eq_true (by omega)
    have c2 : iLt 8 (x.length : Int) = false := by rw [iLt_eq]; exact decide_eq_false (by omega)
    simp only [wp_ob, wp_om, wp_some, wp_mvar, sset, sexp, sret, sif, spar, spar3, snx, mtB, mtst, mop1, mop2, mcall, mcons, mnil, mcon, mif, mtup, mlst, mand, mor, mnot, mandV, morV, mnotV, lset_eq, List.getElem?_cons_zero, List.getElem?_cons_succ, List.set_cons_zero, List.set_cons_succ, cond_true, cond_false, isiW, tyOf, isaT, decide_true, Bool.true_or, tru, Bool.not_true, mchain, hL, ltW, leW, cmpI, c1, c2, Bool.not_false]
    refine ⟨trivial, ?_⟩
    refine wp_lc ?_
    simp only [wp_ob, wp_om, wp_some, wp_mvar, sset, sexp, sret, sif, spar, spar3, snx, mtB, mtst, mop1, mop2, mcall, mcons, mnil, mcon, mif, mtup, mlst, mand, mor, mnot, mandV, morV, mnotV, lset_eq, List.getElem?_cons_zero, List.getElem?_cons_succ, List.set_cons_zero, List.set_cons_succ, cond_true, cond_false, miX]
    have hf : mflat (.seq (signs x)) (mstep (.nm 1) myes (mop2 sgIn (mvar 1) (mcon (.str LETS))) (mwipe [some (.str x), none] [1])) 100000 0 s = some ((x.cps.toList.map fun c => LETS.cps.toList.any fun d => Nat.beq d c).map .bl, s) := by
      have e := flat_pure (it := .seq (signs x)) (st := mstep (.nm 1) myes (mop2 sgIn (mvar 1) (mcon (.str LETS))) (mwipe [some (.str x), none] [1])) (ws := signs x) (s := s) (fun w => match w with | .str a => (match a.cps.toList with | [c] => [.bl (LETS.cps.toList.any fun d => Nat.beq d c)] | _ => []) | _ => []) (by simp only [signs, List.length_map]; have : x.cps.toList.length = x.length := (by simp [Str.length]); omega) gives_seq (by
        intro w hw
        obtain ⟨c, _, rfl⟩ := List.mem_map.mp hw
        rfl)
      rw [e]
      congr 2
      unfold signs
      generalize x.cps.toList = l
      induction l with
      | nil => rfl
      | cons c l ih => rw [List.map_cons, List.flatMap_cons, ih]; rfl
    rw [hf, wp_some]
    have ll : x.cps.toList.length = x.length := by simp [Str.length]
    refine ⟨by simp only [List.length_map]; omega, ?_⟩
    have hA : allW [.ref s.sz] (push s (.lst ((x.cps.toList.map fun c => LETS.cps.toList.any fun d => Nat.beq d c).map .bl))) = some (.bl (nameB x), push s (.lst ((x.cps.toList.map fun c => LETS.cps.toList.any fun d => Nat.beq d c).map .bl))) := by
      show ((lstOf (.ref s.sz) _).ob fun xs => (boolsOf xs).om fun bs => (Mv.bl (bs.all id), _)) = _
      have : lstOf (.ref s.sz) (push s (.lst ((x.cps.toList.map fun c => LETS.cps.toList.any fun d => Nat.beq d c).map .bl))) = some ((x.cps.toList.map fun c => LETS.cps.toList.any fun d => Nat.beq d c).map .bl) := items_ref Ms.get_push
      rw [this, ob_of, bools_of, om_of]
      unfold nameB
      rw [decide_eq_true hc.1, decide_eq_true hc.2, List.all_map]
      rfl
    exact ⟨_, hA, _, rfl, rfl, Ex0.push⟩
  · have hn : nameB x = false := by
      unfold nameB
      by_cases h0 : 0 < x.length
      · rw [decide_eq_false (p := x.length ≤ 8) (by omega)]; simp
      · rw [decide_eq_false (p := 0 < x.length) h0]; simp
    unfold sseq
    by_cases h0 : 0 < x.length
    · have c1 : iLt 0 (x.length : Int) = true := by rw [iLt_eq]; exact decide_eq_true (by omega)
      have c2 : iLt 8 (x.length : Int) = true := by rw [iLt_eq]; exact decide_eq_true (by omega)
      simp only [wp_ob, wp_om, wp_some, wp_mvar, sset, sexp, sret, sif, spar, spar3, snx, mtB, mtst, mop1, mop2, mcall, mcons, mnil, mcon, mif, mtup, mlst, mand, mor, mnot, mandV, morV, mnotV, lset_eq, List.getElem?_cons_zero, List.getElem?_cons_succ, List.set_cons_zero, List.set_cons_succ, cond_true, cond_false, isiW, tyOf, isaT, decide_true, Bool.true_or, tru, Bool.not_true, mchain, hL, ltW, leW, cmpI, c1, c2, Bool.not_false]
      exact ⟨_, rfl, by rw [hn], Ex0.refl⟩
    · have c1 : iLt 0 (x.length : Int) = false := by rw [iLt_eq]; exact decide_eq_false (by omega)
      simp only [wp_ob, wp_om, wp_some, wp_mvar, sset, sexp, sret, sif, spar, spar3, snx, mtB, mtst, mop1, mop2, mcall, mcons, mnil, mcon, mif, mtup, mlst, mand, mor, mnot, mandV, morV, mnotV, lset_eq, List.getElem?_cons_zero, List.getElem?_cons_succ, List.set_cons_zero, List.set_cons_succ, cond_true, cond_false, isiW, tyOf, isaT, decide_true, Bool.true_or, tru, Bool.not_true, mchain, hL, ltW, leW, cmpI, c1, Bool.not_false]
      exact ⟨_, rfl, by rw [hn], Ex0.refl⟩
theorem is_name_not {s : Ms} {w : Mv} {t : Mty} (h : tyOf w s = some t) (ht : t ≠ .str) : m_is_name [w] s = some (.bl false, s) := by
  have e : (decide (t = Mty.str) || (decide (t = .bool) && decide (Mty.str = .int))) = false := by simp [ht]
  have : Wp (m_is_name [w] s) fun y => y = (.bl false, s) := by
    refine wp_fn [some w, none] rfl rfl ?_
    unfold bd_is_name sseq
    simp only [wp_ob, wp_om, wp_some, wp_mvar, sset, sexp, sret, sif, spar, spar3, snx, mtB, mtst, mop1, mop2, mcall, mcons, mnil, mcon, mif, mtup, mlst, mand, mor, mnot, mandV, morV, mnotV, lset_eq, List.getElem?_cons_zero, List.getElem?_cons_succ, List.set_cons_zero, List.set_cons_succ, cond_true, cond_false, isiW, h, isaT, e, tru, Bool.not_false]
    exact ⟨_, rfl, rfl⟩
  obtain ⟨y, h1, h2⟩ := this
  rw [h1, h2]
theorem is_number_int {s : Ms} {i : Int} : m_is_number [.int i] s = some (.bl (decide (0 ≤ i)), s) := by
  have : Wp (m_is_number [.int i] s) fun y => y = (.bl (decide (0 ≤ i)), s) := by
    refine wp_fn [some (.int i)] rfl rfl ?_
    unfold bd_is_number
    simp only [wp_ob, wp_om, wp_some, wp_mvar, sset, sexp, sret, sif, spar, spar3, snx, mtB, mtst, mop1, mop2, mcall, mcons, mnil, mcon, mif, mtup, mlst, mand, mor, mnot, mandV, morV, mnotV, lset_eq, List.getElem?_cons_zero, List.getElem?_cons_succ, List.set_cons_zero, List.set_cons_succ, cond_true, cond_false, isiW, tyOf, isaT, decide_true, Bool.true_or, geW, cmpI, iLt_eq, decide_false, Bool.false_or, Bool.false_and, Bool.not_false, reduceCtorEq]
    refine ⟨_, rfl, ?_⟩
    have : (!decide (i < 0)) = decide (0 ≤ i) := by
      by_cases h : 0 ≤ i
      · rw [decide_eq_true h, decide_eq_false (by omega)]; rfl
      · rw [decide_eq_false h, decide_eq_true (by omega)]; rfl
    rw [this]
  obtain ⟨y, h1, h2⟩ := this
  rw [h1, h2]
theorem is_number_bl {s : Ms} {b : Bool} : m_is_number [.bl b] s = some (.bl false, s) := rfl
theorem is_number_str {s : Ms} {x : Str} : m_is_number [.str x] s = some (.bl false, s) := rfl
theorem lib_of_sp {s : Ms} {P : Plot} {v : Mv} {nm : Str} (h : Rd s P.mv v) (hl : P.libs.length ≤ 1000) : Wp (m_lib_of [v, .str nm] s) fun x => Ex0 s x.2 ∧ (match P.libs.find? (fun l => decide (l.own = nm)) with
    | none => x.1 = .non
    | some l => Rd x.2 l.mv x.1) := by
  refine wp_fn [some v, some (.str nm), none, none] rfl rfl ?_
  unfold bd_lib_of
  refine wp_seq ?_
  obtain ⟨u, hu, ru⟩ := h.at (i := 0) rfl
  have hu : ixA v (.int 0) s = some (u, s) := hu
  obtain ⟨vs, hi, rl⟩ := ru.items
  simp only [sset, wp_om]
  refine wp_lc (wp_S' ?_)
  simp only [wp_ob, wp_om, wp_some, wp_mvar, sset, sexp, sret, sif, spar, spar3, snx, mtB, mtst, mop1, mop2, mcall, mcons, mnil, mcon, mif, mtup, mlst, mand, mor, mnot, mandV, morV, mnotV, lset_eq, List.getElem?_cons_zero, List.getElem?_cons_succ, List.set_cons_zero, List.set_cons_succ, cond_true, cond_false, hu]
  refine ⟨vs, hi, fun it git => ?_⟩
  have vl : vs.length = P.libs.length := by rw [rl.length, List.length_map]
  refine (wp_flat vs (fun i acc s' => s' = s ∧ RdL s (((P.libs.take i).filter fun l => decide (l.own = nm)).map PLib.mv) acc) (fun i acc s' _ a => git s' (a.1 ▸ hi)) ?_ 100000 0 [] s (by omega) (by omega) ⟨rfl, .nil⟩).mono ?_
  · rintro i w acc s' hw ⟨rfl, a⟩
    obtain ⟨l', hl', rw'⟩ := rl.get hw
    have hi' : i < P.libs.length := by have := (List.getElem?_eq_some_iff.mp hw).1; omega
    rw [List.getElem?_map, List.getElem?_eq_getElem hi'] at hl'
    cases hl'
    obtain ⟨o, ho, ro⟩ := rw'.at (i := 0) rfl
    have ho : ixA w (.int 0) s' = some (o, s') := ho
    cases ro.str_inv
    unfold mstep
    simp only [wp_ob, wp_om, wp_some, wp_mvar, sset, sexp, sret, sif, spar, spar3, snx, mtB, mtst, mop1, mop2, mcall, mcons, mnil, mcon, mif, mtup, mlst, mand, mor, mnot, mandV, morV, mnotV, lset_eq, List.getElem?_cons_zero, List.getElem?_cons_succ, List.set_cons_zero, List.set_cons_succ, cond_true, cond_false, mwipe, Tg.asg, ho, eq_str]
    by_cases hn : P.libs[i].own = nm
    · simp only [hn, decide_true]
      simp only [wp_ob, wp_om, wp_some, wp_mvar, sset, sexp, sret, sif, spar, spar3, snx, mtB, mtst, mop1, mop2, mcall, mcons, mnil, mcon, mif, mtup, mlst, mand, mor, mnot, mandV, morV, mnotV, lset_eq, List.getElem?_cons_zero, List.getElem?_cons_succ, List.set_cons_zero, List.set_cons_succ, cond_true, cond_false]
      refine ⟨trivial, ?_⟩
      rw [List.take_add_one, List.getElem?_eq_getElem hi', List.filter_append, List.map_append]
      refine a.append ?_
      simp only [Option.toList, List.filter_cons, hn, decide_true, if_true]
      exact .cons rw' .nil
    · simp only [hn, decide_false]
      simp only [wp_ob, wp_om, wp_some, wp_mvar, sset, sexp, sret, sif, spar, spar3, snx, mtB, mtst, mop1, mop2, mcall, mcons, mnil, mcon, mif, mtup, mlst, mand, mor, mnot, mandV, morV, mnotV, lset_eq, List.getElem?_cons_zero, List.getElem?_cons_succ, List.set_cons_zero, List.set_cons_succ, cond_true, cond_false]
      refine ⟨trivial, ?_⟩
      rw [List.take_add_one, List.getElem?_eq_getElem hi', List.filter_append, List.map_append]
      refine a.append ?_
      simp only [Option.toList, List.filter_cons, hn, decide_false]
      exact .nil
  · rintro ⟨acc, s'⟩ ⟨a1, a2⟩
    simp only [List.nil_append] at a1 a2
    subst a1
    rw [vl, List.take_length] at a2
    have al := a2.length
    rw [List.length_map] at al
    have al2 := List.length_filter_le (fun l : PLib => decide (l.own = nm)) P.libs
    refine ⟨by show acc.length ≤ _; omega, trivial, ?_⟩
    have hL : lenW [.ref s'.sz] (push s' (.lst acc)) = some (.int (acc.length : Nat), push s' (.lst acc)) := lenW_of (items_ref Ms.get_push)
    have fh : P.libs.find? (fun l => decide (l.own = nm)) = (P.libs.filter fun l => decide (l.own = nm)).head? := by rw [List.head?_filter]
    rw [fh]
    cases hF : P.libs.filter fun l => decide (l.own = nm) with
    | nil =>
      rw [hF] at a2
      cases a2
      simp only [wp_ob, wp_om, wp_some, wp_mvar, sset, sexp, sret, sif, spar, spar3, snx, mtB, mtst, mop1, mop2, mcall, mcons, mnil, mcon, mif, mtup, mlst, mand, mor, mnot, mandV, morV, mnotV, lset_eq, List.getElem?_cons_zero, List.getElem?_cons_succ, List.set_cons_zero, List.set_cons_succ, cond_true, cond_false, hL, gtW, cmpI, iLt_eq, List.length_nil]
      simp only [show decide ((0 : Int) < ((0 : Nat) : Int)) = false from rfl]
      simp only [wp_ob, wp_om, wp_some, wp_mvar, sset, sexp, sret, sif, spar, spar3, snx, mtB, mtst, mop1, mop2, mcall, mcons, mnil, mcon, mif, mtup, mlst, mand, mor, mnot, mandV, morV, mnotV, lset_eq, List.getElem?_cons_zero, List.getElem?_cons_succ, List.set_cons_zero, List.set_cons_succ, cond_true, cond_false]
      exact ⟨_, rfl, Ex0.push, rfl⟩
    | cons l ls =>
      rw [hF] at a2
      cases a2 with
      | cons b1 b2 =>
        rename_i v1 vs1
        have hx : ixA (.ref s'.sz) (.int 0) (push s' (.lst (v1 :: vs1))) = some (v1, push s' (.lst (v1 :: vs1))) := ixA_of (items_ref Ms.get_push) rfl
        simp only [wp_ob, wp_om, wp_some, wp_mvar, sset, sexp, sret, sif, spar, spar3, snx, mtB, mtst, mop1, mop2, mcall, mcons, mnil, mcon, mif, mtup, mlst, mand, mor, mnot, mandV, morV, mnotV, lset_eq, List.getElem?_cons_zero, List.getElem?_cons_succ, List.set_cons_zero, List.set_cons_succ, cond_true, cond_false, hL, gtW, cmpI, iLt_eq, List.length_cons]
        rw [decide_eq_true (by omega : (0 : Int) < ((vs1.length + 1 : Nat) : Int))]
        simp only [wp_ob, wp_om, wp_some, wp_mvar, sset, sexp, sret, sif, spar, spar3, snx, mtB, mtst, mop1, mop2, mcall, mcons, mnil, mcon, mif, mtup, mlst, mand, mor, mnot, mandV, morV, mnotV, lset_eq, List.getElem?_cons_zero, List.getElem?_cons_succ, List.set_cons_zero, List.set_cons_succ, cond_true, cond_false, hx]
        exact ⟨_, rfl, Ex0.push, b1.ex0 Ex0.push⟩

end
section
theorem wp_seq_rt {A B : Fs} {r : Me} {s : Ms} {Q : Fl × Me × Ms → Prop} (h : Wp (A r s) fun x => ∃ w, x.1 = .rt w ∧ Q (.rt w, x.2)) : Wp (sseq A B r s) Q := by
  unfold sseq
  rw [wp_ob]
  refine h.mono fun x hx => ?_
  obtain ⟨fl, r1, s1⟩ := x
  obtain ⟨w, e, h⟩ := hx
  simp only at e
  subst e
  exact ⟨_, rfl, h⟩
theorem strs_of : ∀ xs : List Str, strsOf (strV xs) = some xs
  | [] => rfl
  | x :: xs => by
    show (strsOf (strV xs)).om (fun r => x :: r) = _
    rw [strs_of xs]; rfl
theorem any_strEq (x : Str) : ∀ xs : List Str, (xs.any fun y => strEq y x) = decide (x ∈ xs)
  | [] => by simp
  | y :: xs => by
    rw [List.any_cons, any_strEq x xs, strEq_eq]
    by_cases h : x = y
    · subst h; simp
    · have h' : ¬ y = x := fun z => h z.symm
      simp [h, h']
theorem inA_strs {s : Ms} {x : Str} {xs : List Str} : inA (.str x) (.tup (strV xs)) s = some (.bl (decide (x ∈ xs)), s) := by
  have h2 : inBo (.str x) (.tup (strV xs)) s = some (decide (x ∈ xs)) := by
    unfold inBo
    rw [items_tup, ob_of]
    simp only [strs_of, any_strEq]
  unfold inA
  show (inBo (.str x) (.tup (strV xs)) s).om _ = _
  rw [h2]; rfl
theorem in_oc {s : Ms} {x : Str} : inA (.str x) (.tup [.str x_open, .str x_close]) s = some (.bl (decide (x ∈ [x_open, x_close])), s) := inA_strs (xs := [x_open, x_close])
theorem ix0 {s : Ms} {a : Mv} {ws : List Mv} : ixA (.tup (a :: ws)) (.int 0) s = some (a, s) := rfl
theorem ix1 {s : Ms} {a b : Mv} {ws : List Mv} : ixA (.tup (a :: b :: ws)) (.int 1) s = some (b, s) := rfl
theorem ix2 {s : Ms} {a b c : Mv} {ws : List Mv} : ixA (.tup (a :: b :: c :: ws)) (.int 2) s = some (c, s) := rfl
theorem lenT {s : Ms} {ws : List Mv} : lenW [.tup ws] s = some (.int (ws.length : Nat), s) := rfl
theorem ltI {i j : Int} {s : Ms} : ltW (.int i) (.int j) s = some (.bl (decide (i < j)), s) := by
  show some (Mv.bl (iLt i j), s) = _
  rw [iLt_eq]
theorem ne_int {x y : Int} {s : Ms} : neW (.int x) (.int y) s = some (.bl (!decide (x = y)), s) := by
  show (some (iEq x y)).om _ = _
  rw [iEq_eq]; rfl
def Says (P : Plot) (s : Ms) (w : Mv) (d : Bool) : Prop := ∀ (s' : Ms) (v : Mv), Ex0 s s' → Rd s' P.mv v → Wp (m_is_step [v, w] s') fun y => y.1 = .bl d ∧ Ex0 s' y.2
theorem Says.ex0 {P : Plot} {s s1 : Ms} {w : Mv} {d : Bool} (h : Says P s w d) (x : Ex0 s s1) : Says P s1 w d := fun s' v e r => h s' v (x.trans e) r
section
variable {P : Plot} {s : Ms}
/-- no tuple -/
theorem says_not {w : Mv} {t : Mty} (h : ∀ s', Ex0 s s' → tyOf w s' = some t) (ht : t ≠ .tuple) : Says P s w false := by
  intro s' v e rd
  have e' : (decide (t = Mty.tuple) || (decide (t = .bool) && decide (Mty.tuple = .int))) = false := by simp [ht]
  refine wp_fn [some v, some w, none] rfl rfl ?_
  unfold bd_is_step
  refine wp_seq_rt ?_
  simp only [wp_ob, wp_om, wp_some, wp_mvar, sset, sexp, sret, sif, spar, spar3, snx, mtB, mtst, mop1, mop2, mcall, mcons, mnil, mcon, mif, mtup, mlst, mand, mor, mnot, mandV, morV, mnotV, lset_eq, List.getElem?_cons_zero, List.getElem?_cons_succ, List.set_cons_zero, List.set_cons_succ, cond_true, cond_false, isiW, h s' e, isaT, e', tru, Bool.not_false]
  exact ⟨_, rfl, _, rfl, rfl, Ex0.refl⟩
theorem says_short {ws : List Mv} (h : ws.length < 2) : Says P s (.tup ws) false := by
  intro s' v e rd
  refine wp_fn [some v, some (.tup ws), none] rfl rfl ?_
  unfold bd_is_step
  refine wp_seq_rt ?_
  have hd : decide ((ws.length : Int) < 2) = true := decide_eq_true (by omega)
  simp only [wp_ob, wp_om, wp_some, wp_mvar, sset, sexp, sret, sif, spar, spar3, snx, mtB, mtst, mop1, mop2, mcall, mcons, mnil, mcon, mif, mtup, mlst, mand, mor, mnot, mandV, morV, mnotV, lset_eq, List.getElem?_cons_zero, List.getElem?_cons_succ, List.set_cons_zero, List.set_cons_succ, cond_true, cond_false, isiW, tyOf, isaT, decide_true, Bool.true_or, tru, Bool.not_true, lenT, ltI, hd]
  exact ⟨_, rfl, _, rfl, rfl, Ex0.refl⟩
/-- the first item is no text -/
theorem says_first {a b : Mv} {ws : List Mv} {t : Mty} (h : ∀ s', tyOf a s' = some t) (ht : t ≠ .str) : Says P s (.tup (a :: b :: ws)) false := by
  intro s' v e rd
  have e' : (decide (t = Mty.str) || (decide (t = .bool) && decide (Mty.str = .int))) = false := by simp [ht]
  refine wp_fn [some v, some (.tup (a :: b :: ws)), none] rfl rfl ?_
  unfold bd_is_step
  refine wp_seq_rt ?_
  have hd : decide (((a :: b :: ws).length : Int) < 2) = false := decide_eq_false (by simp only [List.length_cons]; omega)
  simp only [wp_ob, wp_om, wp_some, wp_mvar, sset, sexp, sret, sif, spar, spar3, snx, mtB, mtst, mop1, mop2, mcall, mcons, mnil, mcon, mif, mtup, mlst, mand, mor, mnot, mandV, morV, mnotV, lset_eq, List.getElem?_cons_zero, List.getElem?_cons_succ, List.set_cons_zero, List.set_cons_succ, cond_true, cond_false, isiW, ty_tup, isaT, decide_true, Bool.true_or, tru, Bool.not_true, lenT, ltI, hd, ix0, h s', e', Bool.not_false]
  exact ⟨_, rfl, _, rfl, rfl, Ex0.refl⟩
/-- behind the first look -/
theorem past1 {v : Mv} {x : Str} {b : Mv} {ws : List Mv} {s' : Ms} {B : Fs} {Q : Fl × Me × Ms → Prop} (h : Wp (B [some v, some (.tup (.str x :: b :: ws)), none] s') Q) : Wp (sseq (sif (mor (mnot (mtst (mcall isiW (mcons (mvar 1) (mcons (mcon (.ty .tuple)) mnil))))) (mor (mtB (mop2 ltW (mcall lenW (mcons (mvar 1) (mnil))) (mcon (.int 2)))) (mnot (mtst (mcall isiW (mcons (mop2 ixA (mvar 1) (mcon (.int 0))) (mcons (mcon (.ty .str)) mnil))))))) (sret (mcon (.bl false))) (snx)) B [some v, some (.tup (.str x :: b :: ws)), none] s') Q := by
  refine wp_seq ?_
  have hd : decide (((Mv.str x :: b :: ws).length : Int) < 2) = false := decide_eq_false (by simp only [List.length_cons]; omega)
  simp only [wp_ob, wp_om, wp_some, wp_mvar, sset, sexp, sret, sif, spar, spar3, snx, mtB, mtst, mop1, mop2, mcall, mcons, mnil, mcon, mif, mtup, mlst, mand, mor, mnot, mandV, morV, mnotV, lset_eq, List.getElem?_cons_zero, List.getElem?_cons_succ, List.set_cons_zero, List.set_cons_succ, cond_true, cond_false, isiW, tyOf, isaT, decide_true, Bool.true_or, tru, Bool.not_true, lenT, ltI, hd, ix0]
  exact ⟨trivial, h⟩
theorem says_oc_len {x : Str} {b c : Mv} {ws : List Mv} (hx : x ∈ [x_open, x_close]) : Says P s (.tup (.str x :: b :: c :: ws)) false := by
  intro s' v e rd
  refine wp_fn [some v, some (.tup (.str x :: b :: c :: ws)), none] rfl rfl ?_
  unfold bd_is_step
  refine past1 (wp_seq_rt ?_)
  have hd : decide (((Mv.str x :: b :: c :: ws).length : Int) = 2) = false := decide_eq_false (by simp only [List.length_cons]; omega)
  simp only [wp_ob, wp_om, wp_some, wp_mvar, sset, sexp, sret, sif, spar, spar3, snx, mtB, mtst, mop1, mop2, mcall, mcons, mnil, mcon, mif, mtup, mlst, mand, mor, mnot, mandV, morV, mnotV, lset_eq, List.getElem?_cons_zero, List.getElem?_cons_succ, List.set_cons_zero, List.set_cons_succ, cond_true, cond_false, ix0, newT_of (show [Mv.str x_open, Mv.str x_close].length ≤ 16777216 by simp), in_oc, decide_eq_true hx, lenT, eq_int, hd]
  exact ⟨_, rfl, _, rfl, rfl, Ex0.refl⟩
theorem says_oc_not {x : Str} {b : Mv} (hx : x ∈ [x_open, x_close]) (hb : ∀ s', m_is_number [b] s' = some (.bl false, s')) : Says P s (.tup [.str x, b]) false := by
  intro s' v e rd
  refine wp_fn [some v, some (.tup [.str x, b]), none] rfl rfl ?_
  unfold bd_is_step
  refine past1 (wp_seq_rt ?_)
  have hd : decide ((([Mv.str x, b].length : Nat) : Int) = 2) = true := rfl
  simp only [wp_ob, wp_om, wp_some, wp_mvar, sset, sexp, sret, sif, spar, spar3, snx, mtB, mtst, mop1, mop2, mcall, mcons, mnil, mcon, mif, mtup, mlst, mand, mor, mnot, mandV, morV, mnotV, lset_eq, List.getElem?_cons_zero, List.getElem?_cons_succ, List.set_cons_zero, List.set_cons_succ, cond_true, cond_false, ix0, newT_of (show [Mv.str x_open, Mv.str x_close].length ≤ 16777216 by simp), in_oc, decide_eq_true hx, lenT, eq_int, hd, ix1, hb]
  exact ⟨_, rfl, _, rfl, rfl, Ex0.refl⟩
theorem says_oc {x : Str} {i : Int} (hx : x ∈ [x_open, x_close]) : Says P s (.tup [.str x, .int i]) (decide (0 ≤ i) && decide (i < (P.doors.length : Int))) := by
  intro s' v e rd
  refine wp_fn [some v, some (.tup [.str x, .int i]), none] rfl rfl ?_
  unfold bd_is_step
  refine past1 (wp_seq_rt ?_)
  obtain ⟨u, hu, ru⟩ := rd.at (i := 2) rfl
  have hu : ixA v (.int 2) s' = some (u, s') := hu
  have hL := ru.len
  have pl : (pairV P.doors).length = P.doors.length := by simp [pairV]
  rw [pl] at hL
  have hd : decide ((([Mv.str x, .int i].length : Nat) : Int) = 2) = true := rfl
  simp only [wp_ob, wp_om, wp_some, wp_mvar, sset, sexp, sret, sif, spar, spar3, snx, mtB, mtst, mop1, mop2, mcall, mcons, mnil, mcon, mif, mtup, mlst, mand, mor, mnot, mandV, morV, mnotV, lset_eq, List.getElem?_cons_zero, List.getElem?_cons_succ, List.set_cons_zero, List.set_cons_succ, cond_true, cond_false, ix0, newT_of (show [Mv.str x_open, Mv.str x_close].length ≤ 16777216 by simp), in_oc, decide_eq_true hx, lenT, eq_int, hd, ix1, is_number_int]
  by_cases h0 : 0 ≤ i
  · rw [decide_eq_true h0]
    simp only [wp_ob, wp_om, wp_some, wp_mvar, sset, sexp, sret, sif, spar, spar3, snx, mtB, mtst, mop1, mop2, mcall, mcons, mnil, mcon, mif, mtup, mlst, mand, mor, mnot, mandV, morV, mnotV, lset_eq, List.getElem?_cons_zero, List.getElem?_cons_succ, List.set_cons_zero, List.set_cons_succ, cond_true, cond_false, hu, hL, ltI, ix1]
    exact ⟨_, rfl, _, rfl, by simp, Ex0.refl⟩
  · rw [decide_eq_false h0]
    simp only [wp_ob, wp_om, wp_some, wp_mvar, sset, sexp, sret, sif, spar, spar3, snx, mtB, mtst, mop1, mop2, mcall, mcons, mnil, mcon, mif, mtup, mlst, mand, mor, mnot, mandV, morV, mnotV, lset_eq, List.getElem?_cons_zero, List.getElem?_cons_succ, List.set_cons_zero, List.set_cons_succ, cond_true, cond_false]
    exact ⟨_, rfl, _, rfl, rfl, Ex0.refl⟩
/-- behind the second look -/
theorem past2 {v : Mv} {x : Str} {b : Mv} {ws : List Mv} {s' : Ms} {B A : Fs} {Q : Fl × Me × Ms → Prop} (hx : x ∉ [x_open, x_close]) (h : Wp (B [some v, some (.tup (.str x :: b :: ws)), none] s') Q) : Wp (sseq (sif (mtB (mop2 inA (mop2 ixA (mvar 1) (mcon (.int 0))) (mtup (mcons (mcon (.str x_open)) (mcons (mcon (.str x_close)) (mnil)))))) A (snx)) B [some v, some (.tup (.str x :: b :: ws)), none] s') Q := by
  refine wp_seq ?_
  simp only [wp_ob, wp_om, wp_some, wp_mvar, sset, sexp, sret, sif, spar, spar3, snx, mtB, mtst, mop1, mop2, mcall, mcons, mnil, mcon, mif, mtup, mlst, mand, mor, mnot, mandV, morV, mnotV, lset_eq, List.getElem?_cons_zero, List.getElem?_cons_succ, List.set_cons_zero, List.set_cons_succ, cond_true, cond_false, ix0, newT_of (show [Mv.str x_open, Mv.str x_close].length ≤ 16777216 by simp), in_oc, decide_eq_false hx]
  exact ⟨trivial, h⟩
theorem call_oc : x_call ∉ [x_open, x_close] := by decide +kernel
theorem says_word {x : Str} {b : Mv} {ws : List Mv} (hx : x ∉ [x_open, x_close]) (hx2 : x ≠ x_call) : Says P s (.tup (.str x :: b :: ws)) false := by
  intro s' v e rd
  refine wp_fn [some v, some (.tup (.str x :: b :: ws)), none] rfl rfl ?_
  unfold bd_is_step
  refine past1 (past2 hx (wp_seq_rt ?_))
  simp only [wp_ob, wp_om, wp_some, wp_mvar, sset, sexp, sret, sif, spar, spar3, snx, mtB, mtst, mop1, mop2, mcall, mcons, mnil, mcon, mif, mtup, mlst, mand, mor, mnot, mandV, morV, mnotV, lset_eq, List.getElem?_cons_zero, List.getElem?_cons_succ, List.set_cons_zero, List.set_cons_succ, cond_true, cond_false, ix0, ne_str, decide_eq_false hx2, Bool.not_false]
  exact ⟨_, rfl, _, rfl, rfl, Ex0.refl⟩
theorem says_call_len {b : Mv} {ws : List Mv} (hl : ws.length ≠ 1) : Says P s (.tup (.str x_call :: b :: ws)) false := by
  intro s' v e rd
  refine wp_fn [some v, some (.tup (.str x_call :: b :: ws)), none] rfl rfl ?_
  unfold bd_is_step
  refine past1 (past2 call_oc (wp_seq_rt ?_))
  have hd : decide (((Mv.str x_call :: b :: ws).length : Int) = 3) = false := decide_eq_false (by simp only [List.length_cons]; omega)
  simp only [wp_ob, wp_om, wp_some, wp_mvar, sset, sexp, sret, sif, spar, spar3, snx, mtB, mtst, mop1, mop2, mcall, mcons, mnil, mcon, mif, mtup, mlst, mand, mor, mnot, mandV, morV, mnotV, lset_eq, List.getElem?_cons_zero, List.getElem?_cons_succ, List.set_cons_zero, List.set_cons_succ, cond_true, cond_false, ix0, ne_str, decide_true, Bool.not_true, lenT, ne_int, hd, Bool.not_false]
  exact ⟨_, rfl, _, rfl, rfl, Ex0.refl⟩
theorem says_call_name {b c : Mv} {t : Mty} (h : ∀ s', tyOf b s' = some t) (ht : t ≠ .str) : Says P s (.tup [.str x_call, b, c]) false := by
  intro s' v e rd
  refine wp_fn [some v, some (.tup [.str x_call, b, c]), none] rfl rfl ?_
  unfold bd_is_step
  refine past1 (past2 call_oc (wp_seq_rt ?_))
  have hd : decide ((([Mv.str x_call, b, c].length : Nat) : Int) = 3) = true := rfl
  simp only [wp_ob, wp_om, wp_some, wp_mvar, sset, sexp, sret, sif, spar, spar3, snx, mtB, mtst, mop1, mop2, mcall, mcons, mnil, mcon, mif, mtup, mlst, mand, mor, mnot, mandV, morV, mnotV, lset_eq, List.getElem?_cons_zero, List.getElem?_cons_succ, List.set_cons_zero, List.set_cons_succ, cond_true, cond_false, ix0, ix1, ne_str, decide_true, Bool.not_true, lenT, ne_int, hd, Bool.not_false, is_name_not (h s') ht, tru]
  exact ⟨_, rfl, _, rfl, rfl, Ex0.refl⟩
theorem says_call_num {x : Str} {c : Mv} (hl : x.length ≤ 1000) (hn : nameB x = true) (hc : ∀ s', m_is_number [c] s' = some (.bl false, s')) : Says P s (.tup [.str x_call, .str x, c]) false := by
  intro s' v e rd
  refine wp_fn [some v, some (.tup [.str x_call, .str x, c]), none] rfl rfl ?_
  unfold bd_is_step
  refine past1 (past2 call_oc (wp_seq_rt ?_))
  have hd : decide ((([Mv.str x_call, .str x, c].length : Nat) : Int) = 3) = true := rfl
  simp only [wp_ob, wp_om, wp_some, wp_mvar, sset, sexp, sret, sif, spar, spar3, snx, mtB, mtst, mop1, mop2, mcall, mcons, mnil, mcon, mif, mtup, mlst, mand, mor, mnot, mandV, morV, mnotV, lset_eq, List.getElem?_cons_zero, List.getElem?_cons_succ, List.set_cons_zero, List.set_cons_succ, cond_true, cond_false, ix0, ix1, ne_str, decide_true, Bool.not_true, lenT, ne_int, hd]
  refine (is_name_str hl).mono fun y hy => ?_
  obtain ⟨w, s1⟩ := y
  obtain ⟨h1, h2⟩ := hy
  simp only at h1 h2
  subst h1
  rw [hn]
  simp only [wp_ob, wp_om, wp_some, wp_mvar, sset, sexp, sret, sif, spar, spar3, snx, mtB, mtst, mop1, mop2, mcall, mcons, mnil, mcon, mif, mtup, mlst, mand, mor, mnot, mandV, morV, mnotV, lset_eq, List.getElem?_cons_zero, List.getElem?_cons_succ, List.set_cons_zero, List.set_cons_succ, cond_true, cond_false, tru, Bool.not_true, ix2, hc, Bool.not_false]
  exact ⟨_, rfl, _, rfl, rfl, h2⟩
theorem says_call {x : Str} {i : Int} (hP : P.libs.length ≤ 1000) (hl : x.length ≤ 1000) (hn : nameB x = true) : Says P s (.tup [.str x_call, .str x, .int i]) (decide (0 ≤ i) && (match P.libs.find? (fun l => decide (l.own = x)) with | none => false | some l => decide (i < (l.uses.length : Int)))) := by
  intro s' v e rd
  refine wp_fn [some v, some (.tup [.str x_call, .str x, .int i]), none] rfl rfl ?_
  unfold bd_is_step
  have hd : decide ((([Mv.str x_call, .str x, .int i].length : Nat) : Int) = 3) = true := rfl
  by_cases h0 : 0 ≤ i
  · refine past1 (past2 call_oc (wp_seq ?_))
    simp only [wp_ob, wp_om, wp_some, wp_mvar, sset, sexp, sret, sif, spar, spar3, snx, mtB, mtst, mop1, mop2, mcall, mcons, mnil, mcon, mif, mtup, mlst, mand, mor, mnot, mandV, morV, mnotV, lset_eq, List.getElem?_cons_zero, List.getElem?_cons_succ, List.set_cons_zero, List.set_cons_succ, cond_true, cond_false, ix0, ix1, ne_str, decide_true, Bool.not_true, lenT, ne_int, hd]
    refine (is_name_str hl).mono fun y hy => ?_
    obtain ⟨w, s1⟩ := y
    obtain ⟨h1, h2⟩ := hy
    simp only at h1 h2
    subst h1
    rw [hn]
    simp only [wp_ob, wp_om, wp_some, wp_mvar, sset, sexp, sret, sif, spar, spar3, snx, mtB, mtst, mop1, mop2, mcall, mcons, mnil, mcon, mif, mtup, mlst, mand, mor, mnot, mandV, morV, mnotV, lset_eq, List.getElem?_cons_zero, List.getElem?_cons_succ, List.set_cons_zero, List.set_cons_succ, cond_true, cond_false, tru, Bool.not_true, ix2, is_number_int, decide_eq_true h0]
    refine ⟨trivial, wp_seq ?_⟩
    simp only [wp_ob, wp_om, wp_some, wp_mvar, sset, sexp, sret, sif, spar, spar3, snx, mtB, mtst, mop1, mop2, mcall, mcons, mnil, mcon, mif, mtup, mlst, mand, mor, mnot, mandV, morV, mnotV, lset_eq, List.getElem?_cons_zero, List.getElem?_cons_succ, List.set_cons_zero, List.set_cons_succ, cond_true, cond_false, ix1]
    refine (lib_of_sp (rd.ex0 h2) hP).mono fun y hy => ?_
    obtain ⟨w, s2⟩ := y
    obtain ⟨h3, h4⟩ := hy
    simp only at h3 h4
    refine ⟨trivial, ?_⟩
    cases hF : P.libs.find? (fun l => decide (l.own = x)) with
    | none =>
      rw [hF] at h4
      simp only at h4
      subst h4
      simp only [wp_ob, wp_om, wp_some, wp_mvar, sset, sexp, sret, sif, spar, spar3, snx, mtB, mtst, mop1, mop2, mcall, mcons, mnil, mcon, mif, mtup, mlst, mand, mor, mnot, mandV, morV, mnotV, lset_eq, List.getElem?_cons_zero, List.getElem?_cons_succ, List.set_cons_zero, List.set_cons_succ, cond_true, cond_false, isW]
      exact ⟨_, rfl, _, rfl, by simp, h2.trans h3⟩
    | some l =>
      rw [hF] at h4
      simp only at h4
      obtain ⟨u, hu, ru⟩ := h4.at (i := 3) rfl
      have hu : ixA w (.int 3) s2 = some (u, s2) := hu
      have hL := ru.len
      have pl : (useV l.uses).length = l.uses.length := by simp [useV]
      rw [pl] at hL
      have hnn : isW true w .non s2 = some (.bl true, s2) := by
        unfold PLib.mv at h4
        cases h4 <;> rfl
      simp only [wp_ob, wp_om, wp_some, wp_mvar, sset, sexp, sret, sif, spar, spar3, snx, mtB, mtst, mop1, mop2, mcall, mcons, mnil, mcon, mif, mtup, mlst, mand, mor, mnot, mandV, morV, mnotV, lset_eq, List.getElem?_cons_zero, List.getElem?_cons_succ, List.set_cons_zero, List.set_cons_succ, cond_true, cond_false, hnn, ix2, hu, hL, ltI]
      exact ⟨_, rfl, by simp, h2.trans h3⟩
  · refine past1 (past2 call_oc (wp_seq_rt ?_))
    simp only [wp_ob, wp_om, wp_some, wp_mvar, sset, sexp, sret, sif, spar, spar3, snx, mtB, mtst, mop1, mop2, mcall, mcons, mnil, mcon, mif, mtup, mlst, mand, mor, mnot, mandV, morV, mnotV, lset_eq, List.getElem?_cons_zero, List.getElem?_cons_succ, List.set_cons_zero, List.set_cons_succ, cond_true, cond_false, ix0, ix1, ne_str, decide_true, Bool.not_true, lenT, ne_int, hd]
    refine (is_name_str hl).mono fun y hy => ?_
    obtain ⟨w, s1⟩ := y
    obtain ⟨h1, h2⟩ := hy
    simp only at h1 h2
    subst h1
    rw [hn]
    simp only [wp_ob, wp_om, wp_some, wp_mvar, sset, sexp, sret, sif, spar, spar3, snx, mtB, mtst, mop1, mop2, mcall, mcons, mnil, mcon, mif, mtup, mlst, mand, mor, mnot, mandV, morV, mnotV, lset_eq, List.getElem?_cons_zero, List.getElem?_cons_succ, List.set_cons_zero, List.set_cons_succ, cond_true, cond_false, tru, Bool.not_true, ix2, is_number_int, decide_eq_false h0, Bool.not_false]
    exact ⟨_, rfl, _, rfl, by simp, h2⟩
end

end
section
/-! ### the law's look at steps -/
theorem cat_l {s : Ms} {n m : Nat} {x y : List Mv} (hn : s.get n = some (.lst x)) (hm : s.get m = some (.lst y)) (hl : x.length + y.length ≤ 16777216) : addW (.ref n) (.ref m) s = some (.ref s.sz, push s (.lst (x ++ y))) := by
  unfold addW
  simp only [hn, hm]
  rw [newL_of (by simpa using hl)]
inductive Strd (P : Plot) : Mv → Prop
  | oc {x : Str} {i : Nat} : x ∈ [x_open, x_close] → i < P.doors.length → Strd P (.tup [.str x, .int i])
  | call {l : PLib} {i : Nat} : l ∈ P.libs → i < l.uses.length → Strd P (.tup [.str x_call, .str l.own, .int i])
theorem pool_name : ∀ y ∈ POOL, nameB y = true ∧ y.length ≤ 1000 := by decide +kernel
theorem find_own : ∀ {ls : List PLib} {l : PLib}, (ls.map (·.own)).Nodup → l ∈ ls → ls.find? (fun k => decide (k.own = l.own)) = some l
  | k :: ls, l, nd, hl => by
    rw [List.map_cons, List.nodup_cons] at nd
    rw [List.find?_cons]
    by_cases h : k.own = l.own
    · rw [decide_eq_true h]
      rcases List.mem_cons.mp hl with rfl | hl'
      · rfl
      · exact (nd.1 (h ▸ List.mem_map_of_mem hl')).elim
    · rw [decide_eq_false h]
      rcases List.mem_cons.mp hl with rfl | hl'
      · exact (h rfl).elim
      · exact find_own nd.2 hl'
  | [], l, _, hl => by cases hl
theorem libs_len {most gates : Nat} {P : Plot} (h : PlotOk most gates P) (hm : most ≤ 100) : P.libs.length ≤ 101 := by
  have := h.len
  unfold Plot.folk at this
  rw [List.length_map] at this
  omega
section
variable {P : Plot} {s : Ms} {most gates : Nat}
theorem strd_says {w : Mv} (ok : PlotOk most gates P) (hm : most ≤ 100) (h : Strd P w) : Says P s w true := by
  have ll := libs_len ok hm
  cases h with
  | oc hx hi =>
    rename_i x i
    have := says_oc (P := P) (s := s) (i := (i : Int)) hx
    rw [decide_eq_true (by omega : (0 : Int) ≤ (i : Int)), decide_eq_true (by omega : (i : Int) < (P.doors.length : Int))] at this
    exact this
  | call hl hi =>
    rename_i l i
    have hp := pool_name l.own (ok.pool _ (List.mem_map_of_mem hl))
    have := says_call (P := P) (s := s) (i := (i : Int)) (by omega) hp.2 hp.1
    rw [find_own ok.nd hl, decide_eq_true (by omega : (0 : Int) ≤ (i : Int))] at this
    simp only [decide_eq_true (show (i : Int) < (l.uses.length : Int) by omega)] at this
    exact this
theorem strd_more {w : Mv} (h : Strd P w) : ∃ ws, w = .tup ws ∧ ws.length ≤ 3 ∧ Says P s (.tup (ws ++ [.int 0])) false := by
  cases h with
  | oc hx hi => exact ⟨_, rfl, by simp, says_oc_len hx⟩
  | call hl hi => exact ⟨_, rfl, by simp, says_call_len (by simp)⟩
theorem says_lst {n : Nat} {ws : List Mv} (hn : n < s.sz) (h : s.get n = some (.lst ws)) : Says P s (.ref n) false := by
  refine says_not (t := .list) (fun s' e => ?_) (by decide)
  show (match s'.get n with
    | some (.lst _) => some Mty.list
    | some (.dk _) => some .dict
    | _ => none) = _
  rw [e.at hn h]
end
theorem same_bl {s : Ms} {n k : Nat} {d : Bool} (hn : s.get n = some (.lst [.bl d, .bl d])) (hk : s.get k = some (.lst [.bl d, .bl d])) : m__law_same [.ref n, .ref k] s = some (.bl true, s) := by
  have e : ∀ j, s.get j = some (.lst [.bl d, .bl d]) → reprW [.ref j] s = some (.str (PyData.shown (.list [.bool d, .bool d])), s) := fun j hj => by
    have t : toD 24 s (.ref j) = some (.list [.bool d, .bool d]) := by
      show (match s.get j with
        | some (.lst ws) => (toDL (toD 23 s) ws).om PyData.list
        | _ => none) = _
      rw [hj]; rfl
    show (toD 24 s (.ref j)).ob (fun d => cond (showD d) (some (Mv.str (PyData.shown d), s)) none) = _
    rw [t, ob_of]
    have : showD (.list [.bool d, .bool d]) = true := by cases d <;> decide +kernel
    rw [this]; rfl
  have : Wp (m__law_same [.ref n, .ref k] s) fun y => y = (.bl true, s) := by
    refine wp_fn [some (.ref n), some (.ref k)] rfl rfl ?_
    unfold bd__law_same
    simp only [wp_ob, wp_om, wp_some, wp_mvar, sset, sexp, sret, sif, spar, spar3, snx, mtB, mtst, mop1, mop2, mcall, mcons, mnil, mcon, mif, mtup, mlst, mand, mor, mnot, mandV, morV, mnotV, lset_eq, List.getElem?_cons_zero, List.getElem?_cons_succ, List.set_cons_zero, List.set_cons_succ, cond_true, cond_false, e n hn, e k hk, eq_str, decide_true]
    exact ⟨_, rfl, rfl⟩
  obtain ⟨y, h1, h2⟩ := this
  rw [h1, h2]
theorem same_4 {s : Ms} {n k : Nat} (hn : s.get n = some (.lst [.bl true, .bl false, .bl true, .bl false])) (hk : s.get k = some (.lst [.bl true, .bl false, .bl true, .bl false])) : m__law_same [.ref n, .ref k] s = some (.bl true, s) := by
  have e : ∀ j, s.get j = some (.lst [.bl true, .bl false, .bl true, .bl false]) → reprW [.ref j] s = some (.str (PyData.shown (.list [.bool true, .bool false, .bool true, .bool false])), s) := fun j hj => by
    have t : toD 24 s (.ref j) = some (.list [.bool true, .bool false, .bool true, .bool false]) := by
      show (match s.get j with
        | some (.lst ws) => (toDL (toD 23 s) ws).om PyData.list
        | _ => none) = _
      rw [hj]; rfl
    show (toD 24 s (.ref j)).ob (fun d => cond (showD d) (some (Mv.str (PyData.shown d), s)) none) = _
    rw [t, ob_of]
    have : showD (.list [.bool true, .bool false, .bool true, .bool false]) = true := by decide +kernel
    rw [this]; rfl
  have : Wp (m__law_same [.ref n, .ref k] s) fun y => y = (.bl true, s) := by
    refine wp_fn [some (.ref n), some (.ref k)] rfl rfl ?_
    unfold bd__law_same
    simp only [wp_ob, wp_om, wp_some, wp_mvar, sset, sexp, sret, sif, spar, spar3, snx, mtB, mtst, mop1, mop2, mcall, mcons, mnil, mcon, mif, mtup, mlst, mand, mor, mnot, mandV, morV, mnotV, lset_eq, List.getElem?_cons_zero, List.getElem?_cons_succ, List.set_cons_zero, List.set_cons_succ, cond_true, cond_false, e n hn, e k hk, eq_str, decide_true]
    exact ⟨_, rfl, rfl⟩
  obtain ⟨y, h1, h2⟩ := this
  rw [h1, h2]
/-! as many doors and uses as can be -/
def x_ff : Str := ⟨#[102, 102]⟩
def x_fff : Str := ⟨#[102, 102, 102]⟩
def x_ffff : Str := ⟨#[102, 102, 102, 102]⟩
def PG0 : Plot := ⟨⟨x_main, [], [], [((x_f, x_), false), ((x_ff, x_), false), ((x_fff, x_), false), ((x_ffff, x_), false)]⟩ :: ([x_a, x_az, x_azz, x_b].map fun x => ⟨x, [], [], []⟩), [], [x_a, x_az, x_azz, x_b].map fun x => (x, x_deep)⟩
def fN : Nat → Str
  | 1 => x_f
  | 2 => x_ff
  | 3 => x_fff
  | _ => x_ffff
theorem smul_f {s : Ms} {k : Nat} (h1 : 1 ≤ k) (h2 : k ≤ 4) : smulW (.str x_f) (.int (k : Nat)) s = some (.str (fN k), s) := by
  have : k = 1 ∨ k = 2 ∨ k = 3 ∨ k = 4 := by omega
  rcases this with rfl | rfl | rfl | rfl <;> rfl
theorem great_sp {s : Ms} : Wp (m__law_great_right [] s) fun y => y.1 = .bl true ∧ Ex0 s y.2 := by
  refine wp_fn [none, none, none, none, none, none, none] rfl rfl ?_
  unfold bd__law_great_right
  refine wp_seq ?_
  have hr : (miR2 (mcons (mcon (.int 1)) (mcons (mcon (.int 5)) (mnil)))) [none, none, none, none, none, none, none] s = some (.rng 1 4, s) := rfl
  have hf : mflat (.rng 1 4) (mstep (.nm 5) (myes) (mtup (mcons (mop2 smulW (mcon (.str x_f)) (mvar 5)) (mcons (mcon (.str x_)) (mcons (mcon (.bl false)) (mnil))))) (mwipe [none, none, none, none, none, none, none] [5])) 100000 0 s = some (useV [((x_f, x_), false), ((x_ff, x_), false), ((x_fff, x_), false), ((x_ffff, x_), false)], s) := by
    have := flat_pure (it := .rng 1 4) (ws := rngL 1 4) (s := s) (st := mstep (.nm 5) (myes) (mtup (mcons (mop2 smulW (mcon (.str x_f)) (mvar 5)) (mcons (mcon (.str x_)) (mcons (mcon (.bl false)) (mnil))))) (mwipe [none, none, none, none, none, none, none] [5])) (fun w => match w with | .int i => [.tup [.str (fN i.toNat), .str x_, .bl false]] | _ => []) (by rw [rngL_len]; omega) gives_rng (by
      intro w hw
      obtain ⟨i, hi⟩ := List.getElem?_of_mem hw
      obtain ⟨h1, rfl⟩ := rngL_get hi
      have e : (1 : Int) + (i : Int) = ((1 + i : Nat) : Int) := by omega
      rw [e]
      unfold mstep
      simp only [Tg.asg, mwipe, lset_eq, ob_of, myes, cond_true, mtup, mcons, mop2, mcon, mvar, lget_eq, List.getElem?_cons_succ, List.getElem?_cons_zero, List.set_cons_succ, List.set_cons_zero, smul_f (s := s) (show 1 ≤ 1 + i by omega) (by omega), om_of, mnil, newT_of (show [Mv.str (fN (1 + i)), Mv.str x_, Mv.bl false].length ≤ 16777216 by simp)]
      rfl)
    rw [this]
    rfl
  simp only [sset, wp_om, mcall, mcons, wp_ob]
  refine wp_lc ?_
  rw [hr, wp_some, hf, wp_some]
  refine ⟨by simp [useV], ?_⟩
  simp only [wp_ob, wp_om, wp_some, wp_mvar, sset, sexp, sret, sif, spar, spar3, snx, mtB, mtst, mop1, mop2, mcall, mcons, mnil, mcon, mif, mtup, mlst, mand, mor, mnot, mandV, morV, mnotV, lset_eq, List.getElem?_cons_zero, List.getElem?_cons_succ, List.set_cons_zero, List.set_cons_succ, cond_true, cond_false, tup_of (items_ref Ms.get_push) (show (useV [((x_f, x_), false), ((x_ff, x_), false), ((x_fff, x_), false), ((x_ffff, x_), false)]).length ≤ 16777216 by simp [useV])]
  refine ⟨trivial, wp_seq ?_⟩
  generalize h1 : push s (.lst (useV [((x_f, x_), false), ((x_ff, x_), false), ((x_fff, x_), false), ((x_ffff, x_), false)])) = s1
  have x1 : Ex0 s s1 := h1 ▸ Ex0.push
  simp only [wp_ob, wp_om, wp_some, wp_mvar, sset, sexp, sret, sif, spar, spar3, snx, mtB, mtst, mop1, mop2, mcall, mcons, mnil, mcon, mif, mtup, mlst, mand, mor, mnot, mandV, morV, mnotV, lset_eq, List.getElem?_cons_zero, List.getElem?_cons_succ, List.set_cons_zero, List.set_cons_succ, cond_true, cond_false, newL_of (show [Mv.str x_a, .str x_az, .str x_azz, .str x_b].length ≤ 16777216 by simp)]
  refine ⟨trivial, wp_seq ?_⟩
  have g2 : (push s1 (.lst [Mv.str x_a, .str x_az, .str x_azz, .str x_b])).get s1.sz = some (.lst (strV [x_a, x_az, x_azz, x_b])) := Ms.get_push
  generalize h2 : push s1 (.lst [Mv.str x_a, .str x_az, .str x_azz, .str x_b]) = s2 at g2 ⊢
  have x2 : Ex0 s s2 := x1.trans (h2 ▸ Ex0.push)
  have l2 : s1.sz < s2.sz := by rw [← h2, push_sz]; omega
  simp only [wp_ob, wp_om, wp_some, wp_mvar, sset, sexp, sret, sif, spar, spar3, snx, mtB, mtst, mop1, mop2, mcall, mcons, mnil, mcon, mif, mtup, mlst, mand, mor, mnot, mandV, morV, mnotV, lset_eq, List.getElem?_cons_zero, List.getElem?_cons_succ, List.set_cons_zero, List.set_cons_succ, cond_true, cond_false, newT_of (show ([] : List Mv).length ≤ 16777216 by simp), newT_of (show [Mv.str x_main, .tup [], .tup [], .tup (useV [((x_f, x_), false), ((x_ff, x_), false), ((x_fff, x_), false), ((x_ffff, x_), false)])].length ≤ 16777216 by simp), newT_of (show [Mv.tup [Mv.str x_main, .tup [], .tup [], .tup (useV [((x_f, x_), false), ((x_ff, x_), false), ((x_fff, x_), false), ((x_ffff, x_), false)])]].length ≤ 16777216 by simp)]
  refine wp_lc (wp_S' ?_)
  simp only [wp_ob, wp_om, wp_some, wp_mvar, sset, sexp, sret, sif, spar, spar3, snx, mtB, mtst, mop1, mop2, mcall, mcons, mnil, mcon, mif, mtup, mlst, mand, mor, mnot, mandV, morV, mnotV, lset_eq, List.getElem?_cons_zero, List.getElem?_cons_succ, List.set_cons_zero, List.set_cons_succ, cond_true, cond_false]
  refine ⟨strV [x_a, x_az, x_azz, x_b], items_ref g2, fun it git => ?_⟩
  have hf2 : ∀ r6 : Me, (∀ w, lset r6 6 (some w) = lset r6 6 (some w)) → True := fun _ _ => trivial
  refine (wp_flat (strV [x_a, x_az, x_azz, x_b]) (fun i acc s' => s' = s2 ∧ acc = ([x_a, x_az, x_azz, x_b].take i).map fun x => PLib.mv ⟨x, [], [], []⟩) (fun i acc s' _ a => git s' (a.1 ▸ items_ref g2)) ?_ 100000 0 [] s2 (by simp [strV]) (by omega) ⟨rfl, rfl⟩).mono ?_
  · rintro i w acc s' hw ⟨rfl, rfl⟩
    have hi : i < 4 := by have := (List.getElem?_eq_some_iff.mp hw).1; simpa [strV] using this
    unfold strV at hw
    rw [List.getElem?_map] at hw
    rw [List.take_add_one]
    cases e : [x_a, x_az, x_azz, x_b][i]? with
    | none => rw [e] at hw; cases hw
    | some x =>
      rw [e] at hw; cases hw
      unfold mstep
      simp only [wp_ob, wp_om, wp_some, wp_mvar, sset, sexp, sret, sif, spar, spar3, snx, mtB, mtst, mop1, mop2, mcall, mcons, mnil, mcon, mif, mtup, mlst, mand, mor, mnot, mandV, morV, mnotV, lset_eq, List.getElem?_cons_zero, List.getElem?_cons_succ, List.set_cons_zero, List.set_cons_succ, cond_true, cond_false, mwipe, Tg.asg, myes, newT_of (show ([] : List Mv).length ≤ 16777216 by simp), newT_of (show [Mv.str x, .tup [], .tup [], .tup []].length ≤ 16777216 by simp)]
      refine ⟨trivial, ?_⟩
      simp [PLib.mv, strV, pairV, useV]
  rintro ⟨acc, s3⟩ ⟨e1, e2⟩
  simp only [List.nil_append] at e1 e2
  subst e1
  subst e2
  refine ⟨by simp [strV], ?_⟩
  have tk : ([x_a, x_az, x_azz, x_b].take (strV [x_a, x_az, x_azz, x_b]).length) = [x_a, x_az, x_azz, x_b] := by simp [strV]
  rw [tk]
  simp only [wp_ob, wp_om, wp_some, wp_mvar, sset, sexp, sret, sif, spar, spar3, snx, mtB, mtst, mop1, mop2, mcall, mcons, mnil, mcon, mif, mtup, mlst, mand, mor, mnot, mandV, morV, mnotV, lset_eq, List.getElem?_cons_zero, List.getElem?_cons_succ, List.set_cons_zero, List.set_cons_succ, cond_true, cond_false, tup_of (items_ref Ms.get_push) (show (([x_a, x_az, x_azz, x_b].map fun x => PLib.mv ⟨x, [], [], []⟩)).length ≤ 16777216 by simp), addW, newT_of (show ([Mv.tup [Mv.str x_main, .tup [], .tup [], .tup (useV [((x_f, x_), false), ((x_ff, x_), false), ((x_fff, x_), false), ((x_ffff, x_), false)])]] ++ ([x_a, x_az, x_azz, x_b].map fun x => PLib.mv ⟨x, [], [], []⟩)).length ≤ 16777216 by simp)]
  refine ⟨trivial, wp_seq ?_⟩
  have g4 := (Ex0.push (o := .lst ([x_a, x_az, x_azz, x_b].map fun x => PLib.mv ⟨x, [], [], []⟩))).at l2 g2
  generalize h4 : push s3 (.lst ([x_a, x_az, x_azz, x_b].map fun x => PLib.mv ⟨x, [], [], []⟩)) = s4 at g4 ⊢
  have x4 : Ex0 s s4 := x2.trans (h4 ▸ Ex0.push)
  have l4 : s1.sz < s4.sz := by rw [← h4, push_sz]; omega
  simp only [wp_ob, wp_om, wp_some, wp_mvar, sset, sexp, sret, sif, spar, spar3, snx, mtB, mtst, mop1, mop2, mcall, mcons, mnil, mcon, mif, mtup, mlst, mand, mor, mnot, mandV, morV, mnotV, lset_eq, List.getElem?_cons_zero, List.getElem?_cons_succ, List.set_cons_zero, List.set_cons_succ, cond_true, cond_false, newT_of (show ([] : List Mv).length ≤ 16777216 by simp)]
  refine wp_lc (wp_S' ?_)
  simp only [wp_ob, wp_om, wp_some, wp_mvar, sset, sexp, sret, sif, spar, spar3, snx, mtB, mtst, mop1, mop2, mcall, mcons, mnil, mcon, mif, mtup, mlst, mand, mor, mnot, mandV, morV, mnotV, lset_eq, List.getElem?_cons_zero, List.getElem?_cons_succ, List.set_cons_zero, List.set_cons_succ, cond_true, cond_false]
  refine ⟨strV [x_a, x_az, x_azz, x_b], items_ref g4, fun it git => ?_⟩
  refine (wp_flat (strV [x_a, x_az, x_azz, x_b]) (fun i acc s' => s' = s4 ∧ acc = ([x_a, x_az, x_azz, x_b].take i).map fun x => .tup [.str x, .str x_deep]) (fun i acc s' _ a => git s' (a.1 ▸ items_ref g4)) ?_ 100000 0 [] s4 (by simp [strV]) (by omega) ⟨rfl, rfl⟩).mono ?_
  · rintro i w acc s' hw ⟨rfl, rfl⟩
    unfold strV at hw
    rw [List.getElem?_map] at hw
    rw [List.take_add_one]
    cases e : [x_a, x_az, x_azz, x_b][i]? with
    | none => rw [e] at hw; cases hw
    | some x =>
      rw [e] at hw; cases hw
      unfold mstep
      simp only [wp_ob, wp_om, wp_some, wp_mvar, sset, sexp, sret, sif, spar, spar3, snx, mtB, mtst, mop1, mop2, mcall, mcons, mnil, mcon, mif, mtup, mlst, mand, mor, mnot, mandV, morV, mnotV, lset_eq, List.getElem?_cons_zero, List.getElem?_cons_succ, List.set_cons_zero, List.set_cons_succ, cond_true, cond_false, mwipe, Tg.asg, myes, newT_of (show [Mv.str x, .str x_deep].length ≤ 16777216 by simp)]
      refine ⟨trivial, ?_⟩
      simp
  rintro ⟨acc, s5⟩ ⟨e1, e2⟩
  simp only [List.nil_append] at e1 e2
  subst e1
  subst e2
  refine ⟨by simp [strV], ?_⟩
  rw [tk]
  simp only [wp_ob, wp_om, wp_some, wp_mvar, sset, sexp, sret, sif, spar, spar3, snx, mtB, mtst, mop1, mop2, mcall, mcons, mnil, mcon, mif, mtup, mlst, mand, mor, mnot, mandV, morV, mnotV, lset_eq, List.getElem?_cons_zero, List.getElem?_cons_succ, List.set_cons_zero, List.set_cons_succ, cond_true, cond_false, tup_of (items_ref Ms.get_push) (show (([x_a, x_az, x_azz, x_b].map fun x => Mv.tup [.str x, .str x_deep])).length ≤ 16777216 by simp)]
  have hp : ∀ s', newT [.tup ([Mv.tup [Mv.str x_main, .tup [], .tup [], .tup (useV [((x_f, x_), false), ((x_ff, x_), false), ((x_fff, x_), false), ((x_ffff, x_), false)])]] ++ ([x_a, x_az, x_azz, x_b].map fun x => PLib.mv ⟨x, [], [], []⟩)), .tup [], .tup ([x_a, x_az, x_azz, x_b].map fun x => Mv.tup [.str x, .str x_deep])] s' = some (PG0.mv, s') := fun s' => by
    rw [newT_of (by simp)]
    rfl
  simp only [wp_ob, wp_om, wp_some, wp_mvar, sset, sexp, sret, sif, spar, spar3, snx, mtB, mtst, mop1, mop2, mcall, mcons, mnil, mcon, mif, mtup, mlst, mand, mor, mnot, mandV, morV, mnotV, lset_eq, List.getElem?_cons_zero, List.getElem?_cons_succ, List.set_cons_zero, List.set_cons_succ, cond_true, cond_false, hp]
  refine ⟨trivial, wp_seq ?_⟩
  generalize h6 : push s5 (.lst ([x_a, x_az, x_azz, x_b].map fun x => Mv.tup [.str x, .str x_deep])) = s6
  have x6 : Ex0 s s6 := x4.trans (h6 ▸ Ex0.push)
  simp only [wp_ob, wp_om, wp_some, wp_mvar, sset, sexp, sret, sif, spar, spar3, snx, mtB, mtst, mop1, mop2, mcall, mcons, mnil, mcon, mif, mtup, mlst, mand, mor, mnot, mandV, morV, mnotV, lset_eq, List.getElem?_cons_zero, List.getElem?_cons_succ, List.set_cons_zero, List.set_cons_succ, cond_true, cond_false, newT_of (show [Mv.str x_open, .int 3].length ≤ 16777216 by simp)]
  have q1 : Says PG0 s6 (.tup [.str x_open, .int 3]) true := says_oc (P := PG0) (s := s6) (x := x_open) (i := 3) (by simp)
  refine (q1 s6 _ Ex0.refl (rd_plot PG0)).mono fun y hy => ?_
  obtain ⟨w, s7⟩ := y
  obtain ⟨e7, x7⟩ := hy
  simp only at e7 x7
  subst e7
  simp only [wp_ob, wp_om, wp_some, wp_mvar, sset, sexp, sret, sif, spar, spar3, snx, mtB, mtst, mop1, mop2, mcall, mcons, mnil, mcon, mif, mtup, mlst, mand, mor, mnot, mandV, morV, mnotV, lset_eq, List.getElem?_cons_zero, List.getElem?_cons_succ, List.set_cons_zero, List.set_cons_succ, cond_true, cond_false, newT_of (show [Mv.str x_close, .int 4].length ≤ 16777216 by simp)]
  have q2 : Says PG0 s7 (.tup [.str x_close, .int 4]) false := says_oc (P := PG0) (s := s7) (x := x_close) (i := 4) (by simp)
  refine (q2 s7 _ Ex0.refl (rd_plot PG0)).mono fun y hy => ?_
  obtain ⟨w, s8⟩ := y
  obtain ⟨e8, x8⟩ := hy
  simp only at e8 x8
  subst e8
  simp only [wp_ob, wp_om, wp_some, wp_mvar, sset, sexp, sret, sif, spar, spar3, snx, mtB, mtst, mop1, mop2, mcall, mcons, mnil, mcon, mif, mtup, mlst, mand, mor, mnot, mandV, morV, mnotV, lset_eq, List.getElem?_cons_zero, List.getElem?_cons_succ, List.set_cons_zero, List.set_cons_succ, cond_true, cond_false, newT_of (show [Mv.str x_call, .str x_main, .int 3].length ≤ 16777216 by simp)]
  have q3 : Says PG0 s8 (.tup [.str x_call, .str x_main, .int 3]) true := says_call (P := PG0) (s := s8) (x := x_main) (i := 3) (by decide) (by decide) (by decide +kernel)
  refine (q3 s8 _ Ex0.refl (rd_plot PG0)).mono fun y hy => ?_
  obtain ⟨w, s9⟩ := y
  obtain ⟨e9, x9⟩ := hy
  simp only at e9 x9
  subst e9
  simp only [wp_ob, wp_om, wp_some, wp_mvar, sset, sexp, sret, sif, spar, spar3, snx, mtB, mtst, mop1, mop2, mcall, mcons, mnil, mcon, mif, mtup, mlst, mand, mor, mnot, mandV, morV, mnotV, lset_eq, List.getElem?_cons_zero, List.getElem?_cons_succ, List.set_cons_zero, List.set_cons_succ, cond_true, cond_false, newL_of (show [Mv.bl true, .bl false, .bl true].length ≤ 16777216 by simp)]
  refine ⟨trivial, ?_⟩
  have g9 : (push s9 (.lst [Mv.bl true, .bl false, .bl true])).get s9.sz = some (.lst [Mv.bl true, .bl false, .bl true]) := Ms.get_push
  have l9 : s9.sz < (push s9 (.lst [Mv.bl true, .bl false, .bl true])).sz := by rw [push_sz]; omega
  generalize hA : push s9 (.lst [Mv.bl true, .bl false, .bl true]) = sA at g9 l9 ⊢
  have xA : Ex0 s sA := (((x6.trans x7).trans x8).trans x9).trans (hA ▸ Ex0.push)
  simp only [wp_ob, wp_om, wp_some, wp_mvar, sset, sexp, sret, sif, spar, spar3, snx, mtB, mtst, mop1, mop2, mcall, mcons, mnil, mcon, mif, mtup, mlst, mand, mor, mnot, mandV, morV, mnotV, lset_eq, List.getElem?_cons_zero, List.getElem?_cons_succ, List.set_cons_zero, List.set_cons_succ, cond_true, cond_false, newT_of (show [Mv.str x_call, .str x_main, .int 4].length ≤ 16777216 by simp)]
  have q4 : Says PG0 sA (.tup [.str x_call, .str x_main, .int 4]) false := says_call (P := PG0) (s := sA) (x := x_main) (i := 4) (by decide) (by decide) (by decide +kernel)
  refine (q4 sA _ Ex0.refl (rd_plot PG0)).mono fun y hy => ?_
  obtain ⟨w, sB⟩ := y
  obtain ⟨eB, xB⟩ := hy
  simp only at eB xB
  subst eB
  simp only [wp_ob, wp_om, wp_some, wp_mvar, sset, sexp, sret, sif, spar, spar3, snx, mtB, mtst, mop1, mop2, mcall, mcons, mnil, mcon, mif, mtup, mlst, mand, mor, mnot, mandV, morV, mnotV, lset_eq, List.getElem?_cons_zero, List.getElem?_cons_succ, List.set_cons_zero, List.set_cons_succ, cond_true, cond_false, newL_of (show [Mv.bl false].length ≤ 16777216 by simp)]
  have gB := (Ex0.push (o := .lst [Mv.bl false])).at (Nat.lt_of_lt_of_le l9 xB.sz) (xB.at l9 g9)
  have gC : (push sB (.lst [Mv.bl false])).get sB.sz = some (.lst [Mv.bl false]) := Ms.get_push
  generalize hC : push sB (.lst [Mv.bl false]) = sC at gB gC ⊢
  have xC : Ex0 s sC := (xA.trans xB).trans (hC ▸ Ex0.push)
  simp only [wp_ob, wp_om, wp_some, wp_mvar, sset, sexp, sret, sif, spar, spar3, snx, mtB, mtst, mop1, mop2, mcall, mcons, mnil, mcon, mif, mtup, mlst, mand, mor, mnot, mandV, morV, mnotV, lset_eq, List.getElem?_cons_zero, List.getElem?_cons_succ, List.set_cons_zero, List.set_cons_succ, cond_true, cond_false, cat_l gB gC (by simp), newL_of (show [Mv.bl true, .bl false, .bl true, .bl false].length ≤ 16777216 by simp)]
  have hS : m__law_same [.ref sC.sz, .ref (sC.sz + 1)] (push (push sC (.lst ([Mv.bl true, .bl false, .bl true] ++ [Mv.bl false]))) (.lst [Mv.bl true, .bl false, .bl true, .bl false])) = some (.bl true, push (push sC (.lst ([Mv.bl true, .bl false, .bl true] ++ [Mv.bl false]))) (.lst [Mv.bl true, .bl false, .bl true, .bl false])) := same_4 (Ex0.push.at (by rw [push_sz]; omega) Ms.get_push) (by rw [show sC.sz + 1 = (push sC (.lst ([Mv.bl true, .bl false, .bl true] ++ [Mv.bl false]))).sz from rfl]; exact Ms.get_push)
  simp only [wp_ob, wp_om, wp_some, wp_mvar, sset, sexp, sret, sif, spar, spar3, snx, mtB, mtst, mop1, mop2, mcall, mcons, mnil, mcon, mif, mtup, mlst, mand, mor, mnot, mandV, morV, mnotV, lset_eq, List.getElem?_cons_zero, List.getElem?_cons_succ, List.set_cons_zero, List.set_cons_succ, cond_true, cond_false, push_sz, hS]
  exact ⟨_, rfl, rfl, (xC.trans Ex0.push).trans Ex0.push⟩

end
section
theorem plot0 {P : Plot} {s : Ms} : ixA P.mv (.int 0) s = some (.tup (P.libs.map PLib.mv), s) := rfl
theorem plot2 {P : Plot} {s : Ms} : ixA P.mv (.int 2) s = some (.tup (pairV P.doors), s) := rfl
theorem lib0 {l : PLib} {s : Ms} : ixA l.mv (.int 0) s = some (.str l.own, s) := rfl
theorem lib3 {l : PLib} {s : Ms} : ixA l.mv (.int 3) s = some (.tup (useV l.uses), s) := rfl
theorem nT {ws : List Mv} {s : Ms} (h : ws.length ≤ 4) : newT ws s = some (.tup ws, s) := newT_of (by omega)
/-- the look at all matters of a list -/
theorem inner_sp {P : Plot} {b : Nat} {o1 o3 o4 o5 o6 o7 o8 o11 o12 o13 o14 : Option Mv} {n : Nat} {ws : List Mv} {d : Bool} {s : Ms} (hp : Pu 7 P.mv) (hl : ws.length ≤ 1000) (hn : n < s.sz) (hg : s.get n = some (.lst ws)) (hw : ∀ w ∈ ws, Says P s w d) :
    Wp ((sfor (miS (mvar 9)) (.nm 11) (sseq (sset 12 (mlst (mcons (mcall m_is_step (mcons (mvar 2) (mcons (mvar 11) (mnil)))) (mcons (mcall m_is_step (mkw [1, 0] (mcons (mvar 11) (mcons (mcall (m__law_lists 8) (mcons (mvar 2) (mnil))) (mnil))))) (mnil)))))
  (sif (mnot (mtst (mcall m__law_same (mcons (mvar 12) (mcons (mlst (mcons (mvar 10) (mcons (mvar 10) (mnil)))) (mnil)))))) (sret (mcon (.bl false))) (snx)))) [some (.ref b), o1, some P.mv, o3, o4, o5, o6, o7, o8, some (.ref n), some (.bl d), o11, o12, o13, o14] s) fun x => x.1 = .nx ∧ (∃ p11 p12, x.2.1 = [some (.ref b), o1, some P.mv, o3, o4, o5, o6, o7, o8, some (.ref n), some (.bl d), p11, p12, o13, o14]) ∧ Ex0 s x.2.2 := by
  refine wp_for (wp_S' ?_)
  simp only [wp_ob, wp_om, wp_some, wp_mvar, sset, sexp, sret, sif, spar, spar3, snx, mtB, mtst, mop1, mop2, mcall, mcons, mnil, mcon, mif, mtup, mlst, mand, mor, mnot, mandV, morV, mnotV, lset_eq, List.getElem?_cons_zero, List.getElem?_cons_succ, List.set_cons_zero, List.set_cons_succ, cond_true, cond_false]
  refine ⟨ws, items_ref hg, fun it git => ?_⟩
  refine (wp_loop ws (fun i r s' => (∃ p11 p12, r = [some (.ref b), o1, some P.mv, o3, o4, o5, o6, o7, o8, some (.ref n), some (.bl d), p11, p12, o13, o14]) ∧ Ex0 s s') (fun i r s' _ a => git s' (items_ref (a.2.at hn hg))) ?_ 100000 0 _ s (by omega) (by omega) ⟨⟨_, _, rfl⟩, Ex0.refl⟩).mono ?_
  · rintro i w r s' hwi ⟨⟨p11, p12, rfl⟩, x1⟩
    refine ⟨_, rfl, wp_seq ?_⟩
    have sw := (hw w (List.mem_of_getElem? hwi)).ex0 x1
    simp only [wp_ob, wp_om, wp_some, wp_mvar, sset, sexp, sret, sif, spar, spar3, snx, mtB, mtst, mop1, mop2, mcall, mcons, mnil, mcon, mif, mtup, mlst, mand, mor, mnot, mandV, morV, mnotV, lset_eq, List.getElem?_cons_zero, List.getElem?_cons_succ, List.set_cons_zero, List.set_cons_succ, cond_true, cond_false]
    refine (sw s' _ Ex0.refl (rd_plot P)).mono fun y hy => ?_
    obtain ⟨v, s2⟩ := y
    obtain ⟨e2, x2⟩ := hy
    simp only at e2 x2
    subst e2
    simp only [wp_ob, wp_om, wp_some, wp_mvar, sset, sexp, sret, sif, spar, spar3, snx, mtB, mtst, mop1, mop2, mcall, mcons, mnil, mcon, mif, mtup, mlst, mand, mor, mnot, mandV, morV, mnotV, lset_eq, List.getElem?_cons_zero, List.getElem?_cons_succ, List.set_cons_zero, List.set_cons_succ, cond_true, cond_false, mkw]
    refine (lists_sp 7 P.mv s2 hp).mono fun y hy => ?_
    obtain ⟨v, s3⟩ := y
    obtain ⟨rd, x3⟩ := hy
    simp only at rd x3
    have kp : kpick [1, 0] [w, v] = [v, w] := rfl
    simp only [wp_ob, wp_om, wp_some, wp_mvar, sset, sexp, sret, sif, spar, spar3, snx, mtB, mtst, mop1, mop2, mcall, mcons, mnil, mcon, mif, mtup, mlst, mand, mor, mnot, mandV, morV, mnotV, lset_eq, List.getElem?_cons_zero, List.getElem?_cons_succ, List.set_cons_zero, List.set_cons_succ, cond_true, cond_false, kp]
    refine ((sw.ex0 (x2.trans x3)) s3 _ Ex0.refl rd).mono fun y hy => ?_
    obtain ⟨v', s4⟩ := y
    obtain ⟨e4, x4⟩ := hy
    simp only at e4 x4
    subst e4
    simp only [wp_ob, wp_om, wp_some, wp_mvar, sset, sexp, sret, sif, spar, spar3, snx, mtB, mtst, mop1, mop2, mcall, mcons, mnil, mcon, mif, mtup, mlst, mand, mor, mnot, mandV, morV, mnotV, lset_eq, List.getElem?_cons_zero, List.getElem?_cons_succ, List.set_cons_zero, List.set_cons_succ, cond_true, cond_false, newL_of (show [Mv.bl d, .bl d].length ≤ 16777216 by simp)]
    refine ⟨trivial, ?_⟩
    have hS : m__law_same [.ref s4.sz, .ref (push s4 (.lst [Mv.bl d, .bl d])).sz] (push (push s4 (.lst [Mv.bl d, .bl d])) (.lst [Mv.bl d, .bl d])) = some (.bl true, push (push s4 (.lst [Mv.bl d, .bl d])) (.lst [Mv.bl d, .bl d])) := same_bl (Ex0.push.at (by simp only [push_sz]; omega) Ms.get_push) Ms.get_push
    simp only [wp_ob, wp_om, wp_some, wp_mvar, sset, sexp, sret, sif, spar, spar3, snx, mtB, mtst, mop1, mop2, mcall, mcons, mnil, mcon, mif, mtup, mlst, mand, mor, mnot, mandV, morV, mnotV, lset_eq, List.getElem?_cons_zero, List.getElem?_cons_succ, List.set_cons_zero, List.set_cons_succ, cond_true, cond_false, newL_of (show [Mv.bl d, .bl d].length ≤ 16777216 by simp), hS, tru, Bool.not_true]
    exact ⟨trivial, ⟨_, _, rfl⟩, (((x1.trans x2).trans x3).trans x4).trans (Ex0.push.trans Ex0.push)⟩
  · rintro ⟨fl, r, s'⟩ ⟨e, h1, h2⟩
    exact ⟨e, h1, h2⟩
theorem turn_sp {b m : Nat} {s : Ms} {B : Fs} {o1 o2 o3 o4 o5 o6 o7 o8 o9 o10 o11 o12 o13 o14 : Option Mv} (h : Bx' s b m) (hm : m + 700 < 1000000) (hB : B = (sseq (spar 2 3 (mcons (mcall m__law_program (mcons (mvar 0) (mcons (mcon (.int 4)) (mcons (mcon (.int 4)) (mnil))))) (mcons (mlst (mnil)) (mnil))))
  (sseq (sfor (miR1 (mcons (mcall lenW (mcons (mop2 ixA (mvar 2) (mcon (.int 2))) (mnil))) (mnil))) (.nm 4) (sset 3 (mop2 addW (mvar 3) (mlst (mcons (mtup (mcons (mcon (.str x_open)) (mcons (mvar 4) (mnil)))) (mcons (mtup (mcons (mcon (.str x_close)) (mcons (mvar 4) (mnil)))) (mnil)))))))
  (sseq (sfor (miS (mop2 ixA (mvar 2) (mcon (.int 0)))) (.nm 5) (sset 3 (mop2 addW (mvar 3) (mlc (miR1 (mcons (mcall lenW (mcons (mop2 ixA (mvar 5) (mcon (.int 3))) (mnil))) (mnil))) (.nm 13) (myes) (mtup (mcons (mcon (.str x_call)) (mcons (mop2 ixA (mvar 5) (mcon (.int 0))) (mcons (mvar 13) (mnil))))) [13]))))
  (sseq (spar 6 7 (mcons (mcall lenW (mcons (mop2 ixA (mvar 2) (mcon (.int 2))) (mnil))) (mcons (mcall m__law_pick (mcons (mvar 0) (mcons (mop2 ixA (mvar 2) (mcon (.int 0))) (mnil)))) (mnil))))
  (sseq (sset 8 (mlst (mcons (mtup (mcons (mcon (.str x_open)) (mcons (mvar 6) (mnil)))) (mcons (mtup (mcons (mcon (.str x_close)) (mcons (mop1 negW (mcon (.int 1))) (mnil)))) (mcons (mtup (mcons (mcon (.str x_open)) (mcons (mcon (.bl true)) (mnil)))) (mcons (mtup (mcons (mcon (.str x_open)) (mnil))) (mcons (mtup (mcons (mcon (.str x_open)) (mcons (mcon (.int 0)) (mcons (mcon (.int 0)) (mnil))))) (mcons (mtup (mcons (mcon (.str x_call)) (mcons (mop2 ixA (mvar 7) (mcon (.int 0))) (mcons (mcall lenW (mcons (mop2 ixA (mvar 7) (mcon (.int 3))) (mnil))) (mnil))))) (mnil)))))))))
  (sseq (sset 8 (mop2 addW (mvar 8) (mlst (mcons (mtup (mcons (mcon (.str x_call)) (mcons (mop2 ixA (mvar 7) (mcon (.int 0))) (mcons (mop1 negW (mcon (.int 1))) (mnil))))) (mcons (mtup (mcons (mcon (.str x_call)) (mcons (mop2 ixA (mvar 7) (mcon (.int 0))) (mcons (mcon (.bl false)) (mnil))))) (mcons (mtup (mcons (mcon (.str x_call)) (mcons (mcon (.str x_nobody)) (mcons (mcon (.int 0)) (mnil))))) (mcons (mtup (mcons (mcon (.str x_call)) (mcons (mcon (.int 0)) (mcons (mcon (.int 0)) (mnil))))) (mnil))))))))
  (sseq (sset 8 (mop2 addW (mvar 8) (mlst (mcons (mtup (mcons (mcon (.str x_call)) (mcons (mop2 ixA (mvar 7) (mcon (.int 0))) (mnil)))) (mcons (mtup (mcons (mcon (.str x_shut)) (mcons (mcon (.int 0)) (mnil)))) (mcons (mtup (mnil)) (mcons (mcon .non) (mcons (mcon (.str x_open)) (mcons (mlst (mcons (mcon (.str x_open)) (mcons (mcon (.int 0)) (mnil)))) (mcons (mcon (.int 0)) (mcons (mtup (mcons (mcon (.str x_call)) (mcons (mtup (mcons (mop2 ixA (mvar 7) (mcon (.int 0))) (mnil))) (mcons (mcon (.int 0)) (mnil))))) (mnil))))))))))))
  (sseq (sset 8 (mop2 addW (mvar 8) (mlst (mcons (mtup (mcons (mcon .non) (mcons (mcon (.int 0)) (mnil)))) (mcons (mtup (mcons (mcon (.str x_open)) (mcons (mcon (.str x_0)) (mnil)))) (mcons (mtup (mcons (mtup (mcons (mcon (.str x_open)) (mcons (mcon (.int 0)) (mnil)))) (mnil))) (mnil)))))))
  (sseq (sset 8 (mop2 addW (mop2 addW (mvar 8) (mlc (miS (mvar 3)) (.nm 14) (myes) (mcall listW (mcons (mvar 14) (mnil))) [14])) (mlc (miS (mvar 3)) (.nm 14) (myes) (mop2 addW (mvar 14) (mtup (mcons (mcon (.int 0)) (mnil)))) [14])))
  (sfor (miS (mtup (mcons (mtup (mcons (mvar 3) (mcons (mcon (.bl true)) (mnil)))) (mcons (mtup (mcons (mvar 8) (mcons (mcon (.bl false)) (mnil)))) (mnil))))) (.tp [9, 10]) (sfor (miS (mvar 9)) (.nm 11) (sseq (sset 12 (mlst (mcons (mcall m_is_step (mcons (mvar 2) (mcons (mvar 11) (mnil)))) (mcons (mcall m_is_step (mkw [1, 0] (mcons (mvar 11) (mcons (mcall (m__law_lists 8) (mcons (mvar 2) (mnil))) (mnil))))) (mnil)))))
  (sif (mnot (mtst (mcall m__law_same (mcons (mvar 12) (mcons (mlst (mcons (mvar 10) (mcons (mvar 10) (mnil)))) (mnil)))))) (sret (mcon (.bl false))) (snx))))))))))))))) : Wp (B [some (.ref b), o1, o2, o3, o4, o5, o6, o7, o8, o9, o10, o11, o12, o13, o14] s) fun x => x.1 = .nx ∧ (∃ p1 p2 p3 p4 p5 p6 p7 p8 p9 p10 p11 p12 p13 p14, x.2.1 = [some (.ref b), p1, p2, p3, p4, p5, p6, p7, p8, p9, p10, p11, p12, p13, p14]) ∧ Bx' x.2.2 b (m + 700) := by
  subst hB
  refine wp_seq ?_
  simp only [wp_ob, wp_om, wp_some, wp_mvar, sset, sexp, sret, sif, spar, spar3, snx, mtB, mtst, mop1, mop2, mcall, mcons, mnil, mcon, mif, mtup, mlst, mand, mor, mnot, mandV, morV, mnotV, lset_eq, List.getElem?_cons_zero, List.getElem?_cons_succ, List.set_cons_zero, List.set_cons_succ, cond_true, cond_false]
  refine (program_sp (most := 4) (gates := 4) h (by omega) (by omega) (by omega) (by omega) (by omega)).mono fun x hx => ?_
  obtain ⟨w, s2⟩ := x
  obtain ⟨P, e, ok, x2, B2⟩ := hx
  simp only at e ok x2 B2
  subst e
  have lt := h.lt
  have lt2 := B2.lt
  have pu : Pu 7 P.mv := (pu_plot ok (by omega) (by omega)).up (by omega)
  have pl : P.libs.length ≤ 5 := by have := ok.len; unfold Plot.folk at this; rw [List.length_map] at this; omega
  have pd : P.doors.length ≤ 4 := ok.dlen
  have pv : (pairV P.doors).length = P.doors.length := by simp [pairV]
  simp only [wp_ob, wp_om, wp_some, wp_mvar, sset, sexp, sret, sif, spar, spar3, snx, mtB, mtst, mop1, mop2, mcall, mcons, mnil, mcon, mif, mtup, mlst, mand, mor, mnot, mandV, morV, mnotV, lset_eq, List.getElem?_cons_zero, List.getElem?_cons_succ, List.set_cons_zero, List.set_cons_succ, cond_true, cond_false, newL_of (show ([] : List Mv).length ≤ 16777216 by decide)]
  refine ⟨trivial, wp_seq ?_⟩
  refine wp_for (wp_R1 ?_)
  simp only [wp_ob, wp_om, wp_some, wp_mvar, sset, sexp, sret, sif, spar, spar3, snx, mtB, mtst, mop1, mop2, mcall, mcons, mnil, mcon, mif, mtup, mlst, mand, mor, mnot, mandV, morV, mnotV, lset_eq, List.getElem?_cons_zero, List.getElem?_cons_succ, List.set_cons_zero, List.set_cons_succ, cond_true, cond_false, plot2, lenT]
  refine ⟨_, rfl, okI_of (by omega) (by omega), ?_⟩
  refine (wp_loop (rngL 0 ((pairV P.doors).length : Int).toNat) (fun i r s' => ∃ p4 n ws, r = [some (.ref b), o1, some P.mv, some (.ref n), p4, o5, o6, o7, o8, o9, o10, o11, o12, o13, o14] ∧ s2.sz ≤ n ∧ n < s'.sz ∧ s'.get n = some (.lst ws) ∧ (∀ w ∈ ws, Strd P w) ∧ ws.length ≤ 2 * i ∧ Ex0 s2 s') (fun i r s' _ _ => gives_rng) ?_ 100000 0 _ _ (by rw [rngL_len]; omega) (by omega) ⟨_, _, _, rfl, Nat.le_refl _, by simp only [push_sz]; omega, Ms.get_push, by simp, by simp, Ex0.push⟩).mono ?_
  · rintro i w r s' hw ⟨p4, n, ws, rfl, n1, n2, g, hs, hl, xx⟩
    obtain ⟨hi, rfl⟩ := rngL_get hw
    have hi' : i < P.doors.length := by omega
    refine ⟨_, rfl, ?_⟩
    have ei : (0 : Int) + (i : Int) = (i : Int) := by omega
    rw [ei]
    have c : addW (.ref n) (.ref s'.sz) (push s' (.lst [Mv.tup [.str x_open, .int (i : Int)], .tup [.str x_close, .int (i : Int)]])) = some (.ref (push s' (.lst [Mv.tup [.str x_open, .int (i : Int)], .tup [.str x_close, .int (i : Int)]])).sz, push (push s' (.lst [Mv.tup [.str x_open, .int (i : Int)], .tup [.str x_close, .int (i : Int)]])) (.lst (ws ++ [Mv.tup [.str x_open, .int (i : Int)], .tup [.str x_close, .int (i : Int)]]))) := cat_l (Ex0.push.at n2 g) Ms.get_push (by simp; omega)
    simp only [wp_ob, wp_om, wp_some, wp_mvar, sset, sexp, sret, sif, spar, spar3, snx, mtB, mtst, mop1, mop2, mcall, mcons, mnil, mcon, mif, mtup, mlst, mand, mor, mnot, mandV, morV, mnotV, lset_eq, List.getElem?_cons_zero, List.getElem?_cons_succ, List.set_cons_zero, List.set_cons_succ, cond_true, cond_false, nT (show [Mv.str x_open, .int (i : Int)].length ≤ 4 by simp), nT (show [Mv.str x_close, .int (i : Int)].length ≤ 4 by simp), newL_of (show [Mv.tup [.str x_open, .int (i : Int)], .tup [.str x_close, .int (i : Int)]].length ≤ 16777216 by simp), c]
    refine ⟨trivial, _, _, _, rfl, by simp only [push_sz]; omega, by simp only [push_sz]; omega, Ms.get_push, ?_, by simp; omega, xx.trans (Ex0.push.trans Ex0.push)⟩
    intro w hw
    rcases List.mem_append.mp hw with hw | hw
    · exact hs w hw
    · simp only [List.mem_cons, List.not_mem_nil, or_false] at hw
      rcases hw with rfl | rfl
      · exact .oc (by simp) hi'
      · exact .oc (by simp) hi'
  rintro ⟨fl, r, s3⟩ ⟨e, p4, n, ws, e1, n1, n2, g, hs, hl, x3⟩
  simp only at e e1 n2 g x3
  subst e e1
  rw [rngL_len] at hl
  refine ⟨rfl, wp_seq ?_⟩
  refine wp_for (wp_S' ?_)
  simp only [wp_ob, wp_om, wp_some, wp_mvar, sset, sexp, sret, sif, spar, spar3, snx, mtB, mtst, mop1, mop2, mcall, mcons, mnil, mcon, mif, mtup, mlst, mand, mor, mnot, mandV, morV, mnotV, lset_eq, List.getElem?_cons_zero, List.getElem?_cons_succ, List.set_cons_zero, List.set_cons_succ, cond_true, cond_false, plot0]
  refine ⟨P.libs.map PLib.mv, rfl, fun it git => ?_⟩
  refine (wp_loop (P.libs.map PLib.mv) (fun i r s' => ∃ p5 n ws, r = [some (.ref b), o1, some P.mv, some (.ref n), p4, p5, o6, o7, o8, o9, o10, o11, o12, o13, o14] ∧ s2.sz ≤ n ∧ n < s'.sz ∧ s'.get n = some (.lst ws) ∧ (∀ w ∈ ws, Strd P w) ∧ ws.length ≤ 8 + 3 * i ∧ Ex0 s2 s') (fun i r s' _ _ => git s' rfl) ?_ 100000 0 _ _ (by simp; omega) (by omega) ⟨_, _, _, rfl, n1, n2, g, hs, by omega, x3⟩).mono ?_
  · rintro i w r s' hw ⟨p5, n, ws, rfl, n1, n2, g, hs, hl, xx⟩
    have hi : i < P.libs.length := by have := (List.getElem?_eq_some_iff.mp hw).1; simpa using this
    rw [List.getElem?_map, List.getElem?_eq_getElem hi] at hw
    cases hw
    have lm : P.libs[i] ∈ P.libs := List.getElem_mem hi
    generalize P.libs[i] = l at lm
    have lu : l.uses.length ≤ 3 := (ok.libs l lm).ul
    have uv : (useV l.uses).length = l.uses.length := by simp [useV]
    refine ⟨_, rfl, ?_⟩
    simp only [wp_ob, wp_om, wp_some, wp_mvar, sset, sexp, sret, sif, spar, spar3, snx, mtB, mtst, mop1, mop2, mcall, mcons, mnil, mcon, mif, mtup, mlst, mand, mor, mnot, mandV, morV, mnotV, lset_eq, List.getElem?_cons_zero, List.getElem?_cons_succ, List.set_cons_zero, List.set_cons_succ, cond_true, cond_false]
    refine wp_lc (wp_R1 ?_)
    simp only [wp_ob, wp_om, wp_some, wp_mvar, sset, sexp, sret, sif, spar, spar3, snx, mtB, mtst, mop1, mop2, mcall, mcons, mnil, mcon, mif, mtup, mlst, mand, mor, mnot, mandV, morV, mnotV, lset_eq, List.getElem?_cons_zero, List.getElem?_cons_succ, List.set_cons_zero, List.set_cons_succ, cond_true, cond_false, lib3, lenT]
    refine ⟨_, rfl, okI_of (by omega) (by omega), ?_⟩
    refine (wp_flat (rngL 0 ((useV l.uses).length : Int).toNat) (fun k acc s'' => s'' = s' ∧ acc.length = k ∧ ∀ w ∈ acc, Strd P w) (fun k acc s'' _ _ => gives_rng) ?_ 100000 0 [] s' (by rw [rngL_len]; omega) (by omega) ⟨rfl, rfl, by simp⟩).mono ?_
    · rintro k w acc s'' hw2 ⟨rfl, al, as⟩
      obtain ⟨hk, rfl⟩ := rngL_get hw2
      have ek : (0 : Int) + (k : Int) = (k : Int) := by omega
      rw [ek]
      unfold mstep
      simp only [wp_ob, wp_om, wp_some, wp_mvar, sset, sexp, sret, sif, spar, spar3, snx, mtB, mtst, mop1, mop2, mcall, mcons, mnil, mcon, mif, mtup, mlst, mand, mor, mnot, mandV, morV, mnotV, lset_eq, List.getElem?_cons_zero, List.getElem?_cons_succ, List.set_cons_zero, List.set_cons_succ, cond_true, cond_false, mwipe, Tg.asg, myes, lib0, nT (show [Mv.str x_call, .str l.own, .int (k : Int)].length ≤ 4 by simp)]
      refine ⟨trivial, by simp [al], ?_⟩
      intro w hw
      rcases List.mem_append.mp hw with hw | hw
      · exact as w hw
      · rw [List.mem_singleton] at hw
        subst hw
        exact .call lm (by omega)
    rintro ⟨acc, s''⟩ ⟨e1, e2, e3⟩
    simp only [List.nil_append] at e1 e2 e3
    subst e1
    rw [rngL_len] at e2
    refine ⟨by show acc.length ≤ _; omega, ?_⟩
    show Wp (addW (.ref n) (.ref s''.sz) (push s'' (.lst acc))) _
    have c : addW (.ref n) (.ref s''.sz) (push s'' (.lst acc)) = some (.ref (push s'' (.lst acc)).sz, push (push s'' (.lst acc)) (.lst (ws ++ acc))) := cat_l (Ex0.push.at n2 g) Ms.get_push (by omega)
    simp only [wp_ob, wp_om, wp_some, wp_mvar, sset, sexp, sret, sif, spar, spar3, snx, mtB, mtst, mop1, mop2, mcall, mcons, mnil, mcon, mif, mtup, mlst, mand, mor, mnot, mandV, morV, mnotV, lset_eq, List.getElem?_cons_zero, List.getElem?_cons_succ, List.set_cons_zero, List.set_cons_succ, cond_true, cond_false, c]
    refine ⟨trivial, _, _, _, rfl, by simp only [push_sz]; omega, by simp only [push_sz]; omega, Ms.get_push, ?_, by rw [List.length_append]; omega, xx.trans (Ex0.push.trans Ex0.push)⟩
    intro w hw
    rcases List.mem_append.mp hw with hw | hw
    · exact hs w hw
    · exact e3 w hw
  rintro ⟨fl, r, s4⟩ ⟨e, p5, n3, sws, e1, n1, n2, g, hs, hl, x4⟩
  simp only at e e1 n2 g x4
  subst e e1
  rw [List.length_map] at hl
  refine ⟨rfl, wp_seq ?_⟩
  simp only [wp_ob, wp_om, wp_some, wp_mvar, sset, sexp, sret, sif, spar, spar3, snx, mtB, mtst, mop1, mop2, mcall, mcons, mnil, mcon, mif, mtup, mlst, mand, mor, mnot, mandV, morV, mnotV, lset_eq, List.getElem?_cons_zero, List.getElem?_cons_succ, List.set_cons_zero, List.set_cons_succ, cond_true, cond_false, plot2, plot0, lenT]
  refine (pick_sp (B2.ex0 x4) (by omega) (.inl rfl) (fun z => by
    have := ok.two
    unfold Plot.folk at this
    rw [List.map_eq_nil_iff.mp z] at this
    simp at this) (by simp; omega)).mono fun x hx => ?_
  obtain ⟨w, s5⟩ := x
  obtain ⟨hw, _, x5, B5⟩ := hx
  simp only at hw x5 B5
  obtain ⟨l, lm, rfl⟩ := List.mem_map.mp hw
  have g5 : s5.get n3 = some (.lst sws) := x5.at n2 (by omega) g
  have n5 : n3 < s5.sz := Nat.lt_of_lt_of_le n2 x5.sz
  have lu : l.uses.length ≤ 3 := (ok.libs l lm).ul
  have uv : (useV l.uses).length = l.uses.length := by simp [useV]
  have lp := pool_name l.own (ok.pool _ (List.mem_map_of_mem lm))
  have ll : P.libs.length ≤ 1000 := by omega
  have fo := find_own ok.nd lm
  refine ⟨trivial, wp_seq ?_⟩
  have n1t : ∀ i : Int, i = -1 → decide (0 ≤ i) = false := fun i h => decide_eq_false (by omega)
  simp only [wp_ob, wp_om, wp_some, wp_mvar, sset, sexp, sret, sif, spar, spar3, snx, mtB, mtst, mop1, mop2, mcall, mcons, mnil, mcon, mif, mtup, mlst, mand, mor, mnot, mandV, morV, mnotV, lset_eq, List.getElem?_cons_zero, List.getElem?_cons_succ, List.set_cons_zero, List.set_cons_succ, cond_true, cond_false, lib0, lib3, lenT, negW, nT (show [Mv.str x_open, .int ((pairV P.doors).length : Int)].length ≤ 4 by simp), nT (show [Mv.str x_close, .int (-1)].length ≤ 4 by simp), nT (show [Mv.str x_open, .bl true].length ≤ 4 by simp), nT (show [Mv.str x_open].length ≤ 4 by simp), nT (show [Mv.str x_open, .int 0, .int 0].length ≤ 4 by simp), nT (show [Mv.str x_call, .str l.own, .int ((useV l.uses).length : Int)].length ≤ 4 by simp)]
  rw [newL_of (by simp), wp_some]
  refine ⟨trivial, wp_seq ?_⟩
  have a1 : Says P s5 (.tup [.str x_open, .int ((pairV P.doors).length : Int)]) false := by
    have := says_oc (P := P) (s := s5) (x := x_open) (i := ((pairV P.doors).length : Int)) (by simp)
    rw [decide_eq_false (by omega : ¬ ((pairV P.doors).length : Int) < (P.doors.length : Int)), Bool.and_false] at this
    exact this
  have a2 : Says P s5 (.tup [.str x_close, .int (-1)]) false := says_oc (P := P) (s := s5) (x := x_close) (i := -1) (by simp)
  have a3 : Says P s5 (.tup [.str x_open, .bl true]) false := says_oc_not (by simp) fun _ => is_number_bl
  have a4 : Says P s5 (.tup [.str x_open]) false := says_short (by simp)
  have a5 : Says P s5 (.tup [.str x_open, .int 0, .int 0]) false := says_oc_len (by simp)
  have a6 : Says P s5 (.tup [.str x_call, .str l.own, .int ((useV l.uses).length : Int)]) false := by
    have := says_call (P := P) (s := s5) (x := l.own) (i := ((useV l.uses).length : Int)) ll lp.2 lp.1
    rw [fo] at this
    simp only [decide_eq_false (show ¬ ((useV l.uses).length : Int) < (l.uses.length : Int) by omega), Bool.and_false] at this
    exact this
  have A : ∀ w ∈ [Mv.tup [.str x_open, .int ((pairV P.doors).length : Int)], .tup [.str x_close, .int (-1)], .tup [.str x_open, .bl true], .tup [.str x_open], .tup [.str x_open, .int 0, .int 0], .tup [.str x_call, .str l.own, .int ((useV l.uses).length : Int)]], Says P s5 w false := by
    intro w hw
    simp only [List.mem_cons, List.not_mem_nil, or_false] at hw
    rcases hw with rfl | rfl | rfl | rfl | rfl | rfl <;> assumption
  have lA : [Mv.tup [.str x_open, .int ((pairV P.doors).length : Int)], .tup [.str x_close, .int (-1)], .tup [.str x_open, .bl true], .tup [.str x_open], .tup [.str x_open, .int 0, .int 0], .tup [.str x_call, .str l.own, .int ((useV l.uses).length : Int)]].length = 6 := rfl
  clear a1 a2 a3 a4 a5 a6
  generalize [Mv.tup [.str x_open, .int ((pairV P.doors).length : Int)], .tup [.str x_close, .int (-1)], .tup [.str x_open, .bl true], .tup [.str x_open], .tup [.str x_open, .int 0, .int 0], .tup [.str x_call, .str l.own, .int ((useV l.uses).length : Int)]] = wA at A lA ⊢
  have gA : (push s5 (.lst wA)).get s5.sz = some (.lst wA) := Ms.get_push
  have mA : s5.sz < (push s5 (.lst wA)).sz := by simp only [push_sz]; omega
  have y6 : Ex0 s5 (push s5 (.lst wA)) := Ex0.push
  generalize push s5 (.lst wA) = s6 at gA mA y6 ⊢
  simp only [wp_ob, wp_om, wp_some, wp_mvar, sset, sexp, sret, sif, spar, spar3, snx, mtB, mtst, mop1, mop2, mcall, mcons, mnil, mcon, mif, mtup, mlst, mand, mor, mnot, mandV, morV, mnotV, lset_eq, List.getElem?_cons_zero, List.getElem?_cons_succ, List.set_cons_zero, List.set_cons_succ, cond_true, cond_false, lib0, negW, nT (show [Mv.str x_call, .str l.own, .int (-1)].length ≤ 4 by simp), nT (show [Mv.str x_call, .str l.own, .bl false].length ≤ 4 by simp), nT (show [Mv.str x_call, .str x_nobody, .int 0].length ≤ 4 by simp), nT (show [Mv.str x_call, .int 0, .int 0].length ≤ 4 by simp)]
  rw [newL_of (by simp), wp_some]
  have a1 : Says P s6 (.tup [.str x_call, .str l.own, .int (-1)]) false := by
    have := says_call (P := P) (s := s6) (x := l.own) (i := -1) ll lp.2 lp.1
    rw [n1t _ rfl, Bool.false_and] at this
    exact this
  have a2 : Says P s6 (.tup [.str x_call, .str l.own, .bl false]) false := says_call_num lp.2 lp.1 fun _ => is_number_bl
  have a3 : Says P s6 (.tup [.str x_call, .str x_nobody, .int 0]) false := by
    have := says_call (P := P) (s := s6) (x := x_nobody) (i := 0) ll (by decide) (by decide +kernel)
    have fn : P.libs.find? (fun l => decide (l.own = x_nobody)) = none := by
      rw [List.find?_eq_none]
      intro k hk z
      have := ok.pool _ (List.mem_map_of_mem hk)
      rw [of_decide_eq_true z] at this
      exact absurd this (by decide +kernel)
    rw [fn] at this
    exact this
  have a4 : Says P s6 (.tup [.str x_call, .int 0, .int 0]) false := says_call_name (t := .int) (fun _ => rfl) (by decide)
  have C : ∀ w ∈ wA ++ [Mv.tup [.str x_call, .str l.own, .int (-1)], .tup [.str x_call, .str l.own, .bl false], .tup [.str x_call, .str x_nobody, .int 0], .tup [.str x_call, .int 0, .int 0]], Says P s6 w false := by
    intro w hw
    rcases List.mem_append.mp hw with hw | hw
    · exact (A w hw).ex0 y6
    · simp only [List.mem_cons, List.not_mem_nil, or_false] at hw
      rcases hw with rfl | rfl | rfl | rfl <;> assumption
  clear a1 a2 a3 a4
  generalize hbC : [Mv.tup [.str x_call, .str l.own, .int (-1)], .tup [.str x_call, .str l.own, .bl false], .tup [.str x_call, .str x_nobody, .int 0], .tup [.str x_call, .int 0, .int 0]] = wB at C ⊢
  have lB : wB.length = 4 := by rw [← hbC]; rfl
  rw [cat_l (Ex0.push.at mA gA) Ms.get_push (by omega), wp_some]
  refine ⟨trivial, wp_seq ?_⟩
  have gB : (push (push s6 (.lst wB)) (.lst (wA ++ wB))).get (push s6 (.lst wB)).sz = some (.lst (wA ++ wB)) := Ms.get_push
  have mB : (push s6 (.lst wB)).sz < (push (push s6 (.lst wB)) (.lst (wA ++ wB))).sz := by simp only [push_sz]; omega
  have y7 : Ex0 s6 (push (push s6 (.lst wB)) (.lst (wA ++ wB))) := Ex0.push.trans Ex0.push
  have lC : (wA ++ wB).length = 10 := by rw [List.length_append]; omega
  generalize (push s6 (.lst wB)).sz = n7 at gB mB ⊢
  generalize push (push s6 (.lst wB)) (.lst (wA ++ wB)) = s7 at gB mB y7 ⊢
  generalize wA ++ wB = wC at gB C lC
  clear hbC lB A lA gA mA
  simp only [wp_ob, wp_om, wp_some, wp_mvar, sset, sexp, sret, sif, spar, spar3, snx, mtB, mtst, mop1, mop2, mcall, mcons, mnil, mcon, mif, mtup, mlst, mand, mor, mnot, mandV, morV, mnotV, lset_eq, List.getElem?_cons_zero, List.getElem?_cons_succ, List.set_cons_zero, List.set_cons_succ, cond_true, cond_false, lib0, nT (show [Mv.str x_call, .str l.own].length ≤ 4 by simp), nT (show [Mv.str x_shut, .int 0].length ≤ 4 by simp), nT (show ([] : List Mv).length ≤ 4 by simp), newL_of (show [Mv.str x_open, .int 0].length ≤ 16777216 by simp), nT (show [Mv.str l.own].length ≤ 4 by simp), nT (show [Mv.str x_call, .tup [.str l.own], .int 0].length ≤ 4 by simp)]
  rw [newL_of (by simp), wp_some]
  have y8 : Ex0 s7 (push s7 (.lst [Mv.str x_open, .int 0])) := Ex0.push
  have a6 : Says P (push s7 (.lst [Mv.str x_open, .int 0])) (.ref s7.sz) false := says_lst (by simp only [push_sz]; omega) Ms.get_push
  have gB' := y8.at mB gB
  have mB' := Nat.lt_of_lt_of_le mB y8.sz
  generalize push s7 (.lst [Mv.str x_open, .int 0]) = s8 at y8 a6 gB' mB' ⊢
  have a1 : Says P s8 (.tup [.str x_call, .str l.own]) false := says_call_len (by simp)
  have a2 : Says P s8 (.tup [.str x_shut, .int 0]) false := says_word (by decide +kernel) (by decide +kernel)
  have a3 : Says P s8 (.tup []) false := says_short (by simp)
  have a4 : Says P s8 .non false := says_not (t := .none) (fun _ _ => rfl) (by decide)
  have a5 : Says P s8 (.str x_open) false := says_not (t := .str) (fun _ _ => rfl) (by decide)
  have a7 : Says P s8 (.int 0) false := says_not (t := .int) (fun _ _ => rfl) (by decide)
  have a8 : Says P s8 (.tup [.str x_call, .tup [.str l.own], .int 0]) false := says_call_name (t := .tuple) (fun _ => rfl) (by decide)
  have D : ∀ w ∈ wC ++ [Mv.tup [.str x_call, .str l.own], .tup [.str x_shut, .int 0], .tup [], .non, .str x_open, .ref s7.sz, .int 0, .tup [.str x_call, .tup [.str l.own], .int 0]], Says P s8 w false := by
    intro w hw
    rcases List.mem_append.mp hw with hw | hw
    · exact (C w hw).ex0 (y7.trans y8)
    · simp only [List.mem_cons, List.not_mem_nil, or_false] at hw
      rcases hw with rfl | rfl | rfl | rfl | rfl | rfl | rfl | rfl <;> assumption
  clear a1 a2 a3 a4 a5 a6 a7 a8
  generalize hbC : [Mv.tup [.str x_call, .str l.own], .tup [.str x_shut, .int 0], .tup [], .non, .str x_open, .ref s7.sz, .int 0, .tup [.str x_call, .tup [.str l.own], .int 0]] = wB at D ⊢
  have lB : wB.length = 8 := by rw [← hbC]; rfl
  rw [cat_l (Ex0.push.at mB' gB') Ms.get_push (by omega), wp_some]
  refine ⟨trivial, wp_seq ?_⟩
  have gD : (push (push s8 (.lst wB)) (.lst (wC ++ wB))).get (push s8 (.lst wB)).sz = some (.lst (wC ++ wB)) := Ms.get_push
  have mD : (push s8 (.lst wB)).sz < (push (push s8 (.lst wB)) (.lst (wC ++ wB))).sz := by simp only [push_sz]; omega
  have y9 : Ex0 s8 (push (push s8 (.lst wB)) (.lst (wC ++ wB))) := Ex0.push.trans Ex0.push
  have lD : (wC ++ wB).length = 18 := by rw [List.length_append]; omega
  generalize (push s8 (.lst wB)).sz = n9 at gD mD ⊢
  generalize push (push s8 (.lst wB)) (.lst (wC ++ wB)) = s9 at gD mD y9 ⊢
  generalize wC ++ wB = wD at gD D lD
  clear hbC lB C lC gB mB gB' mB'
  simp only [wp_ob, wp_om, wp_some, wp_mvar, sset, sexp, sret, sif, spar, spar3, snx, mtB, mtst, mop1, mop2, mcall, mcons, mnil, mcon, mif, mtup, mlst, mand, mor, mnot, mandV, morV, mnotV, lset_eq, List.getElem?_cons_zero, List.getElem?_cons_succ, List.set_cons_zero, List.set_cons_succ, cond_true, cond_false, nT (show [Mv.non, .int 0].length ≤ 4 by simp), nT (show [Mv.str x_open, .str x_0].length ≤ 4 by simp), nT (show [Mv.str x_open, .int 0].length ≤ 4 by simp), nT (show [Mv.tup [.str x_open, .int 0]].length ≤ 4 by simp)]
  rw [newL_of (by simp), wp_some]
  have a1 : Says P s9 (.tup [.non, .int 0]) false := says_first (t := .none) (fun _ => rfl) (by decide)
  have a2 : Says P s9 (.tup [.str x_open, .str x_0]) false := says_oc_not (by simp) fun _ => is_number_str
  have a3 : Says P s9 (.tup [.tup [.str x_open, .int 0]]) false := says_short (by simp)
  have E : ∀ w ∈ wD ++ [Mv.tup [.non, .int 0], .tup [.str x_open, .str x_0], .tup [.tup [.str x_open, .int 0]]], Says P s9 w false := by
    intro w hw
    rcases List.mem_append.mp hw with hw | hw
    · exact (D w hw).ex0 y9
    · simp only [List.mem_cons, List.not_mem_nil, or_false] at hw
      rcases hw with rfl | rfl | rfl <;> assumption
  clear a1 a2 a3
  generalize hbC : [Mv.tup [.non, .int 0], .tup [.str x_open, .str x_0], .tup [.tup [.str x_open, .int 0]]] = wB at E ⊢
  have lB : wB.length = 3 := by rw [← hbC]; rfl
  rw [cat_l (Ex0.push.at mD gD) Ms.get_push (by omega), wp_some]
  refine ⟨trivial, wp_seq ?_⟩
  have gE : (push (push s9 (.lst wB)) (.lst (wD ++ wB))).get (push s9 (.lst wB)).sz = some (.lst (wD ++ wB)) := Ms.get_push
  have mE : (push s9 (.lst wB)).sz < (push (push s9 (.lst wB)) (.lst (wD ++ wB))).sz := by simp only [push_sz]; omega
  have yA : Ex0 s9 (push (push s9 (.lst wB)) (.lst (wD ++ wB))) := Ex0.push.trans Ex0.push
  have lE : (wD ++ wB).length = 21 := by rw [List.length_append]; omega
  generalize (push s9 (.lst wB)).sz = nA at gE mE ⊢
  generalize push (push s9 (.lst wB)) (.lst (wD ++ wB)) = sA at gE mE yA ⊢
  have E' : ∀ w ∈ wD ++ wB, Says P sA w false := fun w hw => (E w hw).ex0 yA
  generalize wD ++ wB = wE at gE E E' lE
  clear hbC lB D lD gD mD E
  have yy : Ex0 s5 sA := (((y6.trans y7).trans y8).trans y9).trans yA
  clear y6 y7 y8 y9 yA
  have g3 : sA.get n3 = some (.lst sws) := yy.at n5 g5
  have nn : n3 < sA.sz := Nat.lt_of_lt_of_le n5 yy.sz
  simp only [wp_ob, wp_om, wp_some, wp_mvar, sset, sexp, sret, sif, spar, spar3, snx, mtB, mtst, mop1, mop2, mcall, mcons, mnil, mcon, mif, mtup, mlst, mand, mor, mnot, mandV, morV, mnotV, lset_eq, List.getElem?_cons_zero, List.getElem?_cons_succ, List.set_cons_zero, List.set_cons_succ, cond_true, cond_false]
  refine wp_lc (wp_S' ?_)
  simp only [wp_ob, wp_om, wp_some, wp_mvar, sset, sexp, sret, sif, spar, spar3, snx, mtB, mtst, mop1, mop2, mcall, mcons, mnil, mcon, mif, mtup, mlst, mand, mor, mnot, mandV, morV, mnotV, lset_eq, List.getElem?_cons_zero, List.getElem?_cons_succ, List.set_cons_zero, List.set_cons_succ, cond_true, cond_false]
  refine ⟨sws, items_ref g3, fun it git => ?_⟩
  refine (wp_flat sws (fun k acc s' => Ex0 sA s' ∧ acc.length = k ∧ ∀ w ∈ acc, Says P s' w false) (fun k acc s' _ a => git s' (items_ref (a.1.at nn g3))) ?_ 100000 0 [] sA (by omega) (by omega) ⟨Ex0.refl, rfl, by simp⟩).mono ?_
  · rintro k w acc s' hw ⟨xa, al, as⟩
    obtain ⟨us, rfl, ul, _⟩ := strd_more (s := s') (hs w (List.mem_of_getElem? hw))
    unfold mstep
    have hL : listW [.tup us] s' = some (.ref s'.sz, push s' (.lst us)) := by
      show (items (.tup us) s').ob (fun xs => newL xs s') = _
      rw [items_tup, ob_of, newL_of (by omega)]
    simp only [wp_ob, wp_om, wp_some, wp_mvar, sset, sexp, sret, sif, spar, spar3, snx, mtB, mtst, mop1, mop2, mcall, mcons, mnil, mcon, mif, mtup, mlst, mand, mor, mnot, mandV, morV, mnotV, lset_eq, List.getElem?_cons_zero, List.getElem?_cons_succ, List.set_cons_zero, List.set_cons_succ, cond_true, cond_false, mwipe, Tg.asg, myes, hL]
    refine ⟨xa.trans Ex0.push, by simp [al], ?_⟩
    intro w hw
    rcases List.mem_append.mp hw with hw | hw
    · exact (as w hw).ex0 Ex0.push
    · rw [List.mem_singleton] at hw
      subst hw
      exact says_lst (by simp only [push_sz]; omega) Ms.get_push
  rintro ⟨acc, sB⟩ ⟨xB, e2, e3⟩
  simp only [List.nil_append] at xB e2 e3
  refine ⟨by show acc.length ≤ _; omega, ?_⟩
  show Wp (addW (.ref nA) (.ref sB.sz) (push sB (.lst acc))) _
  rw [cat_l (Ex0.push.at (Nat.lt_of_lt_of_le mE xB.sz) (xB.at mE gE)) Ms.get_push (by omega), wp_some]
  have gF : (push (push sB (.lst acc)) (.lst (wE ++ acc))).get (push sB (.lst acc)).sz = some (.lst (wE ++ acc)) := Ms.get_push
  have mF : (push sB (.lst acc)).sz < (push (push sB (.lst acc)) (.lst (wE ++ acc))).sz := by simp only [push_sz]; omega
  have yF : Ex0 sB (push (push sB (.lst acc)) (.lst (wE ++ acc))) := Ex0.push.trans Ex0.push
  have F : ∀ w ∈ wE ++ acc, Says P (push (push sB (.lst acc)) (.lst (wE ++ acc))) w false := by
    intro w hw
    rcases List.mem_append.mp hw with hw | hw
    · exact (E' w hw).ex0 (xB.trans yF)
    · exact (e3 w hw).ex0 yF
  have lF : (wE ++ acc).length ≤ 100 := by rw [List.length_append]; omega
  generalize (push sB (.lst acc)).sz = nF at gF mF ⊢
  generalize push (push sB (.lst acc)) (.lst (wE ++ acc)) = sF at gF mF yF F ⊢
  generalize wE ++ acc = wF at gF F lF
  have gs : sF.get n3 = some (.lst sws) := (xB.trans yF).at nn g3
  have ns : n3 < sF.sz := Nat.lt_of_lt_of_le nn (xB.trans yF).sz
  simp only [wp_ob, wp_om, wp_some, wp_mvar, sset, sexp, sret, sif, spar, spar3, snx, mtB, mtst, mop1, mop2, mcall, mcons, mnil, mcon, mif, mtup, mlst, mand, mor, mnot, mandV, morV, mnotV, lset_eq, List.getElem?_cons_zero, List.getElem?_cons_succ, List.set_cons_zero, List.set_cons_succ, cond_true, cond_false]
  refine wp_lc (wp_S' ?_)
  simp only [wp_ob, wp_om, wp_some, wp_mvar, sset, sexp, sret, sif, spar, spar3, snx, mtB, mtst, mop1, mop2, mcall, mcons, mnil, mcon, mif, mtup, mlst, mand, mor, mnot, mandV, morV, mnotV, lset_eq, List.getElem?_cons_zero, List.getElem?_cons_succ, List.set_cons_zero, List.set_cons_succ, cond_true, cond_false]
  refine ⟨sws, items_ref gs, fun it git => ?_⟩
  refine (wp_flat sws (fun k acc s' => s' = sF ∧ acc.length = k ∧ ∀ w ∈ acc, Says P sF w false) (fun k acc s' _ a => git s' (a.1 ▸ items_ref gs)) ?_ 100000 0 [] sF (by omega) (by omega) ⟨rfl, rfl, by simp⟩).mono ?_
  · rintro k w acc s' hw ⟨rfl, al, as⟩
    obtain ⟨us, rfl, ul, un⟩ := strd_more (s := s') (hs w (List.mem_of_getElem? hw))
    unfold mstep
    simp only [wp_ob, wp_om, wp_some, wp_mvar, sset, sexp, sret, sif, spar, spar3, snx, mtB, mtst, mop1, mop2, mcall, mcons, mnil, mcon, mif, mtup, mlst, mand, mor, mnot, mandV, morV, mnotV, lset_eq, List.getElem?_cons_zero, List.getElem?_cons_succ, List.set_cons_zero, List.set_cons_succ, cond_true, cond_false, mwipe, Tg.asg, myes, addW, nT (show [Mv.int 0].length ≤ 4 by simp), nT (show (us ++ [Mv.int 0]).length ≤ 4 by simp; omega)]
    refine ⟨trivial, by simp [al], ?_⟩
    intro w hw
    rcases List.mem_append.mp hw with hw | hw
    · exact as w hw
    · rw [List.mem_singleton] at hw
      subst hw
      exact un
  rintro ⟨acc2, sG⟩ ⟨xG, f2, f3⟩
  simp only [List.nil_append] at xG f2 f3
  subst xG
  refine ⟨by show acc2.length ≤ _; omega, ?_⟩
  show Wp (addW (.ref nF) (.ref sG.sz) (push sG (.lst acc2))) _
  rw [cat_l (Ex0.push.at mF gF) Ms.get_push (by omega), wp_some]
  refine ⟨trivial, ?_⟩
  have gH : (push (push sG (.lst acc2)) (.lst (wF ++ acc2))).get (push sG (.lst acc2)).sz = some (.lst (wF ++ acc2)) := Ms.get_push
  have mH : (push sG (.lst acc2)).sz < (push (push sG (.lst acc2)) (.lst (wF ++ acc2))).sz := by simp only [push_sz]; omega
  have yH : Ex0 sG (push (push sG (.lst acc2)) (.lst (wF ++ acc2))) := Ex0.push.trans Ex0.push
  have H : ∀ w ∈ wF ++ acc2, Says P (push (push sG (.lst acc2)) (.lst (wF ++ acc2))) w false := by
    intro w hw
    rcases List.mem_append.mp hw with hw | hw
    · exact (F w hw).ex0 yH
    · exact (f3 w hw).ex0 yH
  have lH : (wF ++ acc2).length ≤ 200 := by rw [List.length_append]; omega
  generalize (push sG (.lst acc2)).sz = nH at gH mH ⊢
  have gsH := yH.at ns gs
  have nsH := Nat.lt_of_lt_of_le ns yH.sz
  generalize push (push sG (.lst acc2)) (.lst (wF ++ acc2)) = sH at gH mH yH H gsH nsH ⊢
  generalize wF ++ acc2 = wH at gH H lH
  have xH : Ex0 s5 sH := ((yy.trans xB).trans yF).trans yH
  have S : ∀ w ∈ sws, Says P sH w true := fun w hw => strd_says ok (by omega) (hs w hw)
  refine wp_for (wp_S' ?_)
  simp only [wp_ob, wp_om, wp_some, wp_mvar, sset, sexp, sret, sif, spar, spar3, snx, mtB, mtst, mop1, mop2, mcall, mcons, mnil, mcon, mif, mtup, mlst, mand, mor, mnot, mandV, morV, mnotV, lset_eq, List.getElem?_cons_zero, List.getElem?_cons_succ, List.set_cons_zero, List.set_cons_succ, cond_true, cond_false, nT (show [Mv.ref n3, .bl true].length ≤ 4 by simp), nT (show [Mv.ref nH, .bl false].length ≤ 4 by simp), nT (show [Mv.tup [.ref n3, .bl true], .tup [.ref nH, .bl false]].length ≤ 4 by simp)]
  refine ⟨[.tup [.ref n3, .bl true], .tup [.ref nH, .bl false]], rfl, fun it git => ?_⟩
  refine (wp_loop [.tup [.ref n3, .bl true], .tup [.ref nH, .bl false]] (fun i r s' => (∃ p9 p10 p11 p12, r = [some (.ref b), o1, some P.mv, some (.ref n3), p4, p5, some (.int ((pairV P.doors).length : Int)), some l.mv, some (.ref nH), p9, p10, p11, p12, o13, o14]) ∧ Ex0 sH s') (fun i r s' _ _ => git s' rfl) ?_ 100000 0 _ sH (by simp) (by omega) ⟨⟨_, _, _, _, rfl⟩, Ex0.refl⟩).mono ?_
  · rintro i w r s' hw ⟨⟨p9, p10, p11, p12, rfl⟩, xx⟩
    have hw2 := List.mem_of_getElem? hw
    simp only [List.mem_cons, List.not_mem_nil, or_false] at hw2
    rcases hw2 with rfl | rfl
    · refine ⟨_, rfl, ?_⟩
      refine (inner_sp (d := true) pu (by omega) (Nat.lt_of_lt_of_le nsH xx.sz) (xx.at nsH gsH) (fun w hw => (S w hw).ex0 xx)).mono fun x hx => ?_
      obtain ⟨h1, ⟨q1, q2, h2⟩, h3⟩ := hx
      exact ⟨h1, ⟨_, _, _, _, h2⟩, xx.trans h3⟩
    · refine ⟨_, rfl, ?_⟩
      refine (inner_sp (d := false) pu (by omega) (Nat.lt_of_lt_of_le mH xx.sz) (xx.at mH gH) (fun w hw => (H w hw).ex0 xx)).mono fun x hx => ?_
      obtain ⟨h1, ⟨q1, q2, h2⟩, h3⟩ := hx
      exact ⟨h1, ⟨_, _, _, _, h2⟩, xx.trans h3⟩
  rintro ⟨fl, r, sI⟩ ⟨e, ⟨p9, p10, p11, p12, e1⟩, xI⟩
  simp only at e e1 xI
  subst e e1
  exact ⟨rfl, ⟨_, _, _, _, _, _, _, _, _, _, _, _, _, _, rfl⟩, (B5.ex0 (xH.trans xI)).mono (by omega)⟩
theorem right_sp {s : Ms} {b m : Nat} (h : Bx' s b m) (hm : m + 3000 < 1000000) : Wp (m__law_right [.ref b] s) fun x => x.1 = .bl true ∧ Bx' x.2 b (m + 3000) := by
  refine wp_fn [some (.ref b), none, none, none, none, none, none, none, none, none, none, none, none, none, none] rfl rfl ?_
  unfold bd__law_right
  refine wp_seq ?_
  simp only [wp_ob, wp_om, wp_some, wp_mvar, sset, sexp, sret, sif, spar, spar3, snx, mtB, mtst, mop1, mop2, mcall, mcons, mnil, mcon, mif, mtup, mlst, mand, mor, mnot, mandV, morV, mnotV, lset_eq, List.getElem?_cons_zero, List.getElem?_cons_succ, List.set_cons_zero, List.set_cons_succ, cond_true, cond_false]
  refine great_sp.mono fun x hx => ?_
  obtain ⟨w, s1⟩ := x
  obtain ⟨e1, x1⟩ := hx
  simp only at e1 x1
  subst e1
  simp only [wp_ob, wp_om, wp_some, wp_mvar, sset, sexp, sret, sif, spar, spar3, snx, mtB, mtst, mop1, mop2, mcall, mcons, mnil, mcon, mif, mtup, mlst, mand, mor, mnot, mandV, morV, mnotV, lset_eq, List.getElem?_cons_zero, List.getElem?_cons_succ, List.set_cons_zero, List.set_cons_succ, cond_true, cond_false, tru, Bool.not_true]
  refine ⟨trivial, wp_seq ?_⟩
  refine wp_for (wp_R1 ?_)
  simp only [wp_ob, wp_om, wp_some, wp_mvar, sset, sexp, sret, sif, spar, spar3, snx, mtB, mtst, mop1, mop2, mcall, mcons, mnil, mcon, mif, mtup, mlst, mand, mor, mnot, mandV, morV, mnotV, lset_eq, List.getElem?_cons_zero, List.getElem?_cons_succ, List.set_cons_zero, List.set_cons_succ, cond_true, cond_false]
  refine ⟨3, rfl, okI_of (by omega) (by omega), ?_⟩
  refine (wp_loop (rngL 0 (3 : Int).toNat) (fun i r s' => (∃ p1 p2 p3 p4 p5 p6 p7 p8 p9 p10 p11 p12 p13 p14, r = [some (.ref b), p1, p2, p3, p4, p5, p6, p7, p8, p9, p10, p11, p12, p13, p14]) ∧ Bx' s' b (m + 700 * i)) (fun i r s' _ _ => gives_rng) ?_ 100000 0 _ _ (by rw [rngL_len]; decide) (by omega) ⟨⟨_, _, _, _, _, _, _, _, _, _, _, _, _, _, rfl⟩, h.ex0 x1⟩).mono ?_
  · rintro i w r s' hw ⟨⟨p1, p2, p3, p4, p5, p6, p7, p8, p9, p10, p11, p12, p13, p14, rfl⟩, B⟩
    obtain ⟨hi, rfl⟩ := rngL_get hw
    have hi' : i < 3 := hi
    refine ⟨_, rfl, ?_⟩
    refine (turn_sp B (by omega) rfl).mono fun x hx => ?_
    exact ⟨hx.1, hx.2.1, hx.2.2.mono (by omega)⟩
  · rintro ⟨fl, r, s2⟩ ⟨e, ⟨p1, p2, p3, p4, p5, p6, p7, p8, p9, p10, p11, p12, p13, p14, e1⟩, B⟩
    simp only at e e1 B
    subst e e1
    refine ⟨rfl, ?_⟩
    simp only [wp_ob, wp_om, wp_some, wp_mvar, sset, sexp, sret, sif, spar, spar3, snx, mtB, mtst, mop1, mop2, mcall, mcons, mnil, mcon, mif, mtup, mlst, mand, mor, mnot, mandV, morV, mnotV, lset_eq, List.getElem?_cons_zero, List.getElem?_cons_succ, List.set_cons_zero, List.set_cons_succ, cond_true, cond_false]
    rw [rngL_len] at B
    have : (3 : Int).toNat = 3 := rfl
    rw [this] at B
    exact ⟨_, rfl, rfl, B.mono (by omega)⟩

end
section
/-! ### the law -/
theorem cell_ok (ns : List Int) (k : Int) (s : Ms) (h0 : 0 ≤ k) : ∃ x : Int, m__law_cell_at [.fl (ns.map .int), .int k] s = some (.int x, s) := by
  have hc : ∃ x : Int, (mif (mtB (mop2 ltW (mvar 1) (mcall lenW (mcons (mvar 0) (mnil))))) (mop2 ixA (mvar 0) (mvar 1)) (mcon (.int 0))) [some (.fl (ns.map .int)), some (.int k)] s = some (.int x, s) := by
    by_cases h : k < (ns.length : Int)
    · have hx : ∃ x, atF (ns.map Mv.int) k = some (.int x) := by
        have hl : k.toNat < ns.length := by omega
        refine ⟨ns[k.toNat], ?_⟩
        rw [atF_eq]
        unfold L2.atI L2.ixN
        rw [if_pos h0, if_pos (by rw [List.length_map]; exact h)]
        simp [hl]
      obtain ⟨x, hx⟩ := hx
      have hI : ixA (.fl (ns.map Mv.int)) (.int k) s = some (.int x, s) := by
        have e : ixW (.fl (ns.map Mv.int)) (.int k) s = some (.int x, s) := by
          show (some (ns.map Mv.int)).ob (fun ws => (atF ws k).om fun w => (w, s)) = _
          rw [ob_of, hx]
          rfl
        unfold ixA
        rw [e]
      exact ⟨x, by simp [iLt_eq, iEq_eq, lget_eq, lset_eq, lsome_eq, llen_eq, mif, mtB, mop2, ltW, cmpI, mvar, mcall, mcons, mnil, lenW, lenB, hI, h]⟩
    · exact ⟨0, by simp [iLt_eq, iEq_eq, lget_eq, lset_eq, lsome_eq, llen_eq, mif, mtB, mop2, ltW, cmpI, mvar, mcall, mcons, mnil, lenW, lenB, mcon, h]⟩
  obtain ⟨x, hx⟩ := hc
  exact ⟨x, by simp [m__law_cell_at, fnM, bd__law_cell_at, sret, lsome_eq, hx]⟩
theorem box_ok : BoxFn m__law_box := by
  intro ns k s h0 h1
  obtain ⟨x, hx⟩ := cell_ok ns k s h0
  have sm0 : smI 41011 = true := by decide
  have sm2 : ∀ y : Int, smI (if 1000000000000000000 ≤ y then 1 else 0) = true := fun y => by split <;> decide
  have ge : ∀ b : Bool, (0 : Int) ≤ if b = true then 1 else 0 := fun b => by cases b <;> decide
  have sm3 : smI 10 = true := by decide
  refine ⟨(if x < 0 then -x else x) * (if (decide ((10 : Int) ^ 18 ≤ if x < 0 then -x else x)) = true then 1 else 0), x % 2305843009213693951 + 41011 * k + 19, ?_, ?_, ?_, ?_⟩
  · refine Int.mul_nonneg ?_ ?_
    · split <;> omega
    · exact ge _
  · have := Int.emod_nonneg x (b := 2305843009213693951) (by decide)
    omega
  · have := Int.emod_lt_of_pos x (b := 2305843009213693951) (by decide)
    omega
  · simp [iLt_eq, iEq_eq, lget_eq, lset_eq, lsome_eq, llen_eq, m__law_box, fnM, bd__law_box, sseq, sset, mcall, mcons, mvar, mnil, hx]
    simp [iLt_eq, iEq_eq, lget_eq, lset_eq, lsome_eq, llen_eq, mop2, modW, mcall, intW, mcons, mulW, addW, mvar, mcon, mnil, sm0, sm2, sm3, sret, mlst, absW, geW, cmpI, powW]
    generalize newL _ s = o
    cases o <;> rfl
theorem law_true (ns : List Int) : ∃ s', m_law [.fl (ns.map .int)] ⟨0, .nil⟩ = some (.bl true, s') := law_genW (bx := m__law_box) (rt := m__law_right) (R := 3) (L := 1) (D := 3000) box_ok (by decide) (by decide) (fun s b m h hm => right_sp h (by omega)) ns

end
def loose0 : List Str := ["__name__", "LETTERS", "MOST_LETTERS", "OPEN", "CLOSE", "CALL", "is_number", "is_name", "lib_of", "is_step", "_law_cell_at", "_law_box", "_law_take", "_law_pick", "_law_same", "_law_lists", "_law_names", "_law_some", "_law_pairs", "_law_lib", "_law_program", "_law_great_right", "_law_right"]
def loose : List Str := loose0
abbrev R : PySem.W.OpenRow := PySem.W.OpenLaw.row PySem.Challenge.rw_latebound_k02_steps_or_none
abbrev hk : PySem.W.Hook := He.hookX 4 faAll fn [] tf exB
def ob (s : PySem.W.SharedT) : He.AlX := He.obsX 4 faAll fn [] tf exB (HandSHeadRun.getT s)
theorem obL_eq (s : PySem.W.SharedT) : ob s = hk.obs s.abs := He.obsX_eq (HandSHeadRun.getT_eq s)
theorem run (w : World) : HandSHeadRun.RunEq R (PySem.W.view R.prog [24]) hk ob 12000 loose w := by
  intro os
  kernel_rfl
theorem facts {P : Program} {w : World} {K : PySem.W.Frag} {h : Heap} {mg : Str → Option Value} {f : Addr} (X : K.In h) (G : h.Ns mainGlobals mg) (hfa : mg ("law" : Str) = some (.ref f)) (c : He.SaysX faAll fn [] tf exB w h K) :
    ∃ fd : FuncData, (∀ (s : Shared) (v : Value), BindsTo s fd ⟨[v], []⟩ [("_law_script", v)]) ∧ ∀ base : Heap, K.In base → base.Ns mainGlobals mg → (∀ p ∈ tf.map (He.cT K), LamX.TabB base mg p.1 p.2) → FnG P w K mg base 11 f fd ["_law_script"] (spM (GG P w K) m_law) := by
  have ex : ∀ i : Nat, ∃ fd : FuncData, ∀ d : He.DefD, fn[i]? = some d → FunD K d.name d.qual d.params d.body d.scope (d.dvs K) (d.kws K) (He.fAd K d.at_) fd := by
    intro i
    cases e : fn[i]? with
    | none =>
      obtain ⟨fd, _⟩ := c.t.d.def_ 0 (d := dd_law) rfl
      exact ⟨fd, fun d hd => by cases hd⟩
    | some d =>
      obtain ⟨fd, F⟩ := c.t.d.def_ i (d := d) e
      exact ⟨fd, fun d' hd => by cases hd; exact F⟩
  have fc : ∀ g, g ∈ faAll → g.ok K = true := fun g hg => He.SaysD.facts c.t.d hg
  let T : ∀ base : Heap, (∀ p ∈ tf.map (He.cT K), LamX.TabB base mg p.1 p.2) → Tx K mg base := fun base tb =>
    { fd := fun i => Classical.choose (ex i)
      df := fun i d hd => Classical.choose_spec (ex i) d hd
      gl := fun x hx => He.glo_ok X G (fc (.glo x) (List.mem_append_right _ (List.mem_append_left _ (List.mem_map_of_mem hx))))
      fr := fun x hx => He.free_ok X G (fc (.free x) (List.mem_append_right _ (List.mem_append_right _ (List.mem_map_of_mem hx))))
      fc := fun g hg => fc g (List.mem_append_left _ hg)
      gi := fun x i hx => He.int_ok X G (fc (.int x i) (List.mem_append_left _ hx))
      gs := fun x z hx => He.str_ok X G (fc (.str x z) (List.mem_append_left _ hx))
      ex := c.more
      tb := tb }
  have e := hfa.symm.trans (He.glo_ok X G (fc (.glo "law") (List.mem_append_right _ (List.mem_append_left _ (List.mem_map_of_mem (by simp [glos]))))))
  cases e
  have b := FunD.bindsA (ps := ["_law_script"]) (Classical.choose_spec (ex 0) dd_law rfl) fun _ _ _ _ _ _ us hl => match us, hl with | [_], _ => rfl
  exact ⟨Classical.choose (ex 0), fun s v => b s [v] rfl, fun base _ _ tb => ok_law (T base tb)⟩
theorem denInts {G : Mg} {p : List Addr} {H : Hp} : ∀ ns : List Int, DenL G p H (ns.map Mv.int) (ns.map V.int)
  | [] => .nil
  | n :: ns => .cons (.int n) (denInts ns)
theorem flOf {K : PySem.W.Frag} {H : Hp} {a : Addr} {vs : List V} (on : Only H) (h : SqL K H a vs) : FlAt K [] H a vs := by
  rcases h with h | h
  · rcases h with h | h
    · rcases on a with e | ⟨o, xs, e⟩
      · rw [e] at h; cases h
      · rw [e] at h; cases h
    · exact .inl h
  · exact .inr (.inr h)
theorem lawSp {P : Program} {w : World} {K : PySem.W.Frag} {H : Hp} {a : Addr} {ns : List Int} {E : XK} (hl : ns.length ≤ 63) (on : Only H) (hS : SqL K H a (ns.map V.int)) : spM (GG P w K) m_law [.ref a] H (fun v _ => v = .bl true) E := by
  obtain ⟨s', hs⟩ := law_true ns
  exact ⟨[], _, [.fl (ns.map Mv.int)], .bl true, s', Sim.nil, .cons (.fl (flOf on hS) (denInts ns)) .nil, hs, fun p v H' _ _ d => by cases d; rfl⟩
end Mi
open PySem PySem.W PySem.Calls PyProof.Rows
theorem PySem.Challenge.cw_latebound_k02_steps_or_none_holds : PySem.Challenge.rw_latebound_k02_steps_or_none.Holds := by
  w_on; o_law
  refine HandSHeadRun.head_any (r := OpenLaw.row PySem.Challenge.rw_latebound_k02_steps_or_none) (q := view (OpenLaw.row PySem.Challenge.rw_latebound_k02_steps_or_none).prog [24]) (H := Mi.hk) (ob := Mi.ob) (M := 12000) (loose := Mi.loose) (d := HandSHeadRun.topDef (OpenLaw.row PySem.Challenge.rw_latebound_k02_steps_or_none).prog 24) (kwd := []) Mi.obL_eq
    (by kernel_rfl) (fun s => by kernel_rfl) Mi.run (by kernel_rfl) (by kernel_rfl) (by kernel_rfl) (by rfl) (by first | assumption | decide +kernel) (by decide +kernel) ⟨rfl, rfl, rfl, rfl, rfl, by decide +kernel⟩ ?hw ?hc
  case hw => w_witness2
  case hc =>
    refine Mi.walk_ofG (l := PySem.Challenge.rw_latebound_k02_steps_or_none) (n := 63) (k := 11) (x := "_law_script") rfl (by decide) (by kernel_rfl) ⟨rfl, by decide, by decide⟩ ?F
    intro w mg fa h Y G hmg0
    obtain ⟨K, KX, c⟩ := Y
    have hmg : mg ("law" : PySem.Str) = some (.ref fa) := by
      have e : (HandSHeadRun.topDef (OpenLaw.row PySem.Challenge.rw_latebound_k02_steps_or_none).prog 24).name = ("law" : PySem.Str) := by kernel_rfl
      rw [← e]
      exact hmg0
    obtain ⟨fd, hb, hF⟩ := Mi.facts (P := (PySem.Challenge.rw_latebound_k02_steps_or_none).prog) (w := w) KX G hmg c
    exact ⟨K, fd, Mi.spM (Mi.GG (PySem.Challenge.rw_latebound_k02_steps_or_none).prog w K) Mi.m_law, KX, hb, fun H a ns hl on hS => Mi.lawSp hl on hS, fun base h1 h2 => hF base h1 h2 (fun p hp => by simp [Mi.tf] at hp)⟩
