import PyProof.Rows.All
import Wide.All
import OpenK.AllK
import Wide.FinOn
import HandS.ForMost
import HandS.IsInst
import HandS.TupAny
import HandS.Deep
import HandS.Style
import HandS.Defaults
import HandS.Lambda
import KE.KeyNested
import KE.KDictKeyed
import KE.DataMinMax
import HandS.Star
import HandS.Zip
import KE.DataCmp
import KE.GoesEnum
import HandS.Head0
import HandS.Head1
import HandS.Head2
import HandS.HeadEnd
import HandS.HeadHook1
import HandS.HeadHook2
import HandS.HeadHook3
import HandS.HeadHook4
import HandS.DictComp
import HandS.Small
import KE.KDictWalk
import HandS.SetFor
import KE.KDictDisplayH
import HandS.Conv
import HandS.HeadWalk
import PyProof.ReprRoads
import HandS.More
import PySem.Challenge.RW_latebound_k08_processes_known_by_hand
set_option Elab.async false
set_option linter.all false
set_option maxRecDepth 100000
set_option maxHeartbeats 4000000
noncomputable section
namespace Mi
open PySem PySem.Spec PyProof.Rows L2
section
/-! ### values, objects, the store of the mirror -/
inductive Mty where
  | int | bool | str | list | tuple | dict | none
  deriving DecidableEq
def Mty.name : Mty → String
  | .int => "int" | .bool => "bool" | .str => "str" | .list => "list" | .tuple => "tuple" | .dict => "dict" | .none => "NoneType"
inductive Mv where
  | non | bl (b : Bool) | int (i : Int) | str (x : Str) | tup (ws : List Mv) | ref (n : Nat) | ty (t : Mty) | fl (ws : List Mv) | cls (c : Nat)
inductive Mo where
  | lst (ws : List Mv)
  | ins (c : Nat) (fs : List (Nat × Mv))
  | dk (kvs : List (Key × Mv))
  /-- a dict whose keys are tuples, each with its key, the tuple itself, its value -/
  | dn (kvs : List (NestedKey × Mv × Mv))
  /-- the same two, locked while they are walked -/
  | lk (kvs : List (Key × Mv))
  | ln (kvs : List (NestedKey × Mv × Mv))
  /-- a source of draws: the next ones, bound and draw -/
  | box (m : Nat) (ds : List (Int × Int))
  /-- a def's table of code objects: none yet, or one (its place in the text; where its code object stands) -/
  | tab (t : Nat) (o : Option (Nat × Nat × Nat))
  | cod (q : Str)
/-! ### fast words (by recursors), and what they are -/
noncomputable def _root_.Option.ob {α β : Type} (o : Option α) (f : α → Option β) : Option β := Option.rec (motive := fun _ => Option β) Option.none (fun a => f a) o
noncomputable def _root_.Option.om {α β : Type} (o : Option α) (f : α → β) : Option β := Option.rec (motive := fun _ => Option β) Option.none (fun a => some (f a)) o
theorem ob_eq {α β : Type} (o : Option α) (f : α → Option β) : o.ob f = o.bind f := by cases o <;> rfl
theorem om_eq' {α β : Type} (o : Option α) (f : α → β) : o.om f = o.map f := by cases o <;> rfl
theorem ob_some {α β : Type} {o : Option α} {f : α → Option β} {b : β} : o.ob f = some b ↔ ∃ a, o = some a ∧ f a = some b := by rw [ob_eq]; exact Option.bind_eq_some_iff
theorem omap_some {α β : Type} {o : Option α} {f : α → β} {b : β} : o.om f = some b ↔ ∃ a, o = some a ∧ f a = b := by rw [om_eq']; exact Option.map_eq_some_iff
@[simp] theorem ob_of {α β : Type} (a : α) (f : α → Option β) : (some a).ob f = f a := rfl
@[simp] theorem om_of {α β : Type} (a : α) (f : α → β) : (some a).om f = some (f a) := rfl
@[simp] theorem ob_no {α β : Type} (f : α → Option β) : (Option.none : Option α).ob f = Option.none := rfl
@[simp] theorem om_no {α β : Type} (f : α → β) : (Option.none : Option α).om f = Option.none := rfl
noncomputable def lget {α : Type} (r : List α) : Nat → Option α := List.rec (motive := fun _ => Nat → Option α) (fun _ => Option.none) (fun a _ ih n => Nat.rec (motive := fun _ => Option α) (some a) (fun m _ => ih m) n) r
theorem lget_eq {α : Type} : ∀ (r : List α) (i : Nat), lget r i = r[i]?
  | [], _ => rfl
  | _ :: _, 0 => rfl
  | _ :: as, i + 1 => lget_eq as i
noncomputable def lset {α : Type} (r : List α) (i : Nat) (v : α) : List α := List.rec (motive := fun _ => Nat → List α) (fun _ => []) (fun a as ih n => Nat.rec (motive := fun _ => List α) (v :: as) (fun m _ => a :: ih m) n) r i
theorem lset_eq {α : Type} (v : α) : ∀ (r : List α) (i : Nat), lset r i v = r.set i v
  | [], _ => rfl
  | _ :: _, 0 => rfl
  | a :: as, i + 1 => congrArg (a :: ·) (lset_eq v as i)
noncomputable def lapp {α : Type} (a b : List α) : List α := List.rec (motive := fun _ => List α) b (fun x _ ih => x :: ih) a
theorem lapp_eq {α : Type} : ∀ a b : List α, lapp a b = a ++ b
  | [], _ => rfl
  | x :: a, b => congrArg (x :: ·) (lapp_eq a b)
noncomputable def lsome {α : Type} (n : Nat) (a : List α) : List (Option α) := List.rec (motive := fun _ => List (Option α)) (Nat.rec (motive := fun _ => List (Option α)) [] (fun _ ih => Option.none :: ih) n) (fun x _ ih => some x :: ih) a
theorem lrep_eq {α : Type} : ∀ n : Nat, (Nat.rec (motive := fun _ => List (Option α)) [] (fun _ ih => Option.none :: ih) n : List (Option α)) = List.replicate n Option.none
  | 0 => rfl
  | n + 1 => by rw [List.replicate_succ, ← lrep_eq n]
theorem lsome_eq {α : Type} (n : Nat) : ∀ a : List α, lsome n a = a.map some ++ List.replicate n Option.none
  | [] => lrep_eq n
  | x :: a => congrArg (some x :: ·) (lsome_eq n a)
inductive Mt where
  | nil | nod (l : Mt) (o : Option Mo) (r : Mt)
noncomputable def Mt.get (t : Mt) : Nat → Option Mo := Mt.rec (motive := fun _ => Nat → Option Mo) (fun _ => Option.none)
  (fun _ o _ il ir n => Bool.rec (motive := fun _ => Option Mo) (Bool.rec (motive := fun _ => Option Mo) (ir (Nat.sub (Nat.div n 2) 1)) (il (Nat.div n 2)) (Nat.beq (Nat.mod n 2) 1)) o (Nat.beq n 0)) t
def Mt.fresh : Nat → Nat → Mo → Mt
  | 0, _, _ => .nil
  | f + 1, n, o => cond (Nat.beq n 0) (.nod .nil (some o) .nil) (cond (Nat.beq (n % 2) 1) (.nod (Mt.fresh f (n / 2) o) Option.none .nil) (.nod .nil Option.none (Mt.fresh f (n / 2 - 1) o)))
noncomputable def Mt.set (t : Mt) : Nat → Mo → Mt := Mt.rec (motive := fun _ => Nat → Mo → Mt) (fun n o => Mt.fresh (n + 1) n o)
  (fun l v r il ir n o => Bool.rec (motive := fun _ => Mt) (Bool.rec (motive := fun _ => Mt) (.nod l v (ir (Nat.sub (Nat.div n 2) 1) o)) (.nod (il (Nat.div n 2) o) v r) (Nat.beq (Nat.mod n 2) 1)) (.nod l (some o) r) (Nat.beq n 0)) t
theorem cond_t {α : Type} {b : Bool} {x y : α} (h : b = true) : cond b x y = x := by subst h; rfl
theorem cond_f {α : Type} {b : Bool} {x y : α} (h : b = false) : cond b x y = y := by subst h; rfl
theorem beq_f {a b : Nat} (h : a ≠ b) : Nat.beq a b = false := by
  cases e : Nat.beq a b with
  | false => rfl
  | true => exact absurd (Nat.eq_of_beq_eq_true e) h
theorem beq_t {a : Nat} : Nat.beq a a = true := Nat.beq_refl a
theorem Mt.get_nod (l : Mt) (o : Option Mo) (r : Mt) (n : Nat) : (Mt.nod l o r).get n = if n = 0 then o else if n % 2 = 1 then l.get (n / 2) else r.get (n / 2 - 1) := by
  show Bool.rec (motive := fun _ => Option Mo) (Bool.rec (motive := fun _ => Option Mo) (r.get (n / 2 - 1)) (l.get (n / 2)) (Nat.beq (n % 2) 1)) o (Nat.beq n 0) = _
  by_cases h : n = 0
  · subst h; rfl
  · rw [beq_f h, if_neg h]
    by_cases h1 : n % 2 = 1
    · rw [h1, if_pos rfl]; rfl
    · rw [beq_f h1, if_neg h1]
theorem Mt.set_nod (l : Mt) (v : Option Mo) (r : Mt) (n : Nat) (o : Mo) : (Mt.nod l v r).set n o = if n = 0 then .nod l (some o) r else if n % 2 = 1 then .nod (l.set (n / 2) o) v r else .nod l v (r.set (n / 2 - 1) o) := by
  show Bool.rec (motive := fun _ => Mt) (Bool.rec (motive := fun _ => Mt) (.nod l v (r.set (n / 2 - 1) o)) (.nod (l.set (n / 2) o) v r) (Nat.beq (n % 2) 1)) (.nod l (some o) r) (Nat.beq n 0) = _
  by_cases h : n = 0
  · subst h; rfl
  · rw [beq_f h, if_neg h]
    by_cases h1 : n % 2 = 1
    · rw [h1, if_pos rfl]; rfl
    · rw [beq_f h1, if_neg h1]
theorem Mt.get_nil (n : Nat) : Mt.get .nil n = Option.none := rfl
theorem Mt.get_fresh : ∀ (f n : Nat) (o : Mo), n < f → ∀ m, (Mt.fresh f n o).get m = if m = n then some o else Option.none
  | 0, _, _, h, _ => absurd h (by omega)
  | f + 1, n, o, h, m => by
    unfold Mt.fresh
    by_cases h0 : n = 0
    · subst h0
      rw [cond_t beq_t, Mt.get_nod, Mt.get_nil, Mt.get_nil]
      by_cases hm : m = 0
      · rw [if_pos hm, if_pos hm]
      · rw [if_neg hm, if_neg hm]; split <;> rfl
    · rw [cond_f (beq_f h0)]
      by_cases h1 : n % 2 = 1
      · rw [h1, cond_t beq_t, Mt.get_nod, Mt.get_nil]
        by_cases hm : m = 0
        · rw [if_pos hm, if_neg (by omega)]
        · rw [if_neg hm]
          by_cases hm1 : m % 2 = 1
          · rw [if_pos hm1, Mt.get_fresh f (n / 2) o (by omega)]
            by_cases e : m = n
            · rw [if_pos e, if_pos (by rw [e])]
            · rw [if_neg e, if_neg (by omega)]
          · rw [if_neg hm1, if_neg (by intro e; rw [e] at hm1; exact hm1 h1)]
      · rw [cond_f (beq_f h1), Mt.get_nod, Mt.get_nil]
        by_cases hm : m = 0
        · rw [if_pos hm, if_neg (by omega)]
        · rw [if_neg hm]
          by_cases hm1 : m % 2 = 1
          · rw [if_pos hm1, if_neg (by intro e; rw [e] at hm1; exact h1 hm1)]
          · rw [if_neg hm1, Mt.get_fresh f (n / 2 - 1) o (by omega)]
            by_cases e : m = n
            · rw [if_pos e, if_pos (by rw [e])]
            · rw [if_neg e, if_neg (by omega)]
theorem Mt.get_set : ∀ (t : Mt) (n : Nat) (o : Mo) (m : Nat), (t.set n o).get m = if m = n then some o else t.get m
  | .nil, n, o, m => Mt.get_fresh (n + 1) n o (Nat.lt_succ_self n) m
  | .nod l v r, n, o, m => by
    rw [Mt.set_nod]
    by_cases h0 : n = 0
    · subst h0
      rw [if_pos rfl, Mt.get_nod, Mt.get_nod]
      by_cases hm : m = 0
      · rw [if_pos hm, if_pos hm]
      · rw [if_neg hm, if_neg hm, if_neg hm]
    · rw [if_neg h0]
      by_cases h1 : n % 2 = 1
      · rw [if_pos h1, Mt.get_nod, Mt.get_nod]
        by_cases hm : m = 0
        · rw [if_pos hm, if_pos hm, if_neg (by omega)]
        · rw [if_neg hm, if_neg hm]
          by_cases hm1 : m % 2 = 1
          · rw [if_pos hm1, if_pos hm1, Mt.get_set l (n / 2) o]
            by_cases e : m = n
            · rw [if_pos e, if_pos (by rw [e])]
            · rw [if_neg e, if_neg (by omega)]
          · rw [if_neg hm1, if_neg hm1, if_neg (by intro e; rw [e] at hm1; exact hm1 h1)]
      · rw [if_neg h1, Mt.get_nod, Mt.get_nod]
        by_cases hm : m = 0
        · rw [if_pos hm, if_pos hm, if_neg (by omega)]
        · rw [if_neg hm, if_neg hm]
          by_cases hm1 : m % 2 = 1
          · rw [if_pos hm1, if_pos hm1, if_neg (by intro e; rw [e] at hm1; exact h1 hm1)]
          · rw [if_neg hm1, if_neg hm1, Mt.get_set r (n / 2 - 1) o]
            by_cases e : m = n
            · rw [if_pos e, if_pos (by rw [e])]
            · rw [if_neg e, if_neg (by omega)]
structure Ms where
  sz : Nat
  t : Mt
noncomputable def Ms.get (s : Ms) (n : Nat) : Option Mo := s.t.get n
noncomputable def Ms.alloc (s : Ms) (o : Mo) : Option (Nat × Ms) := some (s.sz, ⟨Nat.succ s.sz, s.t.set s.sz o⟩)
noncomputable def Ms.put (s : Ms) (n : Nat) (o : Mo) : Ms := ⟨s.sz, s.t.set n o⟩
abbrev Me := List (Option Mv)
abbrev Fe := Me → Ms → Option (Mv × Ms)
abbrev Ft := Me → Ms → Option (Bool × Ms)
abbrev Fa := Me → Ms → Option (List Mv × Ms)
abbrev Fn := List Mv → Ms → Option (Mv × Ms)

/-! ### what a value of the mirror stands for -/
structure Mg where
  P : Program
  w : World
  K : PySem.W.Frag
  cad : Nat → Addr
  nf : Nat
  nm : Nat → Str
  inj : ∀ i j, i < nf → j < nf → nm i = nm j → i = j
  /-- the next draw below k of a source that holds a, c, n: the draw, and what a and n become -/
  dr : Int → Int → Int → Int → Int × Int × Int
  /-- where a def's table of code objects stands -/
  tad : Nat → Addr
/-- the draws of a source -/
def Dr (dr : Int → Int → Int → Int → Int × Int × Int) : List (Int × Int) → Int → Int → Int → Prop
  | [], _, _, _ => True
  | (k, x) :: ds, a, c, n => (dr k a c n).1 = x ∧ Dr dr ds (dr k a c n).2.1 c (dr k a c n).2.2
/-- what a source holds -/
structure BoxOk (a c n : Int) : Prop where
  a0 : 0 ≤ a
  c0 : 0 ≤ c
  c1 : c < 2 ^ 62
  n0 : 0 ≤ n
/-- a list that nobody changes: known to the object or written -/
def FlAt (K : PySem.W.Frag) (p : List Addr) (H : Hp) (a : Addr) (vs : List V) : Prop := (∃ o, H a = some (.frz o (.lst vs))) ∨ SqL K (fun _ => Option.none) a vs
mutual
inductive Den (G : Mg) (p : List Addr) (H : Hp) : Mv → V → Prop
  | non : Den G p H .non .non
  | bl (b : Bool) : Den G p H (.bl b) (.bl b)
  | int (i : Int) : Den G p H (.int i) (.int i)
  | str (x : Str) : Den G p H (.str x) (.str x)
  | ty (t : Mty) : Den G p H (.ty t) (.ty t.name)
  | cls (c : Nat) : Den G p H (.cls c) (.ref (G.cad c))
  | ref {n : Nat} {a : Addr} : p[n]? = some a → Den G p H (.ref n) (.ref a)
  | tup {a : Addr} {ws : List Mv} {vs : List V} : SqT G.K H a vs → DenL G p H ws vs → Den G p H (.tup ws) (.ref a)
  | fl {a : Addr} {ws : List Mv} {vs : List V} : FlAt G.K p H a vs → DenL G p H ws vs → Den G p H (.fl ws) (.ref a)
inductive DenL (G : Mg) (p : List Addr) (H : Hp) : List Mv → List V → Prop
  | nil : DenL G p H [] []
  | cons {w : Mv} {v : V} {ws : List Mv} {vs : List V} : Den G p H w v → DenL G p H ws vs → DenL G p H (w :: ws) (v :: vs)
end
/-- a dict with tuples as keys, by its object -/
def NDo (P : Program) (w : World) (a : Addr) (xs : List (NestedKey × Addr × V)) : HO := .ext fun h => xs.length ≤ sizeLine ∧ (a == sysModules) = false ∧ ∃ ys : List (NestedKey × Addr × Value),
  Paired (fun (x : NestedKey × Addr × V) (y : NestedKey × Addr × Value) => x.1 = y.1 ∧ x.2.1 = y.2.1 ∧ RelV x.2.2 y.2.2) xs ys ∧
  ∃ o es ep, h.get? a = some o ∧ o.ExactDict ∧ o.data = .dict es ep ∧ es.toList = ys.map (entryOfKey (nestedKind P w)) ∧ (ys.map (·.1)).Nodup
mutual
/-- the key that a value is -/
inductive KeyM : NestedKey → Mv → Prop
  | non : KeyM .none .non
  | bl (b : Bool) : KeyM (.num (if b = true then 1 else 0)) (.bl b)
  | int (i : Int) : KeyM (.num i) (.int i)
  | str (x : Str) : KeyM (.text x) (.str x)
  | tup {ks : List NestedKey} {ws : List Mv} : KeyMs ks ws → KeyM (.tup ks) (.tup ws)
inductive KeyMs : List NestedKey → List Mv → Prop
  | nil : KeyMs [] []
  | cons {k : NestedKey} {w : Mv} {ks : List NestedKey} {ws : List Mv} : KeyM k w → KeyMs ks ws → KeyMs (k :: ks) (w :: ws)
end
/-- entries, one by one -/
inductive DenN (G : Mg) (p : List Addr) (H : Hp) : List (NestedKey × Mv × Mv) → List (NestedKey × Addr × V) → Prop
  | nil : DenN G p H [] []
  | cons {k : NestedKey} {kw w : Mv} {b : Addr} {v : V} {ks : List (NestedKey × Mv × Mv)} {xs : List (NestedKey × Addr × V)} : KeyM k kw → k.depth ≤ 8 → Den G p H kw (.ref b) → Den G p H w v → DenN G p H ks xs → DenN G p H ((k, kw, w) :: ks) ((k, b, v) :: xs)
def DenO (G : Mg) (p : List Addr) (H : Hp) (a : Addr) : Mo → HO → Prop
  | .lst ws, ho => ∃ vs, ho = .lst vs ∧ DenL G p H ws vs ∧ vs.length ≤ sizeLine
  | .ins c fs, ho => ∃ dx fs', ho = .ins (G.cad c) dx fs' ∧ fs'.map (·.1) = fs.map (fun q => G.nm q.1) ∧ DenL G p H (fs.map (·.2)) (fs'.map (·.2)) ∧ ∀ q ∈ fs, q.1 < G.nf
  | .dk kvs, ho => ∃ kvs', ho = .dK kvs' ∧ kvs'.map (·.1) = kvs.map (·.1) ∧ DenL G p H (kvs.map (·.2)) (kvs'.map (·.2))
  | .dn kvs, ho => ∃ xs, ho = NDo G.P G.w a xs ∧ DenN G p H kvs xs
  | .lk kvs, ho => ∃ od kvs', ho = .frz od (.dK kvs') ∧ kvs'.map (·.1) = kvs.map (·.1) ∧ DenL G p H (kvs.map (·.2)) (kvs'.map (·.2))
  | .ln kvs, ho => ∃ od xs, ho = .frz od (NDo G.P G.w a xs) ∧ DenN G p H kvs xs
  | .box m ds, ho => ∃ a c n, ho = .lst [.int a, .int c, .int n] ∧ BoxOk a c n ∧ n ≤ m ∧ m + ds.length ≤ 1000000 ∧ Dr G.dr ds a c n
  | .tab t Option.none, ho => a = G.tad t ∧ ho = .tbl #[]
  | .tab t (some (l, c, n)), ho => a = G.tad t ∧ ∃ b, p[n]? = some b ∧ ho = .tbl #[rawInt l, rawInt c, .ref b]
  | .cod q, ho => ho = LamX.CodeO a q
structure Sim (G : Mg) (p : List Addr) (s : Ms) (H : Hp) : Prop where
  len : p.length = s.sz
  nd : p.Nodup
  ob : ∀ n a, p[n]? = some a → ∃ o ho, s.get n = some o ∧ H a = some ho ∧ DenO G p H a o ho
  out : ∀ n, s.sz ≤ n → s.get n = Option.none
structure Fra (p : List Addr) (H : Hp) (p' : List Addr) (H' : Hp) : Prop where
  pre : ∃ q, p' = p ++ q ∧ ∀ a ∈ q, a ∉ p → H a = Option.none
  kee : ∀ a o, H a = some o → a ∉ p → H' a = some o
  frz : ∀ a o u, H a = some (.frz o u) → H' a = some (.frz o u)
theorem Fra.refl {p : List Addr} {H : Hp} : Fra p H p H := ⟨⟨[], by simp, fun a h => by simp at h⟩, fun _ _ e _ => e, fun _ _ _ e => e⟩
theorem Fra.notin {p p' : List Addr} {H H' : Hp} (f : Fra p H p' H') {a : Addr} {o : HO} (e : H a = some o) (n : a ∉ p) : a ∉ p' := by
  obtain ⟨q, rfl, hq⟩ := f.pre
  intro h
  rcases List.mem_append.mp h with h | h
  · exact n h
  · rw [hq a h n] at e; cases e
theorem Fra.trans {p p1 p2 : List Addr} {H H1 H2 : Hp} (f : Fra p H p1 H1) (g : Fra p1 H1 p2 H2) : Fra p H p2 H2 := by
  obtain ⟨q, e, hq⟩ := f.pre
  obtain ⟨q', e', hq'⟩ := g.pre
  refine ⟨⟨q ++ q', by rw [e', e, List.append_assoc], fun a ha np => ?_⟩, fun a o h n => g.kee a o (f.kee a o h n) (f.notin h n), fun a o u e => g.frz a o u (f.frz a o u e)⟩
  rcases List.mem_append.mp ha with h | h
  · exact hq a h np
  · cases h1 : H a with
    | none => rfl
    | some o =>
      have z := f.kee a o h1 np
      rw [hq' a h (f.notin h1 np)] at z
      cases z
theorem Fra.at {p p' : List Addr} {H H' : Hp} (f : Fra p H p' H') {n : Nat} {a : Addr} (h : p[n]? = some a) : p'[n]? = some a := by
  obtain ⟨q, rfl, _⟩ := f.pre
  rw [List.getElem?_append_left (List.getElem?_eq_some_iff.mp h).1]
  exact h
/-- a list or a tuple -/
def SqU : HO → Prop
  | .lst _ => True
  | .tup _ => True
  | _ => False
/-- no tuple, no locked list or tuple is among the changeable ones -/
theorem Sim.kind {G : Mg} {p : List Addr} {s : Ms} {H : Hp} (S : Sim G p s H) {a : Addr} (h : a ∈ p) : (∀ vs, H a ≠ some (.tup vs)) ∧ ∀ o u, SqU u → H a ≠ some (.frz o u) := by
  obtain ⟨n, hn⟩ := List.mem_iff_getElem?.mp h
  obtain ⟨o, ho, _, h2, d⟩ := S.ob n a hn
  constructor
  · intro vs e
    rw [e] at h2; cases h2
    cases o with
    | lst ws => obtain ⟨_, z, _⟩ := d; cases z
    | ins c fs => obtain ⟨_, _, z, _⟩ := d; cases z
    | dk kvs => obtain ⟨_, z, _⟩ := d; cases z
    | dn kvs => obtain ⟨_, z, _⟩ := d; cases z
    | lk kvs => obtain ⟨_, _, z, _⟩ := d; cases z
    | ln kvs => obtain ⟨_, _, z, _⟩ := d; cases z
    | box m ds => obtain ⟨_, _, _, z, _⟩ := d; cases z
    | tab t o =>
      rcases o with _ | ⟨l, c, n⟩
      · obtain ⟨_, z⟩ := d; cases z
      · obtain ⟨_, _, _, z⟩ := d; cases z
    | cod q => exact nomatch (show _ = LamX.CodeO a q from d)
  · intro ob u hu e
    rw [e] at h2; cases h2
    cases o with
    | lst ws => obtain ⟨_, z, _⟩ := d; cases z
    | ins c fs => obtain ⟨_, _, z, _⟩ := d; cases z
    | dk kvs => obtain ⟨_, z, _⟩ := d; cases z
    | dn kvs => obtain ⟨_, z, _⟩ := d; cases z
    | lk kvs => obtain ⟨_, _, z, _⟩ := d; cases z; exact hu
    | ln kvs => obtain ⟨_, _, z, _⟩ := d; cases z; exact hu
    | box m ds => obtain ⟨_, _, _, z, _⟩ := d; cases z
    | tab t o =>
      rcases o with _ | ⟨l, c, n⟩
      · obtain ⟨_, z⟩ := d; cases z
      · obtain ⟨_, _, _, z⟩ := d; cases z
    | cod q => exact nomatch (show _ = LamX.CodeO a q from d)
/-- what stays: tuples and locked things -/
structure Stays (p : List Addr) (H : Hp) (p' : List Addr) (H' : Hp) : Prop where
  ix : ∀ (n : Nat) (a : Addr), p[n]? = some a → p'[n]? = some a
  tp : ∀ a vs, H a = some (.tup vs) → H' a = some (.tup vs)
  fz : ∀ a o u, SqU u → H a = some (.frz o u) → H' a = some (.frz o u)
theorem Stays.refl {p : List Addr} {H : Hp} : Stays p H p H := ⟨fun _ _ e => e, fun _ _ e => e, fun _ _ _ _ e => e⟩
theorem Stays.trans {p p1 p2 : List Addr} {H H1 H2 : Hp} (a : Stays p H p1 H1) (b : Stays p1 H1 p2 H2) : Stays p H p2 H2 :=
  ⟨fun n x e => b.ix n x (a.ix n x e), fun x vs e => b.tp x vs (a.tp x vs e), fun x o u hu e => b.fz x o u hu (a.fz x o u hu e)⟩
theorem Fra.stays {G : Mg} {p p' : List Addr} {s : Ms} {H H' : Hp} (S : Sim G p s H) (f : Fra p H p' H') : Stays p H p' H' :=
  ⟨fun n a h => f.at h, fun a vs e => f.kee a _ e fun h => (S.kind h).1 vs e, fun a o u hu e => f.kee a _ e fun h => (S.kind h).2 o u hu e⟩
theorem Stays.tup {G : Mg} {p p' : List Addr} {H H' : Hp} {a : Addr} {vs : List V} (z : Stays p H p' H') (h : SqT G.K H a vs) : SqT G.K H' a vs := by
  rcases h with h | h
  · rcases h with h | ⟨o, h⟩
    · exact .inl (.inl (z.tp a vs h))
    · exact .inl (.inr ⟨o, z.fz a o _ trivial h⟩)
  · exact .inr h
theorem Stays.fl {K : PySem.W.Frag} {p p' : List Addr} {H H' : Hp} {a : Addr} {vs : List V} (z : Stays p H p' H') (h : FlAt K p H a vs) : FlAt K p' H' a vs := by
  rcases h with ⟨o, h⟩ | h
  · exact .inl ⟨o, z.fz a o _ trivial h⟩
  · exact .inr h
mutual
theorem Den.stay {G : Mg} {p p' : List Addr} {H H' : Hp} (z : Stays p H p' H') : ∀ {w : Mv} {v : V}, Den G p H w v → Den G p' H' w v
  | _, _, .non => .non
  | _, _, .bl b => .bl b
  | _, _, .int i => .int i
  | _, _, .str x => .str x
  | _, _, .ty t => .ty t
  | _, _, .cls c => .cls c
  | _, _, .ref h => .ref (z.ix _ _ h)
  | _, _, .tup h l => .tup (Stays.tup (G := G) z h) (DenL.stay z l)
  | _, _, .fl h l => .fl (Stays.fl z h) (DenL.stay z l)
theorem DenL.stay {G : Mg} {p p' : List Addr} {H H' : Hp} (z : Stays p H p' H') : ∀ {ws : List Mv} {vs : List V}, DenL G p H ws vs → DenL G p' H' ws vs
  | _, _, .nil => .nil
  | _, _, .cons h l => .cons (Den.stay z h) (DenL.stay z l)
end
theorem DenN.stay {G : Mg} {p p' : List Addr} {H H' : Hp} (z : Stays p H p' H') : ∀ {ks : List (NestedKey × Mv × Mv)} {xs : List (NestedKey × Addr × V)}, DenN G p H ks xs → DenN G p' H' ks xs
  | _, _, .nil => .nil
  | _, _, .cons a b c d l => .cons a b (c.stay z) (d.stay z) (l.stay z)
theorem DenO.stay {G : Mg} {p p' : List Addr} {H H' : Hp} (z : Stays p H p' H') {a : Addr} {o : Mo} {ho : HO} (h : DenO G p H a o ho) : DenO G p' H' a o ho := by
  cases o with
  | lst ws => obtain ⟨vs, e, l, n⟩ := h; exact ⟨vs, e, l.stay z, n⟩
  | ins c fs => obtain ⟨dx, fs', e, n, l, b⟩ := h; exact ⟨dx, fs', e, n, l.stay z, b⟩
  | dk kvs => obtain ⟨kvs', e, n, l⟩ := h; exact ⟨kvs', e, n, l.stay z⟩
  | dn kvs => obtain ⟨xs, e, l⟩ := h; exact ⟨xs, e, l.stay z⟩
  | lk kvs => obtain ⟨od, kvs', e, n, l⟩ := h; exact ⟨od, kvs', e, n, l.stay z⟩
  | ln kvs => obtain ⟨od, xs, e, l⟩ := h; exact ⟨od, xs, e, l.stay z⟩
  | box m ds => exact h
  | tab t o =>
    rcases o with _ | ⟨l, c, n⟩
    · exact h
    · obtain ⟨h0, b, h1, h2⟩ := h; exact ⟨h0, b, z.ix _ _ h1, h2⟩
  | cod q => exact h
theorem Den.fra {G : Mg} {p p' : List Addr} {s : Ms} {H H' : Hp} {w : Mv} {v : V} (h : Den G p H w v) (S : Sim G p s H) (f : Fra p H p' H') : Den G p' H' w v := h.stay (f.stays S)
theorem DenL.fra {G : Mg} {p p' : List Addr} {s : Ms} {H H' : Hp} {w : List Mv} {v : List V} (h : DenL G p H w v) (S : Sim G p s H) (f : Fra p H p' H') : DenL G p' H' w v := h.stay (f.stays S)
theorem DenL.length {G : Mg} {p : List Addr} {H : Hp} : ∀ {ws : List Mv} {vs : List V}, DenL G p H ws vs → ws.length = vs.length
  | _, _, .nil => rfl
  | _, _, .cons _ l => by rw [List.length_cons, List.length_cons, l.length]
theorem DenL.get {G : Mg} {p : List Addr} {H : Hp} : ∀ {ws : List Mv} {vs : List V}, DenL G p H ws vs → ∀ {i : Nat} {w : Mv}, ws[i]? = some w → ∃ v, vs[i]? = some v ∧ Den G p H w v
  | _, _, .nil, i, w, e => by simp at e
  | _, _, .cons h l, 0, w, e => by simp at e; subst e; exact ⟨_, rfl, h⟩
  | _, _, .cons h l, i + 1, w, e => by simpa using l.get (i := i) (by simpa using e)
theorem DenL.append {G : Mg} {p : List Addr} {H : Hp} : ∀ {ws ws' : List Mv} {vs vs' : List V}, DenL G p H ws vs → DenL G p H ws' vs' → DenL G p H (ws ++ ws') (vs ++ vs')
  | _, _, _, _, .nil, h => h
  | _, _, _, _, .cons a l, h => .cons a (l.append h)
theorem DenL.drop {G : Mg} {p : List Addr} {H : Hp} : ∀ (n : Nat) {ws : List Mv} {vs : List V}, DenL G p H ws vs → DenL G p H (ws.drop n) (vs.drop n)
  | 0, _, _, h => h
  | _ + 1, _, _, .nil => .nil
  | n + 1, _, _, .cons _ l => l.drop n
theorem DenL.take {G : Mg} {p : List Addr} {H : Hp} : ∀ (n : Nat) {ws : List Mv} {vs : List V}, DenL G p H ws vs → DenL G p H (ws.take n) (vs.take n)
  | 0, _, _, _ => .nil
  | _ + 1, _, _, .nil => .nil
  | n + 1, _, _, .cons h l => .cons h (l.take n)
theorem DenL.set {G : Mg} {p : List Addr} {H : Hp} {w : Mv} {v : V} (h : Den G p H w v) : ∀ {ws : List Mv} {vs : List V} (i : Nat), DenL G p H ws vs → DenL G p H (ws.set i w) (vs.set i v)
  | _, _, _, .nil => .nil
  | _, _, 0, .cons _ l => .cons h l
  | _, _, i + 1, .cons a l => .cons a (DenL.set h i l)
theorem DenL.erase {G : Mg} {p : List Addr} {H : Hp} : ∀ {ws : List Mv} {vs : List V} (i : Nat), DenL G p H ws vs → DenL G p H (ws.eraseIdx i) (vs.eraseIdx i)
  | _, _, _, .nil => .nil
  | _, _, 0, .cons _ l => l
  | _, _, i + 1, .cons a l => .cons a (l.erase i)
theorem nodup_at {α : Type} {l : List α} (hl : l.Nodup) {i j : Nat} {x : α} (a : l[i]? = some x) (b : l[j]? = some x) : i = j := by
  obtain ⟨h1, e1⟩ := List.getElem?_eq_some_iff.mp a
  obtain ⟨h2, e2⟩ := List.getElem?_eq_some_iff.mp b
  exact (List.getElem_inj hl).mp (e1.trans e2.symm)
/-! ### the store: new objects, changed ones -/
theorem Ms.alloc_eq {s s' : Ms} {o : Mo} {n : Nat} (h : s.alloc o = some (n, s')) : n = s.sz ∧ s'.sz = s.sz + 1 ∧ ∀ m, s'.get m = if m = s.sz then some o else s.get m := by
  cases h
  exact ⟨rfl, rfl, fun m => Mt.get_set s.t s.sz o m⟩
theorem Sim.new {G : Mg} {p : List Addr} {s s' : Ms} {H : Hp} {o : Mo} {ho : HO} {n : Nat} {a : Addr} {H' : Hp} (S : Sim G p s H) (e : s.alloc o = some (n, s')) (ha : H a = Option.none) (d : DenO G p H a o ho) (ha' : H' a = some ho) (hk : ∀ b u, H b = some u → H' b = some u) :
    Sim G (p ++ [a]) s' H' ∧ Fra p H (p ++ [a]) H' ∧ Den G (p ++ [a]) H' (.ref n) (.ref a) := by
  obtain ⟨rfl, h2, h4⟩ := Ms.alloc_eq e
  have nin : a ∉ p := fun h => by
    obtain ⟨k, hk'⟩ := List.mem_iff_getElem?.mp h
    obtain ⟨_, _, _, z, _⟩ := S.ob k a hk'
    rw [ha] at z; cases z
  have f : Fra p H (p ++ [a]) H' := ⟨⟨[a], rfl, fun b hb _ => by rw [List.mem_singleton.mp hb]; exact ha⟩, fun b u e _ => hk b u e, fun b o u e => hk b _ e⟩
  have st := f.stays S
  have hlen : (p ++ [a])[s.sz]? = some a := by rw [← S.len]; simp
  refine ⟨⟨by rw [List.length_append, S.len, h2]; rfl, ?_, fun m b hb => ?_, fun m hm => ?_⟩, f, .ref hlen⟩
  · rw [List.nodup_append]
    exact ⟨S.nd, by simp, fun x hx y hy => by rw [List.mem_singleton.mp hy]; rintro rfl; exact nin hx⟩
  · by_cases hmn : m = s.sz
    · subst hmn
      rw [hlen] at hb; cases hb
      exact ⟨o, ho, by rw [h4, if_pos rfl], ha', d.stay st⟩
    · have hlt : m < p.length := by
        have := (List.getElem?_eq_some_iff.mp hb).1
        rw [List.length_append] at this
        have := S.len
        simp at *
        omega
      rw [List.getElem?_append_left hlt] at hb
      obtain ⟨o1, ho1, q1, q2, q3⟩ := S.ob m b hb
      exact ⟨o1, ho1, by rw [h4, if_neg hmn]; exact q1, hk _ _ q2, q3.stay st⟩
  · rw [h4, if_neg (by omega)]
    exact S.out m (by omega)
theorem Sim.get {G : Mg} {p : List Addr} {s : Ms} {H : Hp} (S : Sim G p s H) {n : Nat} {a : Addr} {o : Mo} (h : p[n]? = some a) (e : s.get n = some o) : ∃ ho, H a = some ho ∧ DenO G p H a o ho := by
  obtain ⟨o', ho, q1, q2, q3⟩ := S.ob n a h
  rw [e] at q1; cases q1
  exact ⟨ho, q2, q3⟩
def unl : Mo → Bool
  | .lk _ => false
  | .ln _ => false
  | _ => true
theorem DenO.unl {G : Mg} {p : List Addr} {H : Hp} {a : Addr} {o : Mo} {ho : HO} (d : DenO G p H a o ho) (hu : unl o = true) : ∀ ob u, ho ≠ .frz ob u := by
  intro ob u e
  subst e
  cases o with
  | lst ws => obtain ⟨_, z, _⟩ := d; cases z
  | ins c fs => obtain ⟨_, _, z, _⟩ := d; cases z
  | dk kvs => obtain ⟨_, z, _⟩ := d; cases z
  | dn kvs => obtain ⟨_, z, _⟩ := d; cases z
  | lk kvs => cases hu
  | ln kvs => cases hu
  | box m ds => obtain ⟨_, _, _, z, _⟩ := d; cases z
  | tab t o =>
    rcases o with _ | ⟨l, c, n⟩
    · obtain ⟨_, z⟩ := d; cases z
    · obtain ⟨_, _, _, z⟩ := d; cases z
  | cod q => exact nomatch (show _ = LamX.CodeO a q from d)
theorem Sim.put {G : Mg} {p : List Addr} {s : Ms} {H : Hp} {o o0 : Mo} {ho : HO} {n : Nat} {a : Addr} (S : Sim G p s H) (h : p[n]? = some a) (e0 : s.get n = some o0) (hu : unl o0 = true) (nt : ∀ vs, ho ≠ .tup vs) (d : DenO G p H a o ho) : Sim G p (s.put n o) (upd H a ho) ∧ Fra p H p (upd H a ho) := by
  have hn : n < s.sz := by rw [← S.len]; exact (List.getElem?_eq_some_iff.mp h).1
  have ham : a ∈ p := List.mem_of_getElem? h
  have f : Fra p H p (upd H a ho) := ⟨⟨[], by simp, fun b hb => by simp at hb⟩, fun b u e nb => by
    have hne : b ≠ a := fun z => nb (by rw [z]; exact ham)
    rw [upd_ne hne]; exact e, fun b ob u e => by
    obtain ⟨ho0, q1, q2⟩ := S.get h e0
    have hne : b ≠ a := fun z => by
      subst z
      rw [q1] at e
      exact q2.unl hu ob u (Option.some.inj e)
    rw [upd_ne hne]; exact e⟩
  have st := f.stays S
  have g : ∀ m, (s.put n o).get m = if m = n then some o else s.get m := fun m => Mt.get_set s.t n o m
  refine ⟨⟨S.len, S.nd, fun m b hb => ?_, fun m hm => ?_⟩, f⟩
  · by_cases hmn : m = n
    · subst hmn
      rw [h] at hb; cases hb
      exact ⟨o, ho, by rw [g, if_pos rfl], upd_same, d.stay st⟩
    · obtain ⟨o1, ho1, q1, q2, q3⟩ := S.ob m b hb
      have hne : b ≠ a := fun z => hmn (nodup_at S.nd (z ▸ hb) h)
      exact ⟨o1, ho1, by rw [g, if_neg hmn]; exact q1, by rw [upd_ne hne]; exact q2, q3.stay st⟩
  · rw [g, if_neg (by have : s.sz ≤ m := hm; omega)]
    exact S.out m hm

end
section
/-! ### readings of mirrored functions -/
structure EnvR (G : Mg) (p : List Addr) (H : Hp) (r : Me) (σ : L2.St) : Prop where
  len : r.length = σ.length
  get : ∀ (i : Nat) (w : Mv), r[i]? = some (some w) → ∃ v, σ[i]? = some (some v) ∧ Den G p H w v
theorem EnvR.fra {G : Mg} {p p' : List Addr} {s : Ms} {H H' : Hp} {r : Me} {σ : L2.St} (e : EnvR G p H r σ) (S : Sim G p s H) (f : Fra p H p' H') : EnvR G p' H' r σ :=
  ⟨e.len, fun i w h => let ⟨v, q, d⟩ := e.get i w h; ⟨v, q, d.fra S f⟩⟩
theorem EnvR.set {G : Mg} {p : List Addr} {H : Hp} {r : Me} {σ : L2.St} {i : Nat} {w : Mv} {v : V} (e : EnvR G p H r σ) (d : Den G p H w v) : EnvR G p H (lset r i (some w)) (σ.set i (some v)) := by
  rw [lset_eq]
  refine ⟨by rw [List.length_set, List.length_set, e.len], fun j x h => ?_⟩
  by_cases hj : i = j
  · subst hj
    have hl : i < r.length := by
      have := (List.getElem?_eq_some_iff.mp h).1
      rwa [List.length_set] at this
    rw [List.getElem?_set_self hl] at h
    cases h
    exact ⟨v, List.getElem?_set_self (by rw [← e.len]; exact hl), d⟩
  · rw [List.getElem?_set_ne hj] at h
    rw [List.getElem?_set_ne hj]
    exact e.get j x h
noncomputable def After (G : Mg) (p : List Addr) (H : Hp) (w : Mv) (s' : Ms) (Q : VK) : Prop := ∀ p' v H', Sim G p' s' H' → Fra p H p' H' → Den G p' H' w v → Q v H'
noncomputable def tI (G : Mg) (F : Fe) : TE := fun σ H Q => ∃ p s r w s', Sim G p s H ∧ EnvR G p H r σ ∧ F r s = some (w, s') ∧ After G p H w s' Q
noncomputable def tT (G : Mg) (F : Ft) : TT := fun σ H Q => ∃ p s r b s', Sim G p s H ∧ EnvR G p H r σ ∧ F r s = some (b, s') ∧ ∀ p' H', Sim G p' s' H' → Fra p H p' H' → Q b H'
noncomputable def tA (G : Mg) (F : Fa) : TA := fun σ H Q => ∃ p s r ws s', Sim G p s H ∧ EnvR G p H r σ ∧ F r s = some (ws, s') ∧ ∀ p' vs H', Sim G p' s' H' → Fra p H p' H' → DenL G p' H' ws vs → Q vs H'
noncomputable def rF (G : Mg) (f : Fn) : List V → Hp → VK → Prop := fun vs H Q => ∃ p s ws w s', Sim G p s H ∧ DenL G p H ws vs ∧ f ws s = some (w, s') ∧ After G p H w s' Q
noncomputable def q1R (G : Mg) (f : Mv → Ms → Option (Mv × Ms)) : V → Hp → VK → Prop := fun x H Q => ∃ p s a w s', Sim G p s H ∧ Den G p H a x ∧ f a s = some (w, s') ∧ After G p H w s' Q
noncomputable def q2R (G : Mg) (f : Mv → Mv → Ms → Option (Mv × Ms)) : R2 := fun x y H Q => ∃ p s a b w s', Sim G p s H ∧ Den G p H a x ∧ Den G p H b y ∧ f a b s = some (w, s') ∧ After G p H w s' Q
/-- m(o, args) -/
noncomputable def rM (G : Mg) (f : Mv → List Mv → Ms → Option (Mv × Ms)) : V → List V → Hp → VK → Prop := fun x vs H Q => ∃ p s a ws w s', Sim G p s H ∧ Den G p H a x ∧ DenL G p H ws vs ∧ f a ws s = some (w, s') ∧ After G p H w s' Q
noncomputable def spM (G : Mg) (f : Fn) : Sp := fun vs H Q _ => rF G f vs H Q
theorem After.of {G : Mg} {p p1 : List Addr} {H H1 : Hp} {w : Mv} {s' : Ms} {Q : VK} (f : Fra p H p1 H1) (a : After G p H w s' Q) : After G p1 H1 w s' Q := fun p' v H' S' f' d => a p' v H' S' (f.trans f') d

/-! ### the mirror's words -/
noncomputable def mvar (i : Nat) : Fe := fun r s => Option.rec (motive := fun _ => Option (Mv × Ms)) none (fun o => Option.rec (motive := fun _ => Option (Mv × Ms)) none (fun w => some (w, s)) o) (lget r i)
noncomputable def mcon (w : Mv) : Fe := fun _ s => some (w, s)
noncomputable def mno : Fe := fun _ _ => none
noncomputable def mop1 (f : Mv → Ms → Option (Mv × Ms)) (A : Fe) : Fe := fun r s => (A r s).ob fun x => f x.1 x.2
noncomputable def mop2 (f : Mv → Mv → Ms → Option (Mv × Ms)) (A B : Fe) : Fe := fun r s => (A r s).ob fun x => (B r x.2).ob fun y => f x.1 y.1 y.2
noncomputable def mnil : Fa := fun _ s => some ([], s)
noncomputable def mcons (A : Fe) (B : Fa) : Fa := fun r s => (A r s).ob fun x => (B r x.2).ob fun y => some (x.1 :: y.1, y.2)
noncomputable def mcall (f : Fn) (A : Fa) : Fe := fun r s => (A r s).ob fun x => f x.1 x.2
noncomputable def mmth (f : Mv → List Mv → Ms → Option (Mv × Ms)) (A : Fe) (B : Fa) : Fe := fun r s => (A r s).ob fun x => (B r x.2).ob fun y => f x.1 y.1 y.2
noncomputable def mchain (f g : Mv → Mv → Ms → Option (Mv × Ms)) (A B C : Fe) : Fe := fun r s => (A r s).ob fun x => (B r x.2).ob fun y => (f x.1 y.1 y.2).ob fun z => match z.1 with
  | .bl true => (C r z.2).ob fun u => g y.1 u.1 u.2
  | .bl false => some (.bl false, z.2)
  | _ => none
noncomputable def tru : Mv → Ms → Option Bool
  | .non, _ => some false
  | .bl b, _ => some b
  | .int i, _ => some (i != 0)
  | .str x, _ => cond (Nat.ble x.length 16777216) (some (x.length != 0)) none
  | .tup ws, _ => some (!ws.isEmpty)
  | .ref n, s => match s.get n with
    | some (.lst ws) => some (!ws.isEmpty)
    | _ => none
  | _, _ => none
noncomputable def mtst (A : Fe) : Ft := fun r s => (A r s).ob fun x => (tru x.1 x.2).om fun b => (b, x.2)
noncomputable def mtB (A : Fe) : Ft := fun r s => (A r s).ob fun x => match x.1 with
  | .bl b => some (b, x.2)
  | _ => none
noncomputable def mand (A B : Ft) : Ft := fun r s => (A r s).ob fun x => cond x.1 (B r x.2) (some (false, x.2))
noncomputable def mor (A B : Ft) : Ft := fun r s => (A r s).ob fun x => cond x.1 (some (true, x.2)) (B r x.2)
noncomputable def mnot (A : Ft) : Ft := fun r s => (A r s).om fun x => (!x.1, x.2)
noncomputable def mandV (A B : Fe) : Fe := fun r s => (A r s).ob fun x => match x.1 with
  | .bl true => B r x.2
  | .bl false => some (.bl false, x.2)
  | _ => none
noncomputable def morV (A B : Fe) : Fe := fun r s => (A r s).ob fun x => match x.1 with
  | .bl false => B r x.2
  | .bl true => some (.bl true, x.2)
  | _ => none
noncomputable def mnotV (A : Fe) : Fe := fun r s => (A r s).ob fun x => match x.1 with
  | .bl b => some (.bl (!b), x.2)
  | _ => none
noncomputable def mif (T : Ft) (A B : Fe) : Fe := fun r s => (T r s).ob fun x => cond x.1 (A r x.2) (B r x.2)

/-! ### one lemma a construct -/
section
variable {X : Cx} {G : Mg} {e a b c : Expr} {pos : Pos}
theorem pe_imp {t t' : TE} (h : PE X e t) (i : ∀ σ H Q, t' σ H Q → t σ H Q) : PE X e t' := ⟨fun pins s σ H Q I q => h.run pins s σ H Q I (i σ H Q q)⟩
theorem pt_imp {t t' : TT} (h : PT X e t) (i : ∀ σ H Q, t' σ H Q → t σ H Q) : PT X e t' := ⟨fun pins s σ H Q I q => h.run pins s σ H Q I (i σ H Q q)⟩
theorem pw_imp {t t' : TT} (h : PW X e t) (i : ∀ σ H Q, t' σ H Q → t σ H Q) : PW X e t' := ⟨fun wh pins s σ H Q I q => h.run wh pins s σ H Q I (i σ H Q q)⟩
theorem pa_imp {es : List Expr} {t t' : TA} (h : PA X es t) (i : ∀ σ H Q, t' σ H Q → t σ H Q) : PA X es t' := ⟨fun ps pins s σ H Q I q => h.run ps pins s σ H Q I (i σ H Q q)⟩
theorem pm_no : PE X e (tI G mno) := ⟨fun pins s σ H Q I q => by obtain ⟨_, _, _, _, _, _, _, z, _⟩ := q; cases z⟩
theorem mvar_eq {i : Nat} {r : Me} {s s' : Ms} {w : Mv} (h : mvar i r s = some (w, s')) : r[i]? = some (some w) ∧ s' = s := by
  unfold mvar at h
  rw [lget_eq] at h
  cases e : r[i]? with
  | none => rw [e] at h; cases h
  | some o =>
    rw [e] at h
    cases o with
    | none => cases h
    | some w' =>
      have h' : some (w', s) = some (w, s') := h
      cases h'
      exact ⟨rfl, rfl⟩
theorem pm_var {i : Nat} (h : PE X e (tVar i)) : PE X e (tI G (mvar i)) := pe_imp h fun σ H Q ⟨p, s, r, w, s', S, E, q, k⟩ => by
  obtain ⟨h1, rfl⟩ := mvar_eq q
  obtain ⟨v, h2, d⟩ := E.get i w h1
  exact ⟨v, h2, k p v H S Fra.refl d⟩
theorem pm_con {v : V} {w : Mv} (h : PE X e (tC v)) (d : ∀ p s H, Sim G p s H → Den G p H w v) : PE X e (tI G (mcon w)) := pe_imp h fun σ H Q ⟨p, s, r, w', s', S, E, q, k⟩ => by
  cases q
  exact k p v H S Fra.refl (d p s H S)
theorem t_op1 {f : Mv → Ms → Option (Mv × Ms)} {A : Fe} {σ : L2.St} {H : Hp} {Q : VK} (h : tI G (mop1 f A) σ H Q) : tUn (q1R G f) (tI G A) σ H Q := by
  obtain ⟨p, s, r, w, s', S, E, q, k⟩ := h
  obtain ⟨⟨x, s1⟩, q1, q2⟩ := ob_some.mp q
  exact ⟨p, s, r, x, s1, S, E, q1, fun p1 v1 H1 S1 f1 d1 => ⟨p1, s1, x, w, s', S1, d1, q2, k.of f1⟩⟩
theorem t_op2 {f : Mv → Mv → Ms → Option (Mv × Ms)} {A B : Fe} {σ : L2.St} {H : Hp} {Q : VK} (h : tI G (mop2 f A B) σ H Q) : tOp (q2R G f) (tI G A) (tI G B) σ H Q := by
  obtain ⟨p, s, r, w, s', S, E, q, k⟩ := h
  obtain ⟨⟨x, s1⟩, q1, q2⟩ := ob_some.mp q
  obtain ⟨⟨y, s2⟩, q3, q4⟩ := ob_some.mp q2
  exact ⟨p, s, r, x, s1, S, E, q1, fun p1 v1 H1 S1 f1 d1 => ⟨p1, s1, r, y, s2, S1, E.fra S f1, q3, fun p2 v2 H2 S2 f2 d2 => ⟨p2, s2, x, y, w, s', S2, d1.fra S1 f2, d2, q4, k.of (f1.trans f2)⟩⟩⟩
theorem pm_un {op : UnaryOp} {f : Mv → Ms → Option (Mv × Ms)} {A : Fe} (ho : UnR X (unaryOp op) (q1R G f)) (ha : PE X a (tI G A)) : PE X (.UnaryOp op a pos) (tI G (mop1 f A)) := pe_imp (pe_un ho ha) fun _ _ _ h => t_op1 h
theorem pm_bin {op : Operator} {f : Mv → Mv → Ms → Option (Mv × Ms)} {A B : Fe} (ho : OpR X (binaryOp op) (q2R G f)) (ha : PE X a (tI G A)) (hb : PE X b (tI G B)) : PE X (.BinOp a op b pos) (tI G (mop2 f A B)) := pe_imp (pe_op ho ha hb) fun _ _ _ h => t_op2 h
theorem pm_cmp {op : CmpOp} {f : Mv → Mv → Ms → Option (Mv × Ms)} {A B : Fe} (ho : OpR X (compareOp op) (q2R G f)) (ha : PE X a (tI G A)) (hb : PE X b (tI G B)) (hm : behindInMarks op b = false) : PE X (.Compare a [op] [b] pos) (tI G (mop2 f A B)) := pe_imp (pe_cmpR ho ha hb hm) fun _ _ _ h => t_op2 h
theorem mtB_eq {A : Fe} {r : Me} {s s' : Ms} {b : Bool} (h : mtB A r s = some (b, s')) : A r s = some (.bl b, s') := by
  obtain ⟨⟨x, s1⟩, q1, q2⟩ := ob_some.mp h
  cases x with
  | bl c => cases q2; exact q1
  | _ => cases q2
theorem Den.bl_eq {p : List Addr} {H : Hp} {v : V} {b : Bool} (d : Den G p H (.bl b) v) : v = .bl b := by cases d; rfl
theorem t_B {A : Fe} {σ : L2.St} {H : Hp} {Q : Bool → Hp → Prop} (h : tT G (mtB A) σ H Q) : tTest (tI G A) σ H Q := by
  obtain ⟨p, s, r, b, s', S, E, q, k⟩ := h
  exact ⟨p, s, r, .bl b, s', S, E, mtB_eq q, fun p1 v1 H1 S1 f1 d1 => ⟨b, d1.bl_eq, k p1 H1 S1 f1⟩⟩
theorem pm_tcmp {op : CmpOp} {f : Mv → Mv → Ms → Option (Mv × Ms)} {A B : Fe} (ho : OpR X (compareOp op) (q2R G f)) (ha : PE X a (tI G A)) (hb : PE X b (tI G B)) (hm : behindInMarks op b = false) : PT X (.Compare a [op] [b] pos) (tT G (mtB (mop2 f A B))) :=
  pt_imp (pt_cmpR ho ha hb hm) fun σ H Q h => by
    obtain ⟨p, s, r, c, s', S, E, q, k⟩ := t_B h
    exact t_op2 ⟨p, s, r, c, s', S, E, q, k⟩
theorem t_chain {f g : Mv → Mv → Ms → Option (Mv × Ms)} {A B C : Fe} {σ : L2.St} {H : Hp} {Q : VK} (h : tI G (mchain f g A B C) σ H Q) : tChain (q2R G f) (q2R G g) (tI G A) (tI G B) (tI G C) σ H Q := by
  obtain ⟨p, s, r, w, s', S, E, q, k⟩ := h
  obtain ⟨⟨x, s1⟩, q1, q2⟩ := ob_some.mp q
  obtain ⟨⟨y, s2⟩, q3, q4⟩ := ob_some.mp q2
  obtain ⟨⟨z, s3⟩, q5, q6⟩ := ob_some.mp q4
  refine ⟨p, s, r, x, s1, S, E, q1, fun p1 v1 H1 S1 f1 d1 => ⟨p1, s1, r, y, s2, S1, E.fra S f1, q3, fun p2 v2 H2 S2 f2 d2 => ⟨p2, s2, x, y, z, s3, S2, d1.fra S1 f2, d2, q5, fun p3 v3 H3 S3 f3 d3 => ?_⟩⟩⟩
  cases z with
  | bl c =>
    cases d3
    refine ⟨c, rfl, ?_⟩
    cases c with
    | false => rw [if_neg Bool.false_ne_true]; cases q6; exact k p3 _ H3 S3 ((f1.trans f2).trans f3) (.bl false)
    | true =>
      rw [if_pos rfl]
      obtain ⟨⟨u, s4⟩, q7, q8⟩ := ob_some.mp q6
      exact ⟨p3, s3, r, u, s4, S3, ((E.fra S f1).fra S1 f2).fra S2 f3, q7, fun p4 v4 H4 S4 f4 d4 => ⟨p4, s4, y, u, w, s', S4, (d2.fra S2 f3).fra S3 f4, d4, q8, k.of (((f1.trans f2).trans f3).trans f4)⟩⟩
  | _ => cases q6
theorem pm_chain {op op' : CmpOp} {f g : Mv → Mv → Ms → Option (Mv × Ms)} {A B C : Fe} (ho : OpR X (compareOp op) (q2R G f)) (ho' : OpR X (compareOp op') (q2R G g)) (ha : PE X a (tI G A)) (hb : PE X b (tI G B)) (hc : PE X c (tI G C)) (hm : lastMarks [op, op'] [b, c] = false := by with_unfolding_all rfl) :
    PE X (.Compare a [op, op'] [b, c] pos) (tI G (mchain f g A B C)) := pe_imp (pe_chain ho ho' ha hb hc hm) fun _ _ _ h => t_chain h
theorem pm_tchain {op op' : CmpOp} {f g : Mv → Mv → Ms → Option (Mv × Ms)} {A B C : Fe} (ho : OpR X (compareOp op) (q2R G f)) (ho' : OpR X (compareOp op') (q2R G g)) (ha : PE X a (tI G A)) (hb : PE X b (tI G B)) (hc : PE X c (tI G C)) (hm : lastMarks [op, op'] [b, c] = false := by with_unfolding_all rfl) :
    PT X (.Compare a [op, op'] [b, c] pos) (tT G (mtB (mchain f g A B C))) :=
  pt_imp (pt_chain ho ho' ha hb hc hm) fun σ H Q h => by
    obtain ⟨p, s, r, c, s', S, E, q, k⟩ := t_B h
    exact t_chain ⟨p, s, r, c, s', S, E, q, k⟩
theorem pm_tB {A : Fe} (h : PE X e (tI G A)) (he : ∀ whole, isTrue e X.env whole = (do let v ← whole; standAt e.pos; holding [v] (truthy v)) := by intro _; rfl) : PT X e (tT G (mtB A)) := pt_imp (pt_val h he) fun σ H Q q => t_B q
/-! truth of any value -/
theorem tru_den {p : List Addr} {s : Ms} {H : Hp} {w : Mv} {v : V} {k : Bool} (S : Sim G p s H) (d : Den G p H w v) (h : tru w s = some k) (hK : X.K = G.K) : TruV X.K v H k := by
  cases d with
  | non => cases h; rfl
  | bl b => cases h; rfl
  | int i => cases h; rfl
  | str x =>
    simp only [tru] at h
    cases q : Nat.ble x.length 16777216 with
    | false => rw [q] at h; cases h
    | true =>
      rw [q] at h; cases h
      refine ⟨Nat.le_of_ble_eq_true q, ?_⟩
      cases x.length with
      | zero => rfl
      | succ n =>
        have h1 : (n + 1 != 0) = true := by simp
        have h2 : (((n + 1 : Nat) : Int) != 0) = true := by simp; omega
        rw [h1, h2]
  | tup h1 l =>
    cases h
    refine .inr (.inl ⟨_, by rw [hK]; exact h1, ?_⟩)
    cases l with
    | nil => rfl
    | cons _ _ => rfl
  | ref hn =>
    simp only [tru] at h
    split at h
    · rename_i ws e
      cases h
      obtain ⟨ho, h1, vs, rfl, l, _⟩ := S.get hn e
      refine .inl ⟨vs, SqL.of h1, ?_⟩
      cases l with
      | nil => rfl
      | cons _ _ => rfl
    · cases h
  | ty t => cases h
  | cls c => cases h
  | fl _ _ => cases h
theorem pm_tst {A : Fe} (h : PE X e (tI G A)) (hK : X.K = G.K := by rfl) (he : ∀ whole, isTrue e X.env whole = (do let v ← whole; standAt e.pos; holding [v] (truthy v)) := by intro _; rfl) : PT X e (tT G (mtst A)) :=
  pt_imp (pt_truth h he) fun σ H Q ⟨p, s, r, b, s', S, E, q, k⟩ => by
    obtain ⟨⟨x, s1⟩, q1, q2⟩ := ob_some.mp q
    obtain ⟨b', q3, q4⟩ := omap_some.mp q2
    cases q4
    exact ⟨p, s, r, x, s1, S, E, q1, fun p1 v1 H1 S1 f1 d1 => ⟨b, tru_den S1 d1 q3 hK, k p1 H1 S1 f1⟩⟩
/-! and, or, not, if -/
variable {rest : List Expr}
theorem t_and {A B : Ft} {σ : L2.St} {H : Hp} {Q : Bool → Hp → Prop} (h : tT G (mand A B) σ H Q) : tAnd (tT G A) (tT G B) σ H Q := by
  obtain ⟨p, s, r, c, s', S, E, q, k⟩ := h
  obtain ⟨⟨x, s1⟩, q1, q2⟩ := ob_some.mp q
  refine ⟨p, s, r, x, s1, S, E, q1, fun p1 H1 S1 f1 => ?_⟩
  cases x with
  | false => rw [if_neg Bool.false_ne_true]; cases q2; exact k p1 H1 S1 f1
  | true => rw [if_pos rfl]; exact ⟨p1, s1, r, c, s', S1, E.fra S f1, q2, fun p2 H2 S2 f2 => k p2 H2 S2 (f1.trans f2)⟩
theorem t_or {A B : Ft} {σ : L2.St} {H : Hp} {Q : Bool → Hp → Prop} (h : tT G (mor A B) σ H Q) : tOr (tT G A) (tT G B) σ H Q := by
  obtain ⟨p, s, r, c, s', S, E, q, k⟩ := h
  obtain ⟨⟨x, s1⟩, q1, q2⟩ := ob_some.mp q
  refine ⟨p, s, r, x, s1, S, E, q1, fun p1 H1 S1 f1 => ?_⟩
  cases x with
  | true => rw [if_pos rfl]; cases q2; exact k p1 H1 S1 f1
  | false => rw [if_neg Bool.false_ne_true]; exact ⟨p1, s1, r, c, s', S1, E.fra S f1, q2, fun p2 H2 S2 f2 => k p2 H2 S2 (f1.trans f2)⟩
theorem pm_wand1 {A : Ft} (ha : PT X a (tT G A)) : PW X (.BoolOp .And [a] pos) (tT G A) := pw_and1 ha
theorem pm_wor1 {A : Ft} (ha : PT X a (tT G A)) : PW X (.BoolOp .Or [a] pos) (tT G A) := pw_or1 ha
theorem pm_wand {A B : Ft} (ha : PT X a (tT G A)) (hb : PW X (.BoolOp .And (b :: rest) pos) (tT G B)) : PW X (.BoolOp .And (a :: b :: rest) pos) (tT G (mand A B)) := pw_imp (pw_and ha hb) fun _ _ _ h => t_and h
theorem pm_wor {A B : Ft} (ha : PT X a (tT G A)) (hb : PW X (.BoolOp .Or (b :: rest) pos) (tT G B)) : PW X (.BoolOp .Or (a :: b :: rest) pos) (tT G (mor A B)) := pw_imp (pw_or ha hb) fun _ _ _ h => t_or h
theorem pm_tnot {A : Ft} (ha : PT X a (tT G A)) : PT X (.UnaryOp .Not a pos) (tT G (mnot A)) := pt_imp (pt_not ha) fun σ H Q ⟨p, s, r, c, s', S, E, q, k⟩ => by
  obtain ⟨⟨x, s1⟩, q1, q2⟩ := omap_some.mp q
  cases q2
  exact ⟨p, s, r, x, s1, S, E, q1, k⟩
theorem pm_and {A B : Fe} (ha : PE X a (tI G A)) (hb : PE X (.BoolOp .And (b :: rest) pos) (tI G B)) : PE X (.BoolOp .And (a :: b :: rest) pos) (tI G (mandV A B)) := pe_imp (pe_and ha hb) fun σ H Q ⟨p, s, r, w, s', S, E, q, k⟩ => by
  obtain ⟨⟨x, s1⟩, q1, q2⟩ := ob_some.mp q
  refine ⟨p, s, r, x, s1, S, E, q1, fun p1 v1 H1 S1 f1 d1 => ?_⟩
  cases x with
  | bl c =>
    cases d1
    refine ⟨c, rfl, ?_⟩
    cases c with
    | false => rw [if_neg Bool.false_ne_true]; cases q2; exact k p1 _ H1 S1 f1 (.bl false)
    | true => rw [if_pos rfl]; exact ⟨p1, s1, r, w, s', S1, E.fra S f1, q2, k.of f1⟩
  | _ => cases q2
theorem pm_or {A B : Fe} (ha : PE X a (tI G A)) (hb : PE X (.BoolOp .Or (b :: rest) pos) (tI G B)) : PE X (.BoolOp .Or (a :: b :: rest) pos) (tI G (morV A B)) := pe_imp (pe_or ha hb) fun σ H Q ⟨p, s, r, w, s', S, E, q, k⟩ => by
  obtain ⟨⟨x, s1⟩, q1, q2⟩ := ob_some.mp q
  refine ⟨p, s, r, x, s1, S, E, q1, fun p1 v1 H1 S1 f1 d1 => ?_⟩
  cases x with
  | bl c =>
    cases d1
    refine ⟨c, rfl, ?_⟩
    cases c with
    | true => rw [if_pos rfl]; cases q2; exact k p1 _ H1 S1 f1 (.bl true)
    | false => rw [if_neg Bool.false_ne_true]; exact ⟨p1, s1, r, w, s', S1, E.fra S f1, q2, k.of f1⟩
  | _ => cases q2
theorem pm_not {A : Fe} (ha : PE X a (tI G A)) : PE X (.UnaryOp .Not a pos) (tI G (mnotV A)) := pe_imp (pe_not ha) fun σ H Q ⟨p, s, r, w, s', S, E, q, k⟩ => by
  obtain ⟨⟨x, s1⟩, q1, q2⟩ := ob_some.mp q
  refine ⟨p, s, r, x, s1, S, E, q1, fun p1 v1 H1 S1 f1 d1 => ?_⟩
  cases x with
  | bl c => cases d1; cases q2; exact ⟨c, rfl, k p1 _ H1 S1 f1 (.bl _)⟩
  | _ => cases q2
theorem pm_one {op} {A : Fe} (h : PE X a (tI G A)) : PE X (.BoolOp op [a] pos) (tI G A) := pe_one h
theorem pm_if {T : Ft} {A B : Fe} (hc : PT X c (tT G T)) (ha : PE X a (tI G A)) (hb : PE X b (tI G B)) : PE X (.IfExp c a b pos) (tI G (mif T A B)) := pe_imp (pe_ifExp hc ha hb) fun σ H Q ⟨p, s, r, w, s', S, E, q, k⟩ => by
  obtain ⟨⟨x, s1⟩, q1, q2⟩ := ob_some.mp q
  refine ⟨p, s, r, x, s1, S, E, q1, fun p1 H1 S1 f1 => ?_⟩
  cases x with
  | true => rw [if_pos rfl]; exact ⟨p1, s1, r, w, s', S1, E.fra S f1, q2, k.of f1⟩
  | false => rw [if_neg Bool.false_ne_true]; exact ⟨p1, s1, r, w, s', S1, E.fra S f1, q2, k.of f1⟩
/-! arguments, calls -/
theorem pm_nil : PA X [] (tA G mnil) := pa_imp pa_nil fun σ H Q ⟨p, s, r, ws, s', S, E, q, k⟩ => by cases q; exact k p [] H S Fra.refl .nil
theorem pm_cons {es : List Expr} {A : Fe} {B : Fa} (ha : PE X e (tI G A)) (hr : PA X es (tA G B)) (hs : starEach (e :: es) X.env = (false, eval e X.env) :: starEach es X.env := by rfl) : PA X (e :: es) (tA G (mcons A B)) :=
  pa_imp (pa_cons ha hr hs) fun σ H Q ⟨p, s, r, ws, s', S, E, q, k⟩ => by
    obtain ⟨⟨x, s1⟩, q1, q2⟩ := ob_some.mp q
    obtain ⟨⟨y, s2⟩, q3, q4⟩ := ob_some.mp q2
    cases q4
    exact ⟨p, s, r, x, s1, S, E, q1, fun p1 v1 H1 S1 f1 d1 => ⟨p1, s1, r, y, s2, S1, E.fra S f1, q3, fun p2 vs H2 S2 f2 d2 => k p2 _ H2 S2 (f1.trans f2) (.cons (d1.fra S1 f2) d2)⟩⟩
theorem t_call {f : Fn} {A : Fa} {σ : L2.St} {H : Hp} {Q : VK} (h : tI G (mcall f A) σ H Q) : tA G A σ H fun vs H1 => rF G f vs H1 Q := by
  obtain ⟨p, s, r, w, s', S, E, q, k⟩ := h
  obtain ⟨⟨x, s1⟩, q1, q2⟩ := ob_some.mp q
  exact ⟨p, s, r, x, s1, S, E, q1, fun p1 vs H1 S1 f1 d1 => ⟨p1, s1, x, w, s', S1, d1, q2, k.of f1⟩⟩
variable {x : Str} {p0 : Pos} {es : List Expr} {id T : String} {f : Fn} {A : Fa}
theorem pm_cB (hc : CallR X (.builtin id) (rF G f)) (hg : Gl X x) (hm : X.mg x = none) (hv : bootBuiltins x = some (.builtin id)) (ha : PA X (e :: es) (tA G A)) (hn : x ≠ "__name__" := by decide) (hdb : (x == ("__debug__" : Str)) = false := by decide)
    (he : starEach (e :: es) X.env = (false, eval e X.env) :: starEach es X.env := by rfl) (hpl : (backTo pos (starEach es X.env)).any (·.1) = false := by rfl) : PE X (.Call (.Name x p0) (e :: es) [] pos) (tI G (mcall f A)) := pe_imp (pe_callB hc hg hm hv ha hn hdb he hpl) fun _ _ _ h => t_call h
theorem pm_cT (hc : CallR X (.type T) (rF G f)) (hg : Gl X x) (hm : X.mg x = none) (hv : bootBuiltins x = some (.type T)) (ha : PA X (e :: es) (tA G A)) (hn : x ≠ "__name__" := by decide) (hdb : (x == ("__debug__" : Str)) = false := by decide)
    (he : starEach (e :: es) X.env = (false, eval e X.env) :: starEach es X.env := by rfl) (hpl : (backTo pos (starEach es X.env)).any (·.1) = false := by rfl) : PE X (.Call (.Name x p0) (e :: es) [] pos) (tI G (mcall f A)) := pe_imp (pe_callTy hc hg hm hv ha hn hdb he hpl) fun _ _ _ h => t_call h
theorem pm_call {CX : CXT} {k : Nat} {fa : Addr} {fd : FuncData} {ps : List Str} {E : XK} (F : FnOk X.prog X.w X.K X.mg X.base CX k fa fd ps (spM G f)) (hr : Room k X.A) (hg : Gl X x) (hm : X.mg x = some (.ref fa)) (hk : PySem.W.keepIn X.K (.ref fa) = true) (hb : Binds X.K fd ps []) (hx : Passes CX X E) (ha : PA X (e :: es) (tA G A))
    (hdb : (x == ("__debug__" : Str)) = false := by decide) (he : starEach (e :: es) X.env = (false, eval e X.env) :: starEach es X.env := by rfl) (hpl : (backTo pos (starEach es X.env)).any (·.1) = false := by rfl) :
    PE X (.Call (.Name x p0) (e :: es) [] pos) (tI G (mcall f A)) := pe_imp (pe_call F hr hg hm hk hb .nil hx ha hdb he hpl) fun σ H Q h => by
  obtain ⟨p, s, r, w, s', S, E, q, k⟩ := t_call h
  exact ⟨p, s, r, w, s', S, E, q, fun p1 vs H1 S1 f1 d1 => by
    show rF G f (vs ++ []) H1 Q
    rw [List.append_nil]
    exact k p1 vs H1 S1 f1 d1⟩
theorem pm_call0 {CX : CXT} {k : Nat} {fa : Addr} {fd : FuncData} {ps : List Str} {E : XK} (F : FnOk X.prog X.w X.K X.mg X.base CX k fa fd ps (spM G f)) (hr : Room k X.A) (hg : Gl X x) (hm : X.mg x = some (.ref fa)) (hk : PySem.W.keepIn X.K (.ref fa) = true) (hb : Binds X.K fd ps []) (hx : Passes CX X E)
    (hdb : (x == ("__debug__" : Str)) = false := by decide) : PE X (.Call (.Name x p0) [] [] pos) (tI G (mcall f mnil)) := pe_imp (pe_call0 F hr hg hm hk hb .nil hx hdb) fun σ H Q h => by
  obtain ⟨p, s, r, w, s', S, E, q, k⟩ := t_call h
  cases q
  exact k p [] H S Fra.refl .nil
end

end
section
/-! ### statements -/
inductive Fl where
  | nx | bk | ct | rt (w : Mv)
abbrev Fs := Me → Ms → Option (Fl × Me × Ms)
/-- what is wanted behind a statement that ends so -/
noncomputable def Ended (G : Mg) (D : Ends) (p : List Addr) (H : Hp) (r : Me) : Fl → Prop
  | .nx => ∀ σ, EnvR G p H r σ → D.nx σ H
  | .bk => ∀ σ, EnvR G p H r σ → D.bk σ H
  | .ct => ∀ σ, EnvR G p H r σ → D.ct σ H
  | .rt w => ∀ v, Den G p H w v → D.rt v H
noncomputable def tS (G : Mg) (F : Fs) : TS := fun D σ H => ∃ p s r f r' s', Sim G p s H ∧ EnvR G p H r σ ∧ F r s = some (f, r', s') ∧ ∀ p' H', Sim G p' s' H' → Fra p H p' H' → Ended G D p' H' r' f
noncomputable def snx : Fs := fun r s => some (.nx, r, s)
noncomputable def sno : Fs := fun _ _ => none
noncomputable def sbk : Fs := fun r s => some (.bk, r, s)
noncomputable def sct : Fs := fun r s => some (.ct, r, s)
noncomputable def sseq (A B : Fs) : Fs := fun r s => (A r s).ob fun x => match x.1 with
  | .nx => B x.2.1 x.2.2
  | .bk => some (.bk, x.2)
  | .ct => some (.ct, x.2)
  | .rt w => some (.rt w, x.2)
noncomputable def sret (A : Fe) : Fs := fun r s => (A r s).om fun x => (.rt x.1, r, x.2)
noncomputable def sexp (A : Fe) : Fs := fun r s => (A r s).om fun x => (.nx, r, x.2)
noncomputable def sif (T : Ft) (A B : Fs) : Fs := fun r s => (T r s).ob fun x => cond x.1 (A r x.2) (B r x.2)
section
variable {X : Cx} {G : Mg} {e : Expr} {pos : Pos} {st : Stmt} {rest : List Stmt}
theorem ps_imp {t t' : TS} (h : PS X st t) (i : ∀ D σ H, t' D σ H → t D σ H) : PS X st t' := ⟨fun pins s σ H D I q => h.run pins s σ H D I (i D σ H q)⟩
theorem pss_imp {st : List Stmt} {t t' : TS} (h : PSs X st t) (i : ∀ D σ H, t' D σ H → t D σ H) : PSs X st t' := ⟨fun pins s σ H D I q => h.run pins s σ H D I (i D σ H q)⟩
theorem sm_no : PS X st (tS G sno) := ⟨fun pins s σ H D I q => by obtain ⟨_, _, _, _, _, _, _, _, z, _⟩ := q; cases z⟩
theorem sm_nos {st : List Stmt} : PSs X st (tS G sno) := ⟨fun pins s σ H D I q => by obtain ⟨_, _, _, _, _, _, _, _, z, _⟩ := q; cases z⟩
theorem sm_nil : PSs X [] (tS G snx) := pss_imp pss_nil fun D σ H ⟨p, s, r, f, r', s', S, E, q, k⟩ => by
  cases q
  exact k p H S Fra.refl σ E
theorem sm_pass : PS X (.Pass pos) (tS G snx) := ps_imp ps_pass fun D σ H ⟨p, s, r, f, r', s', S, E, q, k⟩ => by
  cases q
  exact k p H S Fra.refl σ E
theorem sm_break : PS X (.Break pos) (tS G sbk) := ps_imp ps_break fun D σ H ⟨p, s, r, f, r', s', S, E, q, k⟩ => by
  cases q
  exact k p H S Fra.refl σ E
theorem sm_continue : PS X (.Continue pos) (tS G sct) := ps_imp ps_continue fun D σ H ⟨p, s, r, f, r', s', S, E, q, k⟩ => by
  cases q
  exact k p H S Fra.refl σ E
theorem t_seq {A B : Fs} {D : Ends} {σ : L2.St} {H : Hp} (h : tS G (sseq A B) D σ H) : tSeq (tS G A) (tS G B) D σ H := by
  obtain ⟨p, s, r, f, r', s', S, E, q, k⟩ := h
  obtain ⟨⟨fl, r1, s1⟩, q1, q2⟩ := ob_some.mp q
  refine ⟨p, s, r, fl, r1, s1, S, E, q1, fun p1 H1 S1 f1 => ?_⟩
  cases fl with
  | nx => exact fun σ1 E1 => ⟨p1, s1, r1, f, r', s', S1, E1, q2, fun p2 H2 S2 f2 => k p2 H2 S2 (f1.trans f2)⟩
  | bk => cases q2; exact k p1 H1 S1 f1
  | ct => cases q2; exact k p1 H1 S1 f1
  | rt w => cases q2; exact k p1 H1 S1 f1
theorem sm_cons {A B : Fs} (h1 : PS X st (tS G A)) (h2 : PSs X rest (tS G B)) : PSs X (st :: rest) (tS G (sseq A B)) := pss_imp (pss_cons h1 h2) fun _ _ _ h => t_seq h
theorem sm_one {A : Fs} (h1 : PS X st (tS G A)) : PSs X [st] (tS G A) := pss_one h1
theorem sm_ret {A : Fe} (h : PE X e (tI G A)) : PS X (.Return (some e) pos) (tS G (sret A)) := ps_imp (ps_ret h) fun D σ H ⟨p, s, r, f, r', s', S, E, q, k⟩ => by
  obtain ⟨⟨x, s1⟩, q1, q2⟩ := omap_some.mp q
  cases q2
  exact ⟨p, s, r, x, s1, S, E, q1, fun p1 v1 H1 S1 f1 d1 => k p1 H1 S1 f1 v1 d1⟩
theorem sm_exp {A : Fe} (h : PE X e (tI G A)) (hs : swapsWith e none pos.line X.env = pure false := by rfl) : PS X (.Expr e pos) (tS G (sexp A)) := ps_imp (ps_expr h hs) fun D σ H ⟨p, s, r, f, r', s', S, E, q, k⟩ => by
  obtain ⟨⟨x, s1⟩, q1, q2⟩ := omap_some.mp q
  cases q2
  exact ⟨p, s, r, x, s1, S, E, q1, fun p1 v1 H1 S1 f1 d1 => k p1 H1 S1 f1 σ (E.fra S f1)⟩
theorem sm_if {c : Expr} {a b : List Stmt} {T : Ft} {A B : Fs} (hc : PT X c (tT G T)) (ha : PSs X a (tS G A)) (hb : PSs X b (tS G B)) : PS X (.If c a b pos) (tS G (sif T A B)) := ps_imp (ps_if hc ha hb) fun D σ H ⟨p, s, r, f, r', s', S, E, q, k⟩ => by
  obtain ⟨⟨x, s1⟩, q1, q2⟩ := ob_some.mp q
  refine ⟨p, s, r, x, s1, S, E, q1, fun p1 H1 S1 f1 => ?_⟩
  cases x with
  | true => rw [if_pos rfl]; exact ⟨p1, s1, r, f, r', s', S1, E.fra S f1, q2, fun p2 H2 S2 f2 => k p2 H2 S2 (f1.trans f2)⟩
  | false => rw [if_neg Bool.false_ne_true]; exact ⟨p1, s1, r, f, r', s', S1, E.fra S f1, q2, fun p2 H2 S2 f2 => k p2 H2 S2 (f1.trans f2)⟩
end
/-! ### targets -/
inductive Tg where
  | nm (i : Nat) | tp (is : List Nat) | pr (a b : Tg)
noncomputable def asgs : List Nat → List Mv → Me → Option Me
  | [], [], r => some r
  | i :: is, w :: ws, r => asgs is ws (lset r i (some w))
  | _, _, _ => none
noncomputable def Tg.asg : Tg → Mv → Me → Option Me
  | .nm i, w, r => some (lset r i (some w))
  | .tp is, .tup ws, r => asgs is ws r
  | .pr a b, .tup [x, y], r => (a.asg x r).ob fun r' => b.asg y r'
  | _, _, _ => none
noncomputable def Tg.slots : Tg → List Nat
  | .nm i => [i]
  | .tp is => is
  | .pr a b => a.slots ++ b.slots
noncomputable def tG (G : Mg) (T : Tg) : TG := fun v σ H Q => ∃ p s r w r', Sim G p s H ∧ EnvR G p H r σ ∧ Den G p H w v ∧ T.asg w r = some r' ∧ ∀ σ', EnvR G p H r' σ' → (∀ i, i ∉ T.slots → σ'[i]? = σ[i]?) → Q σ' H
noncomputable def tGs (G : Mg) (is : List Nat) : TGs := fun vs σ H Q => ∃ p s r ws r', Sim G p s H ∧ EnvR G p H r σ ∧ DenL G p H ws vs ∧ asgs is ws r = some r' ∧ ∀ σ', EnvR G p H r' σ' → (∀ i, i ∉ is → σ'[i]? = σ[i]?) → Q σ' H
noncomputable def sasg (A : Fe) (T : Tg) : Fs := fun r s => (A r s).ob fun x => (T.asg x.1 r).om fun r' => (.nx, r', x.2)
noncomputable def sset (i : Nat) (A : Fe) : Fs := fun r s => (A r s).om fun x => (.nx, lset r i (some x.1), x.2)
noncomputable def spar (i j : Nat) (A : Fa) : Fs := fun r s => (A r s).ob fun x => match x.1 with
  | [a, b] => some (.nx, lset (lset r i (some a)) j (some b), x.2)
  | _ => none
noncomputable def spar3 (i j l : Nat) (A : Fa) : Fs := fun r s => (A r s).ob fun x => match x.1 with
  | [a, b, c] => some (.nx, lset (lset (lset r i (some a)) j (some b)) l (some c), x.2)
  | _ => none
section
variable {X : Cx} {G : Mg} {e : Expr} {pos : Pos}
theorem pg_imp {tg : Expr} {t t' : TG} (h : PG X tg t) (i : ∀ v σ H Q, t' v σ H Q → t v σ H Q) : PG X tg t' := ⟨fun pins s σ H v u Q I r q => h.run pins s σ H v u Q I r (i v σ H Q q)⟩
theorem pgs_imp {tg : List Expr} {t t' : TGs} (h : PGs X tg t) (i : ∀ v σ H Q, t' v σ H Q → t v σ H Q) : PGs X tg t' := ⟨fun pins s σ H v u Q I r q => h.run pins s σ H v u Q I r (i v σ H Q q)⟩
theorem gm_name {i : Nat} {tg : Expr} (h : PG X tg (gName i)) : PG X tg (tG G (.nm i)) := pg_imp h fun v σ H Q ⟨p, s, r, w, r', S, E, d, q, k⟩ => by
  cases q
  exact k _ (E.set d) fun j hj => by
    have hij : i ≠ j := fun z => hj (by simp [Tg.slots, z])
    rw [List.getElem?_set_ne hij]
theorem gm_nil : PGs X [] (tGs G []) := pgs_imp pgs_nil fun vs σ H Q ⟨p, s, r, ws, r', S, E, d, q, k⟩ => by
  cases d with
  | nil => cases q; exact ⟨rfl, k σ E fun _ _ => rfl⟩
  | cons a l => cases q
theorem gm_cons {es : List Expr} {i : Nat} {is : List Nat} (h1 : PG X e (gName i)) (h2 : PGs X es (tGs G is)) (hs : (assignEach (e :: es) X.env).map (·.2) = assign e X.env :: (assignEach es X.env).map (·.2) := by rfl) : PGs X (e :: es) (tGs G (i :: is)) :=
  pgs_imp (pgs_cons h1 h2 hs) fun vs σ H Q ⟨p, s, r, ws, r', S, E, d, q, k⟩ => by
    cases d with
    | nil => cases q
    | cons a l =>
      refine ⟨_, _, rfl, p, s, _, _, r', S, E.set (i := i) a, l, q, fun σ2 E2 h2 => k σ2 E2 fun j hj => ?_⟩
      have hj' : j ≠ i ∧ j ∉ is := by simpa using hj
      rw [h2 j hj'.2, List.getElem?_set_ne (Ne.symm hj'.1)]
theorem Den.tup_inv {p : List Addr} {H : Hp} {ws : List Mv} {v : V} (d : Den G p H (.tup ws) v) : ∃ a vs, v = .ref a ∧ SqT G.K H a vs ∧ DenL G p H ws vs := by
  cases d with
  | tup h l => exact ⟨_, _, rfl, h, l⟩
theorem asgs_len : ∀ {is : List Nat} {ws : List Mv} {r r' : Me}, asgs is ws r = some r' → ws.length = is.length
  | [], [], _, _, _ => rfl
  | [], _ :: _, _, _, h => by cases h
  | _ :: _, [], _, _, h => by cases h
  | i :: is, w :: ws, r, r', h => by rw [List.length_cons, List.length_cons, asgs_len (is := is) (ws := ws) h]
theorem gm_tup {es : List Expr} {k : Nat} {is : List Nat} (hc : X.calm = true) (h : PGs X es (tGs G is)) (hn : (assignEach es X.env).length = is.length := by rfl) (hst : (assignEach es X.env).findIdx? (·.1) = none := by rfl) (hK : X.K = G.K := by rfl) : PG X (.Tuple es k pos) (tG G (.tp is)) :=
  pg_imp (pg_tup hc h hn hst) fun v σ H Q ⟨p, s, r, w, r', S, E, d, q, kk⟩ => by
    cases w with
    | tup ws =>
      obtain ⟨a, vs, rfl, h1, l⟩ := d.tup_inv
      refine ⟨a, vs, rfl, by rw [hK]; exact h1, ?_, p, s, r, ws, r', S, E, l, q, fun σ' E' hh => kk σ' E' fun i hi => hh i hi⟩
      rw [← l.length]
      exact asgs_len q
    | _ => cases q
theorem asg_pr {a b : Tg} {w : Mv} {r r' : Me} (h : (Tg.pr a b).asg w r = some r') : ∃ x y r1, w = .tup [x, y] ∧ a.asg x r = some r1 ∧ b.asg y r1 = some r' := by
  cases w with
  | tup ws =>
    match ws, h with
    | [], h => cases h
    | [x], h => cases h
    | [x, y], h =>
      obtain ⟨r1, h1, h2⟩ := ob_some.mp (show (a.asg x r).ob (fun r' => b.asg y r') = some r' from h)
      exact ⟨x, y, r1, rfl, h1, h2⟩
    | _ :: _ :: _ :: _, h => cases h
  | _ => cases h
theorem gm_pr {ea eb : Expr} {k : Nat} {a b : Tg} (hc : X.calm = true) (h1 : PG X ea (tG G a)) (h2 : PG X eb (tG G b)) (hK : X.K = G.K := by rfl)
    (hs1 : (assignEach [ea, eb] X.env).map (·.2) = assign ea X.env :: (assignEach [eb] X.env).map (·.2) := by rfl) (hs2 : (assignEach [eb] X.env).map (·.2) = assign eb X.env :: (assignEach [] X.env).map (·.2) := by rfl)
    (hn : (assignEach [ea, eb] X.env).length = 2 := by rfl) (hst : (assignEach [ea, eb] X.env).findIdx? (·.1) = none := by rfl) : PG X (.Tuple [ea, eb] k pos) (tG G (.pr a b)) :=
  pg_imp (pg_tup hc (pgs_cons h1 (pgs_cons h2 pgs_nil hs2) hs1) hn hst) fun v σ H Q ⟨p, s, r, w, r', S, E, d, q, kk⟩ => by
    obtain ⟨x, y, r1, rfl, q1, q2⟩ := asg_pr q
    obtain ⟨ad, vs, rfl, h1, l⟩ := d.tup_inv
    cases l with
    | cons dx l => cases l with
      | cons dy l => cases l with
        | nil =>
          refine ⟨ad, _, rfl, by rw [hK]; exact h1, rfl, _, _, rfl, p, s, r, x, r1, S, E, dx, q1, fun σ1 E1 s1 => ⟨_, _, rfl, p, s, r1, y, r', S, E1, dy, q2, fun σ2 E2 s2 => ⟨rfl, kk σ2 E2 fun i hi => ?_⟩⟩⟩
          have hi' : i ∉ a.slots ∧ i ∉ b.slots := by simpa [Tg.slots] using hi
          rw [s2 i hi'.2, s1 i hi'.1]
theorem sm_set {i : Nat} {tg : Expr} {A : Fe} (h : PS X (.Assign [tg] e pos) (tAsg (tI G A) (gName i))) : PS X (.Assign [tg] e pos) (tS G (sset i A)) := ps_imp h fun D σ H ⟨p, s, r, f, r', s', S, E, q, k⟩ => by
  obtain ⟨⟨x, s1⟩, q1, q2⟩ := omap_some.mp q
  cases q2
  exact ⟨p, s, r, x, s1, S, E, q1, fun p1 v1 H1 S1 f1 d1 => k p1 H1 S1 f1 _ ((E.fra S f1).set d1)⟩
theorem sm_asg {tg : Expr} {A : Fe} {T : Tg} (he : PE X e (tI G A)) (hg : PG X tg (tG G T)) (hs : swapsWithSole [tg] e pos.line X.env = pure false := by rfl) (hw : swappedStores [tg] e X.env = pure none := by rfl)
    (h1 : (assignEach [tg] X.env).map (·.2) = [assign tg X.env] := by rfl) : PS X (.Assign [tg] e pos) (tS G (sasg A T)) := ps_imp (ps_asg he hg hs hw h1) fun D σ H ⟨p, s, r, f, r', s', S, E, q, k⟩ => by
  obtain ⟨⟨x, s1⟩, q1, q2⟩ := ob_some.mp q
  obtain ⟨r1, q3, q4⟩ := omap_some.mp q2
  cases q4
  exact ⟨p, s, r, x, s1, S, E, q1, fun p1 v1 H1 S1 f1 d1 => ⟨p1, s1, r, x, _, S1, E.fra S f1, d1, q3, fun σ' E' _ => k p1 H1 S1 f1 σ' E'⟩⟩
theorem sm_par {i j : Nat} {st : Stmt} {A : Fa} (h : PS X st (tPar i j (tA G A))) : PS X st (tS G (spar i j A)) := ps_imp h fun D σ H ⟨p, s, r, f, r', s', S, E, q, k⟩ => by
  obtain ⟨⟨x, s1⟩, q1, q2⟩ := ob_some.mp q
  refine ⟨p, s, r, x, s1, S, E, q1, fun p1 vs H1 S1 f1 d1 => ?_⟩
  match x, q2, d1 with
  | [a, b], q2, .cons da (.cons db .nil) =>
    cases q2
    exact ⟨_, _, rfl, k p1 H1 S1 f1 _ (((E.fra S f1).set da).set db)⟩
/-! ### for, while -/
inductive It0 where
  | lst (n : Nat) | seq (ws : List Mv) | rng (lo : Int) (n : Nat) | zl (n m : Nat)
noncomputable def It0.at : It0 → Nat → Ms → Option (Option Mv)
  | .lst n, i, s => match s.get n with
    | some (.lst ws) => some (lget ws i)
    | _ => none
  | .seq ws, i, _ => some (lget ws i)
  | .rng lo n, i, _ => some (cond (Nat.blt i n) (some (.int (lo + i))) none)
  | .zl n m, i, s => match s.get n, s.get m with
    | some (.lst xs), some (.lst ys) => some (match lget xs i, lget ys i with
      | some x, some y => some (.tup [x, y])
      | _, _ => none)
    | _, _ => none
abbrev Fi := Me → Ms → Option (It0 × Ms)
/-- the walker J does what the mirror's iterator says, as long as what may not change stays -/
noncomputable def ItR (G : Mg) (J : It) (it : It0) (p0 : List Addr) (H0 : Hp) : Prop := ∀ p s H i, Sim G p s H → Stays p0 H0 p H → (∀ a o u, H0 a = some (.frz o u) → H a = some (.frz o u)) → (it.at i s = some none → J.stop i H) ∧ ∀ w, it.at i s = some (some w) → J.go i H ∧ ∀ v H', J.yld i H v H' → Sim G p s H' ∧ Fra p H p H' ∧ Den G p H' w v
noncomputable def tIt (G : Mg) (F : Fi) : TI := fun σ H R => ∃ p s r it s', Sim G p s H ∧ EnvR G p H r σ ∧ F r s = some (it, s') ∧ ∀ p' H' J, Sim G p' s' H' → Fra p H p' H' → ItR G J it p' H' → R J H'

/-! iterators -/
theorem pi_imp {tg it : Expr} {t t' : TI} (h : PI X tg it t) (i : ∀ σ H R, t' σ H R → t σ H R) : PI X tg it t' := ⟨fun pins s σ H R I q => h.run pins s σ H R I (i σ H R q)⟩
noncomputable def iof (w : Mv) : Option It0 := match w with
  | .ref n => some (.lst n)
  | .tup ws => some (.seq ws)
  | .fl ws => some (.seq ws)
  | _ => none
noncomputable def miL (A : Fe) : Fi := fun r s => (A r s).ob fun x => match x.1 with
  | .ref n => (match x.2.get n with
    | some (.lst _) => some (.lst n, x.2)
    | _ => none)
  | .fl ws => some (.seq ws, x.2)
  | _ => none
noncomputable def miT (A : Fe) : Fi := fun r s => (A r s).ob fun x => match x.1 with
  | .tup ws => some (.seq ws, x.2)
  | _ => none
theorem itr_list {p0 : List Addr} {H0 : Hp} {n : Nat} {a : Addr} (h : p0[n]? = some a) (hK : X.K = G.K) : ItR G (Itl X.K a) (.lst n) p0 H0 := by
  intro p s H i S st fz
  have ha := st.ix n a h
  constructor
  · intro q
    simp only [It0.at] at q
    split at q
    · rename_i ws e
      obtain ⟨ho, h1, vs, rfl, l, _⟩ := S.get ha e
      have q' : ws[i]? = none := by simpa [lget_eq] using q
      refine ⟨vs, SqL.of h1, ?_⟩
      rw [← l.length]
      exact List.getElem?_eq_none_iff.mp q'
    · cases q
  · intro w q
    simp only [It0.at] at q
    split at q
    · rename_i ws e
      obtain ⟨ho, h1, vs, rfl, l, _⟩ := S.get ha e
      have q' : ws[i]? = some w := by simpa [lget_eq] using q
      obtain ⟨v, hv, d⟩ := l.get q'
      refine ⟨⟨vs, v, SqL.of h1, hv⟩, fun v' H' y => ?_⟩
      obtain ⟨rfl, y2⟩ := y
      have := y2 vs (SqL.of h1)
      rw [hv] at this; cases this
      exact ⟨S, Fra.refl, d⟩
    · cases q
theorem itr_tup {p0 : List Addr} {H0 : Hp} {a : Addr} {ws : List Mv} {vs : List V} (h : SqT G.K H0 a vs) (l0 : DenL G p0 H0 ws vs) (hK : X.K = G.K) : ItR G (Itt X.K a) (.seq ws) p0 H0 := by
  intro p s H i S st fz
  have h1 : SqT X.K H a vs := by rw [hK]; exact Stays.tup (G := G) st h
  have l := l0.stay st
  constructor
  · intro q
    have q' : ws[i]? = none := by simpa [It0.at, lget_eq] using q
    refine ⟨vs, h1, ?_⟩
    rw [← l.length]
    exact List.getElem?_eq_none_iff.mp q'
  · intro w q
    have q' : ws[i]? = some w := by simpa [It0.at, lget_eq] using q
    obtain ⟨v, hv, d⟩ := l.get q'
    refine ⟨⟨vs, v, h1, hv⟩, fun v' H' y => ?_⟩
    obtain ⟨rfl, y2⟩ := y
    have := y2 vs h1
    rw [hv] at this; cases this
    exact ⟨S, Fra.refl, d⟩
theorem FlAt.sq {K : PySem.W.Frag} {p : List Addr} {H : Hp} {a : Addr} {vs : List V} (h : FlAt K p H a vs) : SqL K H a vs := by
  rcases h with ⟨o, h⟩ | h
  · exact .inl (.inr ⟨o, h⟩)
  · rcases h with h | h
    · rcases h with h | ⟨o, h⟩ <;> cases h
    · exact .inr h
theorem itr_fl {p0 : List Addr} {H0 : Hp} {a : Addr} {ws : List Mv} {vs : List V} (h : FlAt G.K p0 H0 a vs) (l0 : DenL G p0 H0 ws vs) (hK : X.K = G.K) : ItR G (Itl X.K a) (.seq ws) p0 H0 := by
  intro p s H i S st fz
  have h1 : SqL X.K H a vs := by rw [hK]; exact (Stays.fl st h).sq
  have l := l0.stay st
  constructor
  · intro q
    have q' : ws[i]? = none := by simpa [It0.at, lget_eq] using q
    refine ⟨vs, h1, ?_⟩
    rw [← l.length]
    exact List.getElem?_eq_none_iff.mp q'
  · intro w q
    have q' : ws[i]? = some w := by simpa [It0.at, lget_eq] using q
    obtain ⟨v, hv, d⟩ := l.get q'
    refine ⟨⟨vs, v, h1, hv⟩, fun v' H' y => ?_⟩
    obtain ⟨rfl, y2⟩ := y
    have := y2 vs h1
    rw [hv] at this; cases this
    exact ⟨S, Fra.refl, d⟩
theorem itr_rng {p0 : List Addr} {H0 : Hp} {lo : Int} {n : Nat} : ItR G (Itr lo n) (.rng lo n) p0 H0 := by
  intro p s H i S st fz
  constructor
  · intro q
    show n ≤ i
    cases e : Nat.blt i n with
    | false =>
      have : ¬ i < n := fun h => by rw [Nat.blt_eq.mpr h] at e; cases e
      omega
    | true => simp [It0.at, e] at q
  · intro w q
    cases e : Nat.blt i n with
    | false => simp [It0.at, e] at q
    | true =>
      refine ⟨Nat.blt_eq.mp e, fun v' H' y => ?_⟩
      obtain ⟨rfl, rfl⟩ := y
      have : w = .int (lo + i) := by simpa [It0.at, e] using q.symm
      subst this
      exact ⟨S, Fra.refl, .int _⟩
theorem im_list {tg : Expr} {A : Fe} (h : PE X e (tI G A)) (hK : X.K = G.K := by rfl) : PI X tg e (tIt G (miL A)) := pi_imp (pi_list h) fun σ H R ⟨p, s, r, it, s', S, E, q, k⟩ => by
  obtain ⟨⟨x, s1⟩, q1, q2⟩ := ob_some.mp q
  refine ⟨p, s, r, x, s1, S, E, q1, fun p1 v1 H1 S1 f1 d1 => ?_⟩
  cases d1 with
  | ref hn =>
    simp only at q2
    split at q2
    · rename_i ws e
      cases q2
      obtain ⟨ho, h1, vs, rfl, l, _⟩ := S1.get hn e
      exact ⟨_, rfl, ⟨vs, SqL.of h1⟩, k p1 H1 _ S1 f1 (itr_list hn hK)⟩
    · cases q2
  | fl h1 l =>
    cases q2
    exact ⟨_, rfl, ⟨_, by rw [hK]; exact h1.sq⟩, k p1 H1 _ S1 f1 (itr_fl h1 l hK)⟩
  | _ => cases q2
theorem im_tup {tg : Expr} {A : Fe} (h : PE X e (tI G A)) (hK : X.K = G.K := by rfl) : PI X tg e (tIt G (miT A)) := pi_imp (pi_tup h) fun σ H R ⟨p, s, r, it, s', S, E, q, k⟩ => by
  obtain ⟨⟨x, s1⟩, q1, q2⟩ := ob_some.mp q
  refine ⟨p, s, r, x, s1, S, E, q1, fun p1 v1 H1 S1 f1 d1 => ?_⟩
  cases d1 with
  | tup h1 l =>
    cases q2
    exact ⟨_, rfl, ⟨_, by rw [hK]; exact h1⟩, k p1 H1 _ S1 f1 (itr_tup h1 l hK)⟩
  | _ => cases q2
/-- a list or a tuple: known only when it is met -/
noncomputable def iSeq (K : PySem.W.Frag) (tl : TE) : TI := fun σ H R => tl σ H fun x H1 => ∃ a, x = .ref a ∧ (((∃ xs, SqL K H1 a xs) ∧ R (Itl K a) H1) ∨ ((∃ xs, SqT K H1 a xs) ∧ R (Itt K a) H1))
theorem pi_seq {tg l : Expr} {tl : TE} (hl : PE X l tl) : PI X tg l (iSeq X.K tl) := by
  refine ⟨fun pins s σ H R I h => ?_⟩
  refine thn (hl.run pins s σ H _ I h) fun v s1 ⟨x, H1, I1, r1, q1⟩ => ?_
  obtain ⟨a, e, q⟩ := q1
  subst e
  cases r1
  have fresh := I1.fpOk (Nat.le_refl _) (I1.hok.fresh (Nat.le_refl s1.heap.objs.size))
  rcases q with ⟨⟨xs, hq⟩, q⟩ | ⟨⟨xs, hq⟩, q⟩
  · obtain ⟨its, rv, p, hz⟩ := I1.list hq
    refine wpAny_pyIter_list p.isList ?_
    refine ⟨s1.heap.objs.size, [s1.heap.objs.size], _, _, H1, rfl, I1.kept (t' := s1.toks) fun b o e => Heap.get?_push_of_some _ e, turn_list a _, ⟨_, Heap.get?_push_size _ rfl, rfl, rfl⟩, fun b hb => ?_, q⟩
    rw [List.mem_singleton.mp hb]
    exact fresh
  · obtain ⟨its, rv, p, hz⟩ := I1.tuple hq
    refine wpAny_pyIter_tuple (show s1.heap.IsTuple a its.toArray from p) ?_
    refine ⟨s1.heap.objs.size, [s1.heap.objs.size], _, _, H1, rfl, I1.kept (t' := s1.toks) fun b o e => Heap.get?_push_of_some _ e, turn_tuple a _, ⟨_, Heap.get?_push_size _ rfl, rfl, rfl⟩, fun b hb => ?_, q⟩
    rw [List.mem_singleton.mp hb]
    exact fresh
noncomputable def miS (A : Fe) : Fi := fun r s => (A r s).ob fun x => match x.1 with
  | .ref n => (match x.2.get n with
    | some (.lst _) => some (.lst n, x.2)
    | _ => none)
  | .fl ws => some (.seq ws, x.2)
  | .tup ws => some (.seq ws, x.2)
  | _ => none
theorem im_seq {tg : Expr} {A : Fe} (h : PE X e (tI G A)) (hK : X.K = G.K := by rfl) : PI X tg e (tIt G (miS A)) := pi_imp (pi_seq h) fun σ H R ⟨p, s, r, it, s', S, E, q, k⟩ => by
  obtain ⟨⟨x, s1⟩, q1, q2⟩ := ob_some.mp q
  refine ⟨p, s, r, x, s1, S, E, q1, fun p1 v1 H1 S1 f1 d1 => ?_⟩
  cases d1 with
  | ref hn =>
    simp only at q2
    split at q2
    · rename_i ws e
      cases q2
      obtain ⟨ho, h1, vs, rfl, l, _⟩ := S1.get hn e
      exact ⟨_, rfl, .inl ⟨⟨vs, SqL.of h1⟩, k p1 H1 _ S1 f1 (itr_list hn hK)⟩⟩
    · cases q2
  | fl h1 l =>
    cases q2
    exact ⟨_, rfl, .inl ⟨⟨_, by rw [hK]; exact h1.sq⟩, k p1 H1 _ S1 f1 (itr_fl h1 l hK)⟩⟩
  | tup h1 l =>
    cases q2
    exact ⟨_, rfl, .inr ⟨⟨_, by rw [hK]; exact h1⟩, k p1 H1 _ S1 f1 (itr_tup h1 l hK)⟩⟩
  | _ => cases q2
noncomputable def okI (i : Int) : Bool := decide (-(2 ^ 62) ≤ i) && decide (i < 2 ^ 62)
theorem okI_iff {i : Int} (h : okI i = true) : -(2 ^ 62) ≤ i ∧ i < 2 ^ 62 := by
  have := Bool.and_eq_true_iff.mp h
  exact ⟨of_decide_eq_true this.1, of_decide_eq_true this.2⟩
noncomputable def miR1 (A : Fa) : Fi := fun r s => (A r s).ob fun x => match x.1 with
  | [.int j] => cond (okI j) (some (.rng 0 j.toNat, x.2)) none
  | _ => none
noncomputable def miR2 (A : Fa) : Fi := fun r s => (A r s).ob fun x => match x.1 with
  | [.int i, .int j] => cond (okI i && okI j) (some (.rng i (j - i).toNat, x.2)) none
  | _ => none
theorem im_range1 {tg a : Expr} {A : Fa} {p pos : Pos} (hg : Gl X "range") (hm : X.mg "range" = none) (ha : PA X [a] (tA G A)) (hs : starEach [a] X.env = [(false, eval a X.env)] := by rfl) : PI X tg (.Call (.Name "range" p) [a] [] pos) (tIt G (miR1 A)) :=
  pi_imp (pi_range1 hg hm ha hs) fun σ H R ⟨p, s, r, it, s', S, E, q, k⟩ => by
    obtain ⟨⟨x, s1⟩, q1, q2⟩ := ob_some.mp q
    refine ⟨p, s, r, x, s1, S, E, q1, fun p1 v1 H1 S1 f1 d1 => ?_⟩
    match x, q2, d1 with
    | [.int j], q2, .cons (.int _) .nil =>
      cases e : okI j with
      | false => simp only [e] at q2; cases q2
      | true =>
        simp only [e] at q2; cases q2
        exact ⟨j, rfl, (okI_iff e).1, (okI_iff e).2, k p1 H1 _ S1 f1 itr_rng⟩
theorem im_range2 {tg a b : Expr} {A : Fa} {p pos : Pos} (hg : Gl X "range") (hm : X.mg "range" = none) (ha : PA X [a, b] (tA G A)) (hs : starEach [a, b] X.env = [(false, eval a X.env), (false, eval b X.env)] := by rfl) (hs2 : starEach [b] X.env = [(false, eval b X.env)] := by rfl) :
    PI X tg (.Call (.Name "range" p) [a, b] [] pos) (tIt G (miR2 A)) :=
  pi_imp (pi_range2 hg hm ha hs hs2) fun σ H R ⟨p, s, r, it, s', S, E, q, k⟩ => by
    obtain ⟨⟨x, s1⟩, q1, q2⟩ := ob_some.mp q
    refine ⟨p, s, r, x, s1, S, E, q1, fun p1 v1 H1 S1 f1 d1 => ?_⟩
    match x, q2, d1 with
    | [.int i, .int j], q2, .cons (.int _) (.cons (.int _) .nil) =>
      cases e : okI i && okI j with
      | false => simp only [e] at q2; cases q2
      | true =>
        simp only [e] at q2; cases q2
        have e' := Bool.and_eq_true_iff.mp e
        exact ⟨i, j, rfl, ⟨(okI_iff e'.1).1, (okI_iff e'.1).2, (okI_iff e'.2).1, (okI_iff e'.2).2⟩, k p1 H1 _ S1 f1 itr_rng⟩
noncomputable def mloop (it : It0) (T : Tg) (B : Fs) (m : Nat) : Nat → Me → Ms → Option (Fl × Me × Ms) := Nat.rec (motive := fun _ => Nat → Me → Ms → Option (Fl × Me × Ms)) (fun _ _ _ => none)
  (fun _ ih i r s => match it.at i s with
    | none => none
    | some none => some (.nx, r, s)
    | some (some w) => (T.asg w r).ob fun r1 => (B r1 s).ob fun x => match x.1 with
      | .nx => ih (Nat.succ i) x.2.1 x.2.2
      | .ct => ih (Nat.succ i) x.2.1 x.2.2
      | .bk => some (.nx, x.2)
      | .rt w => some (.rt w, x.2)) m
theorem mloop_zero {it : It0} {T : Tg} {B : Fs} {i : Nat} {r : Me} {s : Ms} : mloop it T B 0 i r s = none := rfl
theorem mloop_succ {it : It0} {T : Tg} {B : Fs} {m i : Nat} {r : Me} {s : Ms} : mloop it T B (m + 1) i r s = match it.at i s with
    | none => none
    | some none => some (.nx, r, s)
    | some (some w) => (T.asg w r).ob fun r1 => (B r1 s).ob fun x => match x.1 with
      | .nx => mloop it T B m (i + 1) x.2.1 x.2.2
      | .ct => mloop it T B m (i + 1) x.2.1 x.2.2
      | .bk => some (.nx, x.2)
      | .rt w => some (.rt w, x.2) := rfl
noncomputable def sfor (I : Fi) (T : Tg) (B : Fs) : Fs := fun r s => (I r s).ob fun x => mloop x.1 T B 100000 0 r x.2
theorem sm_for {tg iter : Expr} {body : List Stmt} {I : Fi} {T : Tg} {B : Fs} (hp : PassesOwn (model X.prog X.w) X.A X.env X.xe) (hc : X.calm = true) (hi : PI X tg iter (tIt G I)) (hg : PG X tg (tG G T)) (hb : PSs X body (tS G B)) (h : PS X (.For tg iter body [] pos) (tFor (tIt G I) (tG G T) (tS G B))) :
    PS X (.For tg iter body [] pos) (tS G (sfor I T B)) := ps_imp h fun D σ H ⟨p, s, r, f, r', s', S, E, q, k⟩ => by
  obtain ⟨⟨it, s1⟩, q1, q2⟩ := ob_some.mp q
  refine ⟨p, s, r, it, s1, S, E, q1, fun p1 H1 J S1 f1 R => ?_⟩
  refine ⟨fun i m σ2 H2 => ∃ p2 s2 r2, Sim G p2 s2 H2 ∧ EnvR G p2 H2 r2 σ2 ∧ Fra p1 H1 p2 H2 ∧ mloop it T B m i r2 s2 = some (f, r', s'), ⟨100000, p1, s1, r, S1, E.fra S f1, Fra.refl, q2⟩, ?_⟩
  rintro i m σ2 H2 ⟨p2, s2, r2, S2, E2, f2, q3⟩
  cases m with
  | zero => cases q3
  | succ m =>
    have R2 := R p2 s2 H2 i S2 (f2.stays S1) f2.frz
    rw [mloop_succ] at q3
    cases e : it.at i s2 with
    | none => rw [e] at q3; cases q3
    | some o =>
      cases o with
      | none =>
        rw [e] at q3
        have q3' : some (Fl.nx, r2, s2) = some (f, r', s') := q3
        cases q3'
        exact .inl ⟨R2.1 e, k p2 H2 S2 (f1.trans f2) σ2 E2⟩
      | some w =>
        rw [e] at q3
        obtain ⟨g, y⟩ := R2.2 w e
        obtain ⟨r3, q4, q5⟩ := ob_some.mp q3
        obtain ⟨⟨fl, r4, s4⟩, q6, q7⟩ := ob_some.mp q5
        refine .inr ⟨g, fun σ3 H3 => ∃ p3 s3 r5, Sim G p3 s3 H3 ∧ EnvR G p3 H3 r5 σ3 ∧ Fra p1 H1 p3 H3 ∧ mloop it T B m (i + 1) r5 s3 = some (f, r', s'), fun σ3 H3 h3 => ⟨m, Nat.lt_succ_self m, h3⟩, fun v H' hy => ?_⟩
        obtain ⟨S2', f2', d⟩ := y v H' hy
        refine ⟨p2, s2, r2, w, r3, S2', E2.fra S2 f2', d, q4, fun σ' E' _ => ⟨p2, s2, r3, fl, r4, s4, S2', E', q6, fun p4 H4 S4 f4 => ?_⟩⟩
        have ff := (f2.trans f2').trans f4
        cases fl with
        | nx => exact fun σ4 E4 => ⟨p4, s4, r4, S4, E4, ff, q7⟩
        | ct => exact fun σ4 E4 => ⟨p4, s4, r4, S4, E4, ff, q7⟩
        | bk =>
          have q7' : some (Fl.nx, r4, s4) = some (f, r', s') := q7
          cases q7'
          exact fun σ4 E4 => k p4 H4 S4 (f1.trans ff) σ4 E4
        | rt w' =>
          have q7' : some (Fl.rt w', r4, s4) = some (f, r', s') := q7
          cases q7'
          exact fun v' d' => k p4 H4 S4 (f1.trans ff) v' d'
noncomputable def mwhl (T : Ft) (B : Fs) (m : Nat) : Me → Ms → Option (Fl × Me × Ms) := Nat.rec (motive := fun _ => Me → Ms → Option (Fl × Me × Ms)) (fun _ _ => none)
  (fun _ ih r s => (T r s).ob fun t => cond t.1 ((B r t.2).ob fun x => match x.1 with
      | .nx => ih x.2.1 x.2.2
      | .ct => ih x.2.1 x.2.2
      | .bk => some (.nx, x.2)
      | .rt w => some (.rt w, x.2)) (some (.nx, r, t.2))) m
theorem mwhl_succ {T : Ft} {B : Fs} {m : Nat} {r : Me} {s : Ms} : mwhl T B (m + 1) r s = (T r s).ob fun t => cond t.1 ((B r t.2).ob fun x => match x.1 with
      | .nx => mwhl T B m x.2.1 x.2.2
      | .ct => mwhl T B m x.2.1 x.2.2
      | .bk => some (.nx, x.2)
      | .rt w => some (.rt w, x.2)) (some (.nx, r, t.2)) := rfl
noncomputable def swhl (T : Ft) (B : Fs) : Fs := mwhl T B 100000
theorem sm_while {c : Expr} {body : List Stmt} {T : Ft} {B : Fs} (hp : PassesOwn (model X.prog X.w) X.A X.env X.xe) (hc : PT X c (tT G T)) (hb : PSs X body (tS G B)) : PS X (.While c body [] pos) (tS G (swhl T B)) := ps_imp (ps_while hp hc hb) fun D σ H ⟨p, s, r, f, r', s', S, E, q, k⟩ => by
  refine ⟨fun m σ2 H2 => ∃ p2 s2 r2, Sim G p2 s2 H2 ∧ EnvR G p2 H2 r2 σ2 ∧ Fra p H p2 H2 ∧ mwhl T B m r2 s2 = some (f, r', s'), ⟨100000, p, s, r, S, E, Fra.refl, q⟩, ?_⟩
  rintro m σ2 H2 ⟨p2, s2, r2, S2, E2, f2, q3⟩
  cases m with
  | zero => cases q3
  | succ m =>
    rw [mwhl_succ] at q3
    obtain ⟨⟨t, s3⟩, q4, q5⟩ := ob_some.mp q3
    refine ⟨p2, s2, r2, t, s3, S2, E2, q4, fun p3 H3 S3 f3 => ?_⟩
    cases t with
    | false =>
      rw [if_neg Bool.false_ne_true]
      have q5' : some (Fl.nx, r2, s3) = some (f, r', s') := q5
      cases q5'
      exact k p3 H3 S3 (f2.trans f3) σ2 (E2.fra S2 f3)
    | true =>
      rw [if_pos rfl]
      obtain ⟨⟨fl, r4, s4⟩, q6, q7⟩ := ob_some.mp (show (B r2 s3).ob _ = _ from q5)
      refine ⟨fun σ5 H5 => ∃ p5 s5 r5, Sim G p5 s5 H5 ∧ EnvR G p5 H5 r5 σ5 ∧ Fra p H p5 H5 ∧ mwhl T B m r5 s5 = some (f, r', s'), fun σ5 H5 h5 => ⟨m, Nat.lt_succ_self m, h5⟩, p3, s3, r2, fl, r4, s4, S3, E2.fra S2 f3, q6, fun p4 H4 S4 f4 => ?_⟩
      have ff := (f2.trans f3).trans f4
      cases fl with
      | nx => exact fun σ4 E4 => ⟨p4, s4, r4, S4, E4, ff, q7⟩
      | ct => exact fun σ4 E4 => ⟨p4, s4, r4, S4, E4, ff, q7⟩
      | bk =>
        have q7' : some (Fl.nx, r4, s4) = some (f, r', s') := q7
        cases q7'
        exact fun σ4 E4 => k p4 H4 S4 ff σ4 E4
      | rt w' =>
        have q7' : some (Fl.rt w', r4, s4) = some (f, r', s') := q7
        cases q7'
        exact fun v' d' => k p4 H4 S4 ff v' d'
end
/-! ### defs -/
noncomputable def fnM (np nl : Nat) (B : Fs) : Fn := fun ws s => cond (Nat.beq ws.length np) ((B (lsome (nl - np) ws) s).ob fun x => match x.1 with
  | .rt w => some (w, x.2.2)
  | .nx => some (.non, x.2.2)
  | _ => none) none
theorem envR_start {G : Mg} {p : List Addr} {H : Hp} (n : Nat) : ∀ {ws : List Mv} {vs : List V}, DenL G p H ws vs → EnvR G p H (ws.map some ++ List.replicate n none) (vs.map some ++ List.replicate n none) := by
  intro ws vs l
  refine ⟨by simp [l.length], fun i w h => ?_⟩
  by_cases hi : i < ws.length
  · rw [List.getElem?_append_left (by simpa using hi)] at h
    rw [List.getElem?_append_left (by simpa [← l.length] using hi)]
    rw [List.getElem?_map] at h ⊢
    cases e : ws[i]? with
    | none => rw [e] at h; cases h
    | some w' =>
      rw [e] at h
      cases h
      obtain ⟨v, hv, d⟩ := l.get e
      exact ⟨v, by rw [hv]; rfl, d⟩
  · rw [List.getElem?_append_right (by simpa using hi)] at h
    have := List.mem_of_getElem? h
    have := List.eq_of_mem_replicate this
    cases this
section
variable {P : Program} {w : World} {K : PySem.W.Frag} {mg : Str → Option Value} {base : Heap} {G : Mg}
theorem fn_ok {x qual : Str} {st : Stmt} {f : Addr} {fd : FuncData} {N ps : List Str} {k : Nat} {B : Fs} (F : Fun K x qual st f fd) (sc : FnScope N ps (defScope st)) {np nl : Nat} (hnp : ps.length = np := by rfl) (hnl : N.length = nl := by rfl)
    (hb : ∀ (cdv : Value) (A : Around) (outer : List Env) (s : Shared) (H : Hp) (E : XK), Room k (A.deeper (envOfC qual (defScope st) s.heap.objs.size f cdv)) → PSs (cxOf CX0 P w K mg base N qual (defScope st) f cdv A outer s H E).nox (defBody st) (tS G B)) :
    FnOk P w K mg base CX0 (k + 1) f fd ps (spM G (fnM np nl B)) := by
  subst hnp hnl
  have len : ∀ vs H Q E, spM G (fnM ps.length N.length B) vs H Q E → vs.length = ps.length := by
    rintro vs H Q E ⟨p, s, ws, u, s', S, l, q, k'⟩
    rw [← l.length]
    unfold fnM at q
    cases e : Nat.beq ws.length ps.length with
    | false => rw [e] at q; cases q
    | true => exact Nat.eq_of_beq_eq_true e
  refine F.ok sc len fun cdv A outer s H vs Q E hr h => ⟨_, hb cdv A outer s H E hr, ?_⟩
  have hlen := len vs H Q E h
  obtain ⟨p, s0, ws, u, s', S, l, q, k'⟩ := h
  unfold fnM at q
  cases e : Nat.beq ws.length ps.length with
  | false => rw [e] at q; cases q
  | true =>
    rw [e] at q
    obtain ⟨⟨fl, r', s1⟩, q1, q2⟩ := ob_some.mp q
    refine ⟨p, s0, _, fl, r', s1, S, ?_, q1, fun p1 H1 S1 f1 => ?_⟩
    · show EnvR G p H _ (L2.start N vs)
      unfold L2.start
      rw [hlen]
      rw [lsome_eq]
      exact envR_start _ l
    · cases fl with
      | rt w' =>
        have q2' : some (w', s1) = some (u, s') := q2
        cases q2'
        exact fun v d => k' p1 v H1 S1 f1 d
      | nx =>
        have q2' : some (Mv.non, s1) = some (u, s') := q2
        cases q2'
        exact fun σ E => k' p1 _ H1 S1 f1 .non
      | bk => cases q2
      | ct => cases q2
end

end
section
/-! ### data -/
noncomputable def toDL (f : Mv → Option PyData) : List Mv → Option (List PyData)
  | [] => some []
  | w :: ws => (f w).ob fun d => (toDL f ws).om fun ds => d :: ds
noncomputable def toD : Nat → Ms → Mv → Option PyData
  | 0, _, _ => none
  | n + 1, s, w => match w with
    | .non => some .none
    | .bl b => some (.bool b)
    | .int i => some (.int i)
    | .str x => cond (PyData.strOk x) (some (.str x)) none
    | .tup ws => (toDL (toD n s) ws).om .tuple
    | .fl ws => (toDL (toD n s) ws).om .list
    | .ref k => match s.get k with
      | some (.lst ws) => (toDL (toD n s) ws).om .list
      | _ => none
    | _ => none
section
variable {G : Mg} {p : List Addr} {s : Ms} {H : Hp}
structure DOk (G : Mg) (H : Hp) (n : Nat) (v : V) (d : PyData) : Prop where
  dp : Dp G.K H v d
  lay : d.canLay0 = true
  dep : d.depth ≤ n
theorem toDL_ok {n : Nat} {f : Mv → Option PyData} (hf : ∀ w v d, Den G p H w v → f w = some d → DOk G H n v d) : ∀ {ws : List Mv} {vs : List V} {ds : List PyData}, DenL G p H ws vs → toDL f ws = some ds →
    DpAll G.K H vs ds ∧ PyData.canLayAll0 ds = true ∧ PyData.depthAll ds ≤ n
  | _, _, _, .nil, h => by
    cases h
    exact ⟨.nil, by simp [PyData.canLayAll0], by simp [PyData.depthAll]⟩
  | _, _, _, .cons (w := w) (ws := ws) d l, h => by
    obtain ⟨x, h1, h2⟩ := ob_some.mp (show (f w).ob (fun d => (toDL f ws).om fun ds => d :: ds) = _ from h)
    obtain ⟨xs, h3, h4⟩ := omap_some.mp h2
    cases h4
    have a := hf _ _ _ d h1
    obtain ⟨b1, b2, b3⟩ := toDL_ok hf l h3
    refine ⟨.cons a.dp b1, by simp [PyData.canLayAll0, a.lay, b2], ?_⟩
    have := a.dep
    simp only [PyData.depthAll]
    omega
theorem toD_ok (S : Sim G p s H) : ∀ (n : Nat) (w : Mv) (v : V) (d : PyData), Den G p H w v → toD n s w = some d → DOk G H n v d
  | 0, _, _, _, _, h => by cases h
  | n + 1, w, v, d, de, h => by
    have ih := toD_ok S n
    cases de with
    | non => cases h; exact ⟨.non, rfl, by simp [PyData.depth]⟩
    | bl b => cases h; exact ⟨.bl b, rfl, by simp [PyData.depth]⟩
    | int i => cases h; exact ⟨.int i, rfl, by simp [PyData.depth]⟩
    | str x =>
      have h' : cond (PyData.strOk x) (some (PyData.str x)) none = some d := h
      cases e : PyData.strOk x with
      | false => rw [e] at h'; cases h'
      | true =>
        rw [e] at h'; cases h'
        exact ⟨.str x, by simp [PyData.canLay0, e], by simp [PyData.depth]⟩
    | ty t => cases h
    | cls c => cases h
    | ref hn =>
      rename_i k a
      have h' : (match s.get k with
        | some (.lst ws) => (toDL (toD n s) ws).om PyData.list
        | _ => none) = some d := h
      split at h'
      · rename_i ws e
        obtain ⟨ho, h1, vs, rfl, l, _⟩ := S.get hn e
        obtain ⟨ds, h3, h4⟩ := omap_some.mp h'
        cases h4
        obtain ⟨b1, b2, b3⟩ := toDL_ok ih l h3
        exact ⟨.lst (SqL.of h1) b1, by simp [PyData.canLay0, b2], by simp only [PyData.depth]; omega⟩
      · cases h'
    | tup h1 l =>
      obtain ⟨ds, h3, h4⟩ := omap_some.mp (show (toDL (toD n s) _).om PyData.tuple = some d from h)
      cases h4
      obtain ⟨b1, b2, b3⟩ := toDL_ok ih l h3
      exact ⟨.tup h1 b1, by simp [PyData.canLay0, b2], by simp only [PyData.depth]; omega⟩
    | fl h1 l =>
      obtain ⟨ds, h3, h4⟩ := omap_some.mp (show (toDL (toD n s) _).om PyData.list = some d from h)
      cases h4
      obtain ⟨b1, b2, b3⟩ := toDL_ok ih l h3
      exact ⟨.lst h1.sq b1, by simp [PyData.canLay0, b2], by simp only [PyData.depth]; omega⟩
theorem DOk.shaped {n : Nat} {v : V} {d : PyData} (h : DOk G H n v d) (hn : n ≤ 64) : SeqAt.shaped d = true := by
  unfold SeqAt.shaped
  rw [h.lay, Bool.true_and]
  exact decide_eq_true (Nat.le_trans h.dep hn)
end
/-! ### operations -/
noncomputable def opr (o : Option Mv) (s : Ms) : Option (Mv × Ms) := o.om fun w => (w, s)
noncomputable def llen {α : Type} (r : List α) : Nat := List.rec (motive := fun _ => Nat) 0 (fun _ _ ih => Nat.succ ih) r
theorem llen_eq {α : Type} : ∀ r : List α, llen r = r.length
  | [] => rfl
  | _ :: r => congrArg Nat.succ (llen_eq r)
noncomputable def newL (ws : List Mv) (s : Ms) : Option (Mv × Ms) := cond (Nat.ble (llen ws) 16777216) ((s.alloc (.lst ws)).om fun q => (.ref q.1, q.2)) none
noncomputable def newT (ws : List Mv) (s : Ms) : Option (Mv × Ms) := cond (Nat.ble (llen ws) 16777216) (some (.tup ws, s)) none
/-- the items of a list, a tuple -/
noncomputable def items (w : Mv) (s : Ms) : Option (List Mv) := match w with
  | .tup ws => some ws
  | .fl ws => some ws
  | .ref n => match s.get n with
    | some (.lst ws) => some ws
    | _ => none
  | _ => none
noncomputable def iEq (i j : Int) : Bool := Int.rec (motive := fun _ => Bool) (fun n => Int.rec (motive := fun _ => Bool) (fun m => Nat.beq n m) (fun _ => false) j) (fun n => Int.rec (motive := fun _ => Bool) (fun _ => false) (fun m => Nat.beq n m) j) i
theorem nbeq (n m : Nat) : Nat.beq n m = decide (n = m) := by
  cases e : Nat.beq n m with
  | true => rw [decide_eq_true (Nat.eq_of_beq_eq_true e)]
  | false => rw [decide_eq_false (fun h => by subst h; rw [Nat.beq_refl] at e; cases e)]
theorem nblt (n m : Nat) : Nat.blt n m = decide (n < m) := by
  cases e : Nat.blt n m with
  | true => rw [decide_eq_true (Nat.blt_eq.mp e)]
  | false => rw [decide_eq_false (fun h => by rw [Nat.blt_eq.mpr h] at e; cases e)]
theorem iEq_eq (i j : Int) : iEq i j = decide (i = j) := by
  cases i with
  | ofNat n => cases j with
    | ofNat m => show Nat.beq n m = _; rw [nbeq]; exact decide_eq_decide.mpr ⟨fun h => by rw [h], fun h => Int.ofNat.inj h⟩
    | negSucc m => exact (decide_eq_false (fun h => by cases h)).symm
  | negSucc n => cases j with
    | ofNat m => exact (decide_eq_false (fun h => by cases h)).symm
    | negSucc m => show Nat.beq n m = _; rw [nbeq]; exact decide_eq_decide.mpr ⟨fun h => by rw [h], fun h => Int.negSucc.inj h⟩
noncomputable def iLt (i j : Int) : Bool := Int.rec (motive := fun _ => Bool) (fun n => Int.rec (motive := fun _ => Bool) (fun m => Nat.blt n m) (fun _ => false) j) (fun n => Int.rec (motive := fun _ => Bool) (fun _ => true) (fun m => Nat.blt m n) j) i
theorem iLt_eq (i j : Int) : iLt i j = decide (i < j) := by
  cases i with
  | ofNat n => cases j with
    | ofNat m => show Nat.blt n m = _; rw [nblt]; exact decide_eq_decide.mpr ⟨fun h => Int.ofNat_lt.mpr h, fun h => Int.ofNat_lt.mp h⟩
    | negSucc m => exact (decide_eq_false (fun h => by have : (0 : Int) ≤ Int.ofNat n := Int.natCast_nonneg n; have : Int.negSucc m < 0 := Int.negSucc_lt_zero m; omega)).symm
  | negSucc n => cases j with
    | ofNat m => exact (decide_eq_true (by have : (0 : Int) ≤ Int.ofNat m := Int.natCast_nonneg m; have : Int.negSucc n < 0 := Int.negSucc_lt_zero n; omega)).symm
    | negSucc m => show Nat.blt m n = _; rw [nblt]; exact decide_eq_decide.mpr ⟨fun h => by omega, fun h => by omega⟩
noncomputable def natsEq : List Nat → List Nat → Bool
  | [], [] => true
  | a :: as, b :: bs => cond (Nat.beq a b) (natsEq as bs) false
  | _, _ => false
theorem natsEq_eq : ∀ a b : List Nat, natsEq a b = decide (a = b)
  | [], [] => rfl
  | [], _ :: _ => by simp [natsEq]
  | _ :: _, [] => by simp [natsEq]
  | a :: as, b :: bs => by
    unfold natsEq
    by_cases h : a = b
    · subst h
      rw [Nat.beq_refl, cond_true, natsEq_eq as bs]
      simp
    · have : Nat.beq a b = false := by
        cases e : Nat.beq a b with
        | false => rfl
        | true => exact absurd (Nat.eq_of_beq_eq_true e) h
      rw [this, cond_false]
      simp [h]
noncomputable def strEq (x y : Str) : Bool := natsEq x.cps.toList y.cps.toList
theorem strEq_eq (x y : Str) : strEq x y = decide (x = y) := by
  unfold strEq
  rw [natsEq_eq]
  obtain ⟨a⟩ := x
  obtain ⟨b⟩ := y
  simp [Array.toList_inj]
noncomputable def sqEq (a b : Mv) : Option Bool := match a, b with
  | .int i, .int j => some (iEq i j)
  | .str x, .str y => some (strEq x y)
  | .bl x, .bl y => some (decide (x = y))
  | .non, .non => some true
  | .non, .int _ | .int _, .non | .non, .bl _ | .bl _, .non | .non, .str _ | .str _, .non => some false
  | .int _, .str _ | .str _, .int _ | .bl _, .str _ | .str _, .bl _ => some false
  | _, _ => none
noncomputable def eqBo (a b : Mv) (s : Ms) : Option Bool := match sqEq a b with
  | some k => some k
  | none => (toD 24 s a).ob fun d => (toD 24 s b).om fun e => PyData.eqv d e
noncomputable def eqW (a b : Mv) (s : Ms) : Option (Mv × Ms) := (eqBo a b s).om fun k => (.bl k, s)
noncomputable def neW (a b : Mv) (s : Ms) : Option (Mv × Ms) := (eqBo a b s).om fun k => (.bl (!k), s)
noncomputable def addW (a b : Mv) (s : Ms) : Option (Mv × Ms) := match a, b with
  | .int i, .int j => some (.int (Int.add i j), s)
  | .str x, .str y => cond (Nat.ble (x.length + y.length) 16777216) (some (.str (x ++ y), s)) none
  | .tup x, .tup y => newT (x ++ y) s
  | .ref n, .ref m => match s.get n, s.get m with
    | some (.lst x), some (.lst y) => newL (x ++ y) s
    | _, _ => none
  | _, _ => none
noncomputable def subW (a b : Mv) (s : Ms) : Option (Mv × Ms) := match a, b with
  | .int i, .int j => some (.int (Int.sub i j), s)
  | _, _ => none
noncomputable def smI (i : Int) : Bool := decide (-(2 ^ 64) < i) && decide (i < 2 ^ 64)
noncomputable def mulW (a b : Mv) (s : Ms) : Option (Mv × Ms) := match a, b with
  | .int i, .int j => cond (smI i || smI j) (some (.int (i * j), s)) none
  | _, _ => none
noncomputable def modW (a b : Mv) (s : Ms) : Option (Mv × Ms) := match a, b with
  | .int i, .int j => cond (decide (0 < j)) (some (.int (i % j), s)) none
  | _, _ => none
noncomputable def divW (a b : Mv) (s : Ms) : Option (Mv × Ms) := match a, b with
  | .int i, .int j => cond (decide (0 < j) && decide (j < 1073741824)) (some (.int (i / j), s)) none
  | _, _ => none
noncomputable def powW (a b : Mv) (s : Ms) : Option (Mv × Ms) := match a, b with
  | .int i, .int j => cond (decide (0 ≤ j) && decide (j ≤ 1000000) && smI i) (some (.int (i ^ j.toNat), s)) none
  | _, _ => none
noncomputable def cmpI (f : Int → Int → Bool) (g : List Nat → List Nat → Bool) (a b : Mv) (s : Ms) : Option (Mv × Ms) := match a, b with
  | .int i, .int j => some (.bl (f i j), s)
  | .str x, .str y => some (.bl (g x.cps.toList y.cps.toList), s)
  | _, _ => none
noncomputable def ltW := cmpI (fun i j => iLt i j) fun x y => decide (x < y)
noncomputable def leW := cmpI (fun i j => !iLt j i) fun x y => !decide (y < x)
noncomputable def gtW := cmpI (fun i j => iLt j i) fun x y => decide (y < x)
noncomputable def geW := cmpI (fun i j => !iLt i j) fun x y => !decide (x < y)
noncomputable def isW (neg : Bool) (a b : Mv) (s : Ms) : Option (Mv × Ms) := match b with
  | .non => some (.bl (neg != (match a with | .non => true | _ => false)), s)
  | _ => none
theorem sz_eq : sizeLine = 16777216 := sizeLine_eq
theorem ble_sz {n : Nat} (h : Nat.ble n 16777216 = true) : n ≤ sizeLine := by rw [sz_eq]; exact Nat.le_of_ble_eq_true h
section
variable {X : Cx} {G : Mg}
theorem newL_ok {p : List Addr} {s s' : Ms} {H : Hp} {ws : List Mv} {vs : List V} {w : Mv} {Q : VK} (S : Sim G p s H) (l : DenL G p H ws vs) (h : newL ws s = some (w, s')) (k : After G p H w s' Q) : vs.length ≤ sizeLine ∧ ∀ a, H a = none → Q (.ref a) (upd H a (.lst vs)) := by
  unfold newL at h
  rw [llen_eq] at h
  cases e : Nat.ble ws.length 16777216 with
  | false => rw [e] at h; cases h
  | true =>
    rw [e, cond_true] at h
    obtain ⟨⟨n, s1⟩, h1, h2⟩ := omap_some.mp h
    cases h2
    have hl : vs.length ≤ sizeLine := by rw [← l.length]; exact ble_sz e
    refine ⟨hl, fun a ha => ?_⟩
    obtain ⟨S', f', d'⟩ := S.new h1 ha (ho := .lst vs) ⟨vs, rfl, l, hl⟩ (H' := upd H a (.lst vs)) upd_same fun b u eb => by rw [upd_ne (ne_of_none eb ha)]; exact eb
    exact k _ _ _ S' f' d'
theorem fra_new {p : List Addr} {H : Hp} {a : Addr} {o : HO} (ha : H a = none) : Fra p H p (upd H a o) := ⟨⟨[], by simp, fun b hb => by simp at hb⟩, fun b u eb _ => by rw [upd_ne (ne_of_none eb ha)]; exact eb, fun b ob u eb => by rw [upd_ne (ne_of_none eb ha)]; exact eb⟩
theorem Sim.fra_new {p : List Addr} {s : Ms} {H : Hp} {a : Addr} {o : HO} (S : Sim G p s H) (ha : H a = none) : Sim G p s (upd H a o) := by
  have st := (Mi.fra_new (p := p) (o := o) ha).stays S
  refine ⟨S.len, S.nd, fun n b hb => ?_, S.out⟩
  obtain ⟨o1, ho, q1, q2, q3⟩ := S.ob n b hb
  exact ⟨o1, ho, q1, by rw [upd_ne (ne_of_none q2 ha)]; exact q2, q3.stay st⟩
theorem newT_ok {p : List Addr} {s s' : Ms} {H : Hp} {ws : List Mv} {vs : List V} {w : Mv} {Q : VK} (S : Sim G p s H) (l : DenL G p H ws vs) (h : newT ws s = some (w, s')) (k : After G p H w s' Q) : vs.length ≤ sizeLine ∧ (∀ a, H a = none → Q (.ref a) (upd H a (.tup vs))) ∧ ∀ a, SqT G.K H a vs → Q (.ref a) H := by
  unfold newT at h
  rw [llen_eq] at h
  cases e : Nat.ble ws.length 16777216 with
  | false => rw [e] at h; cases h
  | true =>
    rw [e] at h
    have h' : some (Mv.tup ws, s) = some (w, s') := h
    cases h'
    refine ⟨by rw [← l.length]; exact ble_sz e, fun a ha => ?_, fun a ha => k _ _ _ S Fra.refl (.tup ha l)⟩
    have f := Mi.fra_new (p := p) (o := HO.tup vs) ha
    exact k _ _ _ (S.fra_new ha) f (.tup (SqT.of upd_same) (l.fra S f))
noncomputable def mtup (A : Fa) : Fe := fun r s => (A r s).ob fun x => newT x.1 x.2
noncomputable def mlst (A : Fa) : Fe := fun r s => (A r s).ob fun x => newL x.1 x.2
theorem pm_tup {es : List Expr} {k : Nat} {pos : Pos} {A : Fa} (h : PA X es (tA G A)) : PE X (.Tuple es k pos) (tI G (mtup A)) := pe_imp (pe_tup h) fun σ H Q ⟨p, s, r, w, s', S, E, q, k⟩ => by
  obtain ⟨⟨x, s1⟩, q1, q2⟩ := ob_some.mp q
  exact ⟨p, s, r, x, s1, S, E, q1, fun p1 vs H1 S1 f1 l => let ⟨a, b, _⟩ := newT_ok S1 l q2 (k.of f1); ⟨a, b⟩⟩
theorem pm_lst {es : List Expr} {pos : Pos} {A : Fa} (h : PA X es (tA G A)) : PE X (.List es pos) (tI G (mlst A)) := pe_imp (pe_lst h) fun σ H Q ⟨p, s, r, w, s', S, E, q, k⟩ => by
  obtain ⟨⟨x, s1⟩, q1, q2⟩ := ob_some.mp q
  exact ⟨p, s, r, x, s1, S, E, q1, fun p1 vs H1 S1 f1 l => newL_ok S1 l q2 (k.of f1)⟩
theorem items_ok {p : List Addr} {s : Ms} {H : Hp} {w : Mv} {v : V} {ws : List Mv} (S : Sim G p s H) (d : Den G p H w v) (h : items w s = some ws) : ∃ a vs, v = .ref a ∧ (SqL G.K H a vs ∨ SqT G.K H a vs) ∧ DenL G p H ws vs := by
  cases d with
  | tup h1 l => cases h; exact ⟨_, _, rfl, .inr h1, l⟩
  | fl h1 l => cases h; exact ⟨_, _, rfl, .inl h1.sq, l⟩
  | ref hn =>
    simp only [items] at h
    split at h
    · rename_i ws' e
      cases h
      obtain ⟨ho, h1, vs, rfl, l, _⟩ := S.get hn e
      exact ⟨_, _, rfl, .inl (SqL.of h1), l⟩
    · cases h
  | _ => cases h
theorem opr_imp {f : Value → Value → Sem Value} {r r' : R2} (h : OpR X f r) (i : ∀ x y H Q, r' x y H Q → r x y H Q) : OpR X f r' := fun pins s σ H x y v u Q I rx ry q => h pins s σ H x y v u Q I rx ry (i x y H Q q)
theorem cal_imp {f : Value} {r r' : List V → Hp → VK → Prop} (h : CallR X f r) (i : ∀ x H Q, r' x H Q → r x H Q) : CallR X f r' := fun pins s σ H xs us Q I rv q => h pins s σ H xs us Q I rv (i xs H Q q)
theorem sqEq_ok {a b : Mv} {k : Bool} (h : sqEq a b = some k) {p : List Addr} {H : Hp} {x y : V} (da : Den G p H a x) (db : Den G p H b y) : scal x y = true ∧ decide (x = y) = k := by
  cases da <;> cases db <;> first
    | (cases h; done)
    | (cases h; exact ⟨rfl, by simp [strEq_eq, iEq_eq]⟩)
    | (cases h; exact ⟨rfl, by simp⟩)
    | (cases h; exact ⟨rfl, rfl⟩)
theorem om_eq (hu : X.A.units + 64 < cLine) (hK : X.K = G.K := by rfl) : OpR X (compareOp .Eq) (q2R G eqW) := opr_imp (OpR.or op_eq (op_eqD hu)) fun x y H Q ⟨p, s, a, b, w, s', S, da, db, q, k⟩ => by
  obtain ⟨c, q1, q2⟩ := omap_some.mp q
  cases q2
  unfold eqBo at q1
  split at q1
  · rename_i c' e
    cases q1
    obtain ⟨h1, h2⟩ := sqEq_ok e da db
    exact .inl ⟨h1, by rw [h2]; exact k p _ H S Fra.refl (.bl _)⟩
  · obtain ⟨d, h1, h2⟩ := ob_some.mp q1
    obtain ⟨e, h3, h4⟩ := omap_some.mp h2
    subst h4
    have o1 := toD_ok S 24 _ _ _ da h1
    have o2 := toD_ok S 24 _ _ _ db h3
    exact .inr ⟨d, e, by rw [hK]; exact o1.dp, by rw [hK]; exact o2.dp, o1.shaped (by decide), o2.shaped (by decide), k p _ H S Fra.refl (.bl _)⟩
theorem om_ne (hu : X.A.units + 64 < cLine) (hK : X.K = G.K := by rfl) : OpR X (compareOp .NotEq) (q2R G neW) := opr_imp (OpR.or op_ne (op_neD hu)) fun x y H Q ⟨p, s, a, b, w, s', S, da, db, q, k⟩ => by
  obtain ⟨c, q1, q2⟩ := omap_some.mp q
  cases q2
  unfold eqBo at q1
  split at q1
  · rename_i c' e
    cases q1
    obtain ⟨h1, h2⟩ := sqEq_ok e da db
    exact .inl ⟨h1, by rw [h2]; exact k p _ H S Fra.refl (.bl _)⟩
  · obtain ⟨d, h1, h2⟩ := ob_some.mp q1
    obtain ⟨e, h3, h4⟩ := omap_some.mp h2
    subst h4
    have o1 := toD_ok S 24 _ _ _ da h1
    have o2 := toD_ok S 24 _ _ _ db h3
    exact .inr ⟨d, e, by rw [hK]; exact o1.dp, by rw [hK]; exact o2.dp, o1.shaped (by decide), o2.shaped (by decide), k p _ H S Fra.refl (.bl _)⟩
theorem om_add (hK : X.K = G.K := by rfl) : OpR X (binaryOp .Add) (q2R G addW) := opr_imp (OpR.or (OpR.or op_add op_add_str) (OpR.or op_cat op_catA)) fun x y H Q ⟨p, s, a, b, w, s', S, da, db, q, k⟩ => by
  cases da <;> cases db <;> try (cases q; done)
  · cases q
    exact .inl (.inl ⟨_, _, rfl, rfl, k p _ H S Fra.refl (.int _)⟩)
  · rename_i x y _
    have q' : cond (Nat.ble (x.length + y.length) 16777216) (some (Mv.str (x ++ y), s)) none = some (w, s') := q
    cases e : Nat.ble (x.length + y.length) 16777216 with
    | false => rw [e] at q'; cases q'
    | true =>
      rw [e] at q'; cases q'
      exact .inl (.inr ⟨_, _, rfl, rfl, ble_sz e, k p _ H S Fra.refl (.str _)⟩)
  · rename_i n a h1 m b h2 _
    simp only [addW] at q
    split at q
    · rename_i u v e1 e2
      obtain ⟨ho, g1, vs, rfl, l1, _⟩ := S.get h1 e1
      obtain ⟨ho, g2, us, rfl, l2, _⟩ := S.get h2 e2
      obtain ⟨z1, z2⟩ := newL_ok S (l1.append l2) q k
      exact .inr (.inl ⟨_, _, _, _, rfl, rfl, g1, g2, by rw [← List.length_append]; exact z1, z2⟩)
    · cases q
  · rename_i a u vs h1 l1 b v us h2 l2 _
    obtain ⟨z1, z2, z3⟩ := newT_ok S (l1.append l2) q k
    refine .inr (.inr ⟨_, _, _, _, rfl, rfl, by rw [hK]; exact h1, by rw [hK]; exact h2, by rw [← List.length_append]; exact z1, fun e => ?_, fun _ e => ?_, fun _ _ => z2⟩)
    · subst e; exact z3 _ h2
    · subst e; exact z3 _ (by rw [List.append_nil]; exact h1)
theorem om_sub : OpR X (binaryOp .Sub) (q2R G subW) := opr_imp op_sub fun x y H Q ⟨p, s, a, b, w, s', S, da, db, q, k⟩ => by
  cases da <;> cases db <;> try (cases q; done)
  cases q
  exact ⟨_, _, rfl, rfl, k p _ H S Fra.refl (.int _)⟩
theorem smI_iff {i : Int} (h : smI i = true) : -(2 ^ 64) < i ∧ i < 2 ^ 64 := by
  have := Bool.and_eq_true_iff.mp h
  exact ⟨of_decide_eq_true this.1, of_decide_eq_true this.2⟩
theorem om_mul : OpR X (binaryOp .Mult) (q2R G mulW) := opr_imp op_mul fun x y H Q ⟨p, s, a, b, w, s', S, da, db, q, k⟩ => by
  cases da <;> cases db <;> try (cases q; done)
  rename_i i j _
  have q' : cond (smI i || smI j) (some (Mv.int (i * j), s)) none = some (w, s') := q
  cases e : (smI i || smI j) with
  | false => rw [e] at q'; cases q'
  | true =>
    rw [e] at q'; cases q'
    refine ⟨_, _, rfl, rfl, ?_, k p _ H S Fra.refl (.int _)⟩
    rcases Bool.or_eq_true_iff.mp e with e | e
    · exact .inl (smI_iff e)
    · exact .inr (smI_iff e)
theorem om_mod : OpR X (binaryOp .Mod) (q2R G modW) := opr_imp op_mod fun x y H Q ⟨p, s, a, b, w, s', S, da, db, q, k⟩ => by
  cases da <;> cases db <;> try (cases q; done)
  rename_i i j _
  have q' : cond (decide (0 < j)) (some (Mv.int (i % j), s)) none = some (w, s') := q
  cases e : decide (0 < j) with
  | false => rw [e] at q'; cases q'
  | true =>
    rw [e] at q'; cases q'
    exact ⟨_, _, rfl, rfl, of_decide_eq_true e, k p _ H S Fra.refl (.int _)⟩
theorem om_div : OpR X (binaryOp .FloorDiv) (q2R G divW) := opr_imp op_fdiv fun x y H Q ⟨p, s, a, b, w, s', S, da, db, q, k⟩ => by
  cases da <;> cases db <;> try (cases q; done)
  rename_i i j _
  have q' : cond (decide (0 < j) && decide (j < 1073741824)) (some (Mv.int (i / j), s)) none = some (w, s') := q
  cases e : (decide (0 < j) && decide (j < 1073741824)) with
  | false => rw [e] at q'; cases q'
  | true =>
    rw [e] at q'; cases q'
    have e' := Bool.and_eq_true_iff.mp e
    exact ⟨_, _, rfl, rfl, ⟨of_decide_eq_true e'.1, of_decide_eq_true e'.2⟩, k p _ H S Fra.refl (.int _)⟩
theorem om_pow : OpR X (binaryOp .Pow) (q2R G powW) := opr_imp op_pow fun x y H Q ⟨p, s, a, b, w, s', S, da, db, q, k⟩ => by
  cases da <;> cases db <;> try (cases q; done)
  rename_i i j _
  have q' : cond (decide (0 ≤ j) && decide (j ≤ 1000000) && smI i) (some (Mv.int (i ^ j.toNat), s)) none = some (w, s') := q
  cases e : (decide (0 ≤ j) && decide (j ≤ 1000000) && smI i) with
  | false => rw [e] at q'; cases q'
  | true =>
    rw [e] at q'; cases q'
    have e' := Bool.and_eq_true_iff.mp e
    have e2 := Bool.and_eq_true_iff.mp e'.1
    have h3 := smI_iff e'.2
    exact ⟨_, _, rfl, rfl, ⟨of_decide_eq_true e2.1, of_decide_eq_true e2.2, by omega⟩, k p _ H S Fra.refl (.int _)⟩
theorem den_bl {p : List Addr} {H : Hp} {a b : Bool} (e : a = b) : Den G p H (.bl a) (.bl b) := e ▸ .bl a
theorem om_lt : OpR X (compareOp .Lt) (q2R G ltW) := opr_imp (OpR.or op_lt op_lt_str) fun x y H Q ⟨p, s, a, b, w, s', S, da, db, q, k⟩ => by
  cases da <;> cases db <;> try (cases q; done)
  · cases q; exact .inl ⟨_, _, rfl, rfl, k p _ H S Fra.refl (den_bl (by simp [iLt_eq, ← decide_not, Int.not_lt]))⟩
  · cases q; exact .inr ⟨_, _, rfl, rfl, k p _ H S Fra.refl (.bl _)⟩
theorem om_le : OpR X (compareOp .LtE) (q2R G leW) := opr_imp (OpR.or op_le op_le_str) fun x y H Q ⟨p, s, a, b, w, s', S, da, db, q, k⟩ => by
  cases da <;> cases db <;> try (cases q; done)
  · cases q; exact .inl ⟨_, _, rfl, rfl, k p _ H S Fra.refl (den_bl (by simp [iLt_eq, ← decide_not, Int.not_lt]))⟩
  · cases q; exact .inr ⟨_, _, rfl, rfl, k p _ H S Fra.refl (.bl _)⟩
theorem om_gt : OpR X (compareOp .Gt) (q2R G gtW) := opr_imp (OpR.or op_gt op_gt_str) fun x y H Q ⟨p, s, a, b, w, s', S, da, db, q, k⟩ => by
  cases da <;> cases db <;> try (cases q; done)
  · cases q; exact .inl ⟨_, _, rfl, rfl, k p _ H S Fra.refl (den_bl (by simp [iLt_eq, ← decide_not, Int.not_lt]))⟩
  · cases q; exact .inr ⟨_, _, rfl, rfl, k p _ H S Fra.refl (.bl _)⟩
theorem om_ge : OpR X (compareOp .GtE) (q2R G geW) := opr_imp (OpR.or op_ge op_ge_str) fun x y H Q ⟨p, s, a, b, w, s', S, da, db, q, k⟩ => by
  cases da <;> cases db <;> try (cases q; done)
  · cases q; exact .inl ⟨_, _, rfl, rfl, k p _ H S Fra.refl (den_bl (by simp [iLt_eq, ← decide_not, Int.not_lt]))⟩
  · cases q; exact .inr ⟨_, _, rfl, rfl, k p _ H S Fra.refl (.bl _)⟩
theorem om_is : OpR X (compareOp .Is) (q2R G (isW false)) := opr_imp op_isN fun x y H Q ⟨p, s, a, b, w, s', S, da, db, q, k⟩ => by
  cases db <;> try (cases q; done)
  refine ⟨rfl, ?_⟩
  cases da <;> (cases q; exact k p _ H S Fra.refl (.bl _))
theorem om_isnot : OpR X (compareOp .IsNot) (q2R G (isW true)) := opr_imp op_notN fun x y H Q ⟨p, s, a, b, w, s', S, da, db, q, k⟩ => by
  cases db <;> try (cases q; done)
  refine ⟨rfl, ?_⟩
  cases da <;> (cases q; exact k p _ H S Fra.refl (.bl _))
end

end
section
/-! ### comprehensions -/
theorem itF {P Q : Prop} (h : Q) : if false = true then P else Q := by rw [if_neg Bool.false_ne_true]; exact h
theorem itT {P Q : Prop} (h : P) : if true = true then P else Q := by rw [if_pos rfl]; exact h
noncomputable def mwipe (r : Me) : List Nat → Me
  | [] => r
  | v :: vs => lset (mwipe r vs) v none
theorem EnvR.unset {G : Mg} {p : List Addr} {H : Hp} {r : Me} {σ : L2.St} {i : Nat} (e : EnvR G p H r σ) : EnvR G p H (lset r i none) (σ.set i none) := by
  rw [lset_eq]
  refine ⟨by rw [List.length_set, List.length_set, e.len], fun j x h => ?_⟩
  by_cases hj : i = j
  · subst hj
    have hl : i < r.length := by
      have := (List.getElem?_eq_some_iff.mp h).1
      rwa [List.length_set] at this
    rw [List.getElem?_set_self hl] at h
    cases h
  · rw [List.getElem?_set_ne hj] at h
    rw [List.getElem?_set_ne hj]
    exact e.get j x h
theorem EnvR.wipe {G : Mg} {p : List Addr} {H : Hp} {r : Me} {σ : L2.St} (e : EnvR G p H r σ) : ∀ vs : List Nat, EnvR G p H (mwipe r vs) (L2.wipe σ vs)
  | [] => e
  | v :: vs => (e.wipe vs).unset
/-- the items of all turns, one turn giving some -/
noncomputable def mflat (it : It0) (st : Mv → Ms → Option (List Mv × Ms)) (m : Nat) : Nat → Ms → Option (List Mv × Ms) := Nat.rec (motive := fun _ => Nat → Ms → Option (List Mv × Ms)) (fun _ _ => none)
  (fun _ ih i s => match it.at i s with
    | none => none
    | some none => some ([], s)
    | some (some w) => (st w s).ob fun x => (ih (Nat.succ i) x.2).om fun y => (lapp x.1 y.1, y.2)) m
theorem mflat_succ {it : It0} {st : Mv → Ms → Option (List Mv × Ms)} {m i : Nat} {s : Ms} : mflat it st (m + 1) i s = match it.at i s with
    | none => none
    | some none => some ([], s)
    | some (some w) => (st w s).ob fun x => (mflat it st m (i + 1) x.2).om fun y => (x.1 ++ y.1, y.2) := by
  show (match it.at i s with
    | none => none
    | some none => some ([], s)
    | some (some w) => (st w s).ob fun x => (mflat it st m (i + 1) x.2).om fun y => (lapp x.1 y.1, y.2)) = _
  cases it.at i s with
  | none => rfl
  | some o => cases o with
    | none => rfl
    | some w => simp only [lapp_eq]
noncomputable def mstep (T : Tg) (C : Ft) (E : Fe) (r : Me) (w : Mv) (s : Ms) : Option (List Mv × Ms) := (T.asg w r).ob fun r1 => (C r1 s).ob fun c => cond c.1 ((E r1 c.2).om fun x => ([x.1], x.2)) (some ([], c.2))
noncomputable def mlc (I : Fi) (T : Tg) (C : Ft) (E : Fe) (vs : List Nat) : Fe := fun r s => (I r s).ob fun x => (mflat x.1 (mstep T C E (mwipe r vs)) 100000 0 x.2).ob fun y => newL y.1 y.2
noncomputable def myes : Ft := fun _ s => some (true, s)
section
variable {X : Cx} {G : Mg}
theorem t_yes {σ : L2.St} {H : Hp} {Q : Bool → Hp → Prop} (h : tT G myes σ H Q) : tYes σ H Q := by
  obtain ⟨p, s, r, b, s', S, E, q, k⟩ := h
  cases q
  exact k p H S Fra.refl
theorem pts_imp {ifs : List Expr} {t t' : TT} (h : PTs X ifs t) (i : ∀ σ H Q, t' σ H Q → t σ H Q) : PTs X ifs t' := ⟨fun pins s σ H Q I q => h.run pins s σ H Q I (i σ H Q q)⟩
theorem tm_nil : PTs X [] (tT G myes) := pts_imp pts_nil fun _ _ _ h => t_yes h
theorem tm_one {c : Expr} {C : Ft} (h : PT X c (tT G C)) : PTs X [c] (tT G C) := pts_one h
theorem getElem?_wipe {σ : L2.St} {i : Nat} : ∀ {vs : List Nat}, i ∉ vs → (L2.wipe σ vs)[i]? = σ[i]?
  | [], _ => rfl
  | v :: vs, h => by
    have h' : i ≠ v ∧ i ∉ vs := by simpa using h
    show ((L2.wipe σ vs).set v none)[i]? = _
    rw [List.getElem?_set_ne (Ne.symm h'.1), getElem?_wipe h'.2]
theorem getElem?_wipe_in {σ : L2.St} {i : Nat} (hi : i < σ.length) : ∀ {vs : List Nat}, i ∈ vs → (L2.wipe σ vs)[i]? = some none
  | [], h => by cases h
  | v :: vs, h => by
    show ((L2.wipe σ vs).set v none)[i]? = _
    by_cases e : v = i
    · subst e
      rw [List.getElem?_set_self (by rw [wipe_length]; exact hi)]
    · rw [List.getElem?_set_ne e]
      exact getElem?_wipe_in hi (by simpa [Ne.symm e] using h)
theorem wipe_same {σ σ2 : L2.St} {vs : List Nat} (hl : σ2.length = σ.length) (h : ∀ i, i ∉ vs → σ2[i]? = (L2.wipe σ vs)[i]?) : L2.wipe σ2 vs = L2.wipe σ vs := by
  apply List.ext_getElem?
  intro i
  by_cases hi : i ∈ vs
  · by_cases hl2 : i < σ.length
    · rw [getElem?_wipe_in hl2 hi, getElem?_wipe_in (by omega) hi]
    · rw [List.getElem?_eq_none (by rw [wipe_length]; omega), List.getElem?_eq_none (by rw [wipe_length]; omega)]
  · rw [getElem?_wipe hi, h i hi]
theorem Sim.upd_out {p : List Addr} {s : Ms} {H : Hp} {D : Addr} {xs ys : List V} (S : Sim G p s H) (hD : H D = some (.lst xs)) (n : D ∉ p) : Sim G p s (upd H D (.lst ys)) ∧ Stays p H p (upd H D (.lst ys)) := by
  have st : Stays p H p (upd H D (.lst ys)) := by
    refine ⟨fun _ _ e => e, fun a vs e => ?_, fun a o u _ e => ?_⟩
    · rw [upd_ne (by rintro rfl; rw [hD] at e; cases e)]; exact e
    · rw [upd_ne (by rintro rfl; rw [hD] at e; cases e)]; exact e
  refine ⟨⟨S.len, S.nd, fun m b hb => ?_, S.out⟩, st⟩
  obtain ⟨o1, ho, q1, q2, q3⟩ := S.ob m b hb
  have hne : b ≠ D := by rintro rfl; exact n (List.mem_of_getElem? hb)
  exact ⟨o1, ho, q1, by rw [upd_ne hne]; exact q2, q3.stay st⟩
theorem Sim.adopt {p : List Addr} {s s' : Ms} {H : Hp} {D : Addr} {ws : List Mv} {vs : List V} {n : Nat} (S : Sim G p s H) (hD : H D = some (.lst vs)) (nin : D ∉ p) (l : DenL G p H ws vs) (hz : vs.length ≤ sizeLine) (e : s.alloc (.lst ws) = some (n, s')) : Sim G (p ++ [D]) s' H ∧ Den G (p ++ [D]) H (.ref n) (.ref D) := by
  obtain ⟨rfl, h2, h4⟩ := Ms.alloc_eq e
  have st : Stays p H (p ++ [D]) H := ⟨fun n a h => by rw [List.getElem?_append_left (List.getElem?_eq_some_iff.mp h).1]; exact h, fun _ _ e => e, fun _ _ _ _ e => e⟩
  have hlen : (p ++ [D])[s.sz]? = some D := by rw [← S.len]; simp
  refine ⟨⟨by rw [List.length_append, S.len, h2]; rfl, ?_, fun m b hb => ?_, fun m hm => ?_⟩, .ref hlen⟩
  · rw [List.nodup_append]
    exact ⟨S.nd, by simp, fun x hx y hy => by rw [List.mem_singleton.mp hy]; rintro rfl; exact nin hx⟩
  · by_cases hmn : m = s.sz
    · subst hmn
      rw [hlen] at hb; cases hb
      exact ⟨.lst ws, .lst vs, by rw [h4, if_pos rfl], hD, vs, rfl, l.stay st, hz⟩
    · have hlt : m < p.length := by
        have := (List.getElem?_eq_some_iff.mp hb).1
        rw [List.length_append] at this
        have := S.len
        simp at *
        omega
      rw [List.getElem?_append_left hlt] at hb
      obtain ⟨o1, ho1, q1, q2, q3⟩ := S.ob m b hb
      exact ⟨o1, ho1, by rw [h4, if_neg hmn]; exact q1, q2, q3.stay st⟩
  · rw [h4, if_neg (by omega)]
    exact S.out m (by omega)
theorem asgs_rlen : ∀ {is : List Nat} {ws : List Mv} {r r' : Me}, asgs is ws r = some r' → r'.length = r.length
  | [], [], _, _, h => by cases h; rfl
  | [], _ :: _, _, _, h => by cases h
  | _ :: _, [], _, _, h => by cases h
  | i :: is, w :: ws, r, r', h => by rw [asgs_rlen (is := is) (ws := ws) h, lset_eq, List.length_set]
theorem asg_len {T : Tg} {w : Mv} {r r' : Me} (h : T.asg w r = some r') : r'.length = r.length := by
  induction T generalizing w r r' with
  | nm i => cases h; rw [lset_eq, List.length_set]
  | tp is =>
    cases w with
    | tup ws => exact asgs_rlen h
    | _ => cases h
  | pr a b iha ihb =>
    obtain ⟨x, y, r1, rfl, h1, h2⟩ := asg_pr h
    exact (ihb h2).trans (iha h1)
/-- while a comprehension runs: its list at D stands outside -/
structure Mid (G : Mg) (D : Addr) (p1 : List Addr) (H1 : Hp) (acc : List Mv) (p : List Addr) (s : Ms) (H : Hp) : Prop where
  S : Sim G p s H
  f : Fra p1 H1 p H
  n : D ∉ p
  a : ∃ vs, H D = some (.lst vs) ∧ DenL G p H acc vs
theorem Mid.fra {D : Addr} {p1 p p' : List Addr} {H1 H H' : Hp} {acc : List Mv} {s s' : Ms} (M : Mid G D p1 H1 acc p s H) (S' : Sim G p' s' H') (f : Fra p H p' H') : Mid G D p1 H1 acc p' s' H' := by
  obtain ⟨vs, h1, h2⟩ := M.a
  exact ⟨S', M.f.trans f, f.notin h1 M.n, vs, f.kee D _ h1 M.n, h2.fra M.S f⟩
theorem Mid.app {D : Addr} {p1 p : List Addr} {H1 H : Hp} {acc : List Mv} {s : Ms} {w : Mv} {v : V} (M : Mid G D p1 H1 acc p s H) (hD : H1 D = none) (d : Den G p H w v) : ∃ vs, H D = some (.lst vs) ∧ vs.length = acc.length ∧ Mid G D p1 H1 (acc ++ [w]) p s (upd H D (.lst (vs ++ [v]))) := by
  obtain ⟨vs, h1, h2⟩ := M.a
  obtain ⟨S', st⟩ := M.S.upd_out (ys := vs ++ [v]) h1 M.n
  refine ⟨vs, h1, h2.length.symm, S', ⟨M.f.pre, fun a o e n => ?_, fun a o u e => ?_⟩, M.n, _, upd_same, (h2.stay st).append (.cons (d.stay st) .nil)⟩
  · rw [upd_ne (by rintro rfl; rw [hD] at e; cases e)]
    exact M.f.kee a o e n
  · rw [upd_ne (by rintro rfl; rw [hD] at e; cases e)]
    exact M.f.frz a o u e
theorem newL_end {D : Addr} {p1 p : List Addr} {H1 H : Hp} {acc : List Mv} {s s' : Ms} {w : Mv} {Q : VK} (M : Mid G D p1 H1 acc p s H) (hD : H1 D = none) (h : newL acc s = some (w, s')) (k : After G p1 H1 w s' Q) : Q (.ref D) H := by
  obtain ⟨vs, h1, h2⟩ := M.a
  unfold newL at h
  rw [llen_eq] at h
  cases e : Nat.ble acc.length 16777216 with
  | false => rw [e] at h; cases h
  | true =>
    rw [e, cond_true] at h
    obtain ⟨⟨n, s1⟩, g1, g2⟩ := omap_some.mp h
    cases g2
    obtain ⟨S', d'⟩ := M.S.adopt h1 M.n h2 (by rw [← h2.length]; exact ble_sz e) g1
    obtain ⟨q, eq, hq⟩ := M.f.pre
    refine k _ _ _ S' ⟨⟨q ++ [D], by rw [eq, List.append_assoc], fun a ha np => ?_⟩, M.f.kee, M.f.frz⟩ d'
    rcases List.mem_append.mp ha with z | z
    · exact hq a z np
    · rw [List.mem_singleton.mp z]; exact hD
theorem newL_len {acc : List Mv} {s s' : Ms} {w : Mv} (h : newL acc s = some (w, s')) : acc.length ≤ sizeLine := by
  unfold newL at h
  rw [llen_eq] at h
  cases e : Nat.ble acc.length 16777216 with
  | false => rw [e] at h; cases h
  | true => exact ble_sz e
theorem Sim.free {p : List Addr} {s : Ms} {H : Hp} {D : Addr} (S : Sim G p s H) (hD : H D = none) : D ∉ p := fun h => by
  obtain ⟨k, hk⟩ := List.mem_iff_getElem?.mp h
  obtain ⟨_, _, _, z, _⟩ := S.ob k D hk
  rw [hD] at z; cases z
theorem Mid.start {D : Addr} {p1 : List Addr} {H1 : Hp} {s1 : Ms} (S : Sim G p1 s1 H1) (hD : H1 D = none) : Mid G D p1 H1 [] p1 s1 (upd H1 D (.lst [])) :=
  ⟨S.fra_new hD, fra_new hD, S.free hD, ⟨[], upd_same, .nil⟩⟩
theorem t_lc {I : Fi} {T : Tg} {C : Ft} {E : Fe} {vs : List Nat} (hT : ∀ i ∈ T.slots, i ∈ vs) {σ : L2.St} {H : Hp} {Q : VK} (h : tI G (mlc I T C E vs) σ H Q) : tLc (tIt G I) (tG G T) (tT G C) (tI G E) vs σ H Q := by
  obtain ⟨p, s, r, w, s', S, Er, q, k⟩ := h
  obtain ⟨⟨it, s1⟩, q1, q2⟩ := ob_some.mp q
  obtain ⟨⟨tot, s9⟩, q3, q4⟩ := ob_some.mp q2
  have hlen : tot.length ≤ sizeLine := newL_len q4
  refine ⟨p, s, r, it, s1, S, Er, q1, fun p1 H1 J S1 f1 R D hD => ?_⟩
  have k1 := k.of f1
  have E1 := Er.fra S f1
  refine ⟨fun i m H2 => ∃ p2 s2 acc rest, Mid G D p1 H1 acc p2 s2 H2 ∧ mflat it (mstep T C E (mwipe r vs)) m i s2 = some (rest, s9) ∧ acc ++ rest = tot, ⟨100000, p1, s1, [], tot, Mid.start S1 hD, q3, rfl⟩, ?_⟩
  rintro i m H2 ⟨p2, s2, acc, rest, M, q5, e5⟩
  cases m with
  | zero => cases q5
  | succ m =>
    have st2 := M.f.stays S1
    have R2 := R p2 s2 H2 i M.S st2 M.f.frz
    rw [mflat_succ] at q5
    cases e : it.at i s2 with
    | none => rw [e] at q5; cases q5
    | some o =>
      cases o with
      | none =>
        rw [e] at q5
        have q5' : some (([] : List Mv), s2) = some (rest, s9) := q5
        cases q5'
        rw [List.append_nil] at e5
        subst e5
        exact .inl ⟨R2.1 e, newL_end M hD q4 k1⟩
      | some x =>
        rw [e] at q5
        obtain ⟨⟨xs, s3⟩, q6, q7⟩ := ob_some.mp q5
        obtain ⟨⟨ys, s4⟩, q8, q9⟩ := omap_some.mp q7
        cases q9
        obtain ⟨g, y⟩ := R2.2 x e
        refine .inr ⟨g, fun H3 => ∃ p3 s3', Mid G D p1 H1 (acc ++ xs) p3 s3' H3 ∧ s3' = s3, fun H3 ⟨p3, s3', M3, e3⟩ => ⟨m, Nat.lt_succ_self m, p3, s3', acc ++ xs, ys, M3, by rw [e3]; exact q8, by rw [List.append_assoc]; exact e5⟩, fun v H' hy => ?_⟩
        obtain ⟨S2', f2', d⟩ := y v H' hy
        have M2 := M.fra S2' f2'
        unfold mstep at q6
        obtain ⟨r1, a1, a2⟩ := ob_some.mp q6
        obtain ⟨⟨c, s5⟩, a3, a4⟩ := ob_some.mp a2
        have E2 : EnvR G p2 H' (mwipe r vs) (L2.wipe σ vs) := (((E1.fra S1 M.f).fra M.S f2').wipe vs)
        refine ⟨p2, s2, _, x, r1, S2', E2, d, a1, fun σ2 E3 hs => ⟨?_, p2, s2, r1, c, s5, S2', E3, a3, fun p5 H5 S5 f5 => ?_⟩⟩
        · refine wipe_same ?_ fun i hi => hs i fun z => hi (hT i z)
          rw [← E3.len, asg_len a1]
          have := E2.len
          rw [wipe_length] at this
          exact this
        · have M5 := M2.fra S5 f5
          cases c with
          | false =>
            refine itF ?_
            have a4' : some (([] : List Mv), s5) = some (xs, s3) := a4
            cases a4'
            exact ⟨p5, _, by rw [List.append_nil]; exact M5, rfl⟩
          | true =>
            refine itT ?_
            obtain ⟨⟨z, s6⟩, a5, a6⟩ := omap_some.mp (show (E r1 s5).om _ = some (xs, s3) from a4)
            cases a6
            refine ⟨p5, s5, r1, z, s6, S5, E3.fra S2' f5, a5, fun p6 v6 H6 S6 f6 d6 => ?_⟩
            obtain ⟨vs', b1, b2, b3⟩ := (M5.fra S6 f6).app hD d6
            refine ⟨vs', b1, ?_, p6, _, b3, rfl⟩
            rw [b2]
            have : (acc ++ ([z] ++ ys)).length = tot.length := by rw [e5]
            simp at this
            omega
theorem pm_lc {elt tg iter : Expr} {ifs : List Expr} {scope : Scope} {own : List (Str × Nat)} {pos : Pos} {I : Fi} {T : Tg} {C : Ft} {E : Fe} (hc : X.calm = true) (hN : X.N.Nodup) (hi : PI X tg iter (tIt G I)) (ok : BlkOk X.N X.env.scope scope own)
    (hg : ∀ (s : Shared) (H : Hp) (C : Addr) (cl : List (Str × Addr)) (fp : List Addr), PG (X.blk s H scope (compEnvC scope cl C X.env) fp) tg (tG G T)) (ht : ∀ (s : Shared) (H : Hp) (C0 : Addr) (cl : List (Str × Addr)) (fp : List Addr), PTs (X.blk s H scope (compEnvC scope cl C0 X.env) fp) ifs (tT G C))
    (he : ∀ (s : Shared) (H : Hp) (C : Addr) (cl : List (Str × Addr)) (fp : List Addr), PE (X.blk s H scope (compEnvC scope cl C X.env) fp) elt (tI G E)) (hT : ∀ i ∈ T.slots, i ∈ own.map (·.2) := by decide) (hs : ∀ x, foldedSetIterable iter X.env x = pure x := by intro _; rfl) :
    PE X (.ListComp elt [⟨tg, iter, ifs, 0⟩] scope pos) (tI G (mlc I T C E (own.map (·.2)))) := pe_imp (pe_lc hc hN hi ok hg ht he hs) fun _ _ _ h => t_lc hT h
theorem sm_setLc {i : Nat} {y : Str} {py : Pos} {elt tg iter : Expr} {ifs : List Expr} {scope : Scope} {own : List (Str × Nat)} {pos spos : Pos} {I : Fi} {T : Tg} {C : Ft} {E : Fe} (hc : X.calm = true) (hN : X.N.Nodup) (hy : X.N[i]? = some y) (hyl : X.env.scope.names.lookup y = some .local)
    (hsw : swapsWith (.ListComp elt [⟨tg, iter, ifs, 0⟩] scope pos) (some (.Name y py)) spos.line X.env = pure true) (hi : PI X tg iter (tIt G I)) (ok : BlkOk X.N X.env.scope scope own)
    (hg : ∀ (s : Shared) (H : Hp) (C : Addr) (cl : List (Str × Addr)) (fp : List Addr), PG (X.blk s H scope (compEnvC scope cl C X.env) fp) tg (tG G T)) (ht : ∀ (s : Shared) (H : Hp) (C0 : Addr) (cl : List (Str × Addr)) (fp : List Addr), PTs (X.blk s H scope (compEnvC scope cl C0 X.env) fp) ifs (tT G C))
    (he : ∀ (s : Shared) (H : Hp) (C : Addr) (cl : List (Str × Addr)) (fp : List Addr), PE (X.blk s H scope (compEnvC scope cl C X.env) fp) elt (tI G E)) (hT : ∀ i ∈ T.slots, i ∈ own.map (·.2) := by decide) (hs : ∀ x, foldedSetIterable iter X.env x = pure x := by intro _; rfl) :
    PS X (.Assign [.Name y py] (.ListComp elt [⟨tg, iter, ifs, 0⟩] scope pos) spos) (tS G (sset i (mlc I T C E (own.map (·.2))))) :=
  ps_imp (ps_setLc hc hN hy hyl hsw hi ok hg ht he hs) fun D σ H ⟨p, s, r, f, r', s', S, E, q, k⟩ => by
    obtain ⟨⟨x, s1⟩, q1, q2⟩ := omap_some.mp q
    cases q2
    exact t_lc hT ⟨p, s, r, x, s1, S, E, q1, fun p1 v1 H1 S1 f1 d1 => k p1 H1 S1 f1 _ ((E.fra S f1).set d1)⟩
/-! two fors -/
noncomputable def mlc2 (I : Fi) (T : Tg) (C : Ft) (I1 : Fi) (T1 : Tg) (C1 : Ft) (E : Fe) (vs vs1 : List Nat) : Fe := fun r s => (I r s).ob fun x => (mflat x.1 (fun w s => (T.asg w (mwipe r vs)).ob fun r1 => (C r1 s).ob fun c => cond c.1 ((I1 r1 c.2).ob fun z => mflat z.1 (mstep T1 C1 E (mwipe r1 vs1)) 100000 0 z.2) (some ([], c.2))) 100000 0 x.2).ob fun y => newL y.1 y.2
theorem Mid.eqv {D : Addr} {p1 p : List Addr} {H1 H : Hp} {acc acc' : List Mv} {s : Ms} (M : Mid G D p1 H1 acc p s H) (e : acc = acc') : Mid G D p1 H1 acc' p s H := e ▸ M
/-- what stays, with all that is locked -/
abbrev StF (p0 : List Addr) (H0 : Hp) (p : List Addr) (H : Hp) : Prop := Stays p0 H0 p H ∧ ∀ a o u, H0 a = some (.frz o u) → H a = some (.frz o u)
theorem t_lc2 {I : Fi} {T : Tg} {C : Ft} {I1 : Fi} {T1 : Tg} {C1 : Ft} {E : Fe} {vs vs1 : List Nat} (hT : ∀ i ∈ T.slots, i ∈ vs) (hT1 : ∀ i ∈ T1.slots, i ∈ vs1) {σ : L2.St} {H : Hp} {Q : VK} (h : tI G (mlc2 I T C I1 T1 C1 E vs vs1) σ H Q) :
    tLc2 (tIt G I) (tG G T) (tT G C) (tIt G I1) (tG G T1) (tT G C1) (tI G E) vs vs1 σ H Q := by
  obtain ⟨p, s, r, w, s', S, Er, q, k⟩ := h
  obtain ⟨⟨it, s1⟩, q1, q2⟩ := ob_some.mp q
  obtain ⟨⟨tot, s9⟩, q3, q4⟩ := ob_some.mp q2
  have hlen : tot.length ≤ sizeLine := newL_len q4
  refine ⟨p, s, r, it, s1, S, Er, q1, fun p1 H1 J S1 f1 R D hD => ?_⟩
  have k1 := k.of f1
  have E1 := Er.fra S f1
  refine ⟨fun i m H2 => ∃ p2 s2 acc rest, Mid G D p1 H1 acc p2 s2 H2 ∧ mflat it _ m i s2 = some (rest, s9) ∧ acc ++ rest = tot, ⟨100000, p1, s1, [], tot, Mid.start S1 hD, q3, rfl⟩, ?_⟩
  rintro i m H2 ⟨p2, s2, acc, rest, M, q5, e5⟩
  cases m with
  | zero => cases q5
  | succ m =>
    have st2 := M.f.stays S1
    have R2 := R p2 s2 H2 i M.S st2 M.f.frz
    rw [mflat_succ] at q5
    cases e : it.at i s2 with
    | none => rw [e] at q5; cases q5
    | some o =>
      cases o with
      | none =>
        rw [e] at q5
        have q5' : some (([] : List Mv), s2) = some (rest, s9) := q5
        cases q5'
        rw [List.append_nil] at e5
        subst e5
        exact .inl ⟨R2.1 e, newL_end M hD q4 k1⟩
      | some x =>
        rw [e] at q5
        obtain ⟨⟨xs, s3⟩, q6, q7⟩ := ob_some.mp q5
        obtain ⟨⟨ys, s4⟩, q8, q9⟩ := omap_some.mp q7
        cases q9
        obtain ⟨g, y⟩ := R2.2 x e
        have htot : acc.length + (xs.length + ys.length) = tot.length := by rw [← e5]; simp
        refine .inr ⟨g, fun H3 => ∃ p3 s3', Mid G D p1 H1 (acc ++ xs) p3 s3' H3 ∧ s3' = s3, fun H3 ⟨p3, s3', M3, e3⟩ => ⟨m, Nat.lt_succ_self m, p3, s3', acc ++ xs, ys, M3, by rw [e3]; exact q8, by rw [List.append_assoc]; exact e5⟩, fun v H' hy => ?_⟩
        obtain ⟨S2', f2', d⟩ := y v H' hy
        have M2 := M.fra S2' f2'
        obtain ⟨r1, a1, a2⟩ := ob_some.mp q6
        obtain ⟨⟨c, s5⟩, a3, a4⟩ := ob_some.mp a2
        have E2 : EnvR G p2 H' (mwipe r vs) (L2.wipe σ vs) := (((E1.fra S1 M.f).fra M.S f2').wipe vs)
        refine ⟨p2, s2, _, x, r1, S2', E2, d, a1, fun σ2 E3 hs => ⟨?_, p2, s2, r1, c, s5, S2', E3, a3, fun p5 H5 S5 f5 => ?_⟩⟩
        · refine wipe_same ?_ fun i hi => hs i fun z => hi (hT i z)
          rw [← E3.len, asg_len a1]
          have := E2.len
          rw [wipe_length] at this
          exact this
        · have M5 := M2.fra S5 f5
          have E5 := E3.fra S2' f5
          cases c with
          | false =>
            refine itF ?_
            have a4' : some (([] : List Mv), s5) = some (xs, s3) := a4
            cases a4'
            exact ⟨p5, _, M5.eqv (by rw [List.append_nil]), rfl⟩
          | true =>
            refine itT ?_
            obtain ⟨⟨it1, s6⟩, a5, a6⟩ := ob_some.mp (show (I1 r1 s5).ob _ = some (xs, s3) from a4)
            refine ⟨p5, s5, r1, it1, s6, S5, E5, a5, fun p6 H6 J1 S6 f6 R6 => ?_⟩
            have M6 := M5.fra S6 f6
            have E6 := E5.fra S5 f6
            refine ⟨fun j n H7 => ∃ p7 s7 acc7 rest7, Mid G D p1 H1 acc7 p7 s7 H7 ∧ StF p6 H6 p7 H7 ∧ mflat it1 (mstep T1 C1 E (mwipe r1 vs1)) n j s7 = some (rest7, s3) ∧ acc7 ++ rest7 = acc ++ xs, ⟨100000, p6, s6, acc, xs, M6, ⟨Stays.refl, fun _ _ _ e => e⟩, a6, rfl⟩, ?_⟩
            rintro j n H7 ⟨p7, s7, acc7, rest7, M7, st7, b5, be⟩
            cases n with
            | zero => cases b5
            | succ n =>
              have R7 := R6 p7 s7 H7 j M7.S st7.1 st7.2
              rw [mflat_succ] at b5
              cases e7 : it1.at j s7 with
              | none => rw [e7] at b5; cases b5
              | some o7 =>
                cases o7 with
                | none =>
                  rw [e7] at b5
                  have b5' : some (([] : List Mv), s7) = some (rest7, s3) := b5
                  cases b5'
                  rw [List.append_nil] at be
                  exact .inl ⟨R7.1 e7, p7, _, M7.eqv be, rfl⟩
                | some x7 =>
                  rw [e7] at b5
                  obtain ⟨⟨xs8, s8⟩, b6, b7⟩ := ob_some.mp b5
                  obtain ⟨⟨ys8, s10⟩, b8, b9⟩ := omap_some.mp b7
                  cases b9
                  obtain ⟨g7, y7⟩ := R7.2 x7 e7
                  refine .inr ⟨g7, fun H3 => ∃ p3 s3', Mid G D p1 H1 (acc7 ++ xs8) p3 s3' H3 ∧ StF p6 H6 p3 H3 ∧ s3' = s8, fun H3 ⟨p3, s3', M3, st3, e3⟩ => ⟨n, Nat.lt_succ_self n, p3, s3', acc7 ++ xs8, ys8, M3, st3, by rw [e3]; exact b8, by rw [List.append_assoc]; exact be⟩, fun v7 H' hy7 => ?_⟩
                  obtain ⟨S7', f7', d7⟩ := y7 v7 H' hy7
                  have M8 := M7.fra S7' f7'
                  have st8 : StF p6 H6 p7 H' := ⟨st7.1.trans (f7'.stays M7.S), fun a o u e => f7'.frz a o u (st7.2 a o u e)⟩
                  obtain ⟨r9, c1, c2⟩ := ob_some.mp b6
                  obtain ⟨⟨cc, s11⟩, c3, c4⟩ := ob_some.mp c2
                  have E8 : EnvR G p7 H' (mwipe r1 vs1) (L2.wipe σ2 vs1) := EnvR.wipe ⟨E6.len, fun i w h => let ⟨v, q, d⟩ := E6.get i w h; ⟨v, q, d.stay st8.1⟩⟩ vs1
                  refine ⟨p7, s7, _, x7, r9, S7', E8, d7, c1, fun σ3 E9 hs9 => ⟨?_, p7, s7, r9, cc, s11, S7', E9, c3, fun p10 H10 S10 f10 => ?_⟩⟩
                  · refine wipe_same ?_ fun i hi => hs9 i fun z => hi (hT1 i z)
                    rw [← E9.len, asg_len c1]
                    have := E8.len
                    rw [wipe_length] at this
                    exact this
                  · have M10 := M8.fra S10 f10
                    have st10 : StF p6 H6 p10 H10 := ⟨st8.1.trans (f10.stays S7'), fun a o u e => f10.frz a o u (st8.2 a o u e)⟩
                    cases cc with
                    | false =>
                      refine itF ?_
                      have c4' : some (([] : List Mv), s11) = some (xs8, s8) := c4
                      cases c4'
                      exact ⟨p10, _, M10.eqv (by rw [List.append_nil]), st10, rfl⟩
                    | true =>
                      refine itT ?_
                      obtain ⟨⟨z, s12⟩, c5, c6⟩ := omap_some.mp (show (E r9 s11).om _ = some (xs8, s8) from c4)
                      cases c6
                      refine ⟨p10, s11, r9, z, s12, S10, E9.fra S7' f10, c5, fun p12 v12 H12 S12 f12 d12 => ?_⟩
                      obtain ⟨vs', g1, g2, g3⟩ := (M10.fra S12 f12).app hD d12
                      refine ⟨vs', g1, ?_, p12, _, g3, ?_, rfl⟩
                      · rw [g2]
                        have : (acc7 ++ ([z] ++ ys8)).length = (acc ++ xs).length := by rw [be]
                        simp at this
                        omega
                      · refine ⟨(st10.1.trans (f12.stays S10)).trans (S12.upd_out g1 (M10.fra S12 f12).n).2, fun a o u e => ?_⟩
                        have q := f12.frz a o u (st10.2 a o u e)
                        rw [upd_ne (by rintro rfl; rw [g1] at q; cases q)]
                        exact q
theorem pm_lc2 {elt tg iter tg1 iter1 : Expr} {ifs ifs1 : List Expr} {scope : Scope} {own : List (Str × Nat)} {vs1 : List Nat} {pos : Pos} {I I1 : Fi} {T T1 : Tg} {C C1 : Ft} {E : Fe} (hc : X.calm = true) (hN : X.N.Nodup) (hi : PI X tg iter (tIt G I)) (ok : BlkOk X.N X.env.scope scope own)
    (hg : ∀ (s : Shared) (H : Hp) (C : Addr) (cl : List (Str × Addr)) (fp : List Addr), PG (X.blk s H scope (compEnvC scope cl C X.env) fp) tg (tG G T)) (ht : ∀ (s : Shared) (H : Hp) (C0 : Addr) (cl : List (Str × Addr)) (fp : List Addr), PTs (X.blk s H scope (compEnvC scope cl C0 X.env) fp) ifs (tT G C))
    (hi1 : ∀ (s : Shared) (H : Hp) (C : Addr) (cl : List (Str × Addr)) (fp : List Addr), PI (X.blk s H scope (compEnvC scope cl C X.env) fp) tg1 iter1 (tIt G I1))
    (hg1 : ∀ (s : Shared) (H : Hp) (C : Addr) (cl : List (Str × Addr)) (fp : List Addr), PG (X.blk s H scope (compEnvC scope cl C X.env) fp) tg1 (tG G T1)) (ht1 : ∀ (s : Shared) (H : Hp) (C0 : Addr) (cl : List (Str × Addr)) (fp : List Addr), PTs (X.blk s H scope (compEnvC scope cl C0 X.env) fp) ifs1 (tT G C1))
    (he : ∀ (s : Shared) (H : Hp) (C : Addr) (cl : List (Str × Addr)) (fp : List Addr), PE (X.blk s H scope (compEnvC scope cl C X.env) fp) elt (tI G E)) (hv : ∀ i ∈ vs1, i ∈ own.map (·.2) := by decide) (hT : ∀ i ∈ T.slots, i ∈ own.map (·.2) := by decide) (hT1 : ∀ i ∈ T1.slots, i ∈ vs1 := by decide)
    (hs : ∀ x, foldedSetIterable iter X.env x = pure x := by intro _; rfl) (hs1 : ∀ env x, foldedSetIterable iter1 env x = pure x := by intro _ _; rfl) :
    PE X (.ListComp elt [⟨tg, iter, ifs, 0⟩, ⟨tg1, iter1, ifs1, 0⟩] scope pos) (tI G (mlc2 I T C I1 T1 C1 E (own.map (·.2)) vs1)) := pe_imp (pe_lc2 hc hN hi ok hv hg ht hi1 hg1 ht1 he hs hs1) fun _ _ _ h => t_lc2 hT hT1 h
theorem sm_setLc2 {i : Nat} {y : Str} {py : Pos} {elt tg iter tg1 iter1 : Expr} {ifs ifs1 : List Expr} {scope : Scope} {own : List (Str × Nat)} {vs1 : List Nat} {pos spos : Pos} {I I1 : Fi} {T T1 : Tg} {C C1 : Ft} {E : Fe}
    (h : PS X (.Assign [.Name y py] (.ListComp elt [⟨tg, iter, ifs, 0⟩, ⟨tg1, iter1, ifs1, 0⟩] scope pos) spos) (tAsg (tLc2 (tIt G I) (tG G T) (tT G C) (tIt G I1) (tG G T1) (tT G C1) (tI G E) (own.map (·.2)) vs1) (gName i))) (hT : ∀ i ∈ T.slots, i ∈ own.map (·.2) := by decide) (hT1 : ∀ i ∈ T1.slots, i ∈ vs1 := by decide) :
    PS X (.Assign [.Name y py] (.ListComp elt [⟨tg, iter, ifs, 0⟩, ⟨tg1, iter1, ifs1, 0⟩] scope pos) spos) (tS G (sset i (mlc2 I T C I1 T1 C1 E (own.map (·.2)) vs1))) :=
  ps_imp h fun D σ H ⟨p, s, r, f, r', s', S, E, q, k⟩ => by
    obtain ⟨⟨x, s1⟩, q1, q2⟩ := omap_some.mp q
    cases q2
    exact t_lc2 hT hT1 ⟨p, s, r, x, s1, S, E, q1, fun p1 v1 H1 S1 f1 d1 => k p1 H1 S1 f1 _ ((E.fra S f1).set d1)⟩
end

end
section
/-! ### subscripts, slices, membership -/
noncomputable def atF {α : Type} (ws : List α) (i : Int) : Option α := Int.rec (motive := fun _ => Option α) (fun n => lget ws n) (fun n => cond (Nat.blt n (llen ws)) (lget ws (Nat.sub (llen ws) (Nat.succ n))) none) i
theorem atF_eq {α : Type} (ws : List α) (i : Int) : atF ws i = L2.atI ws i := by
  unfold L2.atI L2.ixN
  cases i with
  | ofNat n =>
    show lget ws n = _
    rw [lget_eq, if_pos (show (0 : Int) ≤ Int.ofNat n from Int.natCast_nonneg n)]
    by_cases h : n < ws.length
    · rw [if_pos (show (Int.ofNat n : Int) < (ws.length : Int) from Int.ofNat_lt.mpr h)]; rfl
    · rw [if_neg (show ¬ (Int.ofNat n : Int) < (ws.length : Int) from fun z => h (Int.ofNat_lt.mp z))]
      exact List.getElem?_eq_none_iff.mpr (by omega)
  | negSucc n =>
    show cond (Nat.blt n (llen ws)) (lget ws (llen ws - (n + 1))) none = _
    rw [llen_eq, if_neg (by simp)]
    cases e : Nat.blt n ws.length with
    | false =>
      have h : ¬ n < ws.length := fun z => by rw [Nat.blt_eq.mpr z] at e; cases e
      rw [cond_false]
      split
      · omega
      · rfl
    | true =>
      have h : n < ws.length := Nat.blt_eq.mp e
      rw [cond_true, lget_eq]
      split
      · rename_i z
        have : (ws.length : Int) + Int.negSucc n = ((ws.length - (n + 1) : Nat) : Int) := by omega
        show _ = ws[(((ws.length : Int) + Int.negSucc n).toNat)]?
        rw [this]; rfl
      · rename_i z
        exfalso; apply z; omega
theorem DenL.atI {G : Mg} {p : List Addr} {H : Hp} {ws : List Mv} {vs : List V} (l : DenL G p H ws vs) {i : Int} {w : Mv} (h : L2.atI ws i = some w) : ∃ v, L2.atI vs i = some v ∧ Den G p H w v := by
  unfold L2.atI at h ⊢
  rw [← l.length]
  obtain ⟨j, h1, h2⟩ := Option.bind_eq_some_iff.mp h
  obtain ⟨v, h3, d⟩ := l.get h2
  exact ⟨v, by rw [h1]; exact h3, d⟩
noncomputable def ixW (a b : Mv) (s : Ms) : Option (Mv × Ms) := match b with
  | .int i => (items a s).ob fun ws => (atF ws i).om fun w => (w, s)
  | _ => none
noncomputable def cutM (ws : List Mv) (lo hi : Option Int) : List Mv := (ws.drop (HT.sIx ws.length 0 lo)).take (HT.sIx ws.length ws.length hi - HT.sIx ws.length 0 lo)
noncomputable def slW (w : Mv) (lo hi : Option Int) (s : Ms) : Option (Mv × Ms) := match w with
  | .tup ws => newT (cutM ws lo hi) s
  | .fl ws => newL (cutM ws lo hi) s
  | .ref n => match s.get n with
    | some (.lst ws) => newL (cutM ws lo hi) s
    | _ => none
  | _ => none
abbrev Fo := Me → Ms → Option (Option Int × Ms)
noncomputable def onone : Fo := fun _ s => some (none, s)
noncomputable def osome (A : Fe) : Fo := fun r s => (A r s).ob fun x => match x.1 with
  | .int i => some (some i, x.2)
  | _ => none
noncomputable def mslice (A : Fe) (L U : Fo) : Fe := fun r s => (A r s).ob fun x => (L r x.2).ob fun l => (U r l.2).ob fun u => slW x.1 l.1 u.1 u.2
noncomputable def tO (G : Mg) (F : Fo) : TO := fun σ H Q => ∃ p s r o s', Sim G p s H ∧ EnvR G p H r σ ∧ F r s = some (o, s') ∧ ∀ p' H', Sim G p' s' H' → Fra p H p' H' → Q o H'
/-- a text in a list of texts -/
noncomputable def strsOf : List Mv → Option (List Str)
  | [] => some []
  | .str x :: ws => (strsOf ws).om fun r => x :: r
  | _ => none
noncomputable def inBo (x : Mv) (y : Mv) (s : Ms) : Option Bool := (items y s).ob fun ws => match x, strsOf ws with
  | .str z, some ys => some (ys.any fun y => strEq y z)
  | _, _ => (toD 24 s x).ob fun d => (toDL (toD 23 s) ws).om fun ds => ds.any fun z => PyData.eqv z d
noncomputable def inW (x y : Mv) (s : Ms) : Option (Mv × Ms) := (inBo x y s).om fun k => (.bl k, s)
noncomputable def ninW (x y : Mv) (s : Ms) : Option (Mv × Ms) := (inBo x y s).om fun k => (.bl (!k), s)
section
variable {X : Cx} {G : Mg} {e a b : Expr} {pos : Pos}
theorem ixr_imp {r r' : R2} (h : IxR X r) (i : ∀ x y H Q, r' x y H Q → r x y H Q) : IxR X r' := fun v sl pins s σ H x y u w Q I rx ry q => h v sl pins s σ H x y u w Q I rx ry (i x y H Q q)
theorem ixm (hK : X.K = G.K := by rfl) : IxR X (q2R G ixW) := ixr_imp ix_seq fun x y H Q ⟨p, s, a, b, w, s', S, da, db, q, k⟩ => by
  cases db <;> try (cases q; done)
  rename_i i _
  obtain ⟨ws, q1, q2⟩ := ob_some.mp (show (items a s).ob _ = some (w, s') from q)
  obtain ⟨w', q3, q4⟩ := omap_some.mp q2
  cases q4
  obtain ⟨ad, vs, rfl, h1, l⟩ := items_ok S da q1
  obtain ⟨v, h2, d⟩ := l.atI (atF_eq ws _ ▸ q3)
  rcases h1 with h1 | h1
  · exact .inl ⟨ad, vs, i, v, rfl, rfl, by rw [hK]; exact h1, h2, k p v H S Fra.refl d⟩
  · exact .inr (.inl ⟨ad, vs, i, v, rfl, rfl, by rw [hK]; exact h1, h2, k p v H S Fra.refl d⟩)
theorem pm_ix {A B : Fe} (ha : PE X a (tI G A)) (hb : PE X b (tI G B)) (hs : PlainIx b := by exact fun _ _ => rfl) (hK : X.K = G.K := by rfl) : PE X (.Subscript a b pos) (tI G (mop2 ixW A B)) := pe_imp (pe_ix (ixm hK) ha hb hs) fun _ _ _ h => t_op2 h
theorem po_imp {e : Option Expr} {t t' : TO} (h : PO X e t) (i : ∀ σ H Q, t' σ H Q → t σ H Q) : PO X e t' := ⟨fun pins s σ H Q I q => h.run pins s σ H Q I (i σ H Q q)⟩
theorem om_none : PO X none (tO G onone) := po_imp po_none fun σ H Q ⟨p, s, r, o, s', S, E, q, k⟩ => by cases q; exact k p H S Fra.refl
theorem om_some {A : Fe} (h : PE X e (tI G A)) : PO X (some e) (tO G (osome A)) := po_imp (po_some h) fun σ H Q ⟨p, s, r, o, s', S, E, q, k⟩ => by
  obtain ⟨⟨x, s1⟩, q1, q2⟩ := ob_some.mp q
  refine ⟨p, s, r, x, s1, S, E, q1, fun p1 v1 H1 S1 f1 d1 => ?_⟩
  cases d1 <;> try (cases q2; done)
  cases q2
  exact ⟨_, rfl, k p1 H1 S1 f1⟩
theorem cut_den {p : List Addr} {H : Hp} {ws : List Mv} {vs : List V} (l : DenL G p H ws vs) (lo hi : Option Int) : DenL G p H (cutM ws lo hi) (cutV vs lo hi) := by
  unfold cutM cutV
  rw [← l.length]
  exact (l.drop _).take _
theorem cut_whole {vs : List V} {lo hi : Option Int} (h : HT.sIx vs.length 0 lo = 0 ∧ HT.sIx vs.length vs.length hi = vs.length) : cutV vs lo hi = vs := by
  unfold cutV
  rw [h.1, h.2]
  simp
theorem pm_slice {A : Fe} {L U : Fo} {lo hi : Option Expr} {p2 : Pos} (he : PE X e (tI G A)) (hl : PO X lo (tO G L)) (hu : PO X hi (tO G U)) (hK : X.K = G.K := by rfl) : PE X (.Subscript e (.Slice lo hi none p2) pos) (tI G (mslice A L U)) :=
  pe_imp (pe_slice (SlR.or sl_list sl_tupA) he hl hu) fun σ H Q ⟨p, s, r, w, s', S, E, q, k⟩ => by
    obtain ⟨⟨x, s1⟩, q1, q2⟩ := ob_some.mp q
    obtain ⟨⟨l, s2⟩, q3, q4⟩ := ob_some.mp q2
    obtain ⟨⟨u, s3⟩, q5, q6⟩ := ob_some.mp q4
    refine ⟨p, s, r, x, s1, S, E, q1, fun p1 v1 H1 S1 f1 d1 => ⟨p1, s1, r, l, s2, S1, E.fra S f1, q3, fun p2 H2 S2 f2 => ⟨p2, s2, r, u, s3, S2, (E.fra S f1).fra S1 f2, q5, fun p3 H3 S3 f3 => ?_⟩⟩⟩
    have d3 := (d1.fra S1 f2).fra S2 f3
    have k3 := k.of ((f1.trans f2).trans f3)
    cases d3 with
    | tup h1 ll =>
      obtain ⟨z1, z2, z3⟩ := newT_ok S3 (cut_den ll l u) q6 k3
      refine .inr ⟨_, _, rfl, by rw [hK]; exact h1, fun e => ?_, fun _ => z2⟩
      rw [cut_whole e] at z3
      exact z3 _ h1
    | fl h1 ll =>
      obtain ⟨z1, z2⟩ := newL_ok S3 (cut_den ll l u) q6 k3
      exact .inl ⟨_, _, rfl, by rw [hK]; exact h1.sq, z2⟩
    | ref hn =>
      simp only [slW] at q6
      split at q6
      · rename_i ws e
        obtain ⟨ho, h1, vs, rfl, ll, _⟩ := S3.get hn e
        obtain ⟨z1, z2⟩ := newL_ok S3 (cut_den ll l u) q6 k3
        exact .inl ⟨_, _, rfl, SqL.of h1, z2⟩
      · cases q6
    | _ => cases q6
theorem strsOf_ok {p : List Addr} {H : Hp} : ∀ {ws : List Mv} {vs : List V} {ys : List Str}, DenL G p H ws vs → strsOf ws = some ys → vs = ys.map V.str ∧ ws = ys.map Mv.str
  | _, _, _, .nil, h => by cases h; exact ⟨rfl, rfl⟩
  | _, _, _, .cons (w := w) (ws := ws) d l, h => by
    cases d <;> try (cases h; done)
    rename_i x
    obtain ⟨r, h1, h2⟩ := omap_some.mp (show (strsOf ws).om _ = _ from h)
    cases h2
    obtain ⟨e1, e2⟩ := strsOf_ok l h1
    exact ⟨by rw [e1]; rfl, by rw [e2]; rfl⟩
/-- x in a tuple of data -/
noncomputable def rInDT (K : PySem.W.Frag) (neg : Bool) : R2 := fun x y H Q => ∃ d ds, Dp K H x d ∧ Dp K H y (.tuple ds) ∧ SeqAt.shaped d = true ∧ SeqAt.shaped (.tuple ds) = true ∧ Q (.bl (neg != ds.any fun z => PyData.eqv z d)) H
theorem op_inDT (hu : X.A.units + 65 < cLine) : OpR X (compareOp .In) (rInDT X.K false) := by
  intro pins s σ H x y v u Q I rx ry h
  obtain ⟨d, ds, hd, he, sd, se, q⟩ := h
  obtain ⟨as, r1⟩ := Dp.reads I d x v hd rx
  obtain ⟨bs, r2⟩ := Dp.reads I (.tuple ds) y u he ry
  exact SeqAt.in_tuple_reads r2 r1 (SeqAt.canLay_of_shaped se) (SeqAt.canLay_of_shaped sd) (room_in_shaped sd hu) ⟨.bl _, H, I, rfl, by simpa using q⟩
theorem op_ninDT (hu : X.A.units + 65 < cLine) : OpR X (compareOp .NotIn) (rInDT X.K true) := by
  intro pins s σ H x y v u Q I rx ry h
  obtain ⟨d, ds, hd, he, sd, se, q⟩ := h
  obtain ⟨as, r1⟩ := Dp.reads I d x v hd rx
  obtain ⟨bs, r2⟩ := Dp.reads I (.tuple ds) y u he ry
  exact SeqAt.notIn_tuple_reads r2 r1 (SeqAt.canLay_of_shaped se) (SeqAt.canLay_of_shaped sd) (room_in_shaped sd hu) ⟨.bl _, H, I, rfl, by simpa using q⟩
theorem in_core (hK : X.K = G.K) {p : List Addr} {s : Ms} {H : Hp} {x y : Mv} {vx vy : V} {c : Bool} {neg : Bool} {Q : VK} (S : Sim G p s H) (dx : Den G p H x vx) (dy : Den G p H y vy) (h : inBo x y s = some c) (q : Q (.bl (neg != c)) H) :
    rIn X.K neg vx vy H Q ∨ (∃ d ds, Dp X.K H vx d ∧ Dp X.K H vy (.list ds) ∧ SeqAt.shaped d = true ∧ SeqAt.shaped (.list ds) = true ∧ Q (.bl (neg != ds.any fun z => PyData.eqv z d)) H) ∨ rInDT X.K neg vx vy H Q := by
  obtain ⟨ws, h1, h2⟩ := ob_some.mp h
  obtain ⟨ad, vs, rfl, hs, l⟩ := items_ok S dy h1
  split at h2
  · rename_i z ys e
    cases h2
    obtain ⟨e1, e2⟩ := strsOf_ok l e
    cases dx
    refine .inl ⟨ad, vs, rfl, by rw [hK]; exact hs, rfl, by rw [e1]; simp [flatV], ?_⟩
    have e3 : inV (V.str z) vs = ys.any fun y => decide (y = z) := by
      rw [e1]
      unfold inV
      rw [List.any_map]
      have e4 : ((fun y => eqV y (V.str z)) ∘ V.str) = fun y => decide (y = z) := by
        funext y
        exact Bool.beq_eq_decide_eq y z
      rw [e4]
    rw [e3]
    simp only [strEq_eq] at q
    cases neg
    · simpa using q
    · simpa using q
  · obtain ⟨d, g1, g2⟩ := ob_some.mp h2
    obtain ⟨ds, g3, g4⟩ := omap_some.mp g2
    subst g4
    have o1 := toD_ok S 24 _ _ _ dx g1
    obtain ⟨b1, b2, b3⟩ := toDL_ok (toD_ok S 23) l g3
    have sh : ∀ c : List PyData → PyData, (c = PyData.list ∨ c = PyData.tuple) → SeqAt.shaped (c ds) = true := fun c hc => by
      unfold SeqAt.shaped
      rcases hc with rfl | rfl
      · simp only [PyData.canLay0, b2, PyData.depth, Bool.true_and]; exact decide_eq_true (by omega)
      · simp only [PyData.canLay0, b2, PyData.depth, Bool.true_and]; exact decide_eq_true (by omega)
    rcases hs with hs | hs
    · exact .inr (.inl ⟨d, ds, by rw [hK]; exact o1.dp, by rw [hK]; exact .lst hs b1, o1.shaped (by decide), sh _ (.inl rfl), q⟩)
    · exact .inr (.inr ⟨d, ds, by rw [hK]; exact o1.dp, by rw [hK]; exact .tup hs b1, o1.shaped (by decide), sh _ (.inr rfl), q⟩)
theorem om_in (hu : X.A.units + 65 < cLine) (hK : X.K = G.K := by rfl) : OpR X (compareOp .In) (q2R G inW) := opr_imp (OpR.or op_in_seq (OpR.or (op_inD hu) (op_inDT hu))) fun x y H Q ⟨p, s, a, b, w, s', S, da, db, q, k⟩ => by
  obtain ⟨c, q1, q2⟩ := omap_some.mp q
  cases q2
  rcases in_core hK (neg := false) S da db q1 (Q := Q) (by simpa using k p _ H S Fra.refl (.bl _)) with h | ⟨d, ds, h1, h2, h3, h4, h5⟩ | h
  · exact .inl h
  · exact .inr (.inl ⟨d, ds, h1, h2, h3, h4, by simpa using h5⟩)
  · exact .inr (.inr h)
theorem om_nin (hu : X.A.units + 65 < cLine) (hK : X.K = G.K := by rfl) : OpR X (compareOp .NotIn) (q2R G ninW) := opr_imp (OpR.or op_notIn_seq (OpR.or (op_notInD hu) (op_ninDT hu))) fun x y H Q ⟨p, s, a, b, w, s', S, da, db, q, k⟩ => by
  obtain ⟨c, q1, q2⟩ := omap_some.mp q
  cases q2
  rcases in_core hK (neg := true) S da db q1 (Q := Q) (by simpa using k p _ H S Fra.refl (.bl _)) with h | ⟨d, ds, h1, h2, h3, h4, h5⟩ | h
  · exact .inl h
  · exact .inr (.inl ⟨d, ds, h1, h2, h3, h4, by simpa using h5⟩)
  · exact .inr (.inr h)
/-! ### stars -/
noncomputable def mstar (A : Fe) (B : Fa) : Fa := fun r s => (A r s).ob fun x => (items x.1 x.2).ob fun ws => (B r x.2).ob fun y => some (ws ++ y.1, y.2)
end
/-! ### built-ins -/
noncomputable def lenB (w : Mv) (s : Ms) : Option Nat := match w with
  | .str x => cond (Nat.ble x.length 16777216) (some x.length) none
  | .tup ws => some ws.length
  | .fl ws => some ws.length
  | .ref n => match s.get n with
    | some (.lst ws) => some ws.length
    | _ => none
  | _ => none
noncomputable def lenW : Fn := fun ws s => match ws with
  | [w] => (lenB w s).om fun (n : Nat) => (Mv.int (n : Int), s)
  | _ => none
noncomputable def listW : Fn := fun ws s => match ws with
  | [w] => (items w s).ob fun xs => newL xs s
  | _ => none
noncomputable def tupleW : Fn := fun ws s => match ws with
  | [w] => (items w s).ob fun xs => newT xs s
  | _ => none
noncomputable def boolsOf : List Mv → Option (List Bool)
  | [] => some []
  | .bl x :: ws => (boolsOf ws).om fun r => x :: r
  | _ => none
noncomputable def lstOf (w : Mv) (s : Ms) : Option (List Mv) := match w with
  | .tup _ => none
  | _ => items w s
noncomputable def allW : Fn := fun ws s => match ws with
  | [w] => (lstOf w s).ob fun xs => (boolsOf xs).om fun bs => (.bl (bs.all id), s)
  | _ => none
noncomputable def anyW : Fn := fun ws s => match ws with
  | [w] => (lstOf w s).ob fun xs => (boolsOf xs).om fun bs => (.bl (bs.any id), s)
  | _ => none
noncomputable def absW : Fn := fun ws s => match ws with
  | [.int i] => some (.int (if i < 0 then -i else i), s)
  | _ => none
noncomputable def min2W : Fn := fun ws s => match ws with
  | [.int i, .int j] => some (.int (if j < i then j else i), s)
  | _ => none
noncomputable def intW : Fn := fun ws s => match ws with
  | [.int i] => some (.int i, s)
  | [.bl k] => some (.int (if k then 1 else 0), s)
  | _ => none
noncomputable def tyOf : Mv → Ms → Option Mty
  | .non, _ => some .none
  | .bl _, _ => some .bool
  | .int _, _ => some .int
  | .str _, _ => some .str
  | .tup _, _ => some .tuple
  | .fl _, _ => some .list
  | .ref n, s => match s.get n with
    | some (.lst _) => some .list
    | some (.dk _) => some .dict
    | _ => none
  | _, _ => none
noncomputable def isaT (t c : Mty) : Bool := decide (t = c) || (decide (t = .bool) && decide (c = .int))
noncomputable def tysOf : List Mv → Option (List Mty)
  | [] => some []
  | .ty t :: ws => (tysOf ws).om fun r => t :: r
  | _ => none
noncomputable def isiW : Fn := fun ws s => match ws with
  | [w, .ty c] => (tyOf w s).om fun t => (.bl (isaT t c), s)
  | _ => none
noncomputable def insS (x : Str) : List Str → List Str
  | [] => [x]
  | y :: r => cond (decide (y.cps.toList < x.cps.toList)) (y :: insS x r) (x :: y :: r)
noncomputable def sortS (l : List Str) : List Str := l.foldr insS []
noncomputable def sortedW : Fn := fun ws s => match ws with
  | [w] => (lstOf w s).ob fun xs => (strsOf xs).ob fun ys => cond (Nat.blt ys.length 64) (newL ((sortS ys).map .str) s) none
  | _ => none
noncomputable def minS (x : Str) (xs : List Str) : Str := xs.foldl (fun a y => if decide (y.cps.toList < a.cps.toList) = true then y else a) x
noncomputable def minW : Fn := fun ws s => match ws with
  | [w] => (lstOf w s).ob fun xs => match strsOf xs with
    | some (y :: ys) => some (.str (minS y ys), s)
    | _ => none
  | _ => none
section
variable {X : Cx} {G : Mg} {e a b : Expr} {pos : Pos}
theorem lstOf_ok {p : List Addr} {s : Ms} {H : Hp} {w : Mv} {v : V} {ws : List Mv} (S : Sim G p s H) (d : Den G p H w v) (h : lstOf w s = some ws) : ∃ a vs, v = .ref a ∧ SqL G.K H a vs ∧ DenL G p H ws vs := by
  cases d with
  | tup h1 l => cases h
  | fl h1 l => cases h; exact ⟨_, _, rfl, h1.sq, l⟩
  | ref hn =>
    simp only [lstOf, items] at h
    split at h
    · rename_i ws' e
      cases h
      obtain ⟨ho, h1, vs, rfl, l, _⟩ := S.get hn e
      exact ⟨_, _, rfl, SqL.of h1, l⟩
    · cases h
  | _ => cases h
theorem pm_star {A : Fe} {B : Fa} {es : List Expr} {q : Pos} (ha : PE X e (tI G A)) (hr : PA X es (tA G B)) (hs : starEach (.Starred e q :: es) X.env = (true, eval e X.env) :: starEach es X.env := by rfl) (hK : X.K = G.K := by rfl) : PA X (.Starred e q :: es) (tA G (mstar A B)) :=
  pa_imp (StX.pa_star ha hr hs) fun σ H Q ⟨p, s, r, ws, s', S, E, q, k⟩ => by
    obtain ⟨⟨x, s1⟩, q1, q2⟩ := ob_some.mp q
    obtain ⟨xs, q3, q4⟩ := ob_some.mp q2
    obtain ⟨⟨y, s2⟩, q5, q6⟩ := ob_some.mp q4
    cases q6
    refine ⟨p, s, r, x, s1, S, E, q1, fun p1 v1 H1 S1 f1 d1 => ?_⟩
    obtain ⟨ad, vs, rfl, hs, l⟩ := items_ok S1 d1 q3
    exact ⟨ad, vs, rfl, by rw [hK]; exact hs.symm, p1, s1, r, y, s2, S1, E.fra S f1, q5, fun p2 us H2 S2 f2 d2 => k p2 _ H2 S2 (f1.trans f2) ((l.fra S1 f2).append d2)⟩
theorem lenB_ok {p : List Addr} {s : Ms} {H : Hp} {w : Mv} {v : V} {n : Nat} (S : Sim G p s H) (d : Den G p H w v) (h : lenB w s = some n) : LenV G.K v H n := by
  cases d with
  | str x =>
    have q' : cond (Nat.ble x.length 16777216) (some x.length) none = some n := h
    cases e : Nat.ble x.length 16777216 with
    | false => rw [e] at q'; cases q'
    | true => rw [e] at q'; cases q'; exact ⟨ble_sz e, rfl⟩
  | tup h1 l => cases h; exact .inr ⟨_, h1, l.length⟩
  | fl h1 l => cases h; exact .inl ⟨_, h1.sq, l.length⟩
  | ref hn =>
    simp only [lenB] at h
    split at h
    · rename_i ws e
      cases h
      obtain ⟨ho, h1, vs, rfl, l, _⟩ := S.get hn e
      exact .inl ⟨_, SqL.of h1, l.length⟩
    · cases h
  | _ => cases h
theorem cm_len (hK : X.K = G.K := by rfl) : CallR X (.builtin "len") (rF G lenW) := cal_imp call_len fun xs H Q ⟨p, s, ws, w, s', S, l, q, k⟩ => by
  match ws, l, q with
  | [w0], .cons d .nil, q =>
    obtain ⟨n, g1, g2⟩ := omap_some.mp (show (lenB w0 s).om (fun (n : Nat) => (Mv.int (n : Int), s)) = some (w, s') from q)
    cases g2
    exact ⟨_, n, rfl, by rw [hK]; exact lenB_ok S d g1, k p _ H S Fra.refl (.int _)⟩
theorem cm_list (hK : X.K = G.K := by rfl) : CallR X (.type "list") (rF G listW) := cal_imp call_list_of fun xs H Q ⟨p, s, ws, w, s', S, l, q, k⟩ => by
  match ws, l, q with
  | [w0], .cons d .nil, q =>
    obtain ⟨ys, g1, g2⟩ := ob_some.mp (show (items w0 s).ob _ = some (w, s') from q)
    obtain ⟨ad, vs, rfl, hs, ll⟩ := items_ok S d g1
    exact ⟨ad, vs, rfl, by rw [hK]; exact hs, (newL_ok S ll g2 k).2⟩
theorem cm_tuple (hK : X.K = G.K := by rfl) : CallR X (.type "tuple") (rF G tupleW) := cal_imp call_tuple_of fun xs H Q ⟨p, s, ws, w, s', S, l, q, k⟩ => by
  match ws, l, q with
  | [w0], .cons d .nil, q =>
    obtain ⟨ys, g1, g2⟩ := ob_some.mp (show (items w0 s).ob _ = some (w, s') from q)
    obtain ⟨ad, vs, rfl, hs, ll⟩ := items_ok S d g1
    obtain ⟨z1, z2, z3⟩ := newT_ok S ll g2 k
    refine ⟨ad, vs, rfl, ?_⟩
    rcases hs with hs | hs
    · exact .inl ⟨by rw [hK]; exact hs, z2⟩
    · exact .inr ⟨by rw [hK]; exact hs, z3 _ hs⟩
theorem boolsOf_ok {p : List Addr} {H : Hp} : ∀ {ws : List Mv} {vs : List V} {ys : List Bool}, DenL G p H ws vs → boolsOf ws = some ys → vs = ys.map V.bl
  | _, _, _, .nil, h => by cases h; rfl
  | _, _, _, .cons (w := w) (ws := ws) d l, h => by
    cases d <;> try (cases h; done)
    obtain ⟨r, h1, h2⟩ := omap_some.mp (show (boolsOf ws).om _ = _ from h)
    cases h2
    rw [boolsOf_ok l h1]
    rfl
theorem cm_all (hc : X.calm = true := by rfl) (hK : X.K = G.K := by rfl) : CallR X (.builtin "all") (rF G allW) := cal_imp (cr_all hc) fun xs H Q ⟨p, s, ws, w, s', S, l, q, k⟩ => by
  match ws, l, q with
  | [w0], .cons d .nil, q =>
    obtain ⟨ys, g1, g2⟩ := ob_some.mp (show (lstOf w0 s).ob _ = some (w, s') from q)
    obtain ⟨bs, g3, g4⟩ := omap_some.mp g2
    cases g4
    obtain ⟨ad, vs, rfl, hs, ll⟩ := lstOf_ok S d g1
    refine ⟨ad, bs, rfl, ?_, k p _ H S Fra.refl (.bl _)⟩
    rw [hK, ← boolsOf_ok ll g3]
    exact hs
theorem cm_any (hc : X.calm = true := by rfl) (hK : X.K = G.K := by rfl) : CallR X (.builtin "any") (rF G anyW) := cal_imp (cr_any hc) fun xs H Q ⟨p, s, ws, w, s', S, l, q, k⟩ => by
  match ws, l, q with
  | [w0], .cons d .nil, q =>
    obtain ⟨ys, g1, g2⟩ := ob_some.mp (show (lstOf w0 s).ob _ = some (w, s') from q)
    obtain ⟨bs, g3, g4⟩ := omap_some.mp g2
    cases g4
    obtain ⟨ad, vs, rfl, hs, ll⟩ := lstOf_ok S d g1
    refine ⟨ad, bs, rfl, ?_, k p _ H S Fra.refl (.bl _)⟩
    rw [hK, ← boolsOf_ok ll g3]
    exact hs
theorem cm_abs : CallR X (.builtin "abs") (rF G absW) := cal_imp call_abs fun xs H Q ⟨p, s, ws, w, s', S, l, q, k⟩ => by
  match ws, l, q with
  | [.int i], .cons (.int _) .nil, q => cases q; exact ⟨i, rfl, k p _ H S Fra.refl (.int _)⟩
theorem cm_min2 (hc : X.calm = true := by rfl) : CallR X (.builtin "min") (rF G min2W) := cal_imp (call_min2 hc) fun xs H Q ⟨p, s, ws, w, s', S, l, q, k⟩ => by
  match ws, l, q with
  | [.int i, .int j], .cons (.int _) (.cons (.int _) .nil), q => cases q; exact ⟨i, j, rfl, k p _ H S Fra.refl (.int _)⟩
theorem cm_int : CallR X (.type "int") (rF G intW) := cal_imp call_int1 fun xs H Q ⟨p, s, ws, w, s', S, l, q, k⟩ => by
  match ws, l, q with
  | [.int i], .cons (.int _) .nil, q => cases q; exact .inl ⟨i, rfl, k p _ H S Fra.refl (.int _)⟩
  | [.bl b], .cons (.bl _) .nil, q => cases q; exact .inr ⟨b, rfl, k p _ H S Fra.refl (.int _)⟩
/-! isinstance -/
theorem tyOf_ok {p : List Addr} {s : Ms} {H : Hp} {w : Mv} {v : V} {t : Mty} (S : Sim G p s H) (d : Den G p H w v) (h : tyOf w s = some t) : TyX G.K H v (.type t.name) := by
  cases d with
  | non => cases h; exact .base .non
  | bl b => cases h; exact .base (.bl b)
  | int i => cases h; exact .base (.int i)
  | str x => cases h; exact .base (.str x)
  | tup h1 l =>
    cases h
    rcases h1 with h1 | ⟨o, its, n, h1, h2, _⟩
    · rcases h1 with h1 | ⟨o, h1⟩
      · exact .base (.tup h1)
      · exact .fTuple h1
    · exact .kTuple h1 h2
  | fl h1 l =>
    cases h
    rcases h1.sq with h1 | ⟨o, its, n, h1, h2, _⟩
    · rcases h1 with h1 | ⟨o, h1⟩
      · exact .base (.lst h1)
      · exact .base (.frz h1)
    · exact .kList h1 h2
  | ref hn =>
    simp only [tyOf] at h
    split at h
    · rename_i ws e
      cases h
      obtain ⟨ho, h1, vs, rfl, _⟩ := S.get hn e
      exact .base (.lst h1)
    · rename_i ws e
      cases h
      obtain ⟨ho, h1, vs, rfl, _⟩ := S.get hn e
      exact .base (.dK h1)
    · cases h
  | ty t => cases h
  | cls c => cases h
theorem isaT_ok (t c : Mty) : kitB t.name c.name = some (isaT t c) := by cases t <;> cases c <;> decide +kernel
theorem tysOf_ok {p : List Addr} {H : Hp} : ∀ {ws : List Mv} {vs : List V} {ts : List Mty}, DenL G p H ws vs → tysOf ws = some ts → Paired ClsV vs (ts.map fun t => Value.type t.name)
  | _, _, _, .nil, h => by cases h; exact .nil
  | _, _, _, .cons (w := w) (ws := ws) d l, h => by
    cases d <;> try (cases h; done)
    obtain ⟨r, h1, h2⟩ := omap_some.mp (show (tysOf ws).om _ = _ from h)
    cases h2
    exact .cons (.ty _) (tysOf_ok l h1)
theorem kitAny_ok {K : PySem.W.Frag} (t : Mty) : ∀ ts : List Mty, PySem.W.kitAny K (.type t.name) (ts.map fun t => Value.type t.name) = some (ts.any fun c => isaT t c)
  | [] => kitAny_nil
  | c :: ts => by
    refine kitAny_cons (b := isaT t c) (kit_ty (isaT_ok t c)) (fun h => ?_) (fun h => ?_)
    · rw [kitAny_ok t ts]; simp [h]
    · simp [h]
theorem cm_isi (hK : X.K = G.K := by rfl) : CallR X (.builtin "isinstance") (rF G isiW) := cal_imp call_isi fun xs H Q ⟨p, s, ws, w, s', S, l, q, k⟩ => by
  match ws, l, q with
  | [w0, .ty c], .cons d (.cons (.ty _) .nil), q =>
    obtain ⟨t, g1, g2⟩ := omap_some.mp (show (tyOf w0 s).om _ = some (w, s') from q)
    cases g2
    exact ⟨_, _, _, _, _, rfl, .ty _, by rw [hK]; exact tyOf_ok S d g1, kit_ty (isaT_ok t c), k p _ H S Fra.refl (.bl _)⟩
noncomputable def tTys (ts : List Mty) : TA := fun _ H Q => Q (ts.map fun t => V.ty t.name) H
theorem py_nil : PA X [] (tTys []) := pa_nil
theorem py_cons {es : List Expr} {t : Mty} {ts : List Mty} (h : PE X e (tC (.ty t.name))) (hr : PA X es (tTys ts)) (hs : starEach (e :: es) X.env = (false, eval e X.env) :: starEach es X.env := by rfl) : PA X (e :: es) (tTys (t :: ts)) := pa_imp (pa_cons h hr hs) fun σ H Q q => q
noncomputable def misiT (A : Fe) (ts : List Mty) : Fe := fun r s => (A r s).ob fun x => (tyOf x.1 x.2).om fun t => (.bl (ts.any fun c => isaT t c), x.2)
theorem paired_ty : ∀ ts : List Mty, Paired ClsV (ts.map fun t => V.ty t.name) (ts.map fun t => Value.type t.name)
  | [] => .nil
  | t :: ts => .cons (.ty _) (paired_ty ts)
theorem pm_isiT {A : Fe} {ts : List Mty} {es : List Expr} {k0 : Nat} {p1 p2 : Pos} (ha : PE X a (tI G A)) (hes : PA X es (tTys ts)) (hg : Gl X "isinstance") (hm : X.mg "isinstance" = none) (hl : ts.length ≤ 1000 := by decide) (hs : starEach [a, .Tuple es k0 p2] X.env = (false, eval a X.env) :: starEach [.Tuple es k0 p2] X.env := by rfl) (hK : X.K = G.K := by rfl) (hpl : (backTo pos (starEach [.Tuple es k0 p2] X.env)).any (·.1) = false := by rfl) :
    PE X (.Call (.Name "isinstance" p1) [a, .Tuple es k0 p2] [] pos) (tI G (misiT A ts)) :=
  pe_imp (pe_callB call_isiT hg hm (by decide +kernel) (pa_cons ha (pa_cons (pe_tup hes) pa_nil) hs) (he := hs) (hpl := hpl)) fun σ H Q ⟨p, s, r, w, s', S, E, q, k⟩ => by
    obtain ⟨⟨x, s1⟩, q1, q2⟩ := ob_some.mp q
    obtain ⟨t, q3, q4⟩ := omap_some.mp q2
    cases q4
    refine ⟨p, s, r, x, s1, S, E, q1, fun p1 v1 H1 S1 f1 d1 => ⟨by rw [List.length_map]; exact Nat.le_trans hl (by rw [sz_eq]; decide), fun T hT => ?_⟩⟩
    have f2 := Mi.fra_new (p := p1) (o := HO.tup (ts.map fun t => V.ty t.name)) hT
    have S2 := S1.fra_new (o := HO.tup (ts.map fun t => V.ty t.name)) hT
    exact ⟨_, T, _, _, _, _, rfl, upd_same, paired_ty ts, by rw [hK]; exact tyOf_ok S2 (d1.fra S1 f2) q3, kitAny_ok t ts, k _ _ _ S2 (f1.trans f2) (.bl _)⟩
/-! sorted texts, the least text -/
theorem ltCps_eq : ∀ x y : List Nat, ltCps x y = decide (x < y)
  | [], [] => by simp [ltCps]
  | [], _ :: _ => by simp [ltCps]
  | _ :: _, [] => by simp [ltCps]
  | a :: x, b :: y => by
    have ih := ltCps_eq x y
    unfold ltCps
    rw [ih]
    by_cases h1 : a < b
    · simp [h1, List.cons_lt_cons_iff]
    · by_cases h2 : a = b
      · simp [h2, List.cons_lt_cons_iff]
      · simp [h1, h2, List.cons_lt_cons_iff]
noncomputable def leS (a b : Str) : Prop := ¬ b.cps.toList < a.cps.toList
theorem leS_trans {a b c : Str} (h1 : leS a b) (h2 : leS b c) : leS a c := fun h => absurd h (List.not_lt.mpr (List.le_trans (List.not_lt.mp h1) (List.not_lt.mp h2)))
theorem leS_anti {a b : Str} (h1 : leS a b) (h2 : leS b a) : a = b := PySem.W.str_of_cps (List.le_antisymm (List.not_lt.mp h1) (List.not_lt.mp h2))
theorem leS_of {a b : Str} (h : b.cps.toList < a.cps.toList) : leS b a := fun z => absurd h (List.lt_asymm z)
theorem rising_pw : ∀ (x : Str) (l : List Str), risingS x l = true → (x :: l).Pairwise leS
  | x, [], _ => by simp
  | x, y :: l, h => by
    simp only [risingS, Bool.and_eq_true, Bool.not_eq_true'] at h
    have hxy : leS x y := fun z => by
      have := h.1
      rw [ltCps_eq, decide_eq_true z] at this
      cases this
    have ih := rising_pw y l h.2
    refine List.pairwise_cons.mpr ⟨fun z hz => ?_, ih⟩
    rcases List.mem_cons.mp hz with rfl | hz
    · exact hxy
    · exact leS_trans hxy (List.rel_of_pairwise_cons ih hz)
theorem sorted_pw : ∀ (l : List Str), sortedS l = true → l.Pairwise leS
  | [], _ => List.Pairwise.nil
  | x :: l, h => rising_pw x l h
theorem ins_perm (x : Str) : ∀ l : List Str, (insS x l).Perm (x :: l)
  | [] => List.Perm.refl _
  | y :: r => by
    unfold insS
    cases decide (y.cps.toList < x.cps.toList) with
    | true => exact ((ins_perm x r).cons y).trans (List.Perm.swap x y r)
    | false => exact List.Perm.refl _
theorem ins_pw (x : Str) : ∀ l : List Str, l.Pairwise leS → (insS x l).Pairwise leS
  | [], _ => by simp [insS]
  | y :: r, h => by
    unfold insS
    cases e : decide (y.cps.toList < x.cps.toList) with
    | true =>
      have hyx : leS y x := leS_of (of_decide_eq_true e)
      show (y :: insS x r).Pairwise leS
      refine List.pairwise_cons.mpr ⟨fun z hz => ?_, ins_pw x r (List.pairwise_cons.mp h).2⟩
      rcases List.mem_cons.mp ((ins_perm x r).mem_iff.mp hz) with rfl | hz
      · exact hyx
      · exact List.rel_of_pairwise_cons h hz
    | false =>
      have hxy : leS x y := of_decide_eq_false e
      show (x :: y :: r).Pairwise leS
      refine List.pairwise_cons.mpr ⟨fun z hz => ?_, h⟩
      rcases List.mem_cons.mp hz with rfl | hz
      · exact hxy
      · exact leS_trans hxy (List.rel_of_pairwise_cons h hz)
theorem sortS_perm : ∀ l : List Str, (sortS l).Perm l
  | [] => List.Perm.refl _
  | x :: l => (ins_perm x (sortS l)).trans ((sortS_perm l).cons x)
theorem sortS_pw : ∀ l : List Str, (sortS l).Pairwise leS
  | [] => List.Pairwise.nil
  | x :: l => ins_pw x _ (sortS_pw l)
theorem sortS_uniq {ys l : List Str} (hp : ys.Perm l) (hs : sortedS ys = true) : ys = sortS l :=
  List.Perm.eq_of_pairwise (fun a b _ _ h1 h2 => leS_anti h1 h2) (sorted_pw ys hs) (sortS_pw l) (hp.trans (sortS_perm l).symm)
theorem denL_strs {p : List Addr} {H : Hp} : ∀ ys : List Str, DenL G p H (ys.map .str) (ys.map .str)
  | [] => .nil
  | y :: ys => .cons (.str y) (denL_strs ys)
theorem cm_sorted (hK : X.K = G.K := by rfl) : CallR X (.builtin "sorted") (rF G sortedW) := cal_imp cr_sortedS fun xs H Q ⟨p, s, ws, w, s', S, l, q, k⟩ => by
  match ws, l, q with
  | [w0], .cons d .nil, q =>
    obtain ⟨ys, g1, g2⟩ := ob_some.mp (show (lstOf w0 s).ob _ = some (w, s') from q)
    obtain ⟨zs, g3, g4⟩ := ob_some.mp g2
    obtain ⟨ad, vs, rfl, hs, ll⟩ := lstOf_ok S d g1
    have e1 := (strsOf_ok ll g3).1
    cases e : Nat.blt zs.length 64 with
    | false => rw [e] at g4; cases g4
    | true =>
      rw [e] at g4
      refine ⟨ad, zs, rfl, by rw [hK, ← e1]; exact hs, Nat.blt_eq.mp e, fun us P hp hsrt hP => ?_⟩
      rw [sortS_uniq hp hsrt]
      exact (newL_ok S (denL_strs (sortS zs)) g4 k).2 P hP
theorem min_ok : ∀ (xs : List Str) (x : Str), PySem.W.minD (.str x) (xs.map PyData.str) = .str (minS x xs)
  | [], x => rfl
  | y :: xs, x => by
    have h1 : PySem.W.minD (.str x) ((y :: xs).map PyData.str) = PySem.W.minD (if PySem.W.dataLt (.str y) (.str x) then .str y else .str x) (xs.map PyData.str) := rfl
    have h2 : minS x (y :: xs) = minS (if decide (y.cps.toList < x.cps.toList) = true then y else x) xs := rfl
    rw [h1, h2, PySem.W.dataLt_str]
    cases e : decide (y.cps.toList < x.cps.toList) with
    | true => simpa using min_ok xs y
    | false => simpa using min_ok xs x
theorem alike_strs (xs : List Str) : PySem.W.AlikeAll (xs.map PyData.str) := by
  refine ⟨fun x hx y hy => ?_, fun x hx => ?_⟩
  · obtain ⟨a, _, rfl⟩ := List.mem_map.mp hx
    obtain ⟨b, _, rfl⟩ := List.mem_map.mp hy
    rfl
  · obtain ⟨a, _, rfl⟩ := List.mem_map.mp hx
    intro z; cases z
theorem depth_strs : ∀ xs : List Str, PyData.depthAll (xs.map PyData.str) ≤ 1
  | [] => by simp [PyData.depthAll]
  | x :: xs => by
    have := depth_strs xs
    simp only [List.map_cons, PyData.depthAll, PyData.depth]
    omega
theorem dp_strs {K : PySem.W.Frag} {H : Hp} : ∀ xs : List Str, DpAll K H (xs.map V.str) (xs.map PyData.str)
  | [] => .nil
  | x :: xs => .cons (.str x) (dp_strs xs)
theorem cm_min (hc : X.calm = true := by rfl) (hu : X.A.units + 64 < cLine) (hK : X.K = G.K := by rfl) : CallR X (.builtin "min") (rF G minW) := by
  intro pins s σ H xs us Q I rv h
  obtain ⟨p, s0, ws, w, s', S, l, q, k⟩ := h
  match ws, l, q with
  | [w0], .cons d .nil, q =>
    obtain ⟨ys, g1, g2⟩ := ob_some.mp (show (lstOf w0 s0).ob _ = some (w, s') from q)
    obtain ⟨ad, vs, rfl, hs, ll⟩ := lstOf_ok S d g1
    split at g2
    · rename_i y zs e
      cases g2
      have e1 := (strsOf_ok ll e).1
      subst e1
      obtain ⟨its, r1, hl, _⟩ := I.list (show SqL X.K H ad ((y :: zs).map V.str) by rw [hK]; exact hs)
      rw [Vals.ref1 rv]
      obtain ⟨as, hr⟩ := Dp.readsAll I ((y :: zs).map PyData.str) ((y :: zs).map V.str) its (dp_strs (y :: zs)) r1
      have hdep := depth_strs (y :: zs)
      refine PySem.W.min_list_data (I.ok.hd hc) hl.isList (x := .str y) (xs := zs.map PyData.str) (as := as) (by simpa using hr) (alike_strs (y :: zs)) (by have : PyData.depthAll (PyData.str y :: zs.map PyData.str) ≤ 1 := hdep; omega) fun i v h' tk bs hv hrd hk => ?_
      rw [min_ok] at hrd
      cases hrd with
      | str x t => exact ⟨.str (minS y zs), H, I.kept hk, ⟨t, rfl⟩, k p _ H S Fra.refl (.str _)⟩
    · cases g2
end

end
section
/-! ### instances: fields by number -/
noncomputable def getM (k : Nat) : List (Nat × Mv) → Option Mv
  | [] => none
  | (j, w) :: r => cond (Nat.beq j k) (some w) (getM k r)
noncomputable def putM (k : Nat) (w : Mv) : List (Nat × Mv) → List (Nat × Mv)
  | [] => [(k, w)]
  | (j, x) :: r => cond (Nat.beq j k) ((j, w) :: r) ((j, x) :: putM k w r)
noncomputable def fldW (c k : Nat) (a : Mv) (s : Ms) : Option (Mv × Ms) := match a with
  | .ref n => match s.get n with
    | some (.ins c' fs) => cond (Nat.beq c' c) ((getM k fs).om fun w => (w, s)) none
    | _ => none
  | _ => none
noncomputable def sfld (c k : Nat) (O A : Fe) : Fs := fun r s => (A r s).ob fun y => (O r y.2).ob fun x => match x.1 with
  | .ref n => match x.2.get n with
    | some (.ins c' fs) => cond (Nat.beq c' c && Nat.blt fs.length 1000) (some (.nx, r, x.2.put n (.ins c (putM k y.1 fs)))) none
    | _ => none
  | _ => none
/-- o.m(args): the receiver is of class c -/
noncomputable def mmeth (c : Nat) (f : Fn) (O : Fe) (A : Fa) : Fe := fun r s => (O r s).ob fun x => match x.1 with
  | .ref n => match x.2.get n with
    | some (.ins c' _) => cond (Nat.beq c' c) ((A r x.2).ob fun y => f (.ref n :: y.1) y.2) none
    | _ => none
  | _ => none
noncomputable def mmake (c : Nat) (f : Fn) (A : Fa) : Fe := fun r s => (A r s).ob fun y => (y.2.alloc (.ins c [])).ob fun q => (f (.ref q.1 :: y.1) q.2).ob fun z => match z.1 with
  | .non => some (.ref q.1, z.2)
  | _ => none
section
variable {X : Cx} {G : Mg} {e o : Expr} {pos : Pos}
/-- the fields of the mirror and of the object -/
noncomputable def FsR (G : Mg) (p : List Addr) (H : Hp) (fs : List (Nat × Mv)) (fs' : List (Str × V)) : Prop := fs'.map (·.1) = fs.map (fun q => G.nm q.1) ∧ DenL G p H (fs.map (·.2)) (fs'.map (·.2)) ∧ ∀ q ∈ fs, q.1 < G.nf
theorem FsR.cons {p : List Addr} {H : Hp} {q : Nat × Mv} {q' : Str × V} {fs : List (Nat × Mv)} {fs' : List (Str × V)} (h : FsR G p H (q :: fs) (q' :: fs')) : q'.1 = G.nm q.1 ∧ Den G p H q.2 q'.2 ∧ q.1 < G.nf ∧ FsR G p H fs fs' := by
  obtain ⟨h1, h2, h3⟩ := h
  simp only [List.map_cons, List.cons.injEq] at h1
  cases h2 with
  | cons d l => exact ⟨h1.1, d, h3 q (by simp), h1.2, l, fun z hz => h3 z (by simp [hz])⟩
theorem FsR.mk {p : List Addr} {H : Hp} {q : Nat × Mv} {q' : Str × V} {fs : List (Nat × Mv)} {fs' : List (Str × V)} (h1 : q'.1 = G.nm q.1) (d : Den G p H q.2 q'.2) (hb : q.1 < G.nf) (h : FsR G p H fs fs') : FsR G p H (q :: fs) (q' :: fs') := by
  obtain ⟨g1, g2, g3⟩ := h
  refine ⟨by simp [h1, g1], .cons d g2, fun z hz => ?_⟩
  rcases List.mem_cons.mp hz with rfl | hz
  · exact hb
  · exact g3 z hz
theorem FsR.get {p : List Addr} {H : Hp} {k : Nat} (hk : k < G.nf) : ∀ {fs : List (Nat × Mv)} {fs' : List (Str × V)} {w : Mv}, FsR G p H fs fs' → getM k fs = some w → ∃ v, fs'.lookup (G.nm k) = some v ∧ Den G p H w v
  | [], fs', w, h, e => by cases e
  | (j, x) :: fs, [], w, h, e => by simp [FsR] at h
  | (j, x) :: fs, (n, v) :: fs', w, h, e => by
    obtain ⟨h1, d, hb, h2⟩ := h.cons
    have h1' : n = G.nm j := h1
    unfold getM at e
    by_cases hjk : j = k
    · subst hjk
      rw [cond_t beq_t] at e
      cases e
      exact ⟨v, by rw [h1']; simp [List.lookup], d⟩
    · rw [cond_f (beq_f hjk)] at e
      obtain ⟨v', g1, g2⟩ := FsR.get hk h2 e
      refine ⟨v', ?_, g2⟩
      have hne : (G.nm k == n) = false := by
        rw [h1']
        exact beq_eq_false_iff_ne.mpr fun z => hjk (G.inj j k hb hk z.symm)
      simp only [List.lookup, hne]
      exact g1
theorem FsR.put {p : List Addr} {H : Hp} {k : Nat} {w : Mv} {v : V} (hk : k < G.nf) (d : Den G p H w v) : ∀ {fs : List (Nat × Mv)} {fs' : List (Str × V)}, FsR G p H fs fs' → FsR G p H (putM k w fs) (putF (G.nm k) v fs')
  | [], [], h => .mk rfl d hk ⟨rfl, .nil, fun z hz => by cases hz⟩
  | [], _ :: _, h => by simp [FsR] at h
  | _ :: _, [], h => by simp [FsR] at h
  | (j, x) :: fs, (n, u) :: fs', h => by
    obtain ⟨h1, d1, hb, h2⟩ := h.cons
    have h1' : n = G.nm j := h1
    unfold putM putF
    by_cases hjk : j = k
    · subst hjk
      rw [cond_t beq_t, if_pos h1']
      exact .mk h1 d hb h2
    · have hne : ¬ n = G.nm k := fun z => hjk (G.inj j k hb hk (h1'.symm.trans z))
      rw [cond_f (beq_f hjk), if_neg hne]
      exact .mk h1 d1 hb (FsR.put hk d h2)
theorem FsR.len {p : List Addr} {H : Hp} {fs : List (Nat × Mv)} {fs' : List (Str × V)} (h : FsR G p H fs fs') : fs'.length = fs.length := by
  have := congrArg List.length h.1
  simpa using this
theorem FsR.no {p : List Addr} {H : Hp} {m : Str} (hm : ∀ k, k < G.nf → G.nm k ≠ m) : ∀ {fs : List (Nat × Mv)} {fs' : List (Str × V)}, FsR G p H fs fs' → fs'.lookup m = none
  | _, [], _ => rfl
  | [], _ :: _, h => by simp [FsR] at h
  | (j, x) :: fs, (n, u) :: fs', h => by
    obtain ⟨h1, d1, hb, h2⟩ := h.cons
    have h1' : n = G.nm j := h1
    have hne : (m == n) = false := beq_eq_false_iff_ne.mpr fun z => hm j hb (h1'.symm.trans z.symm)
    simp only [List.lookup, hne]
    exact FsR.no hm h2
theorem pm_fld {A : Fe} {f : Str} {c k : Nat} (ha : PE X o (tI G A)) (cl : Cls X.K (G.cad c)) (na : NoAttr X.K (G.cad c) f) (hf : f = G.nm k) (hk : k < G.nf) (hb : attributeBase o f X.env (eval o X.env) = eval o X.env := by rfl) : PE X (.Attribute o f pos) (tI G (mop1 (fldW c k) A)) :=
  pe_imp (pe_fld ha hb) fun σ H Q h => by
    obtain ⟨p, s, r, w, s', S, E, q, kk⟩ := t_op1 h
    refine ⟨p, s, r, w, s', S, E, q, fun p1 v1 H1 S1 f1 d1 => ?_⟩
    obtain ⟨p2, s2, a2, w2, s3, S2, d2, q2, k2⟩ := kk p1 v1 H1 S1 f1 d1
    cases d2 <;> try (cases q2; done)
    rename_i n a hn
    simp only [fldW] at q2
    split at q2
    · rename_i c' fs e
      cases ec : Nat.beq c' c with
      | false => rw [ec] at q2; cases q2
      | true =>
        rw [ec] at q2
        have hc := Nat.eq_of_beq_eq_true ec
        subst hc
        obtain ⟨w', g1, g2⟩ := omap_some.mp (show (getM k fs).om _ = some (w2, s3) from q2)
        cases g2
        obtain ⟨ho, h1, dx, fs', rfl, hfs⟩ := S2.get hn e
        obtain ⟨v, h2, d⟩ := FsR.get (G := G) hk hfs g1
        exact ⟨a, _, dx, fs', v, rfl, h1, cl, na, by rw [hf]; exact h2, k2 p2 v H1 S2 Fra.refl d⟩
    · cases q2
theorem sm_fld {A O : Fe} {f : Str} {c k : Nat} {value : Expr} {pos' : Pos} (ha : PE X o (tI G O)) (hv : PE X value (tI G A)) (hs : swapsWith value (some (.Attribute o f pos')) pos.line X.env = pure false) (cl : Cls X.K (G.cad c)) (na : NoAttr X.K (G.cad c) f) (hf : f = G.nm k) (hk : k < G.nf) :
    PS X (.Assign [.Attribute o f pos'] value pos) (tS G (sfld c k O A)) := ps_imp (ps_fld ha hv hs) fun D σ H ⟨p, s, r, fl, r', s', S, E, q, kk⟩ => by
  obtain ⟨⟨y, s1⟩, q1, q2⟩ := ob_some.mp q
  obtain ⟨⟨x, s2⟩, q3, q4⟩ := ob_some.mp q2
  refine ⟨p, s, r, y, s1, S, E, q1, fun p1 v1 H1 S1 f1 d1 => ⟨p1, s1, r, x, s2, S1, E.fra S f1, q3, fun p2 v2 H2 S2 f2 d2 => ?_⟩⟩
  cases d2 <;> try (cases q4; done)
  rename_i n a hn
  simp only at q4
  split at q4
  · rename_i c' fs e
    cases ec : (Nat.beq c' c && Nat.blt fs.length 1000) with
    | false => rw [ec] at q4; cases q4
    | true =>
      rw [ec] at q4
      have q4' : some (Fl.nx, r, s2.put n (.ins c (putM k y fs))) = some (fl, r', s') := q4
      cases q4'
      have ec' := Bool.and_eq_true_iff.mp ec
      have hc := Nat.eq_of_beq_eq_true ec'.1
      subst hc
      obtain ⟨ho, h1, dx, fs', rfl, hfs⟩ := S2.get hn e
      have hfs' : FsR G p2 H2 fs fs' := hfs
      have hp := hfs'.put hk (d1.fra S1 f2)
      obtain ⟨S3, f3⟩ := S2.put hn e rfl (ho := .ins (G.cad c') dx (putF (G.nm k) v1 fs')) (o := .ins c' (putM k y fs)) (fun vs z => by cases z) ⟨dx, _, rfl, hp⟩
      refine ⟨a, _, dx, fs', rfl, h1, cl, na, by rw [hfs'.len]; exact Nat.blt_eq.mp ec'.2, ?_⟩
      rw [hf]
      exact kk p2 _ S3 ((f1.trans f2).trans f3) σ (((E.fra S f1).fra S1 f2).fra S2 f3)
  · cases q4
theorem mmeth_inv {c : Nat} {f : Fn} {O : Fe} {A : Fa} {σ : L2.St} {H : Hp} {Q : VK} (h : tI G (mmeth c f O A) σ H Q) : tI G O σ H fun x H1 => ∃ a dx fs, x = .ref a ∧ H1 a = some (.ins (G.cad c) dx fs) ∧ (∃ p fs0, FsR G p H1 fs0 fs) ∧ tA G A σ H1 fun vs H2 => rF G f (x :: vs) H2 Q := by
  obtain ⟨p, s, r, w, s', S, E, q, k⟩ := h
  obtain ⟨⟨x, s1⟩, q1, q2⟩ := ob_some.mp q
  refine ⟨p, s, r, x, s1, S, E, q1, fun p1 v1 H1 S1 f1 d1 => ?_⟩
  cases d1 <;> try (cases q2; done)
  rename_i n a hn
  simp only at q2
  split at q2
  · rename_i c' fs e
    cases ec : Nat.beq c' c with
    | false => rw [ec] at q2; cases q2
    | true =>
      rw [ec] at q2
      have hc := Nat.eq_of_beq_eq_true ec
      subst hc
      obtain ⟨⟨ys, s2⟩, q3, q4⟩ := ob_some.mp (show (A r s1).ob _ = some (w, s') from q2)
      obtain ⟨ho, h1, dx, fs', rfl, hfs⟩ := S1.get hn e
      exact ⟨a, dx, fs', rfl, h1, ⟨p1, fs, hfs⟩, p1, s1, r, ys, s2, S1, E.fra S f1, q3, fun p2 vs H2 S2 f2 l2 => ⟨p2, s2, .ref n :: ys, w, s', S2, .cons (.ref (f2.at hn)) l2, q4, k.of (f1.trans f2)⟩⟩
  · cases q2
variable {CX : CXT} {k : Nat} {fa : Addr} {fd : FuncData} {ps : List Str} {E : XK} {f : Fn} {A : Fa} {c : Nat}
theorem pm_meth {O : Fe} {m : Str} {es : List Expr} {apos : Pos} (h : PE X (.Call (.Attribute o m apos) (e :: es) [] pos) (tMeth (G.cad c) m (spM G f) [] E (tI G O) (tA G A))) (hno : ∀ j, j < G.nf → G.nm j ≠ m) : PE X (.Call (.Attribute o m apos) (e :: es) [] pos) (tI G (mmeth c f O A)) :=
  pe_imp h fun σ H Q q => by
    obtain ⟨p, s, r, w, s', S, E, q, kk⟩ := mmeth_inv q
    refine ⟨p, s, r, w, s', S, E, q, fun p1 v1 H1 S1 f1 d1 => ?_⟩
    obtain ⟨a, dx, fs, rfl, h1, ⟨p0, fs0, hfs⟩, h2⟩ := kk p1 v1 H1 S1 f1 d1
    refine ⟨a, dx, fs, rfl, h1, FsR.no hno hfs, ?_⟩
    obtain ⟨p2, s2, r2, ws, s3, S2, E2, q2, k2⟩ := h2
    exact ⟨p2, s2, r2, ws, s3, S2, E2, q2, fun p3 vs H3 S3 f3 l3 => by
      show rF G f (.ref a :: (vs ++ [])) H3 Q
      rw [List.append_nil]
      exact k2 p3 vs H3 S3 f3 l3⟩
theorem pm_meth0 {O : Fe} {m : Str} {apos : Pos} (h : PE X (.Call (.Attribute o m apos) [] [] pos) (tMeth (G.cad c) m (spM G f) [] E (tI G O) tNil)) (hno : ∀ j, j < G.nf → G.nm j ≠ m) : PE X (.Call (.Attribute o m apos) [] [] pos) (tI G (mmeth c f O mnil)) :=
  pe_imp h fun σ H Q q => by
    obtain ⟨p, s, r, w, s', S, E, q, kk⟩ := mmeth_inv q
    refine ⟨p, s, r, w, s', S, E, q, fun p1 v1 H1 S1 f1 d1 => ?_⟩
    obtain ⟨a, dx, fs, rfl, h1, ⟨p0, fs0, hfs⟩, h2⟩ := kk p1 v1 H1 S1 f1 d1
    refine ⟨a, dx, fs, rfl, h1, FsR.no hno hfs, ?_⟩
    obtain ⟨p2, s2, r2, ws, s3, S2, E2, q2, k2⟩ := h2
    cases q2
    exact k2 p2 [] H1 S2 Fra.refl .nil
theorem pm_make {x : Str} {p0 : Pos} {es : List Expr} (h : PE X (.Call (.Name x p0) (e :: es) [] pos) (tMake (G.cad c) (spM G f) [] E (tA G A))) : PE X (.Call (.Name x p0) (e :: es) [] pos) (tI G (mmake c f A)) :=
  pe_imp h fun σ H Q ⟨p, s, r, w, s', S, E, q, kk⟩ => by
    obtain ⟨⟨ys, s1⟩, q1, q2⟩ := ob_some.mp q
    obtain ⟨⟨n, s2⟩, q3, q4⟩ := ob_some.mp q2
    obtain ⟨⟨z, s3⟩, q5, q6⟩ := ob_some.mp q4
    refine ⟨p, s, r, ys, s1, S, E, q1, fun p1 vs H1 S1 f1 l1 x dx hx hdx hne => ?_⟩
    have hkeep : ∀ b u, H1 b = some u → upd (upd H1 dx (.own x)) x (.ins (G.cad c) dx []) b = some u := fun b u eb => by
      rw [upd_ne (ne_of_none eb hx), upd_ne (ne_of_none eb hdx)]; exact eb
    obtain ⟨S2, f2, d2⟩ := S1.new q3 hx (ho := .ins (G.cad c) dx []) ⟨dx, [], rfl, rfl, .nil, fun q hq => by cases hq⟩ upd_same hkeep
    have hfr : Den G (p1 ++ [x]) _ (.ref n) (.ref x) := d2
    refine ⟨p1 ++ [x], s2, .ref n :: ys, z, s3, S2, ?_, q5, fun p3 v3 H3 S3 f3 d3 => ?_⟩
    · show DenL G _ _ (.ref n :: ys) (.ref x :: (vs ++ []))
      rw [List.append_nil]
      exact .cons d2 (l1.fra S1 f2)
    · cases z <;> try (cases q6; done)
      cases q6
      cases d3
      exact ⟨rfl, kk p3 _ H3 S3 ((f1.trans f2).trans f3) (hfr.fra S2 f3)⟩
end

end
section
/-! ### methods of lists, stores by place -/
noncomputable def mbmL (f : Nat → List Mv → List Mv → Ms → Option (Mv × Ms)) (O : Fe) (A : Fa) : Fe := fun r s => (O r s).ob fun x => match x.1 with
  | .ref n => match x.2.get n with
    | some (.lst _) => (A r x.2).ob fun y => match y.2.get n with
      | some (.lst xs) => f n xs y.1 y.2
      | _ => none
    | _ => none
  | _ => none
noncomputable def appW (n : Nat) (xs ws : List Mv) (s : Ms) : Option (Mv × Ms) := match ws with
  | [w] => cond (Nat.blt xs.length 16777216) (some (.non, s.put n (.lst (xs ++ [w])))) none
  | _ => none
noncomputable def popW (n : Nat) (xs ws : List Mv) (s : Ms) : Option (Mv × Ms) := match ws with
  | [.int i] => (ixN xs.length i).ob fun j => (xs[j]?).om fun w => (w, s.put n (.lst (xs.eraseIdx j)))
  | _ => none
noncomputable def ssub (O I A : Fe) : Fs := fun r s => (A r s).ob fun v => (O r v.2).ob fun o => (I r o.2).ob fun i => match o.1, i.1 with
  | .ref n, .int k => match i.2.get n with
    | some (.lst xs) => (ixN xs.length k).om fun j => (.nx, r, i.2.put n (.lst (xs.set j v.1)))
    | _ => none
  | _, _ => none
noncomputable def saug (i : Nat) (f : Mv → Mv → Ms → Option (Mv × Ms)) (A : Fe) : Fs := fun r s => match lget r i with
  | some (some x) => (A r s).ob fun y => (f x y.1 y.2).om fun z => (.nx, lset r i (some z.1), z.2)
  | _ => none
section
variable {X : Cx} {G : Mg} {e o : Expr} {pos : Pos}
/-- what the mirror's list method must be, over the abstract heap -/
noncomputable def LmR (G : Mg) (f : Nat → List Mv → List Mv → Ms → Option (Mv × Ms)) (r : V → List V → Hp → VK → Prop) : Prop := ∀ p s H n a xs vs ws us w s' Q, Sim G p s H → p[n]? = some a → s.get n = some (.lst xs) → H a = some (.lst vs) → DenL G p H xs vs → vs.length ≤ sizeLine → DenL G p H ws us → f n xs ws s = some (w, s') → After G p H w s' Q → r (.ref a) us H Q
theorem pm_bmL {f : Nat → List Mv → List Mv → Ms → Option (Mv × Ms)} {r : V → List V → Hp → VK → Prop} {O : Fe} {A : Fa} {name : Str} {es : List Expr} {apos : Pos} (hf : LmR G f r)
    (h : PE X (.Call (.Attribute o name apos) (e :: es) [] pos) (tBM X.K "list" r (tI G O) (tA G A))) : PE X (.Call (.Attribute o name apos) (e :: es) [] pos) (tI G (mbmL f O A)) := pe_imp h fun σ H Q ⟨p, s, rr, w, s', S, E, q, k⟩ => by
  obtain ⟨⟨x, s1⟩, q1, q2⟩ := ob_some.mp q
  refine ⟨p, s, rr, x, s1, S, E, q1, fun p1 v1 H1 S1 f1 d1 => ?_⟩
  cases d1 <;> try (cases q2; done)
  rename_i n a hn
  simp only at q2
  split at q2
  · rename_i zs e
    obtain ⟨ho, h1, vs, rfl, _, _⟩ := S1.get hn e
    obtain ⟨⟨ys, s2⟩, q3, q4⟩ := ob_some.mp q2
    refine ⟨.inl ⟨rfl, vs, SqL.of h1⟩, p1, s1, rr, ys, s2, S1, E.fra S f1, q3, fun p2 us H2 S2 f2 l2 => ?_⟩
    simp only at q4
    split at q4
    · rename_i xs e2
      obtain ⟨ho, h2, vs2, rfl, ll, hz⟩ := S2.get (f2.at hn) e2
      exact hf p2 s2 H2 n a xs vs2 ys us w s' Q S2 (f2.at hn) e2 h2 ll hz l2 q4 (k.of (f1.trans f2))
    · cases q4
  · cases q2
theorem lm_app : LmR G appW rAppend := by
  intro p s H n a xs vs ws us w s' Q S hn en ha l hz lw q k
  match ws, lw, q with
  | [w0], .cons d .nil, q =>
    have q' : cond (Nat.blt xs.length 16777216) (some (Mv.non, s.put n (.lst (xs ++ [w0])))) none = some (w, s') := q
    cases e : Nat.blt xs.length 16777216 with
    | false => rw [e] at q'; cases q'
    | true =>
      rw [e] at q'; cases q'
      have hlt : vs.length < sizeLine := by rw [← l.length, sz_eq]; exact Nat.blt_eq.mp e
      obtain ⟨S2, f2⟩ := S.put hn en rfl (ho := .lst (vs ++ [_])) (o := .lst (xs ++ [w0])) (fun _ z => by cases z) ⟨_, rfl, l.append (.cons d .nil), by rw [List.length_append]; exact hlt⟩
      exact ⟨a, vs, _, rfl, rfl, ha, hlt, k p _ _ S2 f2 .non⟩
theorem lm_pop : LmR G popW rPopAt := by
  intro p s H n a xs vs ws us w s' Q S hn en ha l hz lw q k
  match ws, lw, q with
  | [.int i], .cons (.int _) .nil, q =>
    obtain ⟨j, g1, g2⟩ := ob_some.mp (show (ixN xs.length i).ob _ = some (w, s') from q)
    obtain ⟨x, g3, g4⟩ := omap_some.mp g2
    cases g4
    obtain ⟨v, g5, d⟩ := l.get g3
    rw [l.length] at g1
    obtain ⟨h1, h2, h3, h4⟩ := ixN_seq g1
    have hl := line63
    obtain ⟨S2, f2⟩ := S.put hn en rfl (ho := .lst (vs.eraseIdx j)) (o := .lst (xs.eraseIdx j)) (fun _ z => by cases z) ⟨_, rfl, l.erase j, Nat.le_trans (List.length_eraseIdx_le ..) hz⟩
    exact ⟨a, vs, i, j, v, rfl, rfl, ha, by omega, by omega, h1, g5, k p _ _ S2 f2 (d.fra S f2)⟩
theorem sm_sub {O I A : Fe} {i v : Expr} {tp : Pos} (h : PS X (.Assign [.Subscript o i tp] v pos) (tAsg (tI G A) (gSub (tI G O) (tI G I) rSetL))) : PS X (.Assign [.Subscript o i tp] v pos) (tS G (ssub O I A)) := ps_imp h fun D σ H ⟨p, s, r, fl, r', s', S, E, q, k⟩ => by
  obtain ⟨⟨y, s1⟩, q1, q2⟩ := ob_some.mp q
  obtain ⟨⟨x, s2⟩, q3, q4⟩ := ob_some.mp q2
  obtain ⟨⟨z, s3⟩, q5, q6⟩ := ob_some.mp q4
  refine ⟨p, s, r, y, s1, S, E, q1, fun p1 v1 H1 S1 f1 d1 => ⟨p1, s1, r, x, s2, S1, E.fra S f1, q3, fun p2 v2 H2 S2 f2 d2 => ⟨p2, s2, r, z, s3, S2, (E.fra S f1).fra S1 f2, q5, fun p3 v3 H3 S3 f3 d3 => ?_⟩⟩⟩
  simp only at q6
  split at q6
  · rename_i n k0
    cases d3
    have d2' := d2.fra S2 f3
    cases d2'
    rename_i a hn
    split at q6
    · rename_i xs e
      obtain ⟨j, g1, g2⟩ := omap_some.mp q6
      cases g2
      obtain ⟨ho, h1, vs, rfl, l, hz⟩ := S3.get hn e
      rw [l.length] at g1
      obtain ⟨S4, f4⟩ := S3.put hn e rfl (ho := .lst (vs.set j v1)) (o := .lst (xs.set j y)) (fun _ z => by cases z) ⟨_, rfl, DenL.set ((d1.fra S1 f2).fra S2 f3) j l, by rw [List.length_set]; exact hz⟩
      refine ⟨a, vs, k0, j, rfl, rfl, h1, g1, ?_⟩
      exact k p3 _ S4 (((f1.trans f2).trans f3).trans f4) σ ((((E.fra S f1).fra S1 f2).fra S2 f3).fra S3 f4)
    · cases q6
  · cases q6
theorem sm_aug {i : Nat} {tg : Expr} {op : Operator} {f : Mv → Mv → Ms → Option (Mv × Ms)} {A : Fe} (h : PS X (.AugAssign tg op e pos) (tAug i (tI G A) (q2R G f))) : PS X (.AugAssign tg op e pos) (tS G (saug i f A)) := ps_imp h fun D σ H ⟨p, s, r, fl, r', s', S, E, q, k⟩ => by
  unfold saug at q
  split at q
  · rename_i x ex
    rw [lget_eq] at ex
    obtain ⟨⟨y, s1⟩, q1, q2⟩ := ob_some.mp q
    obtain ⟨⟨z, s2⟩, q3, q4⟩ := omap_some.mp q2
    cases q4
    obtain ⟨v, hv, d⟩ := E.get i x ex
    refine ⟨v, hv, p, s, r, y, s1, S, E, q1, fun p1 v1 H1 S1 f1 d1 => ⟨p1, s1, x, y, z, s2, S1, d.fra S f1, d1, q3, fun p2 v2 H2 S2 f2 d2 => ?_⟩⟩
    exact k p2 H2 S2 (f1.trans f2) _ (((E.fra S f1).fra S1 f2).set d2)
  · cases q
theorem pip_add0 : PIp X .Add (q2R G (fun a b s => match a, b with
  | .int i, .int j => some (.int (i + j), s)
  | _, _ => none)) := by
  intro pins s σ H x y v u Q I rx ry h
  obtain ⟨p, s0, a, b, w, s', S, da, db, q, k⟩ := h
  cases da <;> cases db <;> try (cases q; done)
  cases q
  exact ip_add pins s σ H _ _ v u Q I rx ry ⟨_, _, rfl, rfl, k p _ H S Fra.refl (.int _)⟩
/-! ### zip -/
noncomputable def zipM : List Mv → List Mv → List Mv
  | a :: x, b :: y => .tup [a, b] :: zipM x y
  | _, _ => []
end

end
section
theorem new_tup {G : Mg} {p : List Addr} {s : Ms} {H : Hp} {T : Addr} {ws : List Mv} {vs : List V} (S : Sim G p s H) (hT : H T = none) (l : DenL G p H ws vs) : Sim G p s (upd H T (.tup vs)) ∧ Fra p H p (upd H T (.tup vs)) ∧ Den G p (upd H T (.tup vs)) (.tup ws) (.ref T) := by
  have f := Mi.fra_new (p := p) (o := HO.tup vs) hT
  exact ⟨S.fra_new hT, f, .tup (SqT.of upd_same) (l.fra S f)⟩
theorem zipM_get : ∀ (xs ys : List Mv) (i : Nat), (zipM xs ys)[i]? = match xs[i]?, ys[i]? with
    | some x, some y => some (.tup [x, y])
    | _, _ => none
  | [], ys, i => by simp [zipM]
  | x :: xs, [], i => by simp [zipM]
  | x :: xs, y :: ys, 0 => by simp [zipM]
  | x :: xs, y :: ys, i + 1 => by simpa [zipM] using zipM_get xs ys i
section
variable {X : Cx} {G : Mg} {e : Expr} {pos : Pos}
theorem itr_zl {p0 : List Addr} {H0 : Hp} {n m : Nat} {a b : Addr} (h : p0[n]? = some a) (h' : p0[m]? = some b) : ItR G (Itz X.K a b) (.zl n m) p0 H0 := by
  intro p s H i S st fz
  have ha := st.ix n a h
  have hb := st.ix m b h'
  have key : ∀ o, It0.at (.zl n m) i s = some o → ∃ xs ys vs us, s.get n = some (.lst xs) ∧ s.get m = some (.lst ys) ∧ H a = some (.lst vs) ∧ H b = some (.lst us) ∧ DenL G p H xs vs ∧ DenL G p H ys us ∧ o = match xs[i]?, ys[i]? with
      | some x, some y => some (.tup [x, y])
      | _, _ => none := by
    intro o q
    simp only [It0.at, lget_eq] at q
    split at q
    · rename_i xs ys e1 e2
      obtain ⟨ho, h1, vs, rfl, l1, _⟩ := S.get ha e1
      obtain ⟨ho, h2, us, rfl, l2, _⟩ := S.get hb e2
      exact ⟨xs, ys, vs, us, e1, e2, h1, h2, l1, l2, (Option.some.inj q).symm⟩
    · cases q
  constructor
  · intro q
    obtain ⟨xs, ys, vs, us, e1, e2, h1, h2, l1, l2, eo⟩ := key _ q
    refine ⟨vs, us, SqL.of h1, SqL.of h2, ?_⟩
    cases ex : xs[i]? with
    | none => exact .inl (by rw [← l1.length]; exact List.getElem?_eq_none_iff.mp ex)
    | some x =>
      cases ey : ys[i]? with
      | none => exact .inr (by rw [← l2.length]; exact List.getElem?_eq_none_iff.mp ey)
      | some y => rw [ex, ey] at eo; cases eo
  · intro w q
    obtain ⟨xs, ys, vs, us, e1, e2, h1, h2, l1, l2, eo⟩ := key _ q
    cases ex : xs[i]? with
    | none => rw [ex] at eo; cases eo
    | some x =>
      cases ey : ys[i]? with
      | none => rw [ex, ey] at eo; cases eo
      | some y =>
        rw [ex, ey] at eo
        cases eo
        obtain ⟨v, hv, dv⟩ := l1.get ex
        obtain ⟨u, hu, du⟩ := l2.get ey
        refine ⟨⟨vs, us, v, u, SqL.of h1, SqL.of h2, hv, hu⟩, fun v' H' yl => ?_⟩
        obtain ⟨T, x', y', rfl, hT, rfl, g1, g2⟩ := yl
        have e3 := g1 vs (SqL.of h1)
        have e4 := g2 us (SqL.of h2)
        rw [hv] at e3; cases e3
        rw [hu] at e4; cases e4
        exact new_tup S hT (.cons dv (.cons du .nil))
theorem itr_zt {p0 : List Addr} {H0 : Hp} {xs ys : List Mv} {a b : Addr} {vs us : List V} (h : SqT G.K H0 a vs) (h' : SqT G.K H0 b us) (l : DenL G p0 H0 xs vs) (l' : DenL G p0 H0 ys us) (hK : X.K = G.K) : ItR G (RZ.ItzT X.K a b) (.seq (zipM xs ys)) p0 H0 := by
  intro p s H i S st fz
  have h1 : SqT X.K H a vs := by rw [hK]; exact Stays.tup (G := G) st h
  have h2 : SqT X.K H b us := by rw [hK]; exact Stays.tup (G := G) st h'
  have l1 := l.stay st
  have l2 := l'.stay st
  constructor
  · intro q
    have q' : (zipM xs ys)[i]? = none := by simpa [It0.at, lget_eq] using q
    rw [zipM_get] at q'
    refine ⟨vs, us, h1, h2, ?_⟩
    cases ex : xs[i]? with
    | none => exact .inl (by rw [← l1.length]; exact List.getElem?_eq_none_iff.mp ex)
    | some x =>
      cases ey : ys[i]? with
      | none => exact .inr (by rw [← l2.length]; exact List.getElem?_eq_none_iff.mp ey)
      | some y => rw [ex, ey] at q'; cases q'
  · intro w q
    have q' : (zipM xs ys)[i]? = some w := by simpa [It0.at, lget_eq] using q
    rw [zipM_get] at q'
    cases ex : xs[i]? with
    | none => rw [ex] at q'; cases q'
    | some x =>
      cases ey : ys[i]? with
      | none => rw [ex, ey] at q'; cases q'
      | some y =>
        rw [ex, ey] at q'
        cases q'
        obtain ⟨v, hv, dv⟩ := l1.get ex
        obtain ⟨u, hu, du⟩ := l2.get ey
        refine ⟨⟨vs, us, v, u, h1, h2, hv, hu⟩, fun v' H' yl => ?_⟩
        obtain ⟨T, x', y', rfl, hT, rfl, g1, g2⟩ := yl
        have e3 := g1 vs h1
        have e4 := g2 us h2
        rw [hv] at e3; cases e3
        rw [hu] at e4; cases e4
        exact new_tup S hT (.cons dv (.cons du .nil))
noncomputable def miZ (A : Fa) : Fi := fun r s => (A r s).ob fun x => match x.1 with
  | [.ref n, .ref m] => match x.2.get n, x.2.get m with
    | some (.lst _), some (.lst _) => some (.zl n m, x.2)
    | _, _ => none
  | [.tup xs, .tup ys] => some (.seq (zipM xs ys), x.2)
  | _ => none
theorem im_zip {e2 : Expr} {A : Fa} {q tpos : Pos} {elts : List Expr} {kk : Nat} (hg : Gl X "zip") (hm : X.mg "zip" = none) (ha : PA X [e, e2] (tA G A))
    (hs : starEach [e, e2] X.env = (false, eval e X.env) :: starEach [e2] X.env := by rfl) (hpl : (backTo pos (starEach [e2] X.env)).any (·.1) = false := by rfl) (hK : X.K = G.K := by rfl) :
    PI X (.Tuple elts kk tpos) (.Call (.Name "zip" q) [e, e2] [] pos) (tIt G (miZ A)) := pi_imp (RZ.pi_zipA hg hm ha hs hpl) fun σ H R ⟨p, s, r, it, s', S, E, q, k⟩ => by
  obtain ⟨⟨x, s1⟩, q1, q2⟩ := ob_some.mp q
  refine ⟨p, s, r, x, s1, S, E, q1, fun p1 vs H1 S1 f1 l1 => ?_⟩
  simp only at q2
  split at q2
  · rename_i n m
    match l1 with
    | .cons (.ref hn) (.cons (.ref hm') .nil) =>
      split at q2
      · rename_i xs ys e1 e2
        cases q2
        obtain ⟨ho, h1, vs, rfl, _, _⟩ := S1.get hn e1
        obtain ⟨ho, h2, us, rfl, _, _⟩ := S1.get hm' e2
        exact ⟨_, _, vs, us, rfl, .inl ⟨SqL.of h1, SqL.of h2, k p1 H1 _ S1 f1 (itr_zl hn hm')⟩⟩
      · cases q2
  · rename_i xs ys
    cases q2
    match l1 with
    | .cons (.tup h1 l2) (.cons (.tup h2 l3) .nil) => exact ⟨_, _, _, _, rfl, .inr ⟨by rw [hK]; exact h1, by rw [hK]; exact h2, k p1 H1 _ S1 f1 (itr_zt h1 h2 l2 l3 hK)⟩⟩
  · cases q2
/-! ### enumerate of a tuple -/
theorem newT_meets (t : Addr) (its : Array Value) (o : Obj) (hc : o.cls = .type "tuple") (n : Nat) (hd : o.data = .seq its n) :
    Meets (Builtin.«enumerate.__new__» ⟨[.type "enumerate", .ref t], []⟩) (fun _ R s => s.heap.get? t = some o ∧
      R (.ok (.ret (.ref (s.heap.push { cls := .type "tuple_iterator", data := .fields #[.ref t, .int 0 0] }).objs.size)))
        { s with heap := (s.heap.push { cls := .type "tuple_iterator", data := .fields #[.ref t, .int 0 0] }).push { cls := .type "enumerate", data := .fields #[.none, .bool false, .ref s.heap.objs.size, rawInt 0, .none, .none] } }) := by
  obtain ⟨c, dc, dt, sl⟩ := o
  simp only at hc hd
  subst hc hd
  refine .of_wp fun prog w A R s h => ?_
  obtain ⟨hp, g, d, tk, os⟩ := s
  obtain ⟨hl, h⟩ := h
  have hsub := sub_enumerate
  have hT : Heap.IsTuple (Shared.heap ⟨hp, g, d, tk, os⟩) t its := ⟨_, hl, rfl, n, rfl⟩
  wp_walk using AutoSeq1.wpAny_loadPart' hl
  refine wpAny_stack_any fun st => wpAny_pure ?_
  split
  · rename_i c _ _ _ _ _
    cases (c == Value.type "enumerate") <;> (wp_walk using AutoSeq1.wpAny_loadPart' hl, wpAny_pyIter_tuple hT; exact ⟨_, rfl, h⟩)
  · wp_walk using AutoSeq1.wpAny_loadPart' hl, wpAny_pyIter_tuple hT
    exact ⟨_, rfl, h⟩
theorem call_enumT {prog : Program} {w : World} {A : Around} {E : Value → Shared → Prop} {s : Shared} {t : Addr} {its : Array Value} {Q : Value → Shared → Prop} (hT : s.heap.IsTuple t its)
    (h : ∀ h', IsEnum h' (s.heap.objs.size + 1) s.heap.objs.size 0 .none → h'.IsTupleIter s.heap.objs.size t 0 → (∀ b o, s.heap.get? b = some o → h'.get? b = some o) → Q (.ref (s.heap.objs.size + 1)) { s with heap := h' }) :
    wpAny (model prog w) A (call (.type "enumerate") [.ref t]) Q E s := by
  obtain ⟨o, ho, hc, n, hd⟩ := hT
  refine callType_new F.called_enumerate (by decide) (F.typeCall_enumerate_1 _) (F.newCall_enumerate_1 _) (fun obj => F.args_object_init_2 obj _) F.entry_enumerate_new (newT_meets t its o hc n hd) ⟨ho, ?_⟩
  generalize hi : ({ cls := .type "tuple_iterator", data := .fields #[.ref t, .int 0 0] } : Obj) = oi
  have hz : (s.heap.push oi).objs.size = s.heap.objs.size + 1 := Heap.size_push ..
  show _ ∧ _
  rw [hz]
  have he : IsEnum ((s.heap.push oi).push { cls := .type "enumerate", data := .fields #[.none, .bool false, .ref s.heap.objs.size, rawInt 0, .none, .none] }) (s.heap.objs.size + 1) s.heap.objs.size 0 .none := by
    have q := Heap.get?_push_size (s.heap.push oi) (o := { cls := .type "enumerate", data := .fields #[.none, .bool false, .ref s.heap.objs.size, rawInt 0, .none, .none] }) rfl
    rw [hz] at q
    exact q
  refine ⟨⟨_, he, rfl⟩, h _ he ⟨oi, Heap.get?_push_of_some _ (Heap.get?_push_size _ (by rw [← hi]; rfl)), by rw [← hi], by rw [← hi]; rfl⟩ fun b o x => Heap.get?_push_of_some _ (Heap.get?_push_of_some _ x)⟩
theorem enumT_end {prog : Program} {w : World} {A : Around} {E : Value → Shared → Prop} {s : Shared} {e it t : Addr} {its : Array Value} {i : Nat} {k : Int} {old : Value} {Q : Option Value → Shared → Prop} (hh : A.handled = none) (he : IsEnum s.heap e it k old) (hit : s.heap.IsTupleIter it t i) (p : s.heap.IsTuple t its) (hle : its.size ≤ i)
    (hQ : ∀ h', Heap.ExtBut it s.heap h' → Q none { s with heap := h' }) : wpAny (model prog w) A (pyNext (.ref e)) Q E s := by
  have ty : s.TypeIs (.ref e) "enumerate" := ⟨_, he, rfl⟩
  unfold pyNext
  refine wpAny_bind (wpAny_attempt (wpAny_callSpecial?_slot (name := Str.ofString "__next__") ty F.slot_enumerate_next (wpAny_call_entry F.slot_enumerate_next ty F.entry_enumerate_next ?_ (F.args_enumerate_next_1 _))))
  show wpAny _ _ (field (.ref e) 2 >>= _) _ _ _
  refine wpAny_bind (wpAny_field he rfl (x := .ref it) rfl (wpAny_bind (wpAny_nextOf_tuple_end (A := A.in1) hh hit p (Array.getElem?_eq_none hle) fun h' x he' hx' => ?_)))
  obtain ⟨o, ho, hc⟩ := hx'
  exact wpAny_bind (wpAny_isInstance (T := "StopIteration") (b := true) ⟨o, ho, hc⟩ isSubtype_stop (wpAny_pure (hQ _ he')))
/-- the tuple's items, each in a new pair with its number -/
noncomputable def IteT (K : PySem.W.Frag) (a : Addr) : It :=
  ⟨fun i H => ∃ (xs : List V) (x : V), SqT K H a xs ∧ xs[i]? = some x, fun i H v H' => ∃ T x, v = .ref T ∧ H T = none ∧ H' = upd H T (.tup [.int (i : Nat), x]) ∧ ∀ xs, SqT K H a xs → xs[i]? = some x, fun i H => ∃ xs : List V, SqT K H a xs ∧ xs.length ≤ i⟩
theorem tup_inj {pins : List (Addr × Obj)} {σ : L2.St} {H : Hp} {s : Shared} {a : Addr} {xs ys : List V} (I : Inv X pins σ H s) (h1 : SqT X.K H a xs) (h2 : SqT X.K H a ys) : xs = ys := by
  obtain ⟨i1, r1, ⟨o, ho, hc, n, hd⟩, _⟩ := I.tuple h1
  obtain ⟨i2, r2, ⟨o', ho', hc', n', hd'⟩, _⟩ := I.tuple h2
  rw [ho] at ho'
  cases ho'
  rw [hd] at hd'
  have e : i1 = i2 := by
    have q : i1.toArray = i2.toArray := by injection hd'
    simpa using congrArg Array.toList q
  subst e
  exact Vals.inj r1 r2
theorem turn_enumT {P : Program} {w : World} {K : PySem.W.Frag} {elts : List Expr} {kk : Nat} {tpos : Pos} (a e it : Addr) :
    Turn P w K (.Tuple elts kk tpos) (IteT K a) [e, it] e (fun i h => (∃ old, IsEnum h e it ((i : Nat) : Int) old) ∧ h.IsTupleIter it a i ∧ e ≠ it) where
  mem := by simp
  obj := fun i h st b hb => by
    obtain ⟨⟨old, he⟩, ⟨o, ho, hc, hd⟩, _⟩ := st
    rcases (show b = e ∨ b = it by simpa using hb) with z | z
    · subst z; exact ⟨_, he, fun v q => nomatch q⟩
    · subst z; exact ⟨o, ho, fun v q => by rw [hd] at q; cases q⟩
  keep := fun i h h' st k => let ⟨⟨old, he⟩, hi, hne⟩ := st; ⟨⟨old, k e (by simp) _ he⟩, hi.at fun o q => k it (by simp) o q, hne⟩
  item := by
    intro X hP hw hK hc i pins s σ H E I hf st hg
    subst hP hw hK
    obtain ⟨⟨old, he⟩, hit, hne⟩ := st
    obtain ⟨xs, x, hq, hx⟩ := hg
    obtain ⟨its, rv, p, hz⟩ := I.tuple hq
    obtain ⟨u, hu, ru⟩ := rv.get hx
    have hel : e < s.heap.objs.size := Heap.lt_size he
    have hil : it < s.heap.objs.size := by obtain ⟨_, q, _⟩ := hit; exact Heap.lt_size q
    have hta : a ≠ it := by
      obtain ⟨o1, h1, h2, _⟩ := id p
      obtain ⟨o2, h3, h4, _⟩ := id hit
      rintro rfl
      rw [h1] at h3; cases h3
      rw [h2] at h4
      injection h4 with h5
      exact absurd h5 (by decide)
    have hea : e ≠ a := by
      obtain ⟨o1, h1, h2, _⟩ := id p
      rintro rfl
      rw [show s.heap.get? e = some _ from he] at h1; cases h1
      injection h2 with h5
      exact absurd h5 (by decide)
    have hlt : i < its.toArray.size := by
      have := (List.getElem?_eq_some_iff.mp hu).1
      simpa using this
    refine wpAny_pyNext_enum_itemD (Draws.tuple (A := X.A.in1) (I.ok.hd hc) it a hta its.toArray) he ⟨hit, p⟩ hlt hne (by simp [hne, hea]) fun y h' tk hy ho hst' hT hsz hk => ?_
    have hyu : y = u := by
      have : its.toArray[i]? = some u := by simpa using hu
      rw [this] at hy
      exact (Option.some.inj hy).symm
    subst hyu
    refine ⟨_, rfl, wpAny_letOwnedTupleGo_enum (s := { s with heap := h', toks := tk + 1 }) ho fun h'' he' sb => ?_⟩
    have hT2 : h''.get? s.heap.objs.size = some { cls := .type "tuple", data := .seq #[.int i tk, y] } := (sb.2 _ (Nat.ne_of_gt hel)).trans hT
    have new : ObjOk X.prog X.w (upd H s.heap.objs.size (.tup [.int (i : Nat), x])) h'' s.heap.objs.size (.tup [.int (i : Nat), x]) :=
      ⟨by rw [sz_eq]; show 2 ≤ 16777216; decide, [.int i tk, y], .cons ⟨_, rfl⟩ (.cons ru .nil), ⟨_, hT2, rfl, _, rfl⟩⟩
    have I1 : Inv X pins σ (upd H s.heap.objs.size (.tup [.int (i : Nat), x])) { s with heap := h'', toks := tk + 1 } :=
      I.turnedNew (ch := [e, it]) (fun b ob hb q => (sb.2 b (fun z => hb (by simp [z]))).trans (hk b ob (fun z => hb (by simp [z])) (fun z => hb (by simp [z])) q)) hf (Nat.le_refl _) new
    refine ⟨.ref s.heap.objs.size, _, I1, rfl, ⟨_, x, rfl, I.hok.fresh (Nat.le_refl _), rfl, fun ys hy' => by rw [tup_inj I hy' hq]; exact hx⟩, ⟨⟨y, ?_⟩, hst'.1.at fun o q => (sb.2 it (Ne.symm hne)).trans q, hne⟩, fun b hb => ?_⟩
    · rw [show ((i + 1 : Nat) : Int) = (i : Int) + 1 by omega]
      exact he'
    · have hb' : b < s.heap.objs.size := by
        rcases (show b = e ∨ b = it by simpa using hb) with z | z
        · subst z; exact hel
        · subst z; exact hil
      rw [upd_ne (Nat.ne_of_lt hb')]
      exact (hf b hb).1
  done := by
    intro X hP hw hK hc i pins s σ H E I hf st hg
    subst hP hw hK
    obtain ⟨⟨old, he⟩, hit, hne⟩ := st
    obtain ⟨xs, hq, hx⟩ := hg
    obtain ⟨its, rv, p, hz⟩ := I.tuple hq
    obtain ⟨f0, f1, f2, f3, f4, f5⟩ := hf it (by simp)
    have hta : a ≠ it := by
      obtain ⟨o1, h1, h2, _⟩ := id p
      obtain ⟨o2, h3, h4, _⟩ := id hit
      rintro rfl
      rw [h1] at h3; cases h3
      rw [h2] at h4
      injection h4 with h5
      exact absurd h5 (by decide)
    have hl := rv.length
    exact enumT_end (I.ok.hd hc) he hit p (by simp; omega) fun h' eb => ⟨rfl, I.turned (t' := s.toks) (fun b o hb q => eb b o hb q) f0 f1 f3 f4 f5⟩
  self := fun A i s Q E st h => let ⟨⟨_, he⟩, _⟩ := st; wpAny_pyIter_enum he h
noncomputable def iEnumT (K : PySem.W.Frag) (ta : TA) : TI := fun σ H R => ta σ H fun vs H1 => ∃ a xs, vs = [.ref a] ∧ SqT K H1 a xs ∧ R (IteT K a) H1
theorem pi_enumT {ta : TA} {q tpos : Pos} {elts : List Expr} {kk : Nat} (hg : Gl X "enumerate") (hm : X.mg "enumerate" = none) (ha : PA X [e] ta) (hs : starEach [e] X.env = [(false, eval e X.env)] := by rfl) :
    PI X (.Tuple elts kk tpos) (.Call (.Name "enumerate" q) [e] [] pos) (iEnumT X.K ta) := by
  refine ⟨fun pins s σ H R I h => ?_⟩
  refine Call_ (ld_blt I hg hm boot_enumerate (PyProof.Rows.callWith_type1 (thn (ha.run pos pins s σ H _ I h) fun us s1 ⟨vs, H1, I1, r1, q1⟩ => ?_) hs rfl))
  obtain ⟨a, xs, ex, hq, q⟩ := q1
  subst ex
  cases r1 with
  | cons r rr =>
    cases rr
    cases r
    obtain ⟨its, rv, p', hz⟩ := I1.tuple hq
    refine call_enumT (show s1.heap.IsTuple a its.toArray from p') fun h' he hit hk => wpAny_pyIter_enum he ?_
    have I2 : Inv X pins σ H1 { s1 with heap := h' } := I1.kept (t' := s1.toks) hk
    refine ⟨s1.heap.objs.size + 1, [s1.heap.objs.size + 1, s1.heap.objs.size], _, _, H1, rfl, I2, turn_enumT a (s1.heap.objs.size + 1) s1.heap.objs.size, ⟨⟨.none, he⟩, hit, Nat.succ_ne_self _⟩, fun b hb => ?_, q⟩
    have hle : s1.heap.objs.size ≤ b := by
      rcases (show b = s1.heap.objs.size + 1 ∨ b = s1.heap.objs.size by simpa using hb) with z | z
      · rw [z]; exact Nat.le_add_right _ _
      · rw [z]; exact Nat.le_refl _
    exact I1.fpOk hle (I1.hok.fresh hle)
noncomputable def enumM : Nat → List Mv → List Mv
  | _, [] => []
  | i, w :: ws => .tup [.int i, w] :: enumM (i + 1) ws
theorem enumM_get : ∀ (ws : List Mv) (j i : Nat), (enumM j ws)[i]? = (ws[i]?).map fun w => .tup [.int ((j + i : Nat) : Int), w]
  | [], j, i => by simp [enumM]
  | w :: ws, j, 0 => by simp [enumM]
  | w :: ws, j, i + 1 => by
    simp only [enumM, List.getElem?_cons_succ]
    rw [enumM_get ws (j + 1) i, show j + 1 + i = j + (i + 1) by omega]
noncomputable def miE (A : Fa) : Fi := fun r s => (A r s).ob fun x => match x.1 with
  | [.tup ws] => some (.seq (enumM 0 ws), x.2)
  | _ => none
theorem im_enum {A : Fa} {q tpos : Pos} {elts : List Expr} {kk : Nat} (hg : Gl X "enumerate") (hm : X.mg "enumerate" = none) (ha : PA X [e] (tA G A)) (hs : starEach [e] X.env = [(false, eval e X.env)] := by rfl) (hK : X.K = G.K := by rfl) :
    PI X (.Tuple elts kk tpos) (.Call (.Name "enumerate" q) [e] [] pos) (tIt G (miE A)) := pi_imp (pi_enumT hg hm ha hs) fun σ H R ⟨p, s, r, it, s', S, E, q, k⟩ => by
  obtain ⟨⟨x, s1⟩, q1, q2⟩ := ob_some.mp q
  refine ⟨p, s, r, x, s1, S, E, q1, fun p1 vs H1 S1 f1 l1 => ?_⟩
  match x, q2, l1 with
  | [.tup ws], q2, .cons (.tup h1 l2) .nil =>
    cases q2
    rename_i a0 vs0
    refine ⟨_, _, rfl, by rw [hK]; exact h1, k p1 H1 _ S1 f1 ?_⟩
    intro p2 s2 H2 i S2 st fz
    have h2 : SqT X.K H2 a0 vs0 := by rw [hK]; exact Stays.tup (G := G) st h1
    have l3 := l2.stay st
    constructor
    · intro q
      have q' : (enumM 0 ws)[i]? = none := by simpa [It0.at, lget_eq] using q
      rw [enumM_get] at q'
      refine ⟨_, h2, ?_⟩
      rw [← l3.length]
      exact List.getElem?_eq_none_iff.mp (by simpa using q')
    · intro w q
      have q' : (enumM 0 ws)[i]? = some w := by simpa [It0.at, lget_eq] using q
      rw [enumM_get] at q'
      obtain ⟨w0, g1, g2⟩ := Option.map_eq_some_iff.mp q'
      subst g2
      obtain ⟨v, hv, d⟩ := l3.get g1
      refine ⟨⟨_, v, h2, hv⟩, fun v' H' yl => ?_⟩
      obtain ⟨T, x', rfl, hT, rfl, g3⟩ := yl
      have e3 := g3 _ h2
      rw [hv] at e3; cases e3
      rw [Nat.zero_add]
      exact new_tup S2 hT (.cons (.int _) (.cons d .nil))
end

end
section
section
variable {X : Cx} {G : Mg} {pos : Pos}
theorem pm_int {i j} : PE X (.Constant (.int i) j pos) (tI G (mcon (.int i))) := pm_con pe_int fun _ _ _ _ => .int _
theorem pm_bl {b j} : PE X (.Constant (.bool b) j pos) (tI G (mcon (.bl b))) := pm_con pe_bl fun _ _ _ _ => .bl _
theorem pm_non {j} : PE X (.Constant .none j pos) (tI G (mcon .non)) := pm_con pe_non fun _ _ _ _ => .non
theorem pm_str {x y : Str} {j} (h : x = y) : PE X (.Constant (.str x) j pos) (tI G (mcon (.str y))) := by subst h; exact pm_con pe_str fun _ _ _ _ => .str _
theorem pm_gint {x : Str} {i : Int} (hm : ∃ t, X.mg x = some (.int i t)) (hg : Gl X x) (hd : (x == ("__debug__" : Str)) = false := by decide) : PE X (.Name x pos) (tI G (mcon (.int i))) := by
  obtain ⟨t, hm⟩ := hm
  exact pm_con (v := .int i) (pe_glob (v := .int i) hg hm ⟨t, rfl⟩ hd) fun _ _ _ _ => .int _
theorem pm_gstr {x y z : Str} (hm : ∃ t, X.mg x = some (.str y t)) (h : y = z) (hg : Gl X x) (hd : (x == ("__debug__" : Str)) = false := by decide) : PE X (.Name x pos) (tI G (mcon (.str z))) := by
  subst h
  obtain ⟨t, hm⟩ := hm
  exact pm_con (v := .str y) (pe_glob (v := .str y) hg hm ⟨t, rfl⟩ hd) fun _ _ _ _ => .str _
theorem pm_gtup {x : Str} {a : Addr} {vs : List V} {ws : List Mv} (hm : X.mg x = some (.ref a)) (hs : ∀ H, SqT G.K H a vs) (l : ∀ p H, DenL G p H ws vs) (hg : Gl X x) (hd : (x == ("__debug__" : Str)) = false := by decide) : PE X (.Name x pos) (tI G (mcon (.tup ws))) :=
  pm_con (v := .ref a) (pe_glob (v := .ref a) hg hm rfl hd) fun p _ H _ => .tup (hs H) (l p H)
theorem fn_none {P : Program} {w : World} {K : PySem.W.Frag} {mg : Str → Option Value} {base : Heap} {CX : CXT} {k : Nat} {f : Addr} {fd : FuncData} {ps : List Str} : FnOk P w K mg base CX k f fd ps (spM G (fun _ _ => none)) :=
  ⟨fun vs H Q E h => (by obtain ⟨_, _, _, _, _, _, _, z, _⟩ := h; cases z), fun A outer s H args us vs Q E hr he hb hv h => (by obtain ⟨_, _, _, _, _, _, _, z, _⟩ := h; cases z)⟩
theorem u65 {k : Nat} {A : Around} (r : Room k A) : A.units + 65 < cLine := by have := r.un; omega
theorem sm_for' {tg iter : Expr} {body : List Stmt} {I : Fi} {T : Tg} {B : Fs} (hp : PassesOwn (model X.prog X.w) X.A X.env X.xe) (hc : X.calm = true) (hi : PI X tg iter (tIt G I)) (hg : PG X tg (tG G T)) (hb : PSs X body (tS G B)) (hs : ∀ x, foldedSetIterable iter X.env x = pure x := by intro _; rfl) : PS X (.For tg iter body [] pos) (tS G (sfor I T B)) := sm_for hp hc hi hg hb (ps_for hp hc hi hg hb hs)
noncomputable def ipW (a b : Mv) (s : Ms) : Option (Mv × Ms) := match a, b with
  | .int i, .int j => some (.int (i + j), s)
  | _, _ => none
theorem pip_add : PIp X .Add (q2R G ipW) := by
  intro pins s σ H x y v u Q I rx ry h
  obtain ⟨p, s0, a, b, w, s', S, da, db, q, k⟩ := h
  cases da <;> cases db <;> try (cases q; done)
  cases q
  exact ip_add pins s σ H _ _ v u Q I rx ry ⟨_, _, rfl, rfl, k p _ H S Fra.refl (.int _)⟩
noncomputable def mdn : Fe := fun _ s => (s.alloc (.dk [])).om fun q => (.ref q.1, q.2)
theorem pm_dn : PE X (.Dict [] [] pos) (tI G mdn) := pe_imp pe_dnewK fun σ H Q ⟨p, s, r, w, s', S, E, q, k⟩ => by
  obtain ⟨⟨n, s1⟩, q1, q2⟩ := omap_some.mp q
  cases q2
  intro a ha
  obtain ⟨S2, f2, d2⟩ := S.new q1 ha (ho := .dK []) (H' := upd H a (.dK [])) ⟨[], rfl, rfl, .nil⟩ upd_same fun b u eb => by rw [upd_ne (ne_of_none eb ha)]; exact eb
  exact k _ _ _ S2 f2 d2
/-- a def's promise by its body, its code object known -/
theorem FunD_okC {P : Program} {w : World} {K : PySem.W.Frag} {mg : Str → Option Value} {base : Heap} {x qual : Str} {params : Arguments} {body : List Stmt} {scope : Scope} {dvs : List V} {kws : List (Str × V)} {f : Addr} {fd : FuncData} {CX : CXT} {N ps : List Str} {k : Nat} {sp : Sp} (F : FunD K x qual params body scope dvs kws f fd) (S : FnScope N ps scope)
    (len : ∀ vs H Q E, sp vs H Q E → vs.length = ps.length) (hb : ∀ (cdv : Value) (_ : cdv = fd.code) (A : Around) (outer : List Env) (s : Shared) (H : Hp) (vs : List V) (Q : VK) (E : XK), Room k (A.deeper (envOfC qual scope s.heap.objs.size f cdv)) → sp vs H Q E → ∃ t, PSs (cxOf CX P w K mg base N qual scope f cdv A outer s H E) body t ∧ t { nx := fun _ H' => Q .non H', rt := Q } (start N vs) H) :
    FnOk P w K mg base CX (k + 1) f fd ps sp := by
  obtain ⟨_, _, _, _, _, _, _, cd, _, _, rfl, lk, hcd, _, _⟩ := F.ex
  exact fn_of lk hcd S len fun A outer s H vs Q E hr h => hb cd rfl A outer s H vs Q E hr h
theorem fn_okC {P : Program} {w : World} {K : PySem.W.Frag} {mg : Str → Option Value} {base : Heap} {x qual : Str} {st : Stmt} {f : Addr} {fd : FuncData} {N ps : List Str} {k : Nat} {B : Fs} {dvs : List V} {kws : List (Str × V)} (F : FunD K x qual (defArgs st) (defBody st) (defScope st) dvs kws f fd) (sc : FnScope N ps (defScope st)) {np nl : Nat} (hnp : ps.length = np := by rfl) (hnl : N.length = nl := by rfl)
    (hb : ∀ (cdv : Value) (_ : cdv = fd.code) (A : Around) (outer : List Env) (s : Shared) (H : Hp) (E : XK), Room k (A.deeper (envOfC qual (defScope st) s.heap.objs.size f cdv)) → PSs (cxOf CX0 P w K mg base N qual (defScope st) f cdv A outer s H E).nox (defBody st) (tS G B)) :
    FnOk P w K mg base CX0 (k + 1) f fd ps (spM G (fnM np nl B)) := by
  subst hnp hnl
  have len : ∀ vs H Q E, spM G (fnM ps.length N.length B) vs H Q E → vs.length = ps.length := by
    rintro vs H Q E ⟨p, s, ws, u, s', S, l, q, k'⟩
    rw [← l.length]
    unfold fnM at q
    cases e : Nat.beq ws.length ps.length with
    | false => rw [e] at q; cases q
    | true => exact Nat.eq_of_beq_eq_true e
  refine FunD_okC F sc len fun cdv hcode A outer s H vs Q E hr h => ⟨_, PSs.nox (hb cdv hcode A outer s H E hr), ?_⟩
  have hlen := len vs H Q E h
  obtain ⟨p, s0, ws, u, s', S, l, q, k'⟩ := h
  unfold fnM at q
  cases e : Nat.beq ws.length ps.length with
  | false => rw [e] at q; cases q
  | true =>
    rw [e] at q
    obtain ⟨⟨fl, r', s1⟩, q1, q2⟩ := ob_some.mp q
    refine ⟨p, s0, _, fl, r', s1, S, ?_, q1, fun p1 H1 S1 f1 => ?_⟩
    · show EnvR G p H _ (L2.start N vs)
      unfold L2.start
      rw [hlen]
      rw [lsome_eq]
      exact envR_start _ l
    · cases fl with
      | rt w' =>
        have q2' : some (w', s1) = some (u, s') := q2
        cases q2'
        exact fun v d => k' p1 v H1 S1 f1 d
      | nx =>
        have q2' : some (Mv.non, s1) = some (u, s') := q2
        cases q2'
        exact fun σ E => k' p1 _ H1 S1 f1 .non
      | bk => cases q2
      | ct => cases q2
theorem fn_okD {P : Program} {w : World} {K : PySem.W.Frag} {mg : Str → Option Value} {base : Heap} {x qual : Str} {st : Stmt} {f : Addr} {fd : FuncData} {N ps : List Str} {k : Nat} {B : Fs} {dvs : List V} {kws : List (Str × V)} (F : FunD K x qual (defArgs st) (defBody st) (defScope st) dvs kws f fd) (sc : FnScope N ps (defScope st)) {np nl : Nat} (hnp : ps.length = np := by rfl) (hnl : N.length = nl := by rfl)
    (hb : ∀ (cdv : Value) (A : Around) (outer : List Env) (s : Shared) (H : Hp) (E : XK), Room k (A.deeper (envOfC qual (defScope st) s.heap.objs.size f cdv)) → PSs (cxOf CX0 P w K mg base N qual (defScope st) f cdv A outer s H E).nox (defBody st) (tS G B)) :
    FnOk P w K mg base CX0 (k + 1) f fd ps (spM G (fnM np nl B)) := fn_okC F sc hnp hnl fun cdv _ => hb cdv
end
theorem bb_len : bootBuiltins "len" = some (.builtin "len") := by decide +kernel
theorem bb_all : bootBuiltins "all" = some (.builtin "all") := by decide +kernel
theorem bb_any : bootBuiltins "any" = some (.builtin "any") := by decide +kernel
theorem bb_abs : bootBuiltins "abs" = some (.builtin "abs") := by decide +kernel
theorem bb_min : bootBuiltins "min" = some (.builtin "min") := by decide +kernel
theorem bb_sorted : bootBuiltins "sorted" = some (.builtin "sorted") := by decide +kernel
theorem bb_isinstance : bootBuiltins "isinstance" = some (.builtin "isinstance") := by decide +kernel
theorem bb_list : bootBuiltins "list" = some (.type "list") := by decide +kernel
theorem bb_tuple : bootBuiltins "tuple" = some (.type "tuple") := by decide +kernel
theorem bb_int : bootBuiltins "int" = some (.type "int") := by decide +kernel
theorem bb_bool : bootBuiltins "bool" = some (.type "bool") := by decide +kernel
theorem bb_str : bootBuiltins "str" = some (.type "str") := by decide +kernel

end
section
/-! ### a def that touches one object alone, run over a store that holds this object alone -/
noncomputable def one (o : Mo) : Ms := ⟨1, .nod .nil (some o) .nil⟩
theorem one_get (o : Mo) (n : Nat) : (one o).get n = if n = 0 then some o else none := by
  show (Mt.nod .nil (some o) .nil).get n = _
  rw [Mt.get_nod, Mt.get_nil, Mt.get_nil]
  by_cases h : n = 0
  · rw [if_pos h, if_pos h]
  · rw [if_neg h, if_neg h]; split <;> rfl
section
variable {G : Mg}
theorem Sim.one {H : Hp} {a : Addr} {o : Mo} {ho : HO} (ha : H a = some ho) (d : DenO G [a] H a o ho) : Sim G [a] (one o) H := by
  refine ⟨rfl, by simp, fun n b hb => ?_, fun n hn => ?_⟩
  · have h0 : n = 0 := by
      have := (List.getElem?_eq_some_iff.mp hb).1
      simp at this
      exact this
    subst h0
    cases hb
    exact ⟨o, ho, by rw [one_get, if_pos rfl], ha, d⟩
  · have h1 : 1 ≤ n := hn
    rw [one_get, if_neg (by omega)]
theorem Sim.nil {H : Hp} : Sim G [] ⟨0, .nil⟩ H := ⟨rfl, by simp, fun n b hb => by simp at hb, fun _ _ => rfl⟩
/-- behind a run that knew the object at a alone, all others stand as before -/
theorem Sim.back {p q : List Addr} {s s1 : Ms} {H H' : Hp} {b : Nat} {a : Addr} {o' : Mo} (S : Sim G p s H) (hb : p[b]? = some a) (S1 : Sim G ([a] ++ q) s1 H') (f1 : Fra [a] H ([a] ++ q) H') (nt : ∀ ho, H' a = some ho → DenO G p H' a o' ho) : Sim G p (s.put b o') H' ∧ Fra p H p H' := by
  have hn : b < s.sz := by rw [← S.len]; exact (List.getElem?_eq_some_iff.mp hb).1
  have ham : a ∈ p := List.mem_of_getElem? hb
  have ff : Fra p H p H' := ⟨⟨[], by simp, fun z hz => by simp at hz⟩, fun z u e nz => f1.kee z u e (by simpa using fun y => nz (by rw [y]; exact ham)), f1.frz⟩
  have st := ff.stays S
  have g : ∀ m, (s.put b o').get m = if m = b then some o' else s.get m := fun m => Mt.get_set s.t b o' m
  refine ⟨⟨S.len, S.nd, fun m c hc => ?_, fun m hm => ?_⟩, ff⟩
  · by_cases hmb : m = b
    · subst hmb
      rw [hb] at hc; cases hc
      obtain ⟨_, ho, _, h2, _⟩ := S1.ob 0 a (by simp)
      exact ⟨o', ho, by rw [g, if_pos rfl], h2, nt ho h2⟩
    · obtain ⟨o1, ho1, q1, q2, q3⟩ := S.ob m c hc
      have hne : c ≠ a := fun z => hmb (nodup_at S.nd (z ▸ hc) hb)
      exact ⟨o1, ho1, by rw [g, if_neg hmb]; exact q1, f1.kee c ho1 q2 (by simpa using hne), q3.stay st⟩
  · rw [g, if_neg (by have : s.sz ≤ m := hm; omega)]
    exact S.out m hm
/-- the draw as the mirror sees it -/
noncomputable def takeB : Fn := fun ws s => match ws with
  | [.ref b, .int k] => match s.get b with
    | some (.box m ((k', x) :: ds)) => cond (decide (k = k') && (decide (1 ≤ k) && decide (k ≤ 1000))) (some (.int x, s.put b (.box (m + 1) ds))) none
    | _ => none
  | _ => none
/-- what the law's own draw must be -/
noncomputable def TakeOk (dr : Int → Int → Int → Int → Int × Int × Int) (f : Fn) : Prop := ∀ a c n k : Int, BoxOk a c n → n < 1000000 → 1 ≤ k → k ≤ 1000 → ∃ s', f [.ref 0, .int k] (one (.lst [.int a, .int c, .int n])) = some (.int (dr k a c n).1, s') ∧ s'.get 0 = some (.lst [.int (dr k a c n).2.1, .int c, .int (dr k a c n).2.2]) ∧ BoxOk (dr k a c n).2.1 c (dr k a c n).2.2 ∧ (dr k a c n).2.2 ≤ n + 1
variable {P : Program} {w : World} {K : PySem.W.Frag} {mg : Str → Option Value} {base : Heap} {k : Nat} {fa : Addr} {fd : FuncData} {ps : List Str}
theorem ints3 {p : List Addr} {H : Hp} {a c n : Int} {vs : List V} (l : DenL G p H [.int a, .int c, .int n] vs) : vs = [.int a, .int c, .int n] := by
  match l with
  | .cons (.int _) (.cons (.int _) (.cons (.int _) .nil)) => rfl
theorem den3 {p : List Addr} {H : Hp} {ad : Addr} {a c n : Int} : DenO G p H ad (.lst [.int a, .int c, .int n]) (.lst [.int a, .int c, .int n]) := ⟨_, rfl, .cons (.int _) (.cons (.int _) (.cons (.int _) .nil)), by rw [sz_eq]; show 3 ≤ 16777216; decide⟩
theorem take_box {f : Fn} (F : FnOk P w K mg base CX0 k fa fd ps (spM G f)) (h : TakeOk G.dr f) : FnOk P w K mg base CX0 k fa fd ps (spM G takeB) := by
  refine F.imp fun vs H Q E hs => ?_
  obtain ⟨p, s, ws, w, s', S, l, q, kk⟩ := hs
  match ws, l, q with
  | [.ref b, .int j], .cons (.ref hb) (.cons (.int _) .nil), q =>
    rename_i ab
    have q' : (match s.get b with
      | some (.box m ((k', x) :: ds)) => cond (decide (j = k') && (decide (1 ≤ j) && decide (j ≤ 1000))) (some (Mv.int x, s.put b (.box (m + 1) ds))) none
      | _ => none) = some (w, s') := q
    split at q'
    · rename_i m k' x ds e
      cases ec : (decide (j = k') && (decide (1 ≤ j) && decide (j ≤ 1000))) with
      | false => rw [ec] at q'; cases q'
      | true =>
        rw [ec] at q'; cases q'
        obtain ⟨e1, e2⟩ := Bool.and_eq_true_iff.mp ec
        obtain ⟨e3, e4⟩ := Bool.and_eq_true_iff.mp e2
        have e1 := of_decide_eq_true e1
        have e3 := of_decide_eq_true e3
        have e4 := of_decide_eq_true e4
        subst e1
        obtain ⟨ho, hH, a, c, n, rfl, ok, hn, hm, hx, hd⟩ := S.get hb e
        simp only [List.length_cons] at hm
        obtain ⟨s1, t1, t2, t3, t4⟩ := h a c n j ok (by omega) e3 e4
        refine ⟨[ab], _, [.ref 0, .int j], .int (G.dr j a c n).1, s1, Sim.one hH den3, .cons (.ref rfl) (.cons (.int _) .nil), t1, fun p1 v H' S1 f1 d1 => ?_⟩
        obtain ⟨q1, rfl, _⟩ := id f1.pre
        obtain ⟨S2, f2⟩ := S.back (o' := .box (m + 1) ds) hb S1 f1 fun ho h2 => by
          obtain ⟨o3, ho3, g1, g2, g3⟩ := S1.ob 0 ab (by simp)
          rw [t2] at g1; cases g1
          rw [h2] at g2; cases g2
          obtain ⟨vs3, rfl, l3, _⟩ := g3
          rw [ints3 l3]
          exact ⟨_, c, _, rfl, t3, by omega, by omega, hd⟩
        rw [hx] at d1
        cases d1
        exact kk p _ H' S2 f2 (.int _)
    · cases q'
/-- the draws below some bounds, one after another -/
noncomputable def drs (dr : Int → Int → Int → Int → Int × Int × Int) : List Int → Int → Int → Int → List (Int × Int)
  | [], _, _, _ => []
  | k :: ks, a, c, n => (k, (dr k a c n).1) :: drs dr ks (dr k a c n).2.1 c (dr k a c n).2.2
theorem drs_Dr (dr : Int → Int → Int → Int → Int × Int × Int) : ∀ (ks : List Int) (a c n : Int), Dr dr (drs dr ks a c n) a c n
  | [], _, _, _ => trivial
  | k :: ks, a, c, n => ⟨rfl, drs_Dr dr ks _ c _⟩
theorem drs_len (dr : Int → Int → Int → Int → Int × Int × Int) : ∀ (ks : List Int) (a c n : Int), (drs dr ks a c n).length = ks.length
  | [], _, _, _ => rfl
  | k :: ks, a, c, n => by rw [drs, List.length_cons, List.length_cons, drs_len dr ks]
/-- draws within their bounds -/
noncomputable def InB : List Int → List (Int × Int) → Prop
  | [], [] => True
  | k :: ks, (k', x) :: ds => k' = k ∧ 0 ≤ x ∧ x < k ∧ InB ks ds
  | _, _ => False
noncomputable def DrIn (dr : Int → Int → Int → Int → Int × Int × Int) : Prop := ∀ a c n k : Int, BoxOk a c n → 1 ≤ k → 0 ≤ (dr k a c n).1 ∧ (dr k a c n).1 < k ∧ BoxOk (dr k a c n).2.1 c (dr k a c n).2.2
theorem drs_in {dr : Int → Int → Int → Int → Int × Int × Int} (h : DrIn dr) : ∀ (ks : List Int), (∀ k ∈ ks, (1 : Int) ≤ k) → ∀ a c n, BoxOk a c n → InB ks (drs dr ks a c n)
  | [], _, _, _, _, _ => trivial
  | k :: ks, hk, a, c, n, ok => by
    obtain ⟨h1, h2, h3⟩ := h a c n k ok (hk k (by simp))
    exact ⟨rfl, h1, h2, drs_in h ks (fun z hz => hk z (by simp [hz])) _ c _ h3⟩
/-- a def of one source that makes these draws and tells True -/
noncomputable def rightB (ks : List Int) : Fn := fun ws s => match ws with
  | [.ref b] => match s.get b with
    | some (.box m []) => cond (Nat.ble (m + ks.length) 1000000) (some (.bl true, s.put b (.box (m + ks.length) []))) none
    | some (.lst [.int a, .int c, .int n]) => cond (decide (0 ≤ a) && (decide (0 ≤ c) && (decide (c < 2 ^ 62) && (decide (n = 0) && Nat.ble ks.length 1000000)))) (some (.bl true, s.put b (.box ks.length []))) none
    | _ => none
  | _ => none
theorem right_box {f : Fn} {ks : List Int} (F : FnOk P w K mg base CX0 k fa fd ps (spM G f)) (hd : DrIn G.dr) (hk : ∀ k ∈ ks, (1 : Int) ≤ k) (h : ∀ m ds, InB ks ds → ∃ s', f [.ref 0] (one (.box m ds)) = some (.bl true, s') ∧ s'.get 0 = some (.box (m + ks.length) [])) : FnOk P w K mg base CX0 k fa fd ps (spM G (rightB ks)) := by
  refine F.imp fun vs H Q E hs => ?_
  obtain ⟨p, s, ws, w, s', S, l, q, kk⟩ := hs
  match ws, l, q with
  | [.ref b], .cons (.ref hb) .nil, q =>
    rename_i ab
    have core : ∀ (a c n : Int) (m : Nat), H ab = some (.lst [.int a, .int c, .int n]) → BoxOk a c n → n ≤ m → m + ks.length ≤ 1000000 → (w, s') = (.bl true, s.put b (.box (m + ks.length) [])) → spM G f [.ref ab] H Q E := by
      intro a c n m hH ok hn hm e
      cases e
      obtain ⟨s1, t1, t2⟩ := h m (drs G.dr ks a c n) (drs_in hd ks hk a c n ok)
      refine ⟨[ab], _, [.ref 0], .bl true, s1, Sim.one (o := .box m (drs G.dr ks a c n)) hH ⟨a, c, n, rfl, ok, hn, by rw [drs_len]; exact hm, drs_Dr G.dr ks a c n⟩, .cons (.ref rfl) .nil, t1, fun p1 v H' S1 f1 d1 => ?_⟩
      obtain ⟨q1, rfl, _⟩ := id f1.pre
      obtain ⟨S2, f2⟩ := S.back (o' := .box (m + ks.length) []) hb S1 f1 fun ho h2 => by
        obtain ⟨o3, ho3, g1, g2, g3⟩ := S1.ob 0 ab (by simp)
        rw [t2] at g1; cases g1
        rw [h2] at g2; cases g2
        exact g3
      cases d1
      exact kk p _ H' S2 f2 (.bl _)
    have q' : (match s.get b with
      | some (.box m []) => cond (Nat.ble (m + ks.length) 1000000) (some (Mv.bl true, s.put b (.box (m + ks.length) []))) none
      | some (.lst [.int a, .int c, .int n]) => cond (decide (0 ≤ a) && (decide (0 ≤ c) && (decide (c < 2 ^ 62) && (decide (n = 0) && Nat.ble ks.length 1000000)))) (some (Mv.bl true, s.put b (.box ks.length []))) none
      | _ => none) = some (w, s') := q
    split at q'
    · rename_i m e
      cases ec : Nat.ble (m + ks.length) 1000000 with
      | false => rw [ec] at q'; cases q'
      | true =>
        rw [ec] at q'
        obtain ⟨ho, hH, a, c, n, rfl, ok, hn, hm, _⟩ := S.get hb e
        exact core a c n m hH ok hn (Nat.le_of_ble_eq_true ec) (Option.some.inj q').symm
    · rename_i a c n e
      cases ec : (decide (0 ≤ a) && (decide (0 ≤ c) && (decide (c < 2 ^ 62) && (decide (n = 0) && Nat.ble ks.length 1000000)))) with
      | false => rw [ec] at q'; cases q'
      | true =>
        rw [ec] at q'
        obtain ⟨c1, c2⟩ := Bool.and_eq_true_iff.mp ec
        obtain ⟨c3, c4⟩ := Bool.and_eq_true_iff.mp c2
        obtain ⟨c5, c6⟩ := Bool.and_eq_true_iff.mp c4
        obtain ⟨c7, c8⟩ := Bool.and_eq_true_iff.mp c6
        obtain ⟨ho, hH, vs3, rfl, l3, _⟩ := S.get hb e
        rw [ints3 l3] at hH
        have hn := of_decide_eq_true c7
        subst hn
        refine core a c 0 0 hH ⟨of_decide_eq_true c1, of_decide_eq_true c3, of_decide_eq_true c5, by decide⟩ (by decide) (by have := Nat.le_of_ble_eq_true c8; omega) ?_
        rw [Nat.zero_add]
        exact (Option.some.inj q').symm
    · cases q'
end

end
section
/-! ### calls whose arguments and answers name no object: run over an empty store -/
/-- hands on a value that names no object, written out anew -/
noncomputable def cp {β : Type} (w : Mv) : (Mv → Option β) → Option β :=
  @Mv.rec (fun _ => (Mv → Option β) → Option β) (fun _ => (List Mv → Option β) → Option β)
    (fun k => k .non) (fun b k => k (.bl b)) (fun i k => k (.int i)) (fun x k => k (.str x)) (fun ws ih k => ih fun ws' => k (.tup ws')) (fun _ _ => none) (fun t k => k (.ty t)) (fun ws ih k => ih fun ws' => k (.fl ws')) (fun c k => k (.cls c))
    (fun k => k []) (fun w ws ih1 ih2 k => ih1 fun w' => ih2 fun ws' => k (w' :: ws')) w
noncomputable def cpL {β : Type} (ws : List Mv) : (List Mv → Option β) → Option β :=
  @Mv.rec_1 (fun _ => (Mv → Option β) → Option β) (fun _ => (List Mv → Option β) → Option β)
    (fun k => k .non) (fun b k => k (.bl b)) (fun i k => k (.int i)) (fun x k => k (.str x)) (fun ws ih k => ih fun ws' => k (.tup ws')) (fun _ _ => none) (fun t k => k (.ty t)) (fun ws ih k => ih fun ws' => k (.fl ws')) (fun c k => k (.cls c))
    (fun k => k []) (fun w ws ih1 ih2 k => ih1 fun w' => ih2 fun ws' => k (w' :: ws')) ws
/-- what a value that names no object stands for hangs on no list of objects -/
noncomputable def Fl1 (w : Mv) : Prop := ∀ (G : Mg) p p' H v, Den G p H w v → Den G p' H w v
noncomputable def FlL (ws : List Mv) : Prop := ∀ (G : Mg) p p' H vs, DenL G p H ws vs → DenL G p' H ws vs
theorem FlL.nil : FlL [] := fun G p p' H vs h => by cases h; exact .nil
theorem FlL.cons {w : Mv} {ws : List Mv} (a : Fl1 w) (b : FlL ws) : FlL (w :: ws) := fun G p p' H vs h => by
  cases h with
  | cons h1 h2 => exact .cons (a G p p' H _ h1) (b G p p' H _ h2)
theorem cp_of {β : Type} (w : Mv) : ∀ (k : Mv → Option β) (r : β), cp w k = some r → Fl1 w ∧ k w = some r :=
  @Mv.rec (fun w => ∀ (k : Mv → Option β) (r : β), cp w k = some r → Fl1 w ∧ k w = some r) (fun ws => ∀ (k : List Mv → Option β) (r : β), cpL ws k = some r → FlL ws ∧ k ws = some r)
    (fun k r h => ⟨fun G p p' H v d => by cases d; exact .non, h⟩)
    (fun b k r h => ⟨fun G p p' H v d => by cases d; exact .bl b, h⟩)
    (fun i k r h => ⟨fun G p p' H v d => by cases d; exact .int i, h⟩)
    (fun x k r h => ⟨fun G p p' H v d => by cases d; exact .str x, h⟩)
    (fun ws ih k r h => by
      obtain ⟨a, b⟩ := ih (fun ws' => k (.tup ws')) r h
      exact ⟨fun G p p' H v d => by cases d with | tup h l => exact .tup h (a G p p' H _ l), b⟩)
    (fun n k r h => by cases h)
    (fun t k r h => ⟨fun G p p' H v d => by cases d; exact .ty t, h⟩)
    (fun ws ih k r h => by
      obtain ⟨a, b⟩ := ih (fun ws' => k (.fl ws')) r h
      exact ⟨fun G p p' H v d => by cases d with | fl h l => exact .fl h (a G p p' H _ l), b⟩)
    (fun c k r h => ⟨fun G p p' H v d => by cases d; exact .cls c, h⟩)
    (fun k r h => ⟨FlL.nil, h⟩)
    (fun w ws ih1 ih2 k r h => by
      obtain ⟨a, b⟩ := ih1 (fun w' => cpL ws fun ws' => k (w' :: ws')) r h
      obtain ⟨c, d⟩ := ih2 _ r b
      exact ⟨FlL.cons a c, d⟩) w
theorem cpL_of {β : Type} : ∀ (ws : List Mv) (k : List Mv → Option β) (r : β), cpL ws k = some r → FlL ws ∧ k ws = some r
  | [], k, r, h => ⟨FlL.nil, h⟩
  | w :: ws, k, r, h => by
    obtain ⟨a, b⟩ := cp_of w (fun w' => cpL ws fun ws' => k (w' :: ws')) r h
    obtain ⟨c, d⟩ := cpL_of ws _ r b
    exact ⟨FlL.cons a c, d⟩
theorem Sim.keep {G : Mg} {p : List Addr} {s : Ms} {H H' : Hp} (S : Sim G p s H) (k : ∀ a o, H a = some o → H' a = some o) : Sim G p s H' ∧ Fra p H p H' := by
  have f : Fra p H p H' := ⟨⟨[], by simp, fun a h => by simp at h⟩, fun a o e _ => k a o e, fun a o u e => k a _ e⟩
  exact ⟨⟨S.len, S.nd, fun n a h => let ⟨o, ho, q1, q2, q3⟩ := S.ob n a h; ⟨o, ho, q1, k a ho q2, q3.stay (f.stays S)⟩, S.out⟩, f⟩
/-- one more object is named -/
theorem Sim.add {G : Mg} {p : List Addr} {s s' : Ms} {H : Hp} {o : Mo} {ho : HO} {n : Nat} {a : Addr} (S : Sim G p s H) (e : s.alloc o = some (n, s')) (nin : a ∉ p) (ha : H a = some ho) (d : DenO G p H a o ho) : Sim G (p ++ [a]) s' H ∧ Den G (p ++ [a]) H (.ref n) (.ref a) := by
  obtain ⟨rfl, h2, h4⟩ := Ms.alloc_eq e
  have st : Stays p H (p ++ [a]) H := ⟨fun n b h => by rw [List.getElem?_append_left (List.getElem?_eq_some_iff.mp h).1]; exact h, fun _ _ e => e, fun _ _ _ _ e => e⟩
  have hlen : (p ++ [a])[s.sz]? = some a := by rw [← S.len]; simp
  refine ⟨⟨by rw [List.length_append, S.len, h2]; rfl, ?_, fun m b hb => ?_, fun m hm => ?_⟩, .ref hlen⟩
  · rw [List.nodup_append]
    exact ⟨S.nd, by simp, fun x hx y hy => by rw [List.mem_singleton.mp hy]; rintro rfl; exact nin hx⟩
  · by_cases hmn : m = s.sz
    · subst hmn
      rw [hlen] at hb; cases hb
      exact ⟨o, ho, by rw [h4, if_pos rfl], ha, d.stay st⟩
    · have hlt : m < p.length := by
        have := (List.getElem?_eq_some_iff.mp hb).1
        rw [List.length_append, S.len] at this
        simp at this
        have := S.len
        omega
      rw [List.getElem?_append_left hlt] at hb
      obtain ⟨o1, ho1, q1, q2, q3⟩ := S.ob m b hb
      exact ⟨o1, ho1, by rw [h4, if_neg hmn]; exact q1, q2, q3.stay st⟩
  · rw [h4, if_neg (by omega)]
    exact S.out m (by omega)
/-- an answer out of the small store, told over the great one -/
noncomputable def bk (lo : Nat) (w : Mv) (s1 s : Ms) : Option (Mv × Ms) := match w with
  | .ref j => cond (Nat.ble lo j) (match s1.get j with
    | some (.lst xs) => cpL xs fun xs' => (s.alloc (.lst xs')).om fun y => (.ref y.1, y.2)
    | _ => none) none
  | w => cp w fun w' => some (w', s)
theorem bk_of {G : Mg} {p q : List Addr} {lo : Nat} {H H' : Hp} {p0 : List Addr} {s0 s1 s s' : Ms} {w w' : Mv} {v : V} (h : bk lo w s1 s = some (w', s')) (hp : p0.length = lo) (S : Sim G p s H') (f : Fra p H p H') (S1 : Sim G (p0 ++ q) s1 H') (hq : ∀ a ∈ q, H a = none) (S0 : Sim G p s0 H) (d : Den G (p0 ++ q) H' w v) :
    ∃ p', Sim G p' s' H' ∧ Fra p H p' H' ∧ Den G p' H' w' v := by
  have easy : (cp w fun w' => some (w', s)) = some (w', s') → ∃ p', Sim G p' s' H' ∧ Fra p H p' H' ∧ Den G p' H' w' v := fun h => by
    obtain ⟨a, b⟩ := cp_of w _ _ h
    cases b
    exact ⟨p, S, f, a G _ p H' v d⟩
  cases w with
  | ref j =>
    have h : cond (Nat.ble lo j) (match s1.get j with
      | some (.lst xs) => cpL xs fun xs' => (s.alloc (.lst xs')).om fun y => (Mv.ref y.1, y.2)
      | _ => none) none = some (w', s') := h
    cases e : Nat.ble lo j with
    | false => rw [e] at h; cases h
    | true =>
      rw [e, cond_true] at h
      have hl := Nat.le_of_ble_eq_true e
      split at h
      · rename_i xs e1
        obtain ⟨a, b⟩ := cpL_of xs _ _ h
        cases e2 : s.alloc (.lst xs) with
        | none => rw [e2] at b; cases b
        | some y =>
          rw [e2] at b; cases b
          cases d with
          | ref hj =>
            rename_i ad
            obtain ⟨o, ho, q1, q2, q3⟩ := S1.ob j ad hj
            rw [e1] at q1; cases q1
            have hin : ad ∈ q := by
              have := List.getElem?_append_right (l₁ := p0) (l₂ := q) (i := j) (by omega)
              rw [this] at hj
              exact List.mem_of_getElem? hj
            have hnone := hq ad hin
            have nin : ad ∉ p := fun h => by
              obtain ⟨n, hn⟩ := List.mem_iff_getElem?.mp h
              obtain ⟨_, _, _, z, _⟩ := S0.ob n ad hn
              rw [hnone] at z; cases z
            obtain ⟨vs, rfl, l, sz⟩ := q3
            obtain ⟨S2, d2⟩ := S.add (n := y.1) (s' := y.2) e2 nin q2 ⟨vs, rfl, a G _ p H' vs l, sz⟩
            refine ⟨p ++ [ad], S2, ⟨⟨[ad], rfl, fun z hz _ => by rw [List.mem_singleton.mp hz]; exact hnone⟩, f.kee, f.frz⟩, d2⟩
      · cases h
  | _ => exact easy h
/-- no argument names an object -/
noncomputable def pureF (f : Fn) : Fn := fun ws s => cpL ws fun ws' => (f ws' ⟨0, .nil⟩).ob fun x => bk 0 x.1 x.2 s
variable {P : Program} {w : World} {K : PySem.W.Frag} {mg : Str → Option Value} {base : Heap} {k : Nat} {fa : Addr} {fd : FuncData} {ps : List Str} {G : Mg}
theorem pure_ok {f : Fn} (F : FnOk P w K mg base CX0 k fa fd ps (spM G f)) : FnOk P w K mg base CX0 k fa fd ps (spM G (pureF f)) := by
  refine F.imp fun vs H Q E hs => ?_
  obtain ⟨p, s, ws, w, s', S, l, q, kk⟩ := hs
  obtain ⟨fl, q⟩ := cpL_of ws _ _ q
  obtain ⟨⟨w1, s1⟩, q1, q2⟩ := ob_some.mp q
  refine ⟨[], _, ws, w1, s1, Sim.nil, fl G p [] H vs l, q1, fun p1 v H' S1 f1 d1 => ?_⟩
  obtain ⟨S2, f2⟩ := S.keep (H' := H') fun a o e => f1.kee a o e (by simp)
  obtain ⟨q3, rfl, hq⟩ := id f1.pre
  obtain ⟨p', h1, h2, h3⟩ := bk_of q2 (p0 := []) rfl S2 f2 S1 (fun a ha => hq a ha (by simp)) S d1
  exact kk p' v H' h1 h2 h3
/-- one argument is a list -/
noncomputable def cp1 {β : Type} : List Mv → Ms → (List Mv → Nat → List Mv → Option β) → Option β
  | [], _, _ => none
  | .ref n :: ws, s, k => match s.get n with
    | some (.lst xs) => cpL xs fun xs' => cpL ws fun ws' => k (.ref 0 :: ws') n xs'
    | _ => none
  | w :: ws, s, k => cp w fun w' => cp1 ws s fun ws' n xs => k (w' :: ws') n xs
noncomputable def pure1 (f : Fn) : Fn := fun ws s => cp1 ws s fun ws' n xs => (f ws' (one (.lst xs))).ob fun x => match x.2.get 0 with
  | some (.lst ys) => cpL ys fun ys' => bk 1 x.1 x.2 (s.put n (.lst ys'))
  | _ => none
theorem cp1_of {β : Type} {p : List Addr} {s : Ms} {H : Hp} (S : Sim G p s H) : ∀ (ws : List Mv) (vs : List V) (k : List Mv → Nat → List Mv → Option β) (r : β), DenL G p H ws vs → cp1 ws s k = some r → ∃ ws' n xs a us, k ws' n xs = some r ∧ p[n]? = some a ∧ H a = some (.lst us) ∧ us.length ≤ sizeLine ∧ FlL xs ∧ DenL G p H xs us ∧ DenL G [a] H ws' vs := by
  intro ws
  induction ws with
  | nil => intro vs k r l h; cases h
  | cons w0 ws ih =>
    intro vs k r l h
    cases l with
    | cons d l =>
      have easy : (cp w0 fun w' => cp1 ws s fun ws' n xs => k (w' :: ws') n xs) = some r → ∃ ws' n xs a us, k ws' n xs = some r ∧ p[n]? = some a ∧ H a = some (.lst us) ∧ us.length ≤ sizeLine ∧ FlL xs ∧ DenL G p H xs us ∧ DenL G [a] H ws' (_ :: _) := fun h => by
        obtain ⟨a, b⟩ := cp_of w0 _ _ h
        obtain ⟨ws', n, xs, a', us, h1, h2, h3, h4, h5, h6, h7⟩ := ih _ _ r l b
        exact ⟨_, n, xs, a', us, h1, h2, h3, h4, h5, h6, .cons (a G p _ H _ d) h7⟩
      cases w0 with
      | ref n =>
        have h : (match s.get n with
          | some (.lst xs) => cpL xs fun xs' => cpL ws fun ws' => k (.ref 0 :: ws') n xs'
          | _ => none) = some r := h
        split at h
        · rename_i xs e1
          obtain ⟨a, b⟩ := cpL_of xs _ _ h
          obtain ⟨c, e⟩ := cpL_of ws _ _ b
          cases d with
          | ref hn =>
            rename_i ad
            obtain ⟨o, ho, q1, q2, q3⟩ := S.ob n ad hn
            rw [e1] at q1; cases q1
            obtain ⟨us, rfl, lu, sz⟩ := q3
            exact ⟨_, n, xs, ad, us, e, hn, q2, sz, a, lu, .cons (.ref rfl) (c G p _ H _ l)⟩
        · cases h
      | _ => exact easy h
theorem pure1_ok {f : Fn} (F : FnOk P w K mg base CX0 k fa fd ps (spM G f)) : FnOk P w K mg base CX0 k fa fd ps (spM G (pure1 f)) := by
  refine F.imp fun vs H Q E hs => ?_
  obtain ⟨p, s, ws, w, s', S, l, q, kk⟩ := hs
  obtain ⟨ws', n, xs, a, us, q, hn, hH, sz, fl, lx, lw⟩ := cp1_of S ws vs _ _ l q
  obtain ⟨⟨w1, s1⟩, q1, q2⟩ := ob_some.mp q
  refine ⟨[a], _, ws', w1, s1, Sim.one (o := .lst xs) hH ⟨us, rfl, fl G p _ H us lx, sz⟩, lw, q1, fun p1 v H' S1 f1 d1 => ?_⟩
  obtain ⟨q3, rfl, hq⟩ := id f1.pre
  have q2 : (match s1.get 0 with
    | some (.lst ys) => cpL ys fun ys' => bk 1 w1 s1 (s.put n (.lst ys'))
    | _ => none) = some (w, s') := q2
  split at q2
  · rename_i ys ey
    obtain ⟨fy, q2⟩ := cpL_of ys _ _ q2
    obtain ⟨S2, f2⟩ := S.back (o' := .lst ys) hn S1 f1 fun ho h2 => by
      obtain ⟨o3, ho3, g1, g2, g3⟩ := S1.ob 0 a (by simp)
      rw [ey] at g1; cases g1
      rw [h2] at g2; cases g2
      obtain ⟨vs3, rfl, l3, z3⟩ := g3
      exact ⟨vs3, rfl, fy G _ p H' vs3 l3, z3⟩
    have nd : a ∉ q3 := fun h => by
      have := S1.nd
      rw [List.nodup_append] at this
      exact this.2.2 a (by simp) a h rfl
    obtain ⟨p', h1, h2, h3⟩ := bk_of q2 (p0 := [a]) rfl S2 f2 S1 (fun z hz => hq z hz (by simp; rintro rfl; exact nd hz)) S d1
    exact kk p' v H' h1 h2 h3
  · cases q2

end
section
/-! ### a law that asks some sources for some laps each -/
theorem rng_in {lo : Int} {n i : Nat} {s : Ms} (h : i < n) : (It0.rng lo n).at i s = some (some (.int (lo + i))) := by
  show some (cond (Nat.blt i n) (some (Mv.int (lo + i))) none) = _
  have e : Nat.blt i n = true := Nat.ble_eq_true_of_le h
  rw [cond_t e]
theorem rng_out {lo : Int} {n i : Nat} {s : Ms} (h : n ≤ i) : (It0.rng lo n).at i s = some none := by
  show some (cond (Nat.blt i n) (some (Mv.int (lo + i))) none) = _
  have : Nat.blt i n = false := by
    cases e : Nat.blt i n with
    | false => rfl
    | true => have := Nat.le_of_ble_eq_true e; omega
  rw [cond_f this]
theorem loop_rng {T : Tg} {B : Fs} {lo : Int} {n : Nat} (I : Nat → Me → Ms → Prop) (step : ∀ i r s, i < n → I i r s → ∃ r1 r' s', T.asg (.int (lo + i)) r = some r1 ∧ B r1 s = some (.nx, r', s') ∧ I (i + 1) r' s') :
    ∀ (m i : Nat) (r : Me) (s : Ms), n ≤ i + m → i ≤ n → I i r s → ∃ r' s', mloop (.rng lo n) T B (m + 1) i r s = some (.nx, r', s') ∧ I n r' s'
  | m, i, r, s, h, hi, hI => by
    rw [mloop_succ]
    by_cases hlt : i < n
    · obtain ⟨r1, r2, s2, h1, h2, h3⟩ := step i r s hlt hI
      rw [rng_in hlt]
      show ∃ r' s', ((T.asg (.int (lo + i)) r).ob fun r1 => (B r1 s).ob fun x => match x.1 with
        | .nx => mloop (.rng lo n) T B m (i + 1) x.2.1 x.2.2
        | .ct => mloop (.rng lo n) T B m (i + 1) x.2.1 x.2.2
        | .bk => some (.nx, x.2)
        | .rt w => some (.rt w, x.2)) = some (Fl.nx, r', s') ∧ I n r' s'
      rw [h1]
      show ∃ r' s', ((B r1 s).ob fun x => match x.1 with
        | .nx => mloop (.rng lo n) T B m (i + 1) x.2.1 x.2.2
        | .ct => mloop (.rng lo n) T B m (i + 1) x.2.1 x.2.2
        | .bk => some (.nx, x.2)
        | .rt w => some (.rt w, x.2)) = some (Fl.nx, r', s') ∧ I n r' s'
      rw [h2]
      cases m with
      | zero => omega
      | succ m => exact loop_rng I step m (i + 1) r2 s2 (by omega) (by omega) h3
    · rw [rng_out (by omega)]
      have : i = n := by omega
      subst this
      exact ⟨r, s, rfl, hI⟩
theorem flat_rng {st : Mv → Ms → Option (List Mv × Ms)} {lo : Int} {n : Nat} {w : Mv} (I : Nat → Ms → Prop) (step : ∀ i s, i < n → I i s → ∃ s', st (.int (lo + i)) s = some ([w], s') ∧ I (i + 1) s') :
    ∀ (m i : Nat) (s : Ms), n ≤ i + m → i ≤ n → I i s → ∃ s', mflat (.rng lo n) st (m + 1) i s = some (List.replicate (n - i) w, s') ∧ I n s'
  | m, i, s, h, hi, hI => by
    rw [mflat_succ]
    by_cases hlt : i < n
    · obtain ⟨s2, h2, h3⟩ := step i s hlt hI
      rw [rng_in hlt]
      show ∃ s', ((st (.int (lo + i)) s).ob fun x => (mflat (.rng lo n) st m (i + 1) x.2).om fun y => (x.1 ++ y.1, y.2)) = some (List.replicate (n - i) w, s') ∧ I n s'
      rw [h2]
      cases m with
      | zero => omega
      | succ m =>
        obtain ⟨s3, h4, h5⟩ := flat_rng I step m (i + 1) s2 (by omega) (by omega) h3
        refine ⟨s3, ?_, h5⟩
        show (mflat (.rng lo n) st (m + 1) (i + 1) s2).om (fun y => ([w] ++ y.1, y.2)) = _
        rw [h4]
        have : n - i = (n - (i + 1)) + 1 := by omega
        rw [this, List.replicate_succ]
        rfl
    · rw [rng_out (by omega)]
      have : i = n := by omega
      subst this
      exact ⟨s, by rw [Nat.sub_self]; rfl, hI⟩
theorem put_get {s : Ms} {b : Nat} {o : Mo} (h : b < 1000000) : (s.put b o).get b = some o := by
  rw [show (s.put b o).get b = if b = b then some o else s.get b from Mt.get_set s.t b o b, if_pos rfl]
theorem alloc_ok {s : Ms} {o : Mo} (h : s.sz ≤ 1000000) : ∃ s', s.alloc o = some (s.sz, s') ∧ s'.sz = s.sz + 1 ∧ s'.get s.sz = some o := by
  have e : s.alloc o = some (s.sz, ⟨s.sz + 1, s.t.set s.sz o⟩) := rfl
  obtain ⟨_, h2, h4⟩ := Ms.alloc_eq e
  exact ⟨_, e, h2, by rw [h4, if_pos rfl]⟩
/-- what the law's making of a source must be -/
noncomputable def BoxFn (bx : Fn) : Prop := ∀ (ns : List Int) (k : Int) (s : Ms), 0 ≤ k → k < 1000 → ∃ A C : Int, 0 ≤ A ∧ 0 ≤ C ∧ C < 2 ^ 62 ∧ bx [.fl (ns.map .int), .int k] s = newL [.int A, .int C, .int 0] s
noncomputable def lapB (rt : Fn) (L : Int) : Fs := sif (mnot (mtst (mcall allW (mcons (mlc (miR1 (mcons (mcon (.int L)) (mnil))) (.nm 3) (myes) (mcall rt (mcons (mvar 2) (mnil))) [3]) (mnil))))) (sret (mcon (.bl false))) (snx)
noncomputable def lawB (bx rt : Fn) (R L : Int) : Fs := sseq (sfor (miR1 (mcons (mop2 addW (mcon (.int 1)) (mcall min2W (mcons (mcon (.int R)) (mcons (mcall lenW (mcons (mvar 0) (mnil))) (mnil))))) (mnil))) (.nm 1) (sseq (sset 2 (mcall bx (mcons (mvar 0) (mcons (mvar 1) (mnil))))) (lapB rt L))) (sret (mcon (.bl true)))
theorem right_run {ks : List Int} {s : Ms} {b m : Nat} (h : s.get b = some (.box m [])) (hm : m + ks.length ≤ 1000000) : rightB ks [.ref b] s = some (.bl true, s.put b (.box (m + ks.length) [])) := by
  show (match s.get b with
    | some (.box m []) => cond (Nat.ble (m + ks.length) 1000000) (some (Mv.bl true, s.put b (.box (m + ks.length) []))) none
    | some (.lst [.int a, .int c, .int n]) => cond (decide (0 ≤ a) && (decide (0 ≤ c) && (decide (c < 2 ^ 62) && (decide (n = 0) && Nat.ble ks.length 1000000)))) (some (.bl true, s.put b (.box ks.length []))) none
    | _ => none) = _
  rw [h]
  show cond (Nat.ble (m + ks.length) 1000000) _ none = _
  rw [cond_t (Nat.ble_eq_true_of_le hm)]
theorem right_run0 {ks : List Int} {s : Ms} {b : Nat} {A C : Int} (h : s.get b = some (.lst [.int A, .int C, .int 0])) (h1 : 0 ≤ A) (h2 : 0 ≤ C) (h3 : C < 2 ^ 62) (hm : ks.length ≤ 1000000) : rightB ks [.ref b] s = some (.bl true, s.put b (.box ks.length [])) := by
  show (match s.get b with
    | some (.box m []) => cond (Nat.ble (m + ks.length) 1000000) (some (Mv.bl true, s.put b (.box (m + ks.length) []))) none
    | some (.lst [.int a, .int c, .int n]) => cond (decide (0 ≤ a) && (decide (0 ≤ c) && (decide (c < 2 ^ 62) && (decide (n = 0) && Nat.ble ks.length 1000000)))) (some (.bl true, s.put b (.box ks.length []))) none
    | _ => none) = _
  rw [h]
  show cond (decide (0 ≤ A) && (decide (0 ≤ C) && (decide (C < 2 ^ 62) && (decide ((0 : Int) = 0) && Nat.ble ks.length 1000000)))) _ none = _
  rw [decide_eq_true h1, decide_eq_true h2, decide_eq_true h3, decide_eq_true rfl, Nat.ble_eq_true_of_le hm]
  rfl
theorem bools_rep : ∀ n : Nat, boolsOf (List.replicate n (.bl true)) = some (List.replicate n true)
  | 0 => rfl
  | n + 1 => by
    rw [List.replicate_succ, List.replicate_succ]
    show (boolsOf (List.replicate n (.bl true))).om (fun r => true :: r) = _
    rw [bools_rep n]
    rfl
theorem call1 {f : Fn} {A : Fe} {r : Me} {s s' : Ms} {w : Mv} (h : A r s = some (w, s')) : mcall f (mcons A mnil) r s = f [w] s' := by
  unfold mcall mcons
  rw [h]
  rfl
theorem range_ok {A : Fa} {r : Me} {s s' : Ms} {j : Int} (h : A r s = some ([.int j], s')) (hj : okI j = true) : miR1 A r s = some (.rng 0 j.toNat, s') := by
  unfold miR1
  rw [h]
  show cond (okI j) (some (It0.rng 0 j.toNat, s')) none = _
  rw [hj]
  rfl
theorem lap_ok {ks : List Int} {L : Nat} (hL : L ≤ 100) (hk : ks.length ≤ 1000) {r : Me} {s : Ms} {b : Nat} {A C : Int} (hr : (mwipe r [3])[2]? = some (some (.ref b))) (hb : b < 1000000) (hs : s.sz ≤ 1000000) (h : s.get b = some (.lst [.int A, .int C, .int 0])) (h1 : 0 ≤ A) (h2 : 0 ≤ C) (h3 : C < 2 ^ 62) :
    ∃ s', lapB (rightB ks) (L : Int) r s = some (.nx, r, s') ∧ s'.sz = s.sz + 1 := by
  have hm : mwipe r [3] = r.set 3 none := lset_eq none r 3
  have st : ∀ (i : Nat) (s : Ms) (s' : Ms), rightB ks [.ref b] s = some (.bl true, s') → mstep (.nm 3) myes (mcall (rightB ks) (mcons (mvar 2) mnil)) (mwipe r [3]) (.int (0 + i)) s = some ([.bl true], s') := fun i s s' e => by
    have g : (lset (mwipe r [3]) 3 (some (Mv.int (0 + i))))[2]? = some (some (.ref b)) := by rw [lset_eq, List.getElem?_set_ne (by decide)]; exact hr
    show ((mcall (rightB ks) (mcons (mvar 2) mnil)) (lset (mwipe r [3]) 3 (some (Mv.int (0 + i)))) s).om (fun x => ([x.1], x.2)) = _
    have v : mvar 2 (lset (mwipe r [3]) 3 (some (Mv.int (0 + i)))) s = some (.ref b, s) := by unfold mvar; rw [lget_eq, g]
    have c : mcall (rightB ks) (mcons (mvar 2) mnil) (lset (mwipe r [3]) 3 (some (Mv.int (0 + i)))) s = rightB ks [.ref b] s := by
      unfold mcall mcons
      rw [v]
      rfl
    rw [c, e]
    rfl
  have hk3 : ∀ i : Nat, i ≤ 100 → i * ks.length ≤ 100000 := fun i hi => Nat.le_trans (Nat.mul_le_mul hi hk) (by decide)
  obtain ⟨s1, e1, z1, _⟩ := flat_rng (st := mstep (.nm 3) myes (mcall (rightB ks) (mcons (mvar 2) mnil)) (mwipe r [3])) (lo := 0) (n := L) (w := .bl true) (fun i t => t.sz = s.sz ∧ ((i = 0 ∧ t = s) ∨ (1 ≤ i ∧ t.get b = some (.box (i * ks.length) [])))) (fun i t hi ⟨hz, ht⟩ => by
    rcases ht with ⟨rfl, rfl⟩ | ⟨hi1, ht⟩
    · exact ⟨_, st 0 t _ (right_run0 h h1 h2 h3 (by omega)), hz, .inr ⟨by omega, by rw [put_get hb]; simp⟩⟩
    · have := hk3 i (by omega)
      refine ⟨_, st i t _ (right_run ht (by omega)), hz, .inr ⟨by omega, ?_⟩⟩
      rw [put_get hb, Nat.add_mul, Nat.one_mul]) 99999 0 s (by omega) (by omega) ⟨rfl, .inl ⟨rfl, rfl⟩⟩
  rw [Nat.sub_zero] at e1
  obtain ⟨s2, e2, z2, g2⟩ := alloc_ok (s := s1) (o := .lst (List.replicate L (.bl true))) (by omega)
  refine ⟨s2, ?_, by omega⟩
  have okL : okI (L : Int) = true := by unfold okI; rw [decide_eq_true (by omega), decide_eq_true (by omega)]; rfl
  have i1 : miR1 (mcons (mcon (.int (L : Int))) mnil) r s = some (.rng 0 L, s) := by
    exact range_ok rfl okL
  have nl : newL (List.replicate L (.bl true)) s1 = some (.ref s1.sz, s2) := by
    unfold newL
    rw [llen_eq, List.length_replicate, cond_t (Nat.ble_eq_true_of_le (by omega)), e2]
    rfl
  have lc : mlc (miR1 (mcons (mcon (.int (L : Int))) mnil)) (.nm 3) myes (mcall (rightB ks) (mcons (mvar 2) mnil)) [3] r s = some (.ref s1.sz, s2) := by
    unfold mlc
    rw [i1, ob_of]
    have e1' : mflat (.rng 0 L) (mstep (.nm 3) myes (mcall (rightB ks) (mcons (mvar 2) mnil)) (mwipe r [3])) 100000 0 s = some (List.replicate L (.bl true), s1) := e1
    dsimp only
    rw [e1', ob_of]
    exact nl
  have al : mcall allW (mcons (mlc (miR1 (mcons (mcon (.int (L : Int))) mnil)) (.nm 3) myes (mcall (rightB ks) (mcons (mvar 2) mnil)) [3]) mnil) r s = some (.bl true, s2) := by
    rw [call1 lc]
    have it : lstOf (.ref s1.sz) s2 = some (List.replicate L (.bl true)) := by
      show items (.ref s1.sz) s2 = _
      show (match s2.get s1.sz with
        | some (.lst ws) => some ws
        | _ => none) = _
      rw [g2]
    show ((lstOf (.ref s1.sz) s2).ob fun xs => (boolsOf xs).om fun bs => (Mv.bl (bs.all id), s2)) = _
    rw [it, ob_of, bools_rep, om_of]
    rw [show (List.replicate L true).all id = true by simp]
  have nt : mnot (mtst (mcall allW (mcons (mlc (miR1 (mcons (mcon (.int (L : Int))) mnil)) (.nm 3) myes (mcall (rightB ks) (mcons (mvar 2) mnil)) [3]) mnil))) r s = some (false, s2) := by
    unfold mnot mtst
    rw [al]
    rfl
  unfold lapB sif
  rw [nt]
  rfl
theorem sseq_nx {A B : Fs} {r r' : Me} {s s' : Ms} (h : A r s = some (.nx, r', s')) : sseq A B r s = B r' s' := by
  unfold sseq
  rw [h]
  rfl
theorem fnM_rt {B : Fs} {w v : Mv} {s s' : Ms} {r' : Me} (h : B [some w, none, none, none] s = some (.rt v, r', s')) : fnM 1 4 B [w] s = some (v, s') := by
  show ((B [some w, none, none, none] s).ob fun x => match x.1 with
    | .rt w => some (w, x.2.2)
    | .nx => some (Mv.non, x.2.2)
    | _ => none) = _
  rw [h]
  rfl
theorem law_gen {bx : Fn} {ks : List Int} {R L : Nat} (hb : BoxFn bx) (hR : R ≤ 100) (hL : L ≤ 100) (hk : ks.length ≤ 1000) (ns : List Int) : ∃ s', fnM 1 4 (lawB bx (rightB ks) (R : Int) (L : Int)) [.fl (ns.map .int)] ⟨0, .nil⟩ = some (.bl true, s') := by
  obtain ⟨N, hN, hN2⟩ : ∃ N : Nat, N ≤ 101 ∧ (1 + (if ((ns.map Mv.int).length : Int) < (R : Int) then ((ns.map Mv.int).length : Int) else (R : Int)) : Int) = (N : Int) := by
    by_cases h : ((ns.map Mv.int).length : Int) < (R : Int)
    · rw [if_pos h]; exact ⟨1 + (ns.map Mv.int).length, by omega, by omega⟩
    · rw [if_neg h]; exact ⟨1 + R, by omega, by omega⟩
  have okN : okI (N : Int) = true := by unfold okI; rw [decide_eq_true (by omega), decide_eq_true (by omega)]; rfl
  have i1 : miR1 (mcons (mop2 addW (mcon (.int 1)) (mcall min2W (mcons (mcon (.int R)) (mcons (mcall lenW (mcons (mvar 0) mnil)) mnil)))) mnil) [some (.fl (ns.map .int)), none, none, none] ⟨0, .nil⟩ = some (.rng 0 N, ⟨0, .nil⟩) := by
    show cond (okI (1 + (if ((ns.map Mv.int).length : Int) < (R : Int) then ((ns.map Mv.int).length : Int) else (R : Int)) : Int)) (some (It0.rng 0 (1 + (if ((ns.map Mv.int).length : Int) < (R : Int) then ((ns.map Mv.int).length : Int) else (R : Int)) : Int).toNat, (⟨0, .nil⟩ : Ms))) none = _
    rw [hN2, okN]
    rfl
  obtain ⟨r', s', e, _⟩ := loop_rng (T := .nm 1) (B := sseq (sset 2 (mcall bx (mcons (mvar 0) (mcons (mvar 1) mnil)))) (lapB (rightB ks) L)) (lo := 0) (n := N) (fun i r s => s.sz = 2 * i ∧ ∃ x y z, r = [some (.fl (ns.map .int)), x, y, z]) (fun i r s hi ⟨hz, x, y, z, hr⟩ => by
    subst hr
    obtain ⟨A, C, a1, a2, a3, a4⟩ := hb ns (0 + i) s (by omega) (by omega)
    obtain ⟨s1, e1, z1, g1⟩ := alloc_ok (s := s) (o := .lst [.int A, .int C, .int 0]) (by omega)
    have nl : newL [.int A, .int C, .int 0] s = some (.ref s.sz, s1) := by
      unfold newL
      rw [e1]
      rfl
    rw [nl] at a4
    obtain ⟨s2, e2, z2⟩ := lap_ok (ks := ks) (L := L) hL hk (r := [some (.fl (ns.map .int)), some (.int (0 + i)), some (.ref s.sz), z]) (s := s1) (b := s.sz) rfl (by omega) (by omega) g1 a1 a2 a3
    refine ⟨_, [some (.fl (ns.map .int)), some (.int (0 + i)), some (.ref s.sz), z], s2, rfl, ?_, by omega, _, _, _, rfl⟩
    have st : sset 2 (mcall bx (mcons (mvar 0) (mcons (mvar 1) mnil))) [some (.fl (ns.map .int)), some (.int (0 + i)), y, z] s = some (.nx, [some (.fl (ns.map .int)), some (.int (0 + i)), some (.ref s.sz), z], s1) := by
      show (bx [.fl (ns.map .int), .int (0 + i)] s).om _ = _
      rw [a4]
      rfl
    exact (sseq_nx st).trans e2) 99999 0 [some (.fl (ns.map .int)), none, none, none] ⟨0, .nil⟩ (by omega) (by omega) ⟨rfl, _, _, _, rfl⟩
  refine ⟨s', ?_⟩
  have st : sfor (miR1 (mcons (mop2 addW (mcon (.int 1)) (mcall min2W (mcons (mcon (.int R)) (mcons (mcall lenW (mcons (mvar 0) mnil)) mnil)))) mnil)) (.nm 1) (sseq (sset 2 (mcall bx (mcons (mvar 0) (mcons (mvar 1) mnil)))) (lapB (rightB ks) L)) [some (.fl (ns.map .int)), none, none, none] ⟨0, .nil⟩ = some (.nx, r', s') := by
    unfold sfor
    rw [i1, ob_of]
    exact e
  exact fnM_rt ((sseq_nx st).trans rfl)

end
section
/-! ### keys of dicts -/
noncomputable def kEq (a : NestedKey) : NestedKey → Bool :=
  @NestedKey.rec (fun _ => NestedKey → Bool) (fun _ => List NestedKey → Bool)
    (fun b => NestedKey.casesOn (motive_1 := fun _ => Bool) b true (fun _ => false) (fun _ => false) (fun _ => false))
    (fun i b => NestedKey.casesOn (motive_1 := fun _ => Bool) b false (fun j => iEq i j) (fun _ => false) (fun _ => false))
    (fun x b => NestedKey.casesOn (motive_1 := fun _ => Bool) b false (fun _ => false) (fun y => strEq x y) (fun _ => false))
    (fun _ ih b => NestedKey.casesOn (motive_1 := fun _ => Bool) b false (fun _ => false) (fun _ => false) (fun ls => ih ls))
    (fun l => List.casesOn (motive := fun _ => Bool) l true (fun _ _ => false))
    (fun _ _ ih1 ih2 l => List.casesOn (motive := fun _ => Bool) l false (fun b bs => cond (ih1 b) (ih2 bs) false)) a
noncomputable def kEqs (a : List NestedKey) : List NestedKey → Bool :=
  @NestedKey.rec_1 (fun _ => NestedKey → Bool) (fun _ => List NestedKey → Bool)
    (fun b => NestedKey.casesOn (motive_1 := fun _ => Bool) b true (fun _ => false) (fun _ => false) (fun _ => false))
    (fun i b => NestedKey.casesOn (motive_1 := fun _ => Bool) b false (fun j => iEq i j) (fun _ => false) (fun _ => false))
    (fun x b => NestedKey.casesOn (motive_1 := fun _ => Bool) b false (fun _ => false) (fun y => strEq x y) (fun _ => false))
    (fun _ ih b => NestedKey.casesOn (motive_1 := fun _ => Bool) b false (fun _ => false) (fun _ => false) (fun ls => ih ls))
    (fun l => List.casesOn (motive := fun _ => Bool) l true (fun _ _ => false))
    (fun _ _ ih1 ih2 l => List.casesOn (motive := fun _ => Bool) l false (fun b bs => cond (ih1 b) (ih2 bs) false)) a
mutual
theorem kEq_beq : ∀ a b : NestedKey, kEq a b = NestedKey.beq a b
  | .none, b => by cases b <;> rfl
  | .num i, b => by
    cases b with
    | num j => exact iEq_eq i j
    | _ => rfl
  | .text x, b => by
    cases b with
    | text y => exact strEq_eq x y
    | _ => rfl
  | .tup ks, b => by
    cases b with
    | tup ls => exact kEqs_beq ks ls
    | _ => rfl
theorem kEqs_beq : ∀ a b : List NestedKey, kEqs a b = NestedKey.beqAll a b
  | [], b => by cases b <;> rfl
  | k :: ks, b => by
    cases b with
    | nil => rfl
    | cons l ls =>
      show cond (kEq k l) (kEqs ks ls) false = (NestedKey.beq k l && NestedKey.beqAll ks ls)
      rw [kEq_beq k l, kEqs_beq ks ls]
      cases NestedKey.beq k l <;> rfl
end
theorem kEq_eq (a b : NestedKey) : kEq a b = decide (a = b) := by rw [kEq_beq, NestedKey.decide_eq]
noncomputable def toK (w : Mv) : Nat → Option NestedKey :=
  @Mv.rec (fun _ => Nat → Option NestedKey) (fun _ => Nat → Option (List NestedKey))
    (fun _ => some .none) (fun b _ => some (.num (if b = true then 1 else 0))) (fun i _ => some (.num i)) (fun x _ => some (.text x))
    (fun _ ih n => Nat.rec (motive := fun _ => Option NestedKey) none (fun m _ => (ih m).om fun ks => .tup ks) n)
    (fun _ _ => none) (fun _ _ => none) (fun _ _ _ => none) (fun _ _ => none)
    (fun _ => some []) (fun _ _ ih1 ih2 n => (ih1 n).ob fun k => (ih2 n).om fun ks => k :: ks) w
noncomputable def toKs (ws : List Mv) : Nat → Option (List NestedKey) :=
  @Mv.rec_1 (fun _ => Nat → Option NestedKey) (fun _ => Nat → Option (List NestedKey))
    (fun _ => some .none) (fun b _ => some (.num (if b = true then 1 else 0))) (fun i _ => some (.num i)) (fun x _ => some (.text x))
    (fun _ ih n => Nat.rec (motive := fun _ => Option NestedKey) none (fun m _ => (ih m).om fun ks => .tup ks) n)
    (fun _ _ => none) (fun _ _ => none) (fun _ _ _ => none) (fun _ _ => none)
    (fun _ => some []) (fun _ _ ih1 ih2 n => (ih1 n).ob fun k => (ih2 n).om fun ks => k :: ks) ws
mutual
theorem toK_ok : ∀ (w : Mv) (n : Nat) (k : NestedKey), toK w n = some k → KeyM k w ∧ k.depth ≤ n
  | .non, n, k, h => by cases h; exact ⟨.non, Nat.zero_le _⟩
  | .bl b, n, k, h => by cases h; exact ⟨.bl b, Nat.zero_le _⟩
  | .int i, n, k, h => by cases h; exact ⟨.int i, Nat.zero_le _⟩
  | .str x, n, k, h => by cases h; exact ⟨.str x, Nat.zero_le _⟩
  | .tup ws, 0, k, h => by cases h
  | .tup ws, n + 1, k, h => by
    obtain ⟨ks, h1, h2⟩ := omap_some.mp (show (toKs ws n).om (fun ks => NestedKey.tup ks) = some k from h)
    subst h2
    obtain ⟨a, b⟩ := toKs_ok ws n ks h1
    exact ⟨.tup a, by show NestedKey.depthAll ks + 1 ≤ n + 1; omega⟩
  | .ref _, n, k, h => by cases h
  | .ty _, n, k, h => by cases h
  | .fl _, n, k, h => by cases h
  | .cls _, n, k, h => by cases h
theorem toKs_ok : ∀ (ws : List Mv) (n : Nat) (ks : List NestedKey), toKs ws n = some ks → KeyMs ks ws ∧ NestedKey.depthAll ks ≤ n
  | [], n, ks, h => by cases h; exact ⟨.nil, Nat.zero_le _⟩
  | w :: ws, n, ks, h => by
    obtain ⟨k, h1, h2⟩ := ob_some.mp (show (toK w n).ob (fun k => (toKs ws n).om fun ks => k :: ks) = some ks from h)
    obtain ⟨ls, h3, h4⟩ := omap_some.mp h2
    subst h4
    obtain ⟨a, b⟩ := toK_ok w n k h1
    obtain ⟨c, d⟩ := toKs_ok ws n ls h3
    exact ⟨.cons a c, by show max k.depth (NestedKey.depthAll ls) ≤ n; omega⟩
end
section
variable {X : Cx} {pins : List (Addr × Obj)} {σ : L2.St} {H : Hp} {s : Shared} {G : Mg} {p : List Addr}
mutual
theorem KeyM.is (I : Inv X pins σ H s) (hK : X.K = G.K) : ∀ {k : NestedKey} {w : Mv} {v : V} {u : Value}, KeyM k w → Den G p H w v → RelV v u → NestedIs s.heap k u
  | _, _, _, _, .non, d, r => by cases d; cases r; exact .none
  | _, _, _, _, .bl b, d, r => by cases d; cases r; exact .bool rfl
  | _, _, _, _, .int i, d, r => by cases d; obtain ⟨t, rfl⟩ := r; exact .int i t
  | _, _, _, _, .str x, d, r => by cases d; obtain ⟨t, rfl⟩ := r; exact .text x t
  | _, _, _, _, .tup h, d, r => by
    cases d with
    | tup h1 l =>
      cases r
      obtain ⟨its, rv, ⟨o, e, c, n, q⟩, _⟩ := I.tuple (by rw [hK]; exact h1)
      exact .tup e c q (KeyMs.is I hK h l rv)
theorem KeyMs.is (I : Inv X pins σ H s) (hK : X.K = G.K) : ∀ {ks : List NestedKey} {ws : List Mv} {vs : List V} {us : List Value}, KeyMs ks ws → DenL G p H ws vs → Vals vs us → NestedAll s.heap ks us
  | _, _, _, _, .nil, l, r => by cases l; cases r; exact .nil
  | _, _, _, _, .cons h hs, l, r => by
    cases l with
    | cons d l =>
      cases r with
      | cons r rs => exact .cons (KeyM.is I hK h d r) (KeyMs.is I hK hs l rs)
end
theorem KeyM.at (I : Inv X pins σ H s) (hK : X.K = G.K) {k : NestedKey} {w : Mv} {b : Addr} (h : KeyM k w) (hd : k.depth ≤ 8) (d : Den G p H w (.ref b)) : (nestedKind X.prog X.w).is s.heap k b := ⟨KeyM.is I hK h d rfl, hd⟩
/-! ### a dict with tuples as keys, read -/
abbrev PN := Paired (fun (x : NestedKey × Addr × V) (y : NestedKey × Addr × Value) => x.1 = y.1 ∧ x.2.1 = y.2.1 ∧ RelV x.2.2 y.2.2)
theorem DenN.keys (I : Inv X pins σ H s) (hK : X.K = G.K) : ∀ {kvs : List (NestedKey × Mv × Mv)} {xs : List (NestedKey × Addr × V)} {ys : List (NestedKey × Addr × Value)}, DenN G p H kvs xs → PN xs ys → ∀ y ∈ ys, (nestedKind X.prog X.w).is s.heap y.1 y.2.1
  | _, _, _, .nil, q, y, hy => by cases q; cases hy
  | _, _, _, .cons a b c d l, q, y, hy => by
    cases q with
    | cons r t =>
      rcases List.mem_cons.mp hy with e | hy
      · subst e
        obtain ⟨r1, r2, _⟩ := r
        rw [← r1, ← r2]
        exact a.at I hK b c
      · exact l.keys I hK t y hy
theorem nd_rd (I : Inv X pins σ H s) (hK : X.K = G.K) {a : Addr} {kvs : List (NestedKey × Mv × Mv)} {xs : List (NestedKey × Addr × V)} (e : Rd H a (NDo X.prog X.w a xs)) (l : DenN G p H kvs xs) :
    xs.length ≤ sizeLine ∧ (a == sysModules) = false ∧ ∃ ys, PN xs ys ∧ s.heap.DictOfH (nestedKind X.prog X.w) a ys := by
  obtain ⟨⟨z, y, ys, r, o, es, ep, h1, h2, h3, h4, h5⟩, _⟩ := e.ok I.hok
  exact ⟨z, y, ys, r, o, es, ep, h1, h2, h3, h4, l.keys I hK r, h5⟩
noncomputable def dnGet (nk : NestedKey) (kvs : List (NestedKey × Mv × Mv)) : Option Mv := List.rec (motive := fun _ => Option Mv) none (fun e _ ih => cond (kEq e.1 nk) (some e.2.2) ih) kvs
noncomputable def dnPut (nk : NestedKey) (kw v : Mv) (kvs : List (NestedKey × Mv × Mv)) : List (NestedKey × Mv × Mv) := List.rec (motive := fun _ => List (NestedKey × Mv × Mv)) [(nk, kw, v)] (fun e es ih => cond (kEq e.1 nk) ((e.1, e.2.1, v) :: es) (e :: ih)) kvs
theorem dnGet_cons {nk : NestedKey} {e : NestedKey × Mv × Mv} {es : List (NestedKey × Mv × Mv)} : dnGet nk (e :: es) = if e.1 = nk then some e.2.2 else dnGet nk es := by
  show cond (kEq e.1 nk) (some e.2.2) (dnGet nk es) = _
  rw [kEq_eq]
  by_cases h : e.1 = nk
  · rw [if_pos h, decide_eq_true h]; rfl
  · rw [if_neg h, decide_eq_false h]; rfl
theorem dnPut_cons {nk : NestedKey} {kw v : Mv} {e : NestedKey × Mv × Mv} {es : List (NestedKey × Mv × Mv)} : dnPut nk kw v (e :: es) = if e.1 = nk then (e.1, e.2.1, v) :: es else e :: dnPut nk kw v es := by
  show cond (kEq e.1 nk) ((e.1, e.2.1, v) :: es) (e :: dnPut nk kw v es) = _
  rw [kEq_eq]
  by_cases h : e.1 = nk
  · rw [if_pos h, decide_eq_true h]; rfl
  · rw [if_neg h, decide_eq_false h]; rfl
theorem atKey_cons {k : NestedKey} {y : NestedKey × Addr × Value} {ys : List (NestedKey × Addr × Value)} : atKey (y :: ys) k = if y.1 = k then some y.2 else atKey ys k := by
  unfold atKey
  rw [List.find?_cons]
  by_cases h : y.1 = k
  · rw [if_pos h, decide_eq_true h]; rfl
  · rw [if_neg h, decide_eq_false h]
theorem dn_get {nk : NestedKey} : ∀ {kvs : List (NestedKey × Mv × Mv)} {xs : List (NestedKey × Addr × V)} {ys : List (NestedKey × Addr × Value)}, DenN G p H kvs xs → PN xs ys →
    (dnGet nk kvs = none → atKey ys nk = none) ∧ ∀ w, dnGet nk kvs = some w → ∃ q v, atKey ys nk = some q ∧ Den G p H w v ∧ RelV v q.2
  | _, _, _, .nil, q => by cases q; exact ⟨fun _ => rfl, fun w h => by cases h⟩
  | _, _, _, .cons (k := k) (kw := kw) (w := w0) a b c d l, q => by
    cases q with
    | cons r t =>
      obtain ⟨r1, r2, r3⟩ := r
      have ih := dn_get (nk := nk) l t
      rw [dnGet_cons, atKey_cons]
      by_cases h : k = nk
      · rw [if_pos h, if_pos (r1.symm.trans h)]
        exact ⟨fun z => (by cases z), fun w z => by cases z; exact ⟨_, _, rfl, d, r3⟩⟩
      · rw [if_neg h, if_neg (fun z => h (r1.trans z))]
        exact ih
def stRec (k : NestedKey) (a : Addr) {α : Type} (v : α) : List (NestedKey × Addr × α) → List (NestedKey × Addr × α)
  | [] => [(k, a, v)]
  | y :: ys => if y.1 = k then (y.1, y.2.1, v) :: ys else y :: stRec k a v ys
theorem storedH_rec {k : NestedKey} {a : Addr} {v : Value} : ∀ {ys : List (NestedKey × Addr × Value)}, (ys.map (·.1)).Nodup → storedH ys k a v = stRec k a v ys
  | [], _ => rfl
  | y :: ys, nd => by
    rw [List.map_cons, List.nodup_cons] at nd
    have ih := storedH_rec (k := k) (a := a) (v := v) nd.2
    unfold stRec
    by_cases h : y.1 = k
    · have e : atKey (y :: ys) k = some y.2 := by rw [atKey_cons, if_pos h]
      rw [storedH_old e, if_pos h, List.map_cons]
      have e2 : ys.map (putAt k v) = ys := by
        rw [List.map_congr_left (g := id), List.map_id]
        intro x hx
        exact if_neg fun z => nd.1 (by rw [h, ← z]; exact List.mem_map_of_mem hx)
      rw [e2]
      unfold putAt
      rw [if_pos h]
    · rw [if_neg h, ← ih]
      have e : atKey (y :: ys) k = atKey ys k := by rw [atKey_cons, if_neg h]
      cases q : atKey ys k with
      | none => rw [storedH_new (e.trans q), storedH_new q]; rfl
      | some z =>
        rw [storedH_old (e.trans q), storedH_old q, List.map_cons]
        unfold putAt
        rw [if_neg h]
theorem PN.put {k : NestedKey} {a : Addr} {v : V} {u : Value} (rv : RelV v u) : ∀ {xs : List (NestedKey × Addr × V)} {ys : List (NestedKey × Addr × Value)}, PN xs ys → PN (stRec k a v xs) (stRec k a u ys)
  | _, _, .nil => .cons ⟨rfl, rfl, rv⟩ .nil
  | _, _, .cons (a := x) (b := y) r t => by
    unfold stRec
    by_cases h : x.1 = k
    · rw [if_pos h, if_pos (r.1.symm.trans h)]
      exact .cons ⟨r.1, r.2.1, rv⟩ t
    · rw [if_neg h, if_neg (fun z => h (r.1.trans z))]
      exact .cons r (PN.put rv t)
theorem DenN.put {k : NestedKey} {kw w : Mv} {b : Addr} {v : V} (hk : KeyM k kw) (hd : k.depth ≤ 8) (dk : Den G p H kw (.ref b)) (dv : Den G p H w v) : ∀ {kvs : List (NestedKey × Mv × Mv)} {xs : List (NestedKey × Addr × V)}, DenN G p H kvs xs → DenN G p H (dnPut k kw w kvs) (stRec k b v xs)
  | _, _, .nil => .cons hk hd dk dv .nil
  | _, _, .cons (k := k') a1 a2 a3 a4 l => by
    rw [dnPut_cons]
    unfold stRec
    by_cases h : k' = k
    · rw [if_pos h, if_pos h]; exact .cons a1 a2 a3 dv l
    · rw [if_neg h, if_neg h]; exact .cons a1 a2 a3 a4 (DenN.put hk hd dk dv l)
theorem stRec_len {k : NestedKey} {a : Addr} {α : Type} {v : α} : ∀ (ys : List (NestedKey × Addr × α)), (stRec k a v ys).length ≤ ys.length + 1
  | [] => Nat.le_refl _
  | y :: ys => by
    unfold stRec
    split
    · simp
    · have := stRec_len (k := k) (a := a) (v := v) ys
      simp only [List.length_cons]; omega
theorem DenN.length : ∀ {kvs : List (NestedKey × Mv × Mv)} {xs : List (NestedKey × Addr × V)}, DenN G p H kvs xs → kvs.length = xs.length
  | _, _, .nil => rfl
  | _, _, .cons _ _ _ _ l => congrArg Nat.succ l.length
end

end
section
/-! ### dicts: the mirror's words -/
noncomputable def kyEq (a b : Key) : Bool := Sum.rec (motive := fun _ => Bool) (fun i => Sum.rec (motive := fun _ => Bool) (fun j => iEq i j) (fun _ => false) b) (fun x => Sum.rec (motive := fun _ => Bool) (fun _ => false) (fun y => strEq x y) b) a
theorem kyEq_eq (a b : Key) : kyEq a b = decide (a = b) := by
  cases a with
  | inl i => cases b with
    | inl j => show iEq i j = _; rw [iEq_eq]; exact decide_eq_decide.mpr ⟨fun h => by rw [h], fun h => Sum.inl.inj h⟩
    | inr y => exact (decide_eq_false (fun h => by cases h)).symm
  | inr x => cases b with
    | inl j => exact (decide_eq_false (fun h => by cases h)).symm
    | inr y => show strEq x y = _; rw [strEq_eq]; exact decide_eq_decide.mpr ⟨fun h => by rw [h], fun h => Sum.inr.inj h⟩
noncomputable def key1 : Mv → Option Key
  | .int i => some (.inl i)
  | .str x => some (.inr x)
  | _ => none
noncomputable def keyT (w : Mv) : Option NestedKey := match w with
  | .tup _ => toK w 8
  | _ => none
noncomputable def dkGet (k : Key) (kvs : List (Key × Mv)) : Option Mv := List.rec (motive := fun _ => Option Mv) none (fun e _ ih => cond (kyEq e.1 k) (some e.2) ih) kvs
noncomputable def dkRep (k : Key) (v : Mv) (kvs : List (Key × Mv)) : List (Key × Mv) := List.rec (motive := fun _ => List (Key × Mv)) [] (fun e _ ih => cond (kyEq e.1 k) (e.1, v) e :: ih) kvs
noncomputable def dkPut (k : Key) (v : Mv) (kvs : List (Key × Mv)) : List (Key × Mv) := Option.rec (motive := fun _ => List (Key × Mv)) (lapp kvs [(k, v)]) (fun _ => dkRep k v kvs) (dkGet k kvs)
/-- what a dict holds at a key: no answer where the mirror does not know -/
noncomputable def dgetO (o : Mo) (k : Mv) : Option (Option Mv) := match o with
  | .dk kvs => match key1 k with
    | some ky => some (dkGet ky kvs)
    | none => match kvs with
      | [] => (keyT k).om fun _ => none
      | _ => none
  | .lk kvs => match key1 k with
    | some ky => some (dkGet ky kvs)
    | none => none
  | .dn kvs => (keyT k).om fun nk => dnGet nk kvs
  | .ln kvs => (keyT k).om fun nk => dnGet nk kvs
  | _ => none
noncomputable def dputO (o : Mo) (k v : Mv) : Option Mo := match o with
  | .dk kvs => match key1 k with
    | some ky => cond (Nat.blt (llen kvs) 16777216) (some (.dk (dkPut ky v kvs))) none
    | none => match kvs with
      | [] => (keyT k).om fun nk => .dn [(nk, k, v)]
      | _ => none
  | .dn kvs => cond (Nat.blt (llen kvs) 16777216) ((keyT k).om fun nk => .dn (dnPut nk k v kvs)) none
  | _ => none
section
variable {X : Cx} {pins : List (Addr × Obj)} {σ : L2.St} {H : Hp} {s : Shared} {G : Mg} {p : List Addr}
theorem keyT_ok {w : Mv} {k : NestedKey} (h : keyT w = some k) : (∃ ws, w = .tup ws) ∧ KeyM k w ∧ k.depth ≤ 8 := by
  cases w with
  | tup ws => exact ⟨⟨ws, rfl⟩, toK_ok _ _ _ h⟩
  | _ => cases h
theorem key1_ok {w : Mv} {k : Key} (h : key1 w = some k) {v : V} (d : Den G p H w v) : v = kV k := by
  cases w with
  | int i => cases h; cases d; rfl
  | str x => cases h; cases d; rfl
  | _ => cases h
/-- keys alike, values denoted -/
abbrev DK (G : Mg) (p : List Addr) (H : Hp) (kvs : List (Key × Mv)) (kvs' : List (Key × V)) : Prop := kvs'.map (·.1) = kvs.map (·.1) ∧ DenL G p H (kvs.map (·.2)) (kvs'.map (·.2))
theorem DK.inv {kvs : List (Key × Mv)} {kvs' : List (Key × V)} (h : DK G p H kvs kvs') : Paired (fun (a : Key × Mv) (b : Key × V) => a.1 = b.1 ∧ Den G p H a.2 b.2) kvs kvs' := by
  obtain ⟨h1, h2⟩ := h
  induction kvs generalizing kvs' with
  | nil =>
    cases kvs' with
    | nil => exact .nil
    | cons _ _ => cases h1
  | cons e es ih =>
    cases kvs' with
    | nil => cases h1
    | cons e' es' =>
      rw [List.map_cons, List.map_cons] at h1
      injection h1 with g1 g2
      cases h2 with
      | cons d l => exact .cons ⟨g1.symm, d⟩ (ih g2 l)
theorem DK.of {kvs : List (Key × Mv)} {kvs' : List (Key × V)} (h : Paired (fun (a : Key × Mv) (b : Key × V) => a.1 = b.1 ∧ Den G p H a.2 b.2) kvs kvs') : DK G p H kvs kvs' := by
  induction h with
  | nil => exact ⟨rfl, .nil⟩
  | cons r t ih => exact ⟨by rw [List.map_cons, List.map_cons, ih.1, r.1], .cons r.2 ih.2⟩
theorem dkGet_cons {k : Key} {e : Key × Mv} {es : List (Key × Mv)} : dkGet k (e :: es) = if e.1 = k then some e.2 else dkGet k es := by
  show cond (kyEq e.1 k) (some e.2) (dkGet k es) = _
  rw [kyEq_eq]
  by_cases h : e.1 = k
  · rw [if_pos h, decide_eq_true h]; rfl
  · rw [if_neg h, decide_eq_false h]; rfl
theorem dk_get {k : Key} {kvs : List (Key × Mv)} {kvs' : List (Key × V)} (h : Paired (fun (a : Key × Mv) (b : Key × V) => a.1 = b.1 ∧ Den G p H a.2 b.2) kvs kvs') : (dkGet k kvs = none → valV kvs' k = none) ∧ ∀ w, dkGet k kvs = some w → ∃ v, valV kvs' k = some v ∧ Den G p H w v := by
  induction h with
  | nil => exact ⟨fun _ => rfl, fun w z => by cases z⟩
  | cons r t ih =>
    rename_i a b as bs
    rw [dkGet_cons]
    by_cases h : a.1 = k
    · rw [if_pos h, valV_pos (r.1.symm.trans h)]
      exact ⟨fun z => (by cases z), fun w z => by cases z; exact ⟨_, rfl, r.2⟩⟩
    · rw [if_neg h, valV_neg (fun z => h (r.1.trans z))]
      exact ih
theorem dkRep_den {k : Key} {w : Mv} {v : V} (d : Den G p H w v) {kvs : List (Key × Mv)} {kvs' : List (Key × V)} (h : Paired (fun (a : Key × Mv) (b : Key × V) => a.1 = b.1 ∧ Den G p H a.2 b.2) kvs kvs') :
    Paired (fun (a : Key × Mv) (b : Key × V) => a.1 = b.1 ∧ Den G p H a.2 b.2) (dkRep k w kvs) (kvs'.map fun kv => if kv.1 = k then (kv.1, v) else kv) := by
  induction h with
  | nil => exact .nil
  | cons r t ih =>
    rename_i a b as bs
    rw [List.map_cons]
    show Paired _ (cond (kyEq a.1 k) (a.1, w) a :: dkRep k w as) _
    refine .cons ?_ ih
    rw [kyEq_eq]
    by_cases h : a.1 = k
    · rw [decide_eq_true h, if_pos (r.1.symm.trans h)]; exact ⟨r.1, d⟩
    · rw [decide_eq_false h, if_neg (fun z => h (r.1.trans z))]; exact r
theorem dk_put {k : Key} {w : Mv} {v : V} (d : Den G p H w v) {kvs : List (Key × Mv)} {kvs' : List (Key × V)} (h : DK G p H kvs kvs') : DK G p H (dkPut k w kvs) (putK kvs' k v) := by
  have P := h.inv
  have g := dk_get (k := k) P
  unfold dkPut putK
  rw [valV_any]
  cases e : dkGet k kvs with
  | none =>
    rw [g.1 e, if_neg (by simp), lapp_eq]
    refine DK.of (Paired.snoc P ⟨rfl, d⟩)
  | some z =>
    obtain ⟨v', h1, _⟩ := g.2 z e
    rw [h1, if_pos (by rfl)]
    exact DK.of (dkRep_den d P)
/-- the heap behind a store: what stands at the dict then -/
def DPA (G : Mg) (X : Cx) (H : Hp) (a : Addr) (y v : V) (ho' : HO) : Prop :=
  (∃ kvs k, H a = some (.dK kvs) ∧ y = kV k ∧ kvs.length < sizeLine ∧ ho' = .dK (putK kvs k v)) ∨
  ∃ p nk kw b, y = .ref b ∧ KeyM nk kw ∧ nk.depth ≤ 8 ∧ Den G p H kw (.ref b) ∧ ((H a = some (.dK []) ∧ ho' = NDo X.prog X.w a [(nk, b, v)]) ∨
    ∃ kvs xs, H a = some (NDo X.prog X.w a xs) ∧ DenN G p H kvs xs ∧ xs.length < sizeLine ∧ ho' = NDo X.prog X.w a (stRec nk b v xs))
/-- a dict with no entries, for tuples as keys -/
theorem dk_none {P : Program} {w : World} {h : Heap} {a : Addr} (dd : h.DictOf (mixKind P w) a []) : h.DictOfH (nestedKind P w) a [] := by
  obtain ⟨o, es, ep, h1, h2, h3, _, h5, _⟩ := dd
  refine ⟨o, es, ep, h1, h2, h3, ?_, (fun x hx => absurd hx (by simp)), List.nodup_nil⟩
  have := h5.length
  simp only [List.length_nil, Array.length_toList, Array.size_eq_zero_iff] at this
  rw [this]; rfl
theorem nd_new {P : Program} {w : World} {H' : Hp} {h' : Heap} {a : Addr} {xs : List (NestedKey × Addr × V)} {ys : List (NestedKey × Addr × Value)} (z : xs.length ≤ sizeLine) (hd : (a == sysModules) = false) (r : PN xs ys) (dd : h'.DictOfH (nestedKind P w) a ys) :
    ObjOk P w H' h' a (NDo P w a xs) := by
  obtain ⟨o, es, ep, h1, h2, h3, h4, _, h6⟩ := dd
  exact ⟨⟨z, hd, ys, r, o, es, ep, h1, h2, h3, h4, h6⟩, ⟨o, h1⟩, fun g1 g2 ⟨z, hd, ys, r, o, es, ep, h1, q⟩ k => ⟨z, hd, ys, r, o, es, ep, k o h1, q⟩⟩
theorem dpa_core {A : Around} {E : Value → Shared → Prop} {a : Addr} {y v : V} {u r : Value} {ho' : HO} {Q : Unit → Shared → Prop} {f : Value → Value → Sem Unit} (I : Inv X pins σ H s) (hK : X.K = G.K) (g : DPA G X H a y v ho') (ry : RelV y u) (rv : RelV v r) (h : ∀ s', Inv X pins σ (upd H a ho') s' → Q () s')
    (w1 : ∀ {kvs : List (Key × Value)} {k : Key} {key w : Value}, (mixKind X.prog X.w).is k key = true → s.heap.DictOf (mixKind X.prog X.w) a kvs → kvs.length ≤ sizeLine → (∀ h' t', h'.DictOf (mixKind X.prog X.w) a (stored kvs k w) → Heap.SameBut a s.heap h' → Q () { s with heap := h', toks := t' }) → wpAny (model X.prog X.w) A (f key w) Q E s)
    (w2 : ∀ {xs : List (NestedKey × Addr × Value)} {k : NestedKey} {b : Addr} {w : Value}, (nestedKind X.prog X.w).is s.heap k b → s.heap.DictOfH (nestedKind X.prog X.w) a xs → xs.length ≤ sizeLine → (∀ h' t', h'.DictOfH (nestedKind X.prog X.w) a (storedH xs k b w) → Heap.SameBut a s.heap h' → Q () { s with heap := h', toks := t' }) → wpAny (model X.prog X.w) A (f (.ref b) w) Q E s) :
    wpAny (model X.prog X.w) A (f u r) Q E s := by
  rcases g with ⟨kvs, k, e, ey, l, eH⟩ | ⟨p, nk, kw, b, ey, km, kd, dk, g⟩
  · subst ey eH
    obtain ⟨z, hd, vs, rel, dd⟩ := dk_of I.hok e
    have hl : (putK kvs k v).length ≤ sizeLine := by have := length_putK kvs k v; omega
    refine w1 (kV_is ry) dd (by rw [← rel.length]; exact z) fun h' t' dd' hs => h _ ?_
    exact d_write I (by rw [e]; exact True.intro) hs (let ⟨q, _, _, hq, _⟩ := dd'; ⟨q, hq⟩) (dk_new hl hd (rel.put k rv) dd')
  · subst ey
    cases (show u = Value.ref b from ry)
    have key := km.at I hK kd dk
    rcases g with ⟨e, eH⟩ | ⟨kvs, xs, e, l, hz, eH⟩
    · subst eH
      obtain ⟨z, hd, vs, rel, dd⟩ := dk_of I.hok e
      cases rel
      refine w2 key (dk_none dd) (Nat.zero_le _) fun h' t' dd' hs => h _ ?_
      exact d_write I (by rw [e]; exact True.intro) hs (let ⟨q, _, _, hq, _⟩ := dd'; ⟨q, hq⟩) (nd_new (by show 1 ≤ sizeLine; decide) hd (.cons ⟨rfl, rfl, rv⟩ .nil) dd')
    · subst eH
      obtain ⟨z, hd, ys, rel, dd⟩ := nd_rd I hK (.inl e) l
      have hl : (stRec nk b v xs).length ≤ sizeLine := by have := stRec_len (k := nk) (a := b) (v := v) xs; omega
      refine w2 key dd (by rw [← Paired.length rel]; exact z) fun h' t' dd' hs => h _ ?_
      rw [storedH_rec (by obtain ⟨_, _, _, _, _, _, _, _, q⟩ := dd; exact q)] at dd'
      exact d_write I (by rw [e]; exact True.intro) hs (let ⟨q, _, _, hq, _⟩ := dd'; ⟨q, hq⟩) (nd_new hl hd (PN.put rv rel) dd')
theorem dpa_setItem {A : Around} {E : Value → Shared → Prop} {a : Addr} {y v : V} {u r : Value} {ho' : HO} {Q : Unit → Shared → Prop} (hu : A.units + 64 < cLine) (I : Inv X pins σ H s) (hK : X.K = G.K) (g : DPA G X H a y v ho') (ry : RelV y u) (rv : RelV v r) (h : ∀ s', Inv X pins σ (upd H a ho') s' → Q () s') :
    wpAny (model X.prog X.w) A (setItem (.ref a) u r) Q E s :=
  dpa_core (f := fun u r => setItem (.ref a) u r) I hK g ry rv h (fun k d z q => wpAny_setItem_pairs (hsz := z) k d fun h' dd hs => q h' _ dd hs)
    (fun k d z q => wpAny_setItem_heap (hsz := z) (show A.in1.units + 8 < cLine by rw [Around.in1_units]; omega) k d fun h' dd hs => q h' _ dd hs)
theorem dpa_dictSet {A : Around} {E : Value → Shared → Prop} {a : Addr} {y v : V} {u r : Value} {ho' : HO} {Q : Unit → Shared → Prop} (hu : A.units + 64 < cLine) (I : Inv X pins σ H s) (hK : X.K = G.K) (g : DPA G X H a y v ho') (ry : RelV y u) (rv : RelV v r) (h : ∀ s', Inv X pins σ (upd H a ho') s' → Q () s') :
    wpAny (model X.prog X.w) A (dictSet a u r) Q E s :=
  dpa_core (f := fun u r => dictSet a u r) I hK g ry rv h (fun k d z q => wpAny_dictSet_pairs (hsz := z) k d fun h' dd hs => q h' _ dd hs)
    (fun k d z q => wpAny_dictSet_heap (hsz := z) (show A.units + 8 < cLine by omega) k d fun h' dd hs => q h' _ dd hs)
/-- a store of the mirror is a store of the heap -/
theorem dputO_at {a : Addr} {ho : HO} {o o' : Mo} {kw w : Mv} {y v : V} (hP : X.prog = G.P) (hw : X.w = G.w) (h1 : H a = some ho) (d : DenO G p H a o ho) (q : dputO o kw w = some o') (dk : Den G p H kw y) (dv : Den G p H w v) :
    ∃ ho', DPA G X H a y v ho' ∧ DenO G p H a o' ho' ∧ (∀ vs, ho' ≠ .tup vs) ∧ unl o = true := by
  cases o with
  | dk kvs =>
    obtain ⟨kvs', rfl, c1, c2⟩ := d
    have c : DK G p H kvs kvs' := ⟨c1, c2⟩
    have hl : kvs.length = kvs'.length := by have := congrArg List.length c1; simpa using this.symm
    unfold dputO at q
    simp only at q
    cases ek : key1 kw with
    | some ky =>
      rw [ek] at q
      simp only [llen_eq] at q
      cases eb : Nat.blt kvs.length 16777216 with
      | false => rw [eb] at q; cases q
      | true =>
        rw [eb] at q; cases q
        have hz : kvs'.length < sizeLine := by rw [sz_eq, ← hl]; exact Nat.blt_eq.mp eb
        have := key1_ok ek dk
        exact ⟨_, .inl ⟨kvs', ky, h1, this, hz, rfl⟩, ⟨_, rfl, (dk_put dv c).1, (dk_put dv c).2⟩, fun _ z => (by cases z), rfl⟩
    | none =>
      rw [ek] at q
      cases kvs with
      | cons _ _ => cases q
      | nil =>
        cases kvs' with
        | cons _ _ => cases c1
        | nil =>
          obtain ⟨nk, g1, g2⟩ := omap_some.mp q
          subst g2
          obtain ⟨⟨ws, rfl⟩, km, kd⟩ := keyT_ok g1
          obtain ⟨b, vs, rfl, _, _⟩ := dk.tup_inv
          exact ⟨_, .inr ⟨p, nk, _, b, rfl, km, kd, dk, .inl ⟨h1, rfl⟩⟩, ⟨_, by rw [hP, hw], .cons km kd dk dv .nil⟩, fun _ z => (by cases z), rfl⟩
  | dn kvs =>
    obtain ⟨xs, rfl, l⟩ := d
    unfold dputO at q
    simp only [llen_eq] at q
    cases eb : Nat.blt kvs.length 16777216 with
    | false => rw [eb] at q; cases q
    | true =>
      rw [eb] at q
      obtain ⟨nk, g1, g2⟩ := omap_some.mp (show (keyT kw).om _ = some o' from q)
      subst g2
      obtain ⟨⟨ws, rfl⟩, km, kd⟩ := keyT_ok g1
      obtain ⟨b, vs, rfl, _, _⟩ := dk.tup_inv
      have hz : xs.length < sizeLine := by rw [sz_eq, ← l.length]; exact Nat.blt_eq.mp eb
      exact ⟨_, .inr ⟨p, nk, _, b, rfl, km, kd, dk, .inr ⟨kvs, xs, by rw [hP, hw]; exact h1, l, hz, rfl⟩⟩, ⟨_, by rw [hP, hw], DenN.put km kd dk dv l⟩, fun _ z => (by cases z), rfl⟩
  | _ => cases q
theorem dputO_ok {n : Nat} {a : Addr} {ms : Ms} {o o' : Mo} {kw w : Mv} {y v : V} (hP : X.prog = G.P) (hw : X.w = G.w) (S : Sim G p ms H) (hn : p[n]? = some a) (e : ms.get n = some o) (q : dputO o kw w = some o') (dk : Den G p H kw y) (dv : Den G p H w v) :
    ∃ ho', DPA G X H a y v ho' ∧ DenO G p H a o' ho' ∧ (∀ vs, ho' ≠ .tup vs) ∧ unl o = true :=
  let ⟨_, h1, d⟩ := S.get hn e
  dputO_at hP hw h1 d q dk dv
/-! ### d[k] = v -/
def rSetM (G : Mg) (X : Cx) : TSet := fun o i v H Q => rSetL o i v H Q ∨ ∃ a ho', o = .ref a ∧ DPA G X H a i v ho' ∧ Q (upd H a ho')
theorem set_any (hu : X.A.units + 64 < cLine) (hK : X.K = G.K) : PSet X (rSetM G X) := by
  intro pins s σ H o i v ov iv u Q I ro ri rv h
  rcases h with h | ⟨a, ho', rfl, g, q⟩
  · exact set_list pins s σ H o i v ov iv u Q I ro ri rv h
  · cases (show ov = Value.ref a from ro)
    exact dpa_setItem hu I hK g ri rv fun s' I' => ⟨_, I', q⟩
noncomputable def ssubA (O I A : Fe) : Fs := fun r s => (A r s).ob fun v => (O r v.2).ob fun o => (I r o.2).ob fun i => match o.1 with
  | .ref n => match i.2.get n with
    | some (.lst xs) => (match i.1 with
      | .int k => (ixN xs.length k).om fun j => (.nx, r, i.2.put n (.lst (xs.set j v.1)))
      | _ => none)
    | some d => (dputO d i.1 v.1).om fun d' => (.nx, r, i.2.put n d')
    | none => none
  | _ => none
variable {o : Expr} {pos : Pos}
theorem sm_subA {O I A : Fe} {i v : Expr} {tp : Pos} (h : PS X (.Assign [.Subscript o i tp] v pos) (tAsg (tI G A) (gSub (tI G O) (tI G I) (rSetM G X)))) (hP : X.prog = G.P := by rfl) (hw : X.w = G.w := by rfl) : PS X (.Assign [.Subscript o i tp] v pos) (tS G (ssubA O I A)) := ps_imp h fun D σ H ⟨p, s, r, fl, r', s', S, E, q, k⟩ => by
  obtain ⟨⟨y, s1⟩, q1, q2⟩ := ob_some.mp q
  obtain ⟨⟨x, s2⟩, q3, q4⟩ := ob_some.mp q2
  obtain ⟨⟨z, s3⟩, q5, q6⟩ := ob_some.mp q4
  refine ⟨p, s, r, y, s1, S, E, q1, fun p1 v1 H1 S1 f1 d1 => ⟨p1, s1, r, x, s2, S1, E.fra S f1, q3, fun p2 v2 H2 S2 f2 d2 => ⟨p2, s2, r, z, s3, S2, (E.fra S f1).fra S1 f2, q5, fun p3 v3 H3 S3 f3 d3 => ?_⟩⟩⟩
  have d1' := (d1.fra S1 f2).fra S2 f3
  have d2' := d2.fra S2 f3
  have E3 := ((E.fra S f1).fra S1 f2).fra S2 f3
  have ff := (f1.trans f2).trans f3
  cases x with
  | ref n =>
    cases d2'
    rename_i a hn
    simp only at q6
    cases e : s3.get n with
    | none => rw [e] at q6; cases q6
    | some ob =>
      rw [e] at q6
      have dict : (dputO ob z y).om (fun d' => (Fl.nx, r, s3.put n d')) = some (fl, r', s') → gSub (tI G O) (tI G I) (rSetM G X) v1 σ H1 (fun σ' H' => D.nx σ' H') → True := fun _ _ => trivial
      cases ob with
      | lst xs =>
        simp only at q6
        cases z with
        | int k0 =>
          cases d3
          obtain ⟨j, g1, g2⟩ := omap_some.mp q6
          cases g2
          obtain ⟨ho, h1, vs, rfl, l, hz⟩ := S3.get hn e
          rw [l.length] at g1
          obtain ⟨S4, f4⟩ := S3.put hn e rfl (ho := .lst (vs.set j v1)) (o := .lst (xs.set j y)) (fun _ z => by cases z) ⟨_, rfl, DenL.set d1' j l, by rw [List.length_set]; exact hz⟩
          refine .inl ⟨a, vs, k0, j, rfl, rfl, h1, g1, ?_⟩
          exact k p3 _ S4 (ff.trans f4) σ (E3.fra S3 f4)
        | _ => cases q6
      | _ =>
        obtain ⟨d', g1, g2⟩ := omap_some.mp q6
        cases g2
        obtain ⟨ho', g, dd, nt, ul⟩ := dputO_ok (X := X) hP hw S3 hn e g1 d3 d1'
        obtain ⟨S4, f4⟩ := S3.put hn e ul nt dd
        exact .inr ⟨a, ho', rfl, g, k p3 _ S4 (ff.trans f4) σ (E3.fra S3 f4)⟩
  | _ => cases q6
end

end
section
section
variable {X : Cx} {pins : List (Addr × Obj)} {σ : L2.St} {H : Hp} {s : Shared} {G : Mg} {p : List Addr}
end
section
variable {X : Cx} {pins : List (Addr × Obj)} {σ : L2.St} {H : Hp} {s : Shared} {G : Mg} {p : List Addr}
/-- the dict of the mirror at hand, with the heap behind it -/
inductive DAt (G : Mg) (X : Cx) (p : List Addr) (H : Hp) (a : Addr) : Mo → Prop
  | k {kvs : List (Key × Mv)} {kvs' : List (Key × V)} : Rd H a (.dK kvs') → DK G p H kvs kvs' → DAt G X p H a (.dk kvs)
  | lk {kvs : List (Key × Mv)} {kvs' : List (Key × V)} : Rd H a (.dK kvs') → DK G p H kvs kvs' → DAt G X p H a (.lk kvs)
  | n {kvs : List (NestedKey × Mv × Mv)} {xs : List (NestedKey × Addr × V)} : Rd H a (NDo X.prog X.w a xs) → DenN G p H kvs xs → DAt G X p H a (.dn kvs)
  | ln {kvs : List (NestedKey × Mv × Mv)} {xs : List (NestedKey × Addr × V)} : Rd H a (NDo X.prog X.w a xs) → DenN G p H kvs xs → DAt G X p H a (.ln kvs)
def isDict : Mo → Bool
  | .dk _ | .lk _ | .dn _ | .ln _ => true
  | _ => false
theorem Sim.dict {n : Nat} {a : Addr} {ms : Ms} {o : Mo} (hP : X.prog = G.P) (hw : X.w = G.w) (S : Sim G p ms H) (hn : p[n]? = some a) (e : ms.get n = some o) (hd : isDict o = true) : DAt G X p H a o := by
  obtain ⟨ho, h1, d⟩ := S.get hn e
  cases o with
  | dk kvs => obtain ⟨kvs', rfl, c⟩ := d; exact .k (.inl h1) c
  | lk kvs => obtain ⟨od, kvs', rfl, c⟩ := d; exact .lk (.inr ⟨od, h1⟩) c
  | dn kvs => obtain ⟨xs, rfl, l⟩ := d; exact .n (.inl (by rw [hP, hw]; exact h1)) l
  | ln kvs => obtain ⟨od, xs, rfl, l⟩ := d; exact .ln (.inr ⟨od, by rw [hP, hw]; exact h1⟩) l
  | _ => cases hd
/-- how the raw dict answers -/
inductive RawD (X : Cx) (s : Shared) (a : Addr) (u : Value) : Option Value → Prop
  | k {vs : List (Key × Value)} {k : Key} : (a == sysModules) = false → s.heap.DictOf (mixKind X.prog X.w) a vs → (mixKind X.prog X.w).is k u = true → RawD X s a u (valueAt vs k)
  | n {ys : List (NestedKey × Addr × Value)} {k : NestedKey} {b : Addr} : (a == sysModules) = false → s.heap.DictOfH (nestedKind X.prog X.w) a ys → u = .ref b → (nestedKind X.prog X.w).is s.heap k b → RawD X s a u ((atKey ys k).map (·.2))
theorem dget_raw {a : Addr} {o : Mo} {kw : Mv} {ow : Option Mv} {y : V} {u : Value} (I : Inv X pins σ H s) (hK : X.K = G.K) (D : DAt G X p H a o) (q : dgetO o kw = some ow) (dk : Den G p H kw y) (ry : RelV y u) :
    ∃ r, RawD X s a u r ∧ (ow = none → r = none) ∧ ∀ w, ow = some w → ∃ v r', r = some r' ∧ Den G p H w v ∧ RelV v r' := by
  have plain : ∀ {kvs : List (Key × Mv)} {kvs' : List (Key × V)} {ky : Key}, Rd H a (.dK kvs') → DK G p H kvs kvs' → key1 kw = some ky → ow = dkGet ky kvs → ∃ r, RawD X s a u r ∧ (ow = none → r = none) ∧ ∀ w, ow = some w → ∃ v r', r = some r' ∧ Den G p H w v ∧ RelV v r' := fun {kvs kvs' ky} rd c ek e => by
    obtain ⟨z, hd, vs, rel, dd⟩ := dk_rd I.hok rd
    have ey := key1_ok ek dk
    subst ey e
    have g := dk_get (k := ky) c.inv
    have rv := rel.val ky
    refine ⟨_, .k hd dd (kV_is ry), fun h => ?_, fun w h => ?_⟩
    · rw [g.1 h] at rv
      cases e2 : valueAt vs ky with
      | none => rfl
      | some _ => rw [e2] at rv; exact rv.elim
    · obtain ⟨v, g1, g2⟩ := g.2 w h
      rw [g1] at rv
      cases e2 : valueAt vs ky with
      | none => rw [e2] at rv; exact rv.elim
      | some r' => rw [e2] at rv; exact ⟨v, r', rfl, g2, rv⟩
  have nest : ∀ {kvs : List (NestedKey × Mv × Mv)} {xs : List (NestedKey × Addr × V)} {nk : NestedKey}, Rd H a (NDo X.prog X.w a xs) → DenN G p H kvs xs → keyT kw = some nk → ow = dnGet nk kvs → ∃ r, RawD X s a u r ∧ (ow = none → r = none) ∧ ∀ w, ow = some w → ∃ v r', r = some r' ∧ Den G p H w v ∧ RelV v r' := fun {kvs xs nk} rd l ek e => by
    obtain ⟨z, hd, ys, rel, dd⟩ := nd_rd I hK rd l
    obtain ⟨⟨ws, rfl⟩, km, kd⟩ := keyT_ok ek
    obtain ⟨b, vs, rfl, _, _⟩ := dk.tup_inv
    cases (show u = Value.ref b from ry)
    have g := dn_get (nk := nk) l rel
    subst e
    refine ⟨_, .n hd dd rfl (km.at I hK kd dk), fun h => by rw [g.1 h]; rfl, fun w h => ?_⟩
    obtain ⟨q', v, g1, g2, g3⟩ := g.2 w h
    exact ⟨v, q'.2, by rw [g1]; rfl, g2, g3⟩
  cases D with
  | k rd c =>
    rename_i kvs kvs'
    unfold dgetO at q
    simp only at q
    cases ek : key1 kw with
    | some ky => rw [ek] at q; cases q; exact plain rd c ek rfl
    | none =>
      rw [ek] at q
      cases kvs with
      | cons _ _ => cases q
      | nil =>
        obtain ⟨nk, g1, g2⟩ := omap_some.mp q
        subst g2
        have e0 : kvs' = [] := List.map_eq_nil_iff.mp c.1
        subst e0
        obtain ⟨z, hd, vs, rel, dd⟩ := dk_rd I.hok rd
        cases rel
        obtain ⟨⟨ws, rfl⟩, km, kd⟩ := keyT_ok g1
        obtain ⟨b, vs, rfl, _, _⟩ := dk.tup_inv
        cases (show u = Value.ref b from ry)
        exact ⟨_, .n hd (dk_none dd) rfl (km.at I hK kd dk), fun _ => rfl, fun w h => by cases h⟩
  | lk rd c =>
    unfold dgetO at q
    simp only at q
    cases ek : key1 kw with
    | some ky => rw [ek] at q; cases q; exact plain rd c ek rfl
    | none => rw [ek] at q; cases q
  | n rd l =>
    obtain ⟨nk, g1, g2⟩ := omap_some.mp (show (keyT kw).om _ = some ow from q)
    exact nest rd l g1 g2.symm
  | ln rd l =>
    obtain ⟨nk, g1, g2⟩ := omap_some.mp (show (keyT kw).om _ = some ow from q)
    exact nest rd l g1 g2.symm
variable {A : Around} {E : Value → Shared → Prop}
theorem RawD.typeIs {a : Addr} {u : Value} {r : Option Value} (R : RawD X s a u r) : s.TypeIs (.ref a) "dict" := by
  cases R with
  | k _ dd _ => exact dd.typeIs
  | n _ dd _ _ => exact dd.typeIs
theorem RawD.noDict {a : Addr} {u : Value} {r : Option Value} (R : RawD X s a u r) : ∀ b, Value.ref a = .ref b → ∃ ob, s.heap.get? b = some ob ∧ ob.dict = none := fun b e => by
  cases e
  cases R with
  | k _ dd _ => obtain ⟨o, _, _, h1, h2, _⟩ := dd; exact ⟨o, h1, h2.2.1⟩
  | n _ dd _ _ => obtain ⟨o, _, _, h1, h2, _⟩ := dd; exact ⟨o, h1, h2.2.1⟩
theorem raw_in {a : Addr} {u : Value} {r : Option Value} {Q : Value → Shared → Prop} (hu : A.units + 64 < cLine) (I : Inv X pins σ H s) (R : RawD X s a u r) (h : ∀ s', Inv X pins σ H s' → Q (.bool r.isSome) s') : wpAny (model X.prog X.w) A (compareOp .In u (.ref a)) Q E s := by
  cases R with
  | k hd dd ku => exact wpAny_in_of ku hd dd.mapOf (h _ (I.tok _))
  | n hd dd eu ku =>
    subst eu
    refine in_keyed (show A.in1.units + 8 < cLine by rw [Around.in1_units]; omega) ku hd ⟨_, dd, rfl⟩ ?_
    rw [valueAt_pairsH]
    exact h _ (I.tok _)
theorem raw_nin {a : Addr} {u : Value} {r : Option Value} {Q : Value → Shared → Prop} (hu : A.units + 64 < cLine) (I : Inv X pins σ H s) (R : RawD X s a u r) (h : ∀ s', Inv X pins σ H s' → Q (.bool (!r.isSome)) s') : wpAny (model X.prog X.w) A (compareOp .NotIn u (.ref a)) Q E s := by
  cases R with
  | k hd dd ku => exact wpAny_notIn_of ku hd dd.mapOf (h _ (I.tok _))
  | n hd dd eu ku =>
    subst eu
    refine notIn_keyed (show A.in1.units + 8 < cLine by rw [Around.in1_units]; omega) ku hd ⟨_, dd, rfl⟩ ?_
    rw [valueAt_pairsH]
    exact h _ (I.tok _)
theorem raw_item {a : Addr} {u : Value} {r' : Value} {Q : Value → Shared → Prop} (hu : A.units + 64 < cLine) (I : Inv X pins σ H s) {r : Option Value} (R : RawD X s a u r) (er : r = some r') (h : ∀ s', Inv X pins σ H s' → Q r' s') : wpAny (model X.prog X.w) A (getItem (.ref a) u) Q E s := by
  cases R with
  | k hd dd ku => exact wpAny_getItem_of ku dd.mapOf er (h _ (I.tok _))
  | n hd dd eu ku =>
    subst eu
    exact getItem_keyed (show A.in1.units + 8 < cLine by rw [Around.in1_units]; omega) ku ⟨_, dd, rfl⟩ (by rw [valueAt_pairsH]; exact er) (h _ (I.tok _))
theorem raw_get {a : Addr} {u : Value} {r : Option Value} {Q : Value → Shared → Prop} (hu : A.units + 64 < cLine) (I : Inv X pins σ H s) (R : RawD X s a u r) (h : ∀ s', Inv X pins σ H s' → Q (r.getD .none) s') : wpAny (model X.prog X.w) A (call (.builtin "dict.get") [.ref a, u]) Q E s := by
  cases R with
  | k hd dd ku => exact call_meetsIn PySem.F.slot_dict_get dd.typeIs PySem.F.entry_dict_get (PySem.F.args_dict_get_2 _ _) (meets_dict_get (mixKind X.prog X.w) a ku hd) ⟨_, dd.mapOf, h _ (I.tok _)⟩
  | n hd dd eu ku =>
    subst eu
    refine get_keyed (show A.in1.units + 8 < cLine by rw [Around.in1_units]; omega) ku hd ⟨_, dd, rfl⟩ ?_
    rw [valueAt_pairsH]
    exact h _ (I.tok _)
end
/-! ### k in d, d[k], d.get(k) -/
section
variable {X : Cx} {G : Mg} {a b e : Expr} {pos : Pos}
noncomputable def dinW (neg : Bool) (x y : Mv) (s : Ms) : Option (Mv × Ms) := match y with
  | .ref n => match s.get n with
    | some o => (dgetO o x).om fun r => (.bl (neg != r.isSome), s)
    | none => none
  | _ => none
noncomputable def inA (x y : Mv) (s : Ms) : Option (Mv × Ms) := Option.rec (motive := fun _ => Option (Mv × Ms)) (inW x y s) (fun r => some r) (dinW false x y s)
noncomputable def ninA (x y : Mv) (s : Ms) : Option (Mv × Ms) := Option.rec (motive := fun _ => Option (Mv × Ms)) (ninW x y s) (fun r => some r) (dinW true x y s)
theorem dgetO_dict {o : Mo} {k : Mv} {r : Option Mv} (h : dgetO o k = some r) : isDict o = true := by
  cases o with
  | lst _ => cases h
  | ins _ _ => cases h
  | box _ _ => cases h
  | tab _ _ => cases h
  | cod _ => cases h
  | _ => rfl
def rDI (G : Mg) (neg : Bool) : R2 := fun x y H Q => ∃ p s a b w s', Sim G p s H ∧ Den G p H a x ∧ Den G p H b y ∧ dinW neg a b s = some (w, s') ∧ After G p H w s' Q
theorem din_core {pins : List (Addr × Obj)} {σ : L2.St} {H : Hp} {s : Shared} {x y : V} {v u : Value} {neg : Bool} {Q : VK} (hK : X.K = G.K) (hP : X.prog = G.P) (hw : X.w = G.w) (I : Inv X pins σ H s) (rx : RelV x v) (ry : RelV y u) (h : rDI G neg x y H Q) :
    ∃ a r, u = .ref a ∧ RawD X s a v r ∧ ∀ s', Inv X pins σ H s' → EP X pins σ Q (.bool (neg != r.isSome)) s' := by
  obtain ⟨p, ms, a, b, w, ms', S, da, db, q, k⟩ := h
  cases b with
  | ref n =>
    cases db
    rename_i ad hn
    cases ry
    simp only [dinW] at q
    cases e : ms.get n with
    | none => rw [e] at q; cases q
    | some o =>
      rw [e] at q
      obtain ⟨r, q1, q2⟩ := omap_some.mp q
      cases q2
      obtain ⟨r', R, h1, h2⟩ := dget_raw I hK (S.dict hP hw hn e (dgetO_dict q1)) q1 da rx
      have er : r'.isSome = r.isSome := by
        cases r with
        | none => rw [h1 rfl]; rfl
        | some w =>
          obtain ⟨v', r2, g, _⟩ := h2 w rfl
          rw [g]; rfl
      refine ⟨ad, r', rfl, R, fun s' I' => ?_⟩
      rw [er]
      exact ⟨.bl (neg != r.isSome), H, I', rfl, k p _ H S Fra.refl (.bl _)⟩
  | _ => cases q
theorem op_din (hu : X.A.units + 64 < cLine) (hK : X.K = G.K) (hP : X.prog = G.P) (hw : X.w = G.w) : OpR X (compareOp .In) (rDI G false) := fun pins s σ H x y v u Q I rx ry h => by
  obtain ⟨a, r, rfl, R, f⟩ := din_core hK hP hw I rx ry h
  exact raw_in hu I R fun s' I' => by have := f s' I'; simpa using this
theorem op_dnin (hu : X.A.units + 64 < cLine) (hK : X.K = G.K) (hP : X.prog = G.P) (hw : X.w = G.w) : OpR X (compareOp .NotIn) (rDI G true) := fun pins s σ H x y v u Q I rx ry h => by
  obtain ⟨a, r, rfl, R, f⟩ := din_core hK hP hw I rx ry h
  exact raw_nin hu I R fun s' I' => by have := f s' I'; simpa using this
theorem om_inA (hu : X.A.units + 65 < cLine) (hK : X.K = G.K := by rfl) (hP : X.prog = G.P := by rfl) (hw : X.w = G.w := by rfl) : OpR X (compareOp .In) (q2R G inA) := opr_imp (OpR.or (op_din (by omega) hK hP hw) (om_in hu hK)) fun x y H Q ⟨p, s, a, b, w, s', S, da, db, q, k⟩ => by
  unfold inA at q
  cases e : dinW false a b s with
  | some z => rw [e] at q; cases q; exact .inl ⟨p, s, a, b, w, s', S, da, db, e, k⟩
  | none => rw [e] at q; exact .inr ⟨p, s, a, b, w, s', S, da, db, q, k⟩
theorem om_ninA (hu : X.A.units + 65 < cLine) (hK : X.K = G.K := by rfl) (hP : X.prog = G.P := by rfl) (hw : X.w = G.w := by rfl) : OpR X (compareOp .NotIn) (q2R G ninA) := opr_imp (OpR.or (op_dnin (by omega) hK hP hw) (om_nin hu hK)) fun x y H Q ⟨p, s, a, b, w, s', S, da, db, q, k⟩ => by
  unfold ninA at q
  cases e : dinW true a b s with
  | some z => rw [e] at q; cases q; exact .inl ⟨p, s, a, b, w, s', S, da, db, e, k⟩
  | none => rw [e] at q; exact .inr ⟨p, s, a, b, w, s', S, da, db, q, k⟩
/-- a[b] of lists, tuples, dicts, texts -/
noncomputable def dixW (a b : Mv) (s : Ms) : Option (Mv × Ms) := match a with
  | .ref n => match s.get n with
    | some o => (dgetO o b).ob fun r => r.om fun w => (w, s)
    | none => none
  | _ => none
noncomputable def sixW (a b : Mv) (s : Ms) : Option (Mv × Ms) := match a, b with
  | .str x, .int i => cond (Nat.ble x.length 16777216) ((atF x.cps.toList i).om fun c => (.str ⟨#[c]⟩, s)) none
  | _, _ => none
noncomputable def ixA (a b : Mv) (s : Ms) : Option (Mv × Ms) := Option.rec (motive := fun _ => Option (Mv × Ms)) (Option.rec (motive := fun _ => Option (Mv × Ms)) (sixW a b s) (fun r => some r) (dixW a b s)) (fun r => some r) (ixW a b s)
theorem ix_dictM (hu : X.A.units + 64 < cLine) (hK : X.K = G.K) (hP : X.prog = G.P) (hw : X.w = G.w) : IxR X (q2R G dixW) := by
  intro value slice pins s σ H x y v u Q I rx ry ⟨p, ms, a, b, w, ms', S, da, db, q, k⟩ hs
  cases a with
  | ref n =>
    cases da
    rename_i ad hn
    cases rx
    simp only [dixW] at q
    cases e : ms.get n with
    | none => rw [e] at q; cases q
    | some o =>
      rw [e] at q
      obtain ⟨r, q1, q2⟩ := ob_some.mp q
      obtain ⟨w', q3, q4⟩ := omap_some.mp q2
      cases q4
      obtain ⟨r', R, _, h2⟩ := dget_raw I hK (S.dict hP hw hn e (dgetO_dict q1)) q1 db ry
      obtain ⟨v', r2, g1, g2, g3⟩ := h2 w q3
      exact subscriptTail_builtinR (x := r2) R.typeIs PySem.F.slot_dict_getitem.lookup (raw_item hu I R g1 fun s' I' => ⟨rfl, v', H, I', g3, k p v' H S Fra.refl g2⟩) hs
  | _ => cases q
theorem ix_strM : IxR X (q2R G sixW) := ixr_imp ix_str fun x y H Q ⟨p, s, a, b, w, s', S, da, db, q, k⟩ => by
  cases a with
  | str z =>
    cases b with
    | int i =>
      cases da; cases db
      simp only [sixW] at q
      cases e : Nat.ble z.length 16777216 with
      | false => rw [e] at q; cases q
      | true =>
        rw [e] at q
        obtain ⟨c, q1, q2⟩ := omap_some.mp (show (atF z.cps.toList i).om _ = some (w, s') from q)
        cases q2
        exact ⟨z, i, c, rfl, rfl, ble_sz e, by rw [← atF_eq]; exact q1, k p _ H S Fra.refl (.str _)⟩
    | _ => cases q
  | _ => cases q
theorem ix_any (hu : X.A.units + 64 < cLine) (hK : X.K = G.K) (hP : X.prog = G.P) (hw : X.w = G.w) : IxR X (q2R G ixA) := ixr_imp (IxR.or (ixm hK) (IxR.or (ix_dictM hu hK hP hw) ix_strM)) fun x y H Q ⟨p, s, a, b, w, s', S, da, db, q, k⟩ => by
  unfold ixA at q
  cases e : ixW a b s with
  | some z => rw [e] at q; cases q; exact .inl ⟨p, s, a, b, w, s', S, da, db, e, k⟩
  | none =>
    rw [e] at q
    cases e2 : dixW a b s with
    | some z => rw [e2] at q; cases q; exact .inr (.inl ⟨p, s, a, b, w, s', S, da, db, e2, k⟩)
    | none => rw [e2] at q; exact .inr (.inr ⟨p, s, a, b, w, s', S, da, db, q, k⟩)
theorem pm_ixA {A B : Fe} (hu : X.A.units + 64 < cLine) (ha : PE X a (tI G A)) (hb : PE X b (tI G B)) (hs : PlainIx b := by exact fun _ _ => rfl) (hK : X.K = G.K := by rfl) (hP : X.prog = G.P := by rfl) (hw : X.w = G.w := by rfl) : PE X (.Subscript a b pos) (tI G (mop2 ixA A B)) := pe_imp (pe_ix (ix_any hu hK hP hw) ha hb hs) fun _ _ _ h => t_op2 h
/-- d.get(k) -/
noncomputable def mdget (D K : Fe) : Fe := fun r s => (D r s).ob fun x => (K r x.2).ob fun y => match x.1 with
  | .ref n => match x.2.get n, y.2.get n with
    | some o0, some o => cond (isDict o0) ((dgetO o y.1).om fun r => (r.getD .non, y.2)) none
    | _, _ => none
  | _ => none
theorem pm_dget1 {o : Expr} {apos cpos : Pos} {D K : Fe} (hu : X.A.units + 64 < cLine) (ho : PE X o (tI G D)) (he : PE X e (tI G K)) (m : M1 X o "get" apos e cpos) (hK : X.K = G.K := by rfl) (hP : X.prog = G.P := by rfl) (hw : X.w = G.w := by rfl) :
    PE X (.Call (.Attribute o "get" apos) [e] [] cpos) (tI G (mdget D K)) := by
  refine ⟨fun pins s σ H Q I ⟨p, ms, r, w, ms', S, E, q, k⟩ => ?_⟩
  obtain ⟨⟨x, s1⟩, q1, q2⟩ := ob_some.mp q
  obtain ⟨⟨y, s2⟩, q3, q4⟩ := ob_some.mp q2
  refine wpAny_Call_method m.base m.few m.line PySem.F.plainAttrs_dict PySem.F.slot_dict_get PySem.F.type_dict_get (thn (ho.run pins s σ H (fun v1 H1 => ∃ p1, Sim G p1 s1 H1 ∧ Fra p H p1 H1 ∧ Den G p1 H1 x v1) I ⟨p, ms, r, x, s1, S, E, q1, fun p1 v1 H1 S1 f1 d1 => ⟨p1, S1, f1, d1⟩⟩) fun u t1 ⟨vx, H1, I1, rx, p1, S1, f1, d1⟩ => ?_)
  cases x with
  | ref n =>
    cases d1
    rename_i ad hn
    cases rx
    simp only at q4
    cases e0 : s1.get n with
    | none => rw [e0] at q4; cases q4
    | some o0 =>
      rw [e0] at q4
      cases e1 : s2.get n with
      | none => rw [e1] at q4; cases q4
      | some ob =>
        rw [e1] at q4
        simp only at q4
        cases hd0 : isDict o0 with
        | false => rw [hd0] at q4; cases q4
        | true =>
          rw [hd0] at q4
          have ty : t1.TypeIs (.ref ad) "dict" ∧ ∀ b, Value.ref ad = .ref b → ∃ ob, t1.heap.get? b = some ob ∧ ob.dict = none := by
            have D0 := S1.dict (X := X) hP hw hn e0 hd0
            have nk : ∀ {kvs : List (NestedKey × Mv × Mv)} {xs}, Rd H1 ad (NDo X.prog X.w ad xs) → DenN G p1 H1 kvs xs → t1.TypeIs (.ref ad) "dict" ∧ ∀ b, Value.ref ad = .ref b → ∃ ob, t1.heap.get? b = some ob ∧ ob.dict = none := fun rd l => by
              obtain ⟨_, _, ys, _, dd⟩ := nd_rd I1 hK rd l
              refine ⟨dd.typeIs, fun b eb => ?_⟩
              cases eb
              obtain ⟨oo, _, _, h1, h2, _⟩ := dd
              exact ⟨oo, h1, h2.2.1⟩
            have pk : ∀ {kvs'}, Rd H1 ad (.dK kvs') → t1.TypeIs (.ref ad) "dict" ∧ ∀ b, Value.ref ad = .ref b → ∃ ob, t1.heap.get? b = some ob ∧ ob.dict = none := fun rd => by
              obtain ⟨_, _, vs, _, dd⟩ := dk_rd I1.hok rd
              refine ⟨dd.typeIs, fun b eb => ?_⟩
              cases eb
              obtain ⟨oo, _, _, h1, h2, _⟩ := dd
              exact ⟨oo, h1, h2.2.1⟩
            cases D0 with
            | k rd _ => exact pk rd
            | lk rd _ => exact pk rd
            | n rd l => exact nk rd l
            | ln rd l => exact nk rd l
          refine ⟨ty.1, ty.2, ?_⟩
          rw [m.trees]
          refine Calls.callWith_builtin rfl (Calls.evalArgs_plain (Calls.spliced_cons (thn (he.run pins t1 σ H1 (fun v2 H2 => ∃ p2, Sim G p2 s2 H2 ∧ Fra p1 H1 p2 H2 ∧ Den G p2 H2 y v2) I1 ⟨p1, s1, r, y, s2, S1, E.fra S f1, q3, fun p2 v2 H2 S2 f2 d2 => ⟨p2, S2, f2, d2⟩⟩) fun iv t2 ⟨vy, H2, I2, ry, p2, S2, f2, d2⟩ => Calls.spliced_nil ?_)))
          obtain ⟨rr, g1, g2⟩ := omap_some.mp (show (dgetO ob y).om _ = some (w, ms') from q4)
          cases g2
          obtain ⟨r', R, h1, h2⟩ := dget_raw I2 hK (S2.dict hP hw (f2.at hn) e1 (dgetO_dict g1)) g1 d2 ry
          refine raw_get hu I2 R fun s' I' => ?_
          cases rr with
          | none =>
            rw [h1 rfl]
            exact ⟨.non, H2, I', rfl, k p2 _ H2 S2 (f1.trans f2) .non⟩
          | some w' =>
            obtain ⟨v', r2, g3, g4, g5⟩ := h2 w' rfl
            rw [g3]
            exact ⟨v', H2, I', g5, k p2 _ H2 S2 (f1.trans f2) g4⟩
  | _ => cases q4
end

end
section
/-! ### dicts that are walked: keys and items of a locked one -/
/-- a raw dict's entries, by values -/
structure EntRel (es : Array DictEntry) (ks : List (V × V)) : Prop where
  sz : es.size = ks.length
  get : ∀ (i : Nat) (kv : V × V), ks[i]? = some kv → ∃ h : i < es.size, RelV kv.1 es[i].key ∧ RelV kv.2 es[i].val
def ItM (d : Addr) (o : Obj) (u : HO) (ks : List (V × V)) : It :=
  ⟨fun i H => H d = some (.frz o u) ∧ i < ks.length, fun i H x H' => ∃ T kv, ks[i]? = some kv ∧ x = .ref T ∧ H T = none ∧ H' = upd H T (.tup [kv.1, kv.2]), fun i H => H d = some (.frz o u) ∧ ks.length ≤ i⟩
def ItKy (d : Addr) (o : Obj) (u : HO) (ks : List (V × V)) : It :=
  ⟨fun i H => H d = some (.frz o u) ∧ i < ks.length, fun i H x H' => H' = H ∧ ∃ kv, ks[i]? = some kv ∧ x = kv.1, fun i H => H d = some (.frz o u) ∧ ks.length ≤ i⟩
section
variable {P : Program} {w : World} {K : PySem.W.Frag} {d : Addr} {o : Obj} {u : HO} {es : Array DictEntry} {ep : Nat} {ks : List (V × V)}
theorem turn_itM {elts : List Expr} {kk : Nat} {tpos : Pos} (it : Addr) (hod : o.data = .dict es ep) (hox : o.ExactDict) (R : EntRel es ks) :
    Turn P w K (.Tuple elts kk tpos) (ItM d o u ks) [it] it (fun i h => ∃ ok ov, IsItemIter h it d i ks.length ep ok ov) where
  mem := List.mem_singleton.mpr rfl
  obj := fun i h ⟨ok, ov, e⟩ b hb => by
    rw [List.mem_singleton.mp hb]
    exact ⟨_, e, fun v z => nomatch z⟩
  keep := fun i h h' ⟨ok, ov, e⟩ k => ⟨ok, ov, k it (List.mem_singleton.mpr rfl) _ e⟩
  item := fun X hP hw hK hc i pins s σ H E I hf ⟨ok, ov, he⟩ ⟨hd, hi⟩ => by
    subst hP hw hK
    have raw : s.heap.DictRaw d es ep := ⟨o, (I.hok d _ hd).1, hox, hod⟩
    obtain ⟨kv, hkv⟩ : ∃ q, ks[i]? = some q := ⟨ks[i], List.getElem?_eq_getElem hi⟩
    obtain ⟨hl, r1, r2⟩ := R.get i kv hkv
    rw [← R.sz] at he
    have lt : it < s.heap.objs.size := Heap.lt_size he
    refine wpAny_pyNext_items_item_raw he raw hl fun h' ho hT hz hk => ⟨_, rfl, wpAny_letOwnedTupleGo_items (s := { s with heap := h' }) ho fun h2 he2 sb => ?_⟩
    have hT2 : h2.get? s.heap.objs.size = some { cls := .type "tuple", data := .seq #[es[i].key, es[i].val] } := (sb.2 _ (Nat.ne_of_gt lt)).trans hT
    have I1 : Inv X pins σ (upd H s.heap.objs.size (.tup [kv.1, kv.2])) { s with heap := h2 } :=
      I.turnedNew (t' := s.toks) (ch := [it]) (fun b ob hb e => (sb.2 b fun z => hb (List.mem_singleton.mpr z)).trans (hk b ob (fun z => hb (List.mem_singleton.mpr z)) e)) hf (Nat.le_refl _)
        ⟨by show 2 ≤ sizeLine; decide, [es[i].key, es[i].val], .cons r1 (.cons r2 .nil), ⟨_, hT2, rfl, _, rfl⟩⟩
    refine ⟨.ref s.heap.objs.size, _, I1, rfl, ⟨_, kv, hkv, rfl, I.hok.fresh (Nat.le_refl _), rfl⟩, ⟨_, _, by rw [← R.sz]; exact he2⟩, fun b hb => ?_⟩
    rw [List.mem_singleton.mp hb, upd_ne (Nat.ne_of_lt lt)]
    exact (hf it (List.mem_singleton.mpr rfl)).1
  done := fun X hP hw hK hc i pins s σ H E I hf ⟨ok, ov, he⟩ ⟨hd, hi⟩ => by
    subst hP hw hK
    obtain ⟨f0, f1, _, f3, f4, f5⟩ := hf it (List.mem_singleton.mpr rfl)
    rw [← R.sz] at he hi
    exact wpAny_pyNext_items_end_raw (I.ok.hd hc) he ⟨o, (I.hok d _ hd).1, hox, hod⟩ hi fun h' eb => ⟨rfl, I.turned (t' := s.toks) (fun b ob hb e => eb b ob hb e) f0 f1 f3 f4 f5⟩
  self := fun A i s Q E ⟨ok, ov, e⟩ h => wpAny_pyIter_itemiter e h
theorem turn_itKy {tg : Expr} (it : Addr) (hod : o.data = .dict es ep) (hox : o.ExactDict) (R : EntRel es ks) : Turn P w K tg (ItKy d o u ks) [it] it (fun i h => h.IsKeyIter it d i ks.length ep) where
  mem := List.mem_singleton.mpr rfl
  obj := fun i h ⟨oi, e, c, dd⟩ b hb => by
    rw [List.mem_singleton.mp hb]
    exact ⟨oi, e, fun v z => by rw [dd] at z; cases z⟩
  keep := fun i h h' st k => st.at fun oi e => k it (List.mem_singleton.mpr rfl) oi e
  item := fun X hP hw hK hc i pins s σ H E I hf he ⟨hd, hi⟩ => by
    subst hP hw hK
    obtain ⟨f0, f1, _, f3, f4, f5⟩ := hf it (List.mem_singleton.mpr rfl)
    obtain ⟨kv, hkv⟩ : ∃ q, ks[i]? = some q := ⟨ks[i], List.getElem?_eq_getElem hi⟩
    obtain ⟨hl, r1, _⟩ := R.get i kv hkv
    rw [← R.sz] at he
    refine wpAny_pyNext_keys_item_raw he ⟨o, (I.hok d _ hd).1, hox, hod⟩ hl fun h' he2 sb => ?_
    have I1 : Inv X pins σ H { s with heap := h' } := I.turned (t' := s.toks) (fun b ob hb e => (sb.2 b hb).trans e) f0 f1 f3 f4 f5
    obtain ⟨oi, e, c, dd⟩ := id he2
    exact ⟨_, rfl, go_of (s := { s with heap := h' }) e c dd (by decide) ⟨kv.1, H, I1, r1, ⟨rfl, kv, hkv, rfl⟩, by rw [← R.sz]; exact he2, fun b hb => (hf b hb).1⟩⟩
  done := fun X hP hw hK hc i pins s σ H E I hf he ⟨hd, hi⟩ => by
    subst hP hw hK
    obtain ⟨f0, f1, _, f3, f4, f5⟩ := hf it (List.mem_singleton.mpr rfl)
    rw [← R.sz] at he hi
    exact wpAny_pyNext_keys_end_raw (I.ok.hd hc) he ⟨o, (I.hok d _ hd).1, hox, hod⟩ hi fun h' eb => ⟨rfl, I.turned (t' := s.toks) (fun b ob hb e => eb b ob hb e) f0 f1 f3 f4 f5⟩
  self := fun A i s Q E st h => wpAny_pyIter_keyiter st h
end
section
variable {X : Cx} {pins : List (Addr × Obj)} {σ : L2.St} {H : Hp} {s : Shared} {G : Mg} {p : List Addr}
/-- the walker's view of a locked dict -/
structure Lkd (X : Cx) (s : Shared) (H : Hp) (d : Addr) (o : Obj) (u : HO) (es : Array DictEntry) (ep : Nat) (ks : List (V × V)) : Prop where
  at_ : H d = some (.frz o u)
  get : s.heap.get? d = some o
  ex : o.ExactDict
  da : o.data = .dict es ep
  sys : (d == sysModules) = false
  R : EntRel es ks
noncomputable def itemsO : Mo → Option (List Mv)
  | .lk kvs => some (kvs.map fun e => .tup [Sum.rec (motive := fun _ => Mv) (fun i => .int i) (fun x => .str x) e.1, e.2])
  | .ln kvs => some (kvs.map fun e => .tup [e.2.1, e.2.2])
  | _ => none
noncomputable def keysO : Mo → Option (List Mv)
  | .lk kvs => some (kvs.map fun e => Sum.rec (motive := fun _ => Mv) (fun i => .int i) (fun x => .str x) e.1)
  | .ln kvs => some (kvs.map fun e => e.2.1)
  | _ => none
/-- pairs that are denoted -/
abbrev DenP (G : Mg) (p : List Addr) (H : Hp) : List (Mv × Mv) → List (V × V) → Prop := Paired (fun (a : Mv × Mv) (b : V × V) => Den G p H a.1 b.1 ∧ Den G p H a.2 b.2)
abbrev EntL := Paired (fun (e : DictEntry) (kv : V × V) => RelV kv.1 e.key ∧ RelV kv.2 e.val)
theorem paired_at {α β : Type} {R : α → β → Prop} : ∀ {l : List α} {m : List β}, Paired R l m → ∀ {i : Nat} {b : β}, m[i]? = some b → ∃ a, l[i]? = some a ∧ R a b
  | _, _, .nil, i, b, h => by simp at h
  | _, _, .cons r t, 0, b, h => by simp at h; subst h; exact ⟨_, rfl, r⟩
  | _, _, .cons r t, i + 1, b, h => by simpa using paired_at t (i := i) (by simpa using h)
theorem EntRel.of {es : Array DictEntry} {ks : List (V × V)} (h : EntL es.toList ks) : EntRel es ks := by
  refine ⟨by have := Paired.length h; simpa using this, fun i kv hk => ?_⟩
  obtain ⟨e, h1, h2⟩ := paired_at h hk
  rw [Array.getElem?_toList] at h1
  obtain ⟨hi, he⟩ := Array.getElem?_eq_some_iff.mp h1
  exact ⟨hi, by rw [he]; exact h2⟩
theorem ent_k {P : Program} {w : World} {es : List DictEntry} {vs : List (Key × Value)} (h : Pairs (mixKind P w) es vs) : ∀ {kvs : List (Key × V)}, KV kvs vs → EntL es (kvs.map fun q => (kV q.1, q.2)) := by
  induction h with
  | nil => intro kvs k; cases k; exact .nil
  | cons h1 h2 t ih =>
    intro kvs k
    cases k with
    | cons r rs => exact .cons ⟨relV_key (by rw [r.1]; exact h1), by rw [h2]; exact r.2⟩ (ih rs)
theorem ent_n {P : Program} {w : World} : ∀ {xs : List (NestedKey × Addr × V)} {ys : List (NestedKey × Addr × Value)}, PN xs ys → EntL (ys.map (entryOfKey (nestedKind P w))) (xs.map fun x => (V.ref x.2.1, x.2.2))
  | _, _, .nil => .nil
  | _, _, .cons (a := a) (b := b) r t => .cons ⟨(congrArg Value.ref r.2.1).symm, r.2.2⟩ (ent_n t)
theorem denP_k : ∀ {kvs : List (Key × Mv)} {kvs' : List (Key × V)}, Paired (fun (a : Key × Mv) (b : Key × V) => a.1 = b.1 ∧ Den G p H a.2 b.2) kvs kvs' →
    DenP G p H (kvs.map fun e => (Sum.rec (motive := fun _ => Mv) (fun i => .int i) (fun x => .str x) e.1, e.2)) (kvs'.map fun q => (kV q.1, q.2))
  | _, _, .nil => .nil
  | _, _, .cons (a := (a1, a2)) (b := (b1, b2)) r t => by
    obtain ⟨r1, r2⟩ := r
    have r1 : a1 = b1 := r1
    subst r1
    refine .cons ⟨?_, r2⟩ (denP_k t)
    cases a1 with
    | inl i => exact .int i
    | inr x => exact .str x
theorem denP_n : ∀ {kvs : List (NestedKey × Mv × Mv)} {xs : List (NestedKey × Addr × V)}, DenN G p H kvs xs → DenP G p H (kvs.map fun e => (e.2.1, e.2.2)) (xs.map fun x => (V.ref x.2.1, x.2.2))
  | _, _, .nil => .nil
  | _, _, .cons _ _ c d l => .cons ⟨c, d⟩ (denP_n l)
theorem lkd_of {n : Nat} {a : Addr} {ms : Ms} {o : Mo} (S : Sim G p ms H) (hn : p[n]? = some a) (e : ms.get n = some o) (hl : unl o = false) (I : Inv X pins σ H s) :
    ∃ od u es ep ks qs, Lkd X s H a od u es ep ks ∧ DenP G p H qs ks ∧ itemsO o = some (qs.map fun q => .tup [q.1, q.2]) ∧ keysO o = some (qs.map (·.1)) := by
  obtain ⟨ho, h1, d⟩ := S.get hn e
  cases o with
  | lk kvs =>
    obtain ⟨od, kvs', rfl, c⟩ := d
    obtain ⟨hd, z, hs, vs, kv, o', es, ep, ho, hx, hdt, r1, r2, r3⟩ := I.hok a _ h1
    rw [hd] at ho; cases ho
    exact ⟨od, _, es, ep, _, _, ⟨h1, hd, hx, hdt, hs, .of (ent_k r2 kv)⟩, denP_k (DK.inv c), by simp [itemsO], by simp [keysO]⟩
  | ln kvs =>
    obtain ⟨od, xs, rfl, l⟩ := d
    obtain ⟨hd, ⟨z, hs, ys, r, o', es, ep, ho, hx, hdt, he, _⟩, _⟩ := I.hok a _ h1
    rw [hd] at ho; cases ho
    exact ⟨od, _, es, ep, _, _, ⟨h1, hd, hx, hdt, hs, .of (by rw [he]; exact ent_n r)⟩, denP_n l, by simp [itemsO], by simp [keysO]⟩
  | _ => cases hl
theorem DenP.stay {p' : List Addr} {H' : Hp} (z : Stays p H p' H') : ∀ {qs : List (Mv × Mv)} {ks : List (V × V)}, DenP G p H qs ks → DenP G p' H' qs ks
  | _, _, .nil => .nil
  | _, _, .cons r t => .cons ⟨r.1.stay z, r.2.stay z⟩ (DenP.stay z t)
theorem paired_at' {α β : Type} {R : α → β → Prop} : ∀ {l : List α} {m : List β}, Paired R l m → ∀ {i : Nat} {a : α}, l[i]? = some a → ∃ b, m[i]? = some b ∧ R a b
  | _, _, .nil, i, b, h => by simp at h
  | _, _, .cons r t, 0, b, h => by simp at h; subst h; exact ⟨_, rfl, r⟩
  | _, _, .cons r t, i + 1, b, h => by simpa using paired_at' t (i := i) (by simpa using h)
theorem itr_items {p0 : List Addr} {H0 : Hp} {d : Addr} {o : Obj} {u : HO} {ks : List (V × V)} {qs : List (Mv × Mv)} (h : H0 d = some (.frz o u)) (l : DenP G p0 H0 qs ks) : ItR G (ItM d o u ks) (.seq (qs.map fun q => .tup [q.1, q.2])) p0 H0 := by
  intro p s H i S st fz
  have hl := Paired.length l
  constructor
  · intro q
    have q' : (qs.map fun q => Mv.tup [q.1, q.2])[i]? = none := by simpa [It0.at, lget_eq] using q
    have := List.getElem?_eq_none_iff.mp q'
    rw [List.length_map] at this
    exact ⟨fz d o u h, by omega⟩
  · intro w q
    have q' : (qs.map fun q => Mv.tup [q.1, q.2])[i]? = some w := by simpa [It0.at, lget_eq] using q
    rw [List.getElem?_map] at q'
    obtain ⟨q0, g1, g2⟩ := Option.map_eq_some_iff.mp q'
    subst g2
    obtain ⟨kv, g3, g4⟩ := paired_at' (l.stay st) g1
    refine ⟨⟨fz d o u h, (List.getElem?_eq_some_iff.mp g3).1⟩, fun v H' yl => ?_⟩
    obtain ⟨T, kv', e1, rfl, hT, rfl⟩ := yl
    rw [g3] at e1; cases e1
    have f := fra_new (p := p) (o := .tup [kv.1, kv.2]) hT
    exact ⟨S.fra_new hT, f, .tup (SqT.of upd_same) (.cons (g4.1.fra S f) (.cons (g4.2.fra S f) .nil))⟩
theorem itr_keys {p0 : List Addr} {H0 : Hp} {d : Addr} {o : Obj} {u : HO} {ks : List (V × V)} {qs : List (Mv × Mv)} (h : H0 d = some (.frz o u)) (l : DenP G p0 H0 qs ks) : ItR G (ItKy d o u ks) (.seq (qs.map (·.1))) p0 H0 := by
  intro p s H i S st fz
  have hl := Paired.length l
  constructor
  · intro q
    have q' : (qs.map (·.1))[i]? = none := by simpa [It0.at, lget_eq] using q
    have := List.getElem?_eq_none_iff.mp q'
    rw [List.length_map] at this
    exact ⟨fz d o u h, by omega⟩
  · intro w q
    have q' : (qs.map (·.1))[i]? = some w := by simpa [It0.at, lget_eq] using q
    rw [List.getElem?_map] at q'
    obtain ⟨q0, g1, g2⟩ := Option.map_eq_some_iff.mp q'
    subst g2
    obtain ⟨kv, g3, g4⟩ := paired_at' (l.stay st) g1
    refine ⟨⟨fz d o u h, (List.getElem?_eq_some_iff.mp g3).1⟩, fun v H' yl => ?_⟩
    obtain ⟨rfl, kv', e1, rfl⟩ := yl
    rw [g3] at e1; cases e1
    exact ⟨S, Fra.refl, g4.1⟩
end
/-! ### e.items(), a dict by its keys -/
section
variable {X : Cx} {G : Mg} {e : Expr} {apos cpos : Pos}
noncomputable def miD (D : Fe) : Fi := fun r s => (D r s).ob fun x => match x.1 with
  | .ref n => match x.2.get n with
    | some o => (itemsO o).om fun ws => (.seq ws, x.2)
    | none => none
  | _ => none
noncomputable def miDk (D : Fe) : Fi := fun r s => (D r s).ob fun x => match x.1 with
  | .ref n => match x.2.get n with
    | some o => (keysO o).om fun ws => (.seq ws, x.2)
    | none => none
  | _ => none
theorem itemsO_lock {o : Mo} {ws : List Mv} (h : itemsO o = some ws) : unl o = false := by
  cases o <;> first | rfl | cases h
theorem keysO_lock {o : Mo} {ws : List Mv} (h : keysO o = some ws) : unl o = false := by
  cases o <;> first | rfl | cases h
theorem im_items {elts : List Expr} {kk : Nat} {tpos : Pos} {D : Fe} (he : PE X e (tI G D)) (hbase : attributeBase e "items" X.env (eval e X.env) = eval e X.env := by rfl) (hline : (apos.endLine == cpos.line) = true := by rfl) :
    PI X (.Tuple elts kk tpos) (.Call (.Attribute e "items" apos) [] [] cpos) (tIt G (miD D)) := by
  refine ⟨fun pins s σ H R I ⟨p, ms, r, it, ms', S, E, q, k⟩ => ?_⟩
  obtain ⟨⟨x, s1⟩, q1, q2⟩ := ob_some.mp q
  refine wpAny_Call_method (T := "dict") (id := "dict.items") hbase rfl hline F.plainAttrs_dict F.slot_dict_items F.type_dict_items (thn (he.run pins s σ H (fun v1 H1 => ∃ p1, Sim G p1 s1 H1 ∧ Fra p H p1 H1 ∧ Den G p1 H1 x v1) I ⟨p, ms, r, x, s1, S, E, q1, fun p1 v1 H1 S1 f1 d1 => ⟨p1, S1, f1, d1⟩⟩) fun uv t1 ⟨vx, H1, I1, rx, p1, S1, f1, d1⟩ => ?_)
  cases x with
  | ref n =>
    cases d1
    rename_i ad hn
    cases rx
    simp only at q2
    cases e1 : s1.get n with
    | none => rw [e1] at q2; cases q2
    | some o =>
      rw [e1] at q2
      obtain ⟨ws, q3, q4⟩ := omap_some.mp q2
      cases q4
      obtain ⟨od, u, es, ep, ks, qs, L, dp, i1, i2⟩ := lkd_of S1 hn e1 (itemsO_lock q3) I1
      rw [i1] at q3; cases q3
      have raw : t1.heap.DictRaw ad es ep := ⟨od, L.get, L.ex, L.da⟩
      refine ⟨raw.typeIs, fun b eb => by cases eb; exact ⟨od, L.get, L.ex.2.1⟩, ?_⟩
      have I2 : Inv X pins σ H1 { t1 with heap := t1.heap.push { cls := .type "dict_items", data := .fields #[.ref ad] } } := I1.kept (t' := t1.toks) fun b ob q => Heap.get?_push_of_some _ q
      have fin : wpAny (model X.prog X.w) X.A (pyIter (.ref t1.heap.objs.size)) (PIE X pins σ (.Tuple elts kk tpos) R) X.xe { t1 with heap := t1.heap.push { cls := .type "dict_items", data := .fields #[.ref ad] } } := by
        refine wpAny_pyIter_items_raw (d := ad) (es := es) (ep := ep) ⟨_, Heap.get?_push_size _ rfl, rfl, rfl⟩ (raw.at fun _ q => Heap.get?_push_of_some _ q) (pi_one (tk := t1.toks) I2 _ (turn_itM _ L.da L.ex L.R) ⟨.none, .none, ?_⟩ (k p1 H1 _ S1 f1 (itr_items L.at_ dp)))
        rw [← L.R.sz]
        exact Heap.get?_push_size _ rfl
      show wpAny _ _ (callWith cpos (.builtin "dict.items") [.ref ad] [] []) _ X.xe t1
      exact method_meetsIn F.slot_dict_items F.entry_dict_items rfl (PySem.evalArgs_none ⟨rfl, raw.typeIs, F.args_dict_items_1 _, _, meets_dict_items_raw ad L.sys, ⟨es, ep, raw⟩, fin⟩)
  | _ => cases q2
theorem im_dkeys {tg : Expr} {D : Fe} (he : PE X e (tI G D)) : PI X tg e (tIt G (miDk D)) := by
  refine ⟨fun pins s σ H R I ⟨p, ms, r, it, ms', S, E, q, k⟩ => ?_⟩
  obtain ⟨⟨x, s1⟩, q1, q2⟩ := ob_some.mp q
  refine thn (he.run pins s σ H (fun v1 H1 => ∃ p1, Sim G p1 s1 H1 ∧ Fra p H p1 H1 ∧ Den G p1 H1 x v1) I ⟨p, ms, r, x, s1, S, E, q1, fun p1 v1 H1 S1 f1 d1 => ⟨p1, S1, f1, d1⟩⟩) fun uv t1 ⟨vx, H1, I1, rx, p1, S1, f1, d1⟩ => ?_
  cases x with
  | ref n =>
    cases d1
    rename_i ad hn
    cases rx
    simp only at q2
    cases e1 : s1.get n with
    | none => rw [e1] at q2; cases q2
    | some o =>
      rw [e1] at q2
      obtain ⟨ws, q3, q4⟩ := omap_some.mp q2
      cases q4
      obtain ⟨od, u, es, ep, ks, qs, L, dp, i1, i2⟩ := lkd_of S1 hn e1 (keysO_lock q3) I1
      rw [i2] at q3; cases q3
      refine iter_keys L.sys L.get L.ex L.da (pi_one (tk := t1.toks) I1 _ (turn_itKy _ L.da L.ex L.R) ⟨_, Heap.get?_push_size _ rfl, rfl, ?_⟩ (k p1 H1 _ S1 f1 (itr_keys L.at_ dp)))
      rw [L.R.sz] <;> rfl
  | _ => cases q2
end
/-! ### the lock -/
noncomputable def lockO : Mo → Option Mo
  | .dk kvs => some (.lk kvs)
  | .dn kvs => some (.ln kvs)
  | _ => none
noncomputable def unlockO : Mo → Option Mo
  | .lk kvs => some (.dk kvs)
  | .ln kvs => some (.dn kvs)
  | _ => none
/-- the dict that D tells is locked while E is asked -/
noncomputable def mlock (D : Fe) (E : Fe) : Fe := fun r s => (D r s).ob fun x => match x.1 with
  | .ref n => match s.get n with
    | some o => (lockO o).ob fun lo => (E r (s.put n lo)).ob fun y => match y.2.get n with
      | some o2 => (unlockO o2).om fun o3 => (y.1, y.2.put n o3)
      | none => none
    | none => none
  | _ => none
noncomputable def slock (D : Fe) (B : Fs) : Fs := fun r s => (D r s).ob fun x => match x.1 with
  | .ref n => match s.get n with
    | some o => (lockO o).ob fun lo => (B r (s.put n lo)).ob fun y => match y.2.2.get n with
      | some o2 => (unlockO o2).om fun o3 => (y.1, y.2.1, y.2.2.put n o3)
      | none => none
    | none => none
  | _ => none
section
variable {X : Cx} {G : Mg} {e : Expr} {p : List Addr} {H : Hp}
theorem lock_den {a : Addr} {o lo : Mo} {u : HO} (d : DenO G p H a o u) (h : lockO o = some lo) : Mut (some u) ∧ (∀ od, DenO G p H a lo (.frz od u)) ∧ unl o = true ∧ ∀ ob v, u ≠ .frz ob v := by
  cases o with
  | dk kvs => cases h; obtain ⟨kvs', rfl, c⟩ := d; exact ⟨trivial, fun od => ⟨od, kvs', rfl, c⟩, rfl, fun _ _ z => by cases z⟩
  | dn kvs => cases h; obtain ⟨xs, rfl, l⟩ := d; exact ⟨trivial, fun od => ⟨od, xs, rfl, l⟩, rfl, fun _ _ z => by cases z⟩
  | _ => cases h
theorem Sim.unlock {p' : List Addr} {s' : Ms} {H' : Hp} {n : Nat} {a : Addr} {o2 o3 : Mo} {od : Obj} {u : HO} (S : Sim G p' s' H') (hn : p'[n]? = some a) (e : s'.get n = some o2) (h : unlockO o2 = some o3) (hf : H' a = some (.frz od u)) :
    Sim G p' (s'.put n o3) (upd H' a u) ∧ Stays p' H' p' (upd H' a u) ∧ ∀ vs, u ≠ .tup vs := by
  obtain ⟨ho, h1, d⟩ := S.get hn e
  rw [hf] at h1; cases h1
  have d3 : DenO G p' H' a o3 u ∧ ∀ vs, u ≠ .tup vs := by
    cases o2 with
    | lk kvs => cases h; obtain ⟨od', kvs', z, c⟩ := d; cases z; exact ⟨⟨kvs', rfl, c⟩, fun _ z => by cases z⟩
    | ln kvs => cases h; obtain ⟨od', xs, z, l⟩ := d; cases z; exact ⟨⟨xs, rfl, l⟩, fun _ z => by cases z⟩
    | _ => cases h
  have nsq : ¬ SqU u := by
    cases o2 with
    | lk kvs => obtain ⟨od', kvs', z, c⟩ := d; cases z; exact fun z => z
    | ln kvs => obtain ⟨od', xs, z, l⟩ := d; cases z; exact fun z => z
    | _ => cases h
  have st : Stays p' H' p' (upd H' a u) := ⟨fun _ _ e => e, fun b vs e => by rw [upd_ne (by rintro rfl; rw [hf] at e; cases e)]; exact e,
    fun b o v hv e => by rw [upd_ne (by rintro rfl; rw [hf] at e; cases e; exact nsq hv)]; exact e⟩
  have g : ∀ m, (s'.put n o3).get m = if m = n then some o3 else s'.get m := fun m => Mt.get_set s'.t n o3 m
  have hlt : n < s'.sz := by rw [← S.len]; exact (List.getElem?_eq_some_iff.mp hn).1
  refine ⟨⟨S.len, S.nd, fun m b hb => ?_, fun m hm => ?_⟩, st, d3.2⟩
  · by_cases hmn : m = n
    · subst hmn
      rw [hn] at hb; cases hb
      exact ⟨o3, u, by rw [g, if_pos rfl], upd_same, d3.1.stay st⟩
    · obtain ⟨o1, ho1, q1, q2, q3⟩ := S.ob m b hb
      have hne : b ≠ a := fun z => hmn (nodup_at S.nd (z ▸ hb) hn)
      exact ⟨o1, ho1, by rw [g, if_neg hmn]; exact q1, by rw [upd_ne hne]; exact q2, q3.stay st⟩
  · rw [g, if_neg (by have : s'.sz ≤ m := hm; omega)]
    exact S.out m hm
theorem Fra.unlock {p' : List Addr} {H' : Hp} {a : Addr} {od : Obj} {u : HO} (ha : a ∈ p) (hu : H a = some u) (nf : ∀ ob v, u ≠ .frz ob v) (f : Fra p (upd H a (.frz od u)) p' H') : Fra p H p' (upd H' a u) := by
  obtain ⟨q, e, hq⟩ := f.pre
  refine ⟨⟨q, e, fun b hb np => ?_⟩, fun b o eb nb => ?_, fun b o v eb => ?_⟩
  · have := hq b hb np
    rwa [upd_ne (by rintro rfl; exact np ha)] at this
  · have hne : b ≠ a := by rintro rfl; exact nb ha
    rw [upd_ne hne]
    exact f.kee b o (by rw [upd_ne hne]; exact eb) nb
  · have hne : b ≠ a := by rintro rfl; rw [hu] at eb; exact nf o v (Option.some.inj eb)
    rw [upd_ne hne]
    exact f.frz b o v (by rw [upd_ne hne]; exact eb)
theorem pm_lock {D E : Fe} (h : PE X e (tI G E)) : PE X e (tI G (mlock D E)) := pe_imp (pe_lock h) fun σ H Q ⟨p, s, r, w, s', S, Er, q, k⟩ => by
  obtain ⟨⟨x, s1⟩, q1, q2⟩ := ob_some.mp q
  cases x with
  | ref n =>
    simp only at q2
    cases e1 : s.get n with
    | none => rw [e1] at q2; cases q2
    | some o =>
      rw [e1] at q2
      obtain ⟨lo, q3, q4⟩ := ob_some.mp q2
      obtain ⟨⟨y, s2⟩, q5, q6⟩ := ob_some.mp q4
      have hlt : n < s.sz := by
        rcases Nat.lt_or_ge n s.sz with h | h
        · exact h
        · rw [S.out n h] at e1; cases e1
      obtain ⟨a, hn⟩ : ∃ a, p[n]? = some a := ⟨p[n]'(by rw [S.len]; exact hlt), List.getElem?_eq_getElem (by rw [S.len]; exact hlt)⟩
      obtain ⟨u, hu, du⟩ := S.get hn e1
      obtain ⟨m1, m2, m3, m4⟩ := lock_den du q3
      refine ⟨a, u, hu, m1, fun od => ?_⟩
      obtain ⟨S1, f1⟩ := S.put hn e1 m3 (fun vs z => by cases z) (m2 od)
      refine ⟨p, _, r, y, s2, S1, Er.fra S f1, q5, fun p2 v2 H2 S2 f2 d2 => ?_⟩
      have hf : H2 a = some (.frz od u) := f2.frz a od u upd_same
      simp only at q6
      cases e2 : s2.get n with
      | none => rw [e2] at q6; cases q6
      | some o2 =>
        rw [e2] at q6
        obtain ⟨o3, q7, q8⟩ := omap_some.mp q6
        cases q8
        obtain ⟨S3, st, _⟩ := S2.unlock (f2.at hn) e2 q7 hf
        exact ⟨hf, k p2 v2 _ S3 (Fra.unlock (List.mem_of_getElem? hn) hu m4 f2) (d2.stay st)⟩
  | _ => cases q2
theorem sm_lock {st : Stmt} {D : Fe} {B : Fs} (h : PS X st (tS G B)) : PS X st (tS G (slock D B)) := ps_imp (ps_lock h) fun Dn σ H ⟨p, s, r, fl, r', s', S, Er, q, k⟩ => by
  obtain ⟨⟨x, s1⟩, q1, q2⟩ := ob_some.mp q
  cases x with
  | ref n =>
    simp only at q2
    cases e1 : s.get n with
    | none => rw [e1] at q2; cases q2
    | some o =>
      rw [e1] at q2
      obtain ⟨lo, q3, q4⟩ := ob_some.mp q2
      obtain ⟨⟨y, r2, s2⟩, q5, q6⟩ := ob_some.mp q4
      have hlt : n < s.sz := by
        rcases Nat.lt_or_ge n s.sz with h | h
        · exact h
        · rw [S.out n h] at e1; cases e1
      obtain ⟨a, hn⟩ : ∃ a, p[n]? = some a := ⟨p[n]'(by rw [S.len]; exact hlt), List.getElem?_eq_getElem (by rw [S.len]; exact hlt)⟩
      obtain ⟨u, hu, du⟩ := S.get hn e1
      obtain ⟨m1, m2, m3, m4⟩ := lock_den du q3
      refine ⟨a, u, hu, m1, fun od => ?_⟩
      obtain ⟨S1, f1⟩ := S.put hn e1 m3 (fun vs z => by cases z) (m2 od)
      refine ⟨p, _, r, y, r2, s2, S1, Er.fra S f1, q5, fun p2 H2 S2 f2 => ?_⟩
      have hf : H2 a = some (.frz od u) := f2.frz a od u upd_same
      simp only at q6
      cases e2 : s2.get n with
      | none => rw [e2] at q6; cases q6
      | some o2 =>
        rw [e2] at q6
        obtain ⟨o3, q7, q8⟩ := omap_some.mp q6
        cases q8
        obtain ⟨S3, st, _⟩ := S2.unlock (f2.at hn) e2 q7 hf
        have kk := k p2 _ S3 (Fra.unlock (List.mem_of_getElem? hn) hu m4 f2)
        have Es : ∀ σ2, EnvR G p2 H2 r' σ2 → EnvR G p2 (upd H2 a u) r' σ2 := fun σ2 E2 => ⟨E2.len, fun i w hw => let ⟨v, q, d⟩ := E2.get i w hw; ⟨v, q, d.stay st⟩⟩
        cases fl with
        | nx => exact fun σ2 E2 => ⟨hf, kk σ2 (Es σ2 E2)⟩
        | bk => exact fun σ2 E2 => ⟨hf, kk σ2 (Es σ2 E2)⟩
        | ct => exact fun σ2 E2 => ⟨hf, kk σ2 (Es σ2 E2)⟩
        | rt w => exact fun v d => ⟨hf, kk v (d.stay st)⟩
  | _ => cases q2
end

end
section
/-! ### dict comprehensions, keys of any kind -/
section
variable {X : Cx} {G : Mg}
/-- one turn's end: the entry is stored, or nothing is -/
def tDcM (G : Mg) (X : Cx) (wi : TI) (g : TG) (tt : TT) (tk tv : TE) (vs : List Nat) : TE := fun σ H Q => wi σ H fun J H1 => ∀ D, H1 D = none → ∃ W : Nat → Nat → Hp → Prop, (∃ m, W 0 m (upd H1 D (.dK []))) ∧ ∀ i m H, W i m H →
  (J.stop i H ∧ Q (.ref D) H) ∨ (J.go i H ∧ ∃ Nx : Hp → Prop, (∀ H', Nx H' → ∃ m', m' < m ∧ W (i + 1) m' H') ∧ ∀ x H', J.yld i H x H' → g x (L2.wipe σ vs) H' fun σ2 H2 => L2.wipe σ2 vs = L2.wipe σ vs ∧ tt σ2 H2 fun b H3 =>
    if b = true then tk σ2 H3 fun y H4 => tv σ2 H4 fun z H5 => ∃ ho', DPA G X H5 D y z ho' ∧ Nx (upd H5 D ho') else Nx H3)
abbrev InBlk (X : Cx) (scope : Scope) (P : Cx → Prop) : Prop := ∀ (s : Shared) (H : Hp) (C : Addr) (cl : List (Str × Addr)) (fp : List Addr), P (X.blk s H scope (compEnvC scope cl C X.env) fp)
theorem dcM_core {pins : List (Addr × Obj)} {s : Shared} {σ : L2.St} {H : Hp} {Q : VK} {kx vx tg iter : Expr} {ifs : List Expr} {scope : Scope} {own : List (Str × Nat)} {pos pos' : Pos} {wi : TI} {g : TG} {tt : TT} {tk tv : TE} {use : Option (Value → Sem Unit)} {Qf : Value → Shared → Prop}
    (hu : X.A.units + 64 < cLine) (hK : X.K = G.K) (hc : X.calm = true) (hN : X.N.Nodup) (I : Inv X pins σ H s) (hi : PI X tg iter wi) (ok : BlkOk X.N X.env.scope scope own)
    (hg : InBlk X scope fun Y => PG Y tg g) (ht : InBlk X scope fun Y => PTs Y ifs tt) (hk : InBlk X scope fun Y => PE Y kx tk) (he : InBlk X scope fun Y => PE Y vx tv) (hs : ∀ x, foldedSetIterable iter X.env x = pure x)
    (h : tDcM G X wi g tt tk tv (own.map (·.2)) σ H Q)
    (end_ : ∀ D C t m H', Inv X pins σ H' t → Q (.ref D) H' → t.heap.Ns C m → FpOk X pins H' C → compPost (model X.prog X.w) X.A X.xe use Qf (.ref D) C (.ok .next) t) :
    wpAny (model X.prog X.w) X.A (comprehension (.DictComp kx vx [⟨tg, iter, ifs, 0⟩] scope pos) scope X.env pos' newDict false (eval iter X.env) use) Qf X.xe s := by
  have cells : ∀ y ∈ scope.names, y.2 = .free → ∃ c, X.env.cells.lookup y.1 = some c := fun y hy e =>
    (ok.free y hy e).elim (fun k => I.ok.has _ (.inl k)) fun k => I.ok.has _ (.inr k)
  refine wpAny_comprehension_free (use := use) rfl hs (closure_ok cells) ok.kind (fun y hy e => by rw [ok.uniq y hy, e]) (thn (hi.run pins s σ H _ I h) fun _ _ hx => thn hx fun _ s2 h2 => ?_)
  obtain ⟨it, fp, tn, J, H2, rfl, I2, T, st2, f2, q⟩ := h2
  refine wpAny_newObj_type (newEnv_comp ?_)
  generalize hD : s2.heap.objs.size = D
  have newD : H2 D = none := I2.hok.fresh (Nat.le_of_eq hD)
  obtain ⟨W, ⟨m0, w0⟩, turn⟩ := q D newD
  generalize hs3 : ({ s2 with heap := s2.heap.push { cls := .type "dict", data := .dict #[] } } : Shared) = s3
  have hp3 : s3.heap = s2.heap.push { cls := .type "dict", data := .dict #[] } := by rw [← hs3]
  have I3 : Inv X pins σ (upd H2 D (.dK [])) s3 := by
    rw [← hs3]
    exact I2.laid (t' := s2.toks) (fun _ _ z => Heap.get?_push_of_some _ z) (Nat.le_of_eq hD) (hD ▸ dk_empty s2.heap I2.big)
  have below : ∀ b ∈ fp, b < s2.heap.objs.size := fun b hb => let ⟨_, z, _⟩ := T.obj _ _ st2 b hb; Heap.lt_size z
  have f3 : ∀ b ∈ fp, FpOk X pins (upd H2 D (.dK [])) b ∧ b < s3.heap.objs.size := fun b hb =>
    ⟨⟨(upd_ne (by rw [← hD]; exact Nat.ne_of_lt (below b hb))).trans (f2 b hb).1, (f2 b hb).2⟩, by rw [hp3, Heap.size_push]; exact Nat.lt_succ_of_lt (below b hb)⟩
  have st3 : tn 0 s3.heap := T.keep _ _ _ st2 fun _ _ _ z => hp3 ▸ Heap.get?_push_of_some _ z
  have I4 := block_start I3 ok hN f3
  have tg' := hg s3 (upd H2 D (.dK [])) s3.heap.objs.size (cellsFrom (s3.heap.objs.size + 1) scope.names (cloFrom X.env.cells scope.names [])) fp
  have if' := ht s3 (upd H2 D (.dK [])) s3.heap.objs.size (cellsFrom (s3.heap.objs.size + 1) scope.names (cloFrom X.env.cells scope.names [])) fp
  have ky' := hk s3 (upd H2 D (.dK [])) s3.heap.objs.size (cellsFrom (s3.heap.objs.size + 1) scope.names (cloFrom X.env.cells scope.names [])) fp
  have va' := he s3 (upd H2 D (.dK [])) s3.heap.objs.size (cellsFrom (s3.heap.objs.size + 1) scope.names (cloFrom X.env.cells scope.names [])) fp
  show codeAny _ _ (.compStart (.DictComp kx vx [⟨tg, iter, ifs, 0⟩] scope pos) 0 (.ref it) (.ref D) (compEnvC scope (cellsFrom (s3.heap.objs.size + 1) scope.names (cloFrom X.env.cells scope.names [])) s3.heap.objs.size X.env)) (compPost (model X.prog X.w) X.A X.xe use Qf (.ref D) s3.heap.objs.size) { s3 with heap := pushCells (s3.heap.push { cls := .type "dict", data := .dict #[] }) scope.names }
  have idle : ∀ b ∈ fp, (upd H2 D (.dK [])) b = none := fun b hb => (f3 b hb).1.1
  generalize hce : compEnvC scope (cellsFrom (s3.heap.objs.size + 1) scope.names (cloFrom X.env.cells scope.names [])) s3.heap.objs.size X.env = ce at I4 tg' if' ky' va' ⊢
  have cL : ce.locals = s3.heap.objs.size := by subst hce; rfl
  generalize hH3 : upd H2 D (.dK []) = H3 at I3 I4 tg' if' ky' va' w0 idle f3
  generalize hs4 : ({ s3 with heap := pushCells (s3.heap.push { cls := .type "dict", data := .dict #[] }) scope.names } : Shared) = s4 at I4 ⊢
  have st4 : tn 0 s4.heap := T.keep _ _ _ st3 fun b _ o z => by rw [← hs4]; exact pushCells_keeps _ _ _ _ (Heap.get?_push_of_some _ z)
  generalize hY : X.blk s3 H3 scope ce fp = Y at I4 tg' if' ky' va'
  have free' : ∀ {σ' : L2.St} {H' : Hp} {s' : Shared}, Inv Y [] σ' H' s' → (∀ b ∈ fp, H' b = none) → ∀ b ∈ fp, FpOk Y [] H' b := fun {σ' H' s'} I' hn b hb => by
    subst hY
    exact ⟨hn b hb, (I'.ok.exf b hb).1, I'.ok.exfs b hb, .inl hb, fun x c e => (I'.ok.exf b hb).2 x c e, fun p hp => absurd (show p ∈ ([] : List (Addr × Obj)) ++ [] from hp) (by simp)⟩
  have loop : codeAny (model X.prog X.w) X.A (.compLoop (.DictComp kx vx [⟨tg, iter, ifs, 0⟩] scope pos) 0 (.ref it) (.ref D) ce) (compPost (model X.prog X.w) X.A X.xe use Qf (.ref D) s3.heap.objs.size) s4 := by
    subst hY
    refine compLoop_anyD (fun n s' => ∃ i H', Inv (X.blk s3 H3 scope ce fp) [] (L2.wipe σ (own.map (·.2))) H' s' ∧ tn i s'.heap ∧ (∀ b ∈ fp, H' b = none) ∧ W i n H') ?_ m0 ⟨0, H3, I4, st4, idle, w0⟩
    rintro n s5 ⟨i, H5, I5, st5, n5, w5⟩
    rcases turn i n H5 w5 with ⟨stop, qq⟩ | ⟨go, Nx, hNx, step⟩
    · refine thnF (T.done (X.blk s3 H3 scope ce fp) rfl rfl rfl hc i [] s5 _ H5 (fun _ _ => False) I5 (free' I5 n5) st5 stop) fun r s6 ⟨hr, I6⟩ => ?_
      subst hr
      have I7 : Inv X pins σ H5 s6 := I3.call' (ch := fp) I6.os I6.base I6.hok I6.bare fun b hb => let z := (f3 b hb).1.2; ⟨z.2.2.1, z.1, z.2.2.2.1, z.2.2.2.2⟩
      have nC : H5 s3.heap.objs.size = none := cL ▸ (I6.free : H5 ce.locals = none)
      obtain ⟨m, hn, _⟩ := I6.loc
      exact end_ D _ s6 m H5 I7 qq (cL ▸ (show s6.heap.Ns ce.locals m from hn)) (I3.fpOk (Nat.le_refl _) nC)
    · refine thnF (T.item (X.blk s3 H3 scope ce fp) rfl rfl rfl hc i [] s5 _ H5 (fun _ _ => False) I5 (free' I5 n5) st5 go) fun r s6 ⟨u, hr, h6⟩ => ?_
      subst hr
      refine thnF h6 fun _ s7 ⟨x, H7, I7, r7, y7, st7, n7⟩ => ?_
      refine thnF (tg'.run _ s7 _ H7 x u _ (I7.pinned (free' I7 n7) (T.obj _ _ st7)) r7 (step x H7 y7)) fun _ s8 ⟨σ8, H8, I8, hw8, q8⟩ => ?_
      refine thnF (if'.run _ s8 σ8 H8 _ I8 q8) fun b s9 ⟨H9, I9, q9⟩ => ?_
      have close : ∀ {s' : Shared} {H' : Hp}, Inv (X.blk s3 H3 scope ce fp) ([] ++ pinsAt fp s7.heap) σ8 H' s' → Nx H' → ∃ m, m < n ∧ ∃ i H', Inv (X.blk s3 H3 scope ce fp) [] (L2.wipe σ (own.map (·.2))) H' s' ∧ tn i s'.heap ∧ (∀ b ∈ fp, H' b = none) ∧ W i m H' := fun {s' H'} I' nx => by
        obtain ⟨m', hm, w'⟩ := hNx H' nx
        have pinned : ∀ b ∈ fp, ∀ o, s7.heap.get? b = some o → s'.heap.get? b = some o ∧ H' b = none := fun b hb o z =>
          let y := I'.pin (b, o) (List.mem_append_right _ (List.mem_append_right _ (mem_pinsAt hb z)))
          ⟨y.1, y.2.1⟩
        refine ⟨m', hm, i + 1, H', (I'.unpinned (pins := [])).weak (by rw [← hw8, wipe_length]) (fun j v z => (wipe_some (hw8 ▸ z)).1), T.keep _ _ _ st7 fun b hb o z => (pinned b hb o z).1, fun b hb => ?_, w'⟩
        obtain ⟨o, z, _⟩ := T.obj _ _ st7 b hb
        exact (pinned b hb o z).2
      cases b with
      | false => exact close I9 q9
      | true =>
        refine thnF (ky'.run _ s9 σ8 H9 _ I9 q9) fun kv s10 ⟨yk, H10, I10, r10, q10⟩ => ?_
        refine thnF (va'.run _ s10 σ8 H10 _ I10 q10) fun vv s11 ⟨yv, H11, I11, r11, ho', gp, nx⟩ => ?_
        exact dpa_dictSet (X := X.blk s3 H3 scope ce fp) (G := G) hu I11 hK gp r10 r11 fun s12 I12 => close I12 nx
  exact codeAny_compStart_dict loop (T.self X.A 0 _ _ _ st4 loop)
theorem pe_dcM {kx vx tg iter : Expr} {ifs : List Expr} {scope : Scope} {own : List (Str × Nat)} {pos : Pos} {wi : TI} {g : TG} {tt : TT} {tk tv : TE} (hu : X.A.units + 64 < cLine) (hK : X.K = G.K) (hc : X.calm = true) (hN : X.N.Nodup) (hi : PI X tg iter wi) (ok : BlkOk X.N X.env.scope scope own)
    (hg : InBlk X scope fun Y => PG Y tg g) (ht : InBlk X scope fun Y => PTs Y ifs tt) (hk : InBlk X scope fun Y => PE Y kx tk) (he : InBlk X scope fun Y => PE Y vx tv) (hs : ∀ x, foldedSetIterable iter X.env x = pure x := by intro _; rfl) :
    PE X (.DictComp kx vx [⟨tg, iter, ifs, 0⟩] scope pos) (tDcM G X wi g tt tk tv (own.map (·.2))) := ⟨fun pins s σ H Q I h => by
  rw [arm_eval_DictComp]
  refine dcM_core hu hK hc hN I hi ok hg ht hk he hs h fun D C t m H' I' q hn ⟨c0, c1, _, c3, c4, c5⟩ => ⟨m, hn, fun h8 sb => ?_⟩
  exact ⟨.ref D, H', I'.turned (t' := t.toks) (fun b o hb z => (sb.2 b hb).trans z) c0 c1 c3 c4 c5, rfl, q⟩⟩
/-- y = {..} in a def, y a local name: the store goes ahead of the block's end -/
theorem ps_setDcM {i : Nat} {y : Str} {py : Pos} {kx vx tg iter : Expr} {ifs : List Expr} {scope : Scope} {own : List (Str × Nat)} {pos spos : Pos} {wi : TI} {g : TG} {tt : TT} {tk tv : TE} (hu : X.A.units + 64 < cLine) (hK : X.K = G.K) (hc : X.calm = true) (hN : X.N.Nodup) (hy : X.N[i]? = some y) (hyl : X.env.scope.names.lookup y = some .local)
    (hsw : swapsWith (.DictComp kx vx [⟨tg, iter, ifs, 0⟩] scope pos) (some (.Name y py)) spos.line X.env = pure true) (hi : PI X tg iter wi) (ok : BlkOk X.N X.env.scope scope own)
    (hg : InBlk X scope fun Y => PG Y tg g) (ht : InBlk X scope fun Y => PTs Y ifs tt) (hk : InBlk X scope fun Y => PE Y kx tk) (he : InBlk X scope fun Y => PE Y vx tv) (hs : ∀ x, foldedSetIterable iter X.env x = pure x := by intro _; rfl) :
    PS X (.Assign [.Name y py] (.DictComp kx vx [⟨tg, iter, ifs, 0⟩] scope pos) spos) (tAsg (tDcM G X wi g tt tk tv (own.map (·.2))) (gName i)) := ⟨fun pins s σ H D I h => by
  rw [exec_Assign_Name_used _ _ _ _ hsw]
  refine wpAny_bind (wpAny_standAt (wpAny_bind ?_))
  show wpAny _ X.A (do let _ ← comprehension (.DictComp kx vx [⟨tg, iter, ifs, 0⟩] scope pos) scope X.env (firstIterPos [⟨tg, iter, ifs, 0⟩] pos) newDict false (eval iter X.env) (some (assign (.Name y py) X.env))) _ _ s
  have h' : tDcM G X wi g tt tk tv (own.map (·.2)) σ H (fun x H1 => gName i x σ H1 D.nx) := h
  refine wpAny_bind (thn (dcM_core (Qf := fun _ t => SP X pins D .next t) hu hK hc hN I hi ok hg ht hk he hs h' fun L C t m H' I' q hn ⟨c0, c1, _, c3, c4, c5⟩ => ?_) fun _ t hq => wpAny_pure (wpAny_pure hq))
  show wpAny _ _ (assign (.Name y py) X.env (.ref L)) _ _ _
  refine wpAny_assign_Name (store_ok2 (v := V.ref L) I' hN hy (.inl hyl) rfl (fun t2 I2 ⟨a, sb, ha⟩ => ?_) (.inr hyl))
  have apart : C ≠ a := ha.elim (fun z => by rw [z]; exact c1) fun z e => c4 y a z e.symm
  refine ⟨m, hn.sameBut sb apart, fun h3 sb3 => ?_⟩
  exact ⟨_, H', I2.turned (t' := t2.toks) (fun b o hb z => (sb3.2 b hb).trans z) c0 c1 c3 c4 c5, q⟩⟩
theorem swD_true {kx vx : Expr} {gs : List Comprehension} {scope : Scope} {pos py : Pos} {y : Str} {l : Nat} {env : Env} (hk : env.scope.kind = .function) (hy : env.scope.names.lookup y = some .local) (hl : (py.line == pos.line) = true)
    (ha : (scope.names.any fun (n, k) => n == y && (k == .local || k == .cell)) = false) : swapsWith (.DictComp kx vx gs scope pos) (some (.Name y py)) l env = pure true := by
  have k1 : env.kindOf y = some .local := hy
  have k2 : env.blockKind = .function := by unfold Env.blockKind; rw [hk]; rfl
  unfold swapsWith
  simp only [k2, k1, ha, Expr.pos, hl]
  rfl
end

end
section
/-! ### dict comprehensions in the mirror -/
noncomputable def mdstep (T : Tg) (C : Ft) (K V : Fe) (r : Me) (w : Mv) (acc : Mo) (s : Ms) : Option (Mo × Ms) := (T.asg w r).ob fun r1 => (C r1 s).ob fun c => cond c.1 ((K r1 c.2).ob fun k => (V r1 k.2).ob fun v => (dputO acc k.1 v.1).om fun acc' => (acc', v.2)) (some (acc, c.2))
noncomputable def mdflat (it : It0) (st : Mv → Mo → Ms → Option (Mo × Ms)) (m : Nat) : Nat → Mo → Ms → Option (Mo × Ms) := Nat.rec (motive := fun _ => Nat → Mo → Ms → Option (Mo × Ms)) (fun _ _ _ => none)
  (fun _ ih i acc s => match it.at i s with
    | none => none
    | some none => some (acc, s)
    | some (some w) => (st w acc s).ob fun x => ih (Nat.succ i) x.1 x.2) m
theorem mdflat_succ {it : It0} {st : Mv → Mo → Ms → Option (Mo × Ms)} {m i : Nat} {acc : Mo} {s : Ms} : mdflat it st (m + 1) i acc s = match it.at i s with
    | none => none
    | some none => some (acc, s)
    | some (some w) => (st w acc s).ob fun x => mdflat it st m (i + 1) x.1 x.2 := rfl
noncomputable def newO (o : Mo) (s : Ms) : Option (Mv × Ms) := (s.alloc o).om fun q => (.ref q.1, q.2)
noncomputable def mdc (I : Fi) (T : Tg) (C : Ft) (K V : Fe) (vs : List Nat) : Fe := fun r s => (I r s).ob fun x => (mdflat x.1 (mdstep T C K V (mwipe r vs)) 100000 0 (.dk []) x.2).ob fun y => newO y.1 y.2
section
variable {X : Cx} {G : Mg}
/-- a thing outside of the store is changed -/
theorem Sim.out_upd {p : List Addr} {s : Ms} {H : Hp} {D : Addr} {ho ho' : HO} (S : Sim G p s H) (hD : H D = some ho) (nt : ∀ vs, ho ≠ .tup vs) (nf : ∀ o u, ho ≠ .frz o u) (n : D ∉ p) : Sim G p s (upd H D ho') ∧ Stays p H p (upd H D ho') ∧ ∀ a o u, H a = some (.frz o u) → upd H D ho' a = some (.frz o u) := by
  have fz : ∀ a o u, H a = some (.frz o u) → upd H D ho' a = some (.frz o u) := fun a o u e => by rw [upd_ne (by rintro rfl; rw [hD] at e; exact nf o u (Option.some.inj e))]; exact e
  have st : Stays p H p (upd H D ho') := ⟨fun _ _ e => e, fun a vs e => by rw [upd_ne (by rintro rfl; rw [hD] at e; exact nt vs (Option.some.inj e))]; exact e, fun a o u _ e => fz a o u e⟩
  refine ⟨⟨S.len, S.nd, fun m b hb => ?_, S.out⟩, st, fz⟩
  obtain ⟨o1, ho1, q1, q2, q3⟩ := S.ob m b hb
  have hne : b ≠ D := by rintro rfl; exact n (List.mem_of_getElem? hb)
  exact ⟨o1, ho1, q1, by rw [upd_ne hne]; exact q2, q3.stay st⟩
/-- while the dict at D grows, outside of the store -/
structure MidD (G : Mg) (D : Addr) (p1 : List Addr) (H1 : Hp) (acc : Mo) (p : List Addr) (s : Ms) (H : Hp) : Prop where
  S : Sim G p s H
  f : Fra p1 H1 p H
  n : D ∉ p
  a : ∃ ho, H D = some ho ∧ DenO G p H D acc ho ∧ unl acc = true ∧ ∀ vs, ho ≠ .tup vs
theorem MidD.fra {D : Addr} {p1 p p' : List Addr} {H1 H H' : Hp} {acc : Mo} {s s' : Ms} (M : MidD G D p1 H1 acc p s H) (S' : Sim G p' s' H') (f : Fra p H p' H') : MidD G D p1 H1 acc p' s' H' := by
  obtain ⟨ho, h1, h2, h3, h4⟩ := M.a
  exact ⟨S', M.f.trans f, f.notin h1 M.n, ho, f.kee D _ h1 M.n, h2.stay (f.stays M.S), h3, h4⟩
theorem MidD.start {D : Addr} {p1 : List Addr} {H1 : Hp} {s1 : Ms} (S : Sim G p1 s1 H1) (hD : H1 D = none) : MidD G D p1 H1 (.dk []) p1 s1 (upd H1 D (.dK [])) :=
  ⟨S.fra_new hD, fra_new hD, S.free hD, ⟨_, upd_same, ⟨[], rfl, rfl, .nil⟩, rfl, fun _ z => by cases z⟩⟩
theorem dput_unl {o o' : Mo} {k v : Mv} (h : dputO o k v = some o') : unl o' = true := by
  unfold dputO at h
  cases o with
  | dk kvs =>
    simp only at h
    cases e : key1 k with
    | some ky =>
      rw [e] at h
      simp only at h
      cases e2 : Nat.blt (llen kvs) 16777216 with
      | false => rw [e2] at h; cases h
      | true => rw [e2] at h; cases h; rfl
    | none =>
      rw [e] at h
      cases kvs with
      | cons _ _ => cases h
      | nil => obtain ⟨_, _, g⟩ := omap_some.mp h; subst g; rfl
  | dn kvs =>
    simp only at h
    cases e2 : Nat.blt (llen kvs) 16777216 with
    | false => rw [e2] at h; cases h
    | true => rw [e2] at h; obtain ⟨_, _, g⟩ := omap_some.mp (show (keyT k).om _ = some o' from h); subst g; rfl
  | _ => cases h
theorem MidD.put {D : Addr} {p1 p : List Addr} {H1 H : Hp} {acc acc' : Mo} {s : Ms} {kw w : Mv} {y v : V} (hP : X.prog = G.P) (hw : X.w = G.w) (M : MidD G D p1 H1 acc p s H) (hD : H1 D = none) (q : dputO acc kw w = some acc') (dk : Den G p H kw y) (dv : Den G p H w v) :
    ∃ ho', DPA G X H D y v ho' ∧ MidD G D p1 H1 acc' p s (upd H D ho') := by
  obtain ⟨ho, h1, h2, h3, h4⟩ := M.a
  obtain ⟨ho', g1, g2, g3, _⟩ := dputO_at (X := X) hP hw h1 h2 q dk dv
  obtain ⟨S', st, fz⟩ := M.S.out_upd (ho' := ho') h1 h4 (h2.unl h3) M.n
  refine ⟨ho', g1, S', ⟨M.f.pre, fun a o e n => ?_, fun a o u e => fz a o u (M.f.frz a o u e)⟩, M.n, ho', upd_same, g2.stay st, dput_unl q, g3⟩
  rw [upd_ne (by rintro rfl; rw [hD] at e; cases e)]
  exact M.f.kee a o e n
theorem newO_end {D : Addr} {p1 p : List Addr} {H1 H : Hp} {acc : Mo} {s s' : Ms} {w : Mv} {Q : VK} (M : MidD G D p1 H1 acc p s H) (hD : H1 D = none) (h : newO acc s = some (w, s')) (k : After G p1 H1 w s' Q) : Q (.ref D) H := by
  obtain ⟨ho, h1, h2, _⟩ := M.a
  obtain ⟨⟨n, s1⟩, g1, g2⟩ := omap_some.mp h
  cases g2
  obtain ⟨S', d'⟩ := M.S.add g1 M.n h1 h2
  obtain ⟨q, eq, hq⟩ := M.f.pre
  refine k _ _ _ S' ⟨⟨q ++ [D], by rw [eq, List.append_assoc], fun a ha np => ?_⟩, M.f.kee, M.f.frz⟩ d'
  rcases List.mem_append.mp ha with z | z
  · exact hq a z np
  · rw [List.mem_singleton.mp z]; exact hD
theorem t_dc {I : Fi} {T : Tg} {C : Ft} {K V : Fe} {vs : List Nat} (hP : X.prog = G.P) (hw : X.w = G.w) (hT : ∀ i ∈ T.slots, i ∈ vs) {σ : L2.St} {H : Hp} {Q : VK} (h : tI G (mdc I T C K V vs) σ H Q) : tDcM G X (tIt G I) (tG G T) (tT G C) (tI G K) (tI G V) vs σ H Q := by
  obtain ⟨p, s, r, w, s', S, Er, q, k⟩ := h
  obtain ⟨⟨it, s1⟩, q1, q2⟩ := ob_some.mp q
  obtain ⟨⟨tot, s9⟩, q3, q4⟩ := ob_some.mp q2
  refine ⟨p, s, r, it, s1, S, Er, q1, fun p1 H1 J S1 f1 R D hD => ?_⟩
  have k1 := k.of f1
  have E1 := Er.fra S f1
  refine ⟨fun i m H2 => ∃ p2 s2 acc, MidD G D p1 H1 acc p2 s2 H2 ∧ mdflat it (mdstep T C K V (mwipe r vs)) m i acc s2 = some (tot, s9), ⟨100000, p1, s1, _, MidD.start S1 hD, q3⟩, ?_⟩
  rintro i m H2 ⟨p2, s2, acc, M, q5⟩
  cases m with
  | zero => cases q5
  | succ m =>
    have R2 := R p2 s2 H2 i M.S (M.f.stays S1) M.f.frz
    rw [mdflat_succ] at q5
    cases e : it.at i s2 with
    | none => rw [e] at q5; cases q5
    | some o =>
      cases o with
      | none =>
        rw [e] at q5
        have q5' : some (acc, s2) = some (tot, s9) := q5
        cases q5'
        exact .inl ⟨R2.1 e, newO_end M hD q4 k1⟩
      | some x =>
        rw [e] at q5
        obtain ⟨⟨acc2, s3⟩, q6, q7⟩ := ob_some.mp q5
        obtain ⟨g, y⟩ := R2.2 x e
        refine .inr ⟨g, fun H3 => ∃ p3 s3', MidD G D p1 H1 acc2 p3 s3' H3 ∧ s3' = s3, fun H3 ⟨p3, s3', M3, e3⟩ => ⟨m, Nat.lt_succ_self m, p3, s3', acc2, M3, by rw [e3]; exact q7⟩, fun v H' hy => ?_⟩
        obtain ⟨S2', f2', d⟩ := y v H' hy
        have M2 := M.fra S2' f2'
        obtain ⟨r1, a1, a2⟩ := ob_some.mp q6
        obtain ⟨⟨c, s5⟩, a3, a4⟩ := ob_some.mp a2
        have E2 : EnvR G p2 H' (mwipe r vs) (L2.wipe σ vs) := (((E1.fra S1 M.f).fra M.S f2').wipe vs)
        refine ⟨p2, s2, _, x, r1, S2', E2, d, a1, fun σ2 E3 hs => ⟨?_, p2, s2, r1, c, s5, S2', E3, a3, fun p5 H5 S5 f5 => ?_⟩⟩
        · refine wipe_same ?_ fun i hi => hs i fun z => hi (hT i z)
          rw [← E3.len, asg_len a1]
          have := E2.len
          rw [wipe_length] at this
          exact this
        · have M5 := M2.fra S5 f5
          have E5 := E3.fra S2' f5
          cases c with
          | false =>
            refine itF ?_
            have a4' : some (acc, s5) = some (acc2, s3) := a4
            cases a4'
            exact ⟨p5, _, M5, rfl⟩
          | true =>
            refine itT ?_
            obtain ⟨⟨kk, s6⟩, a5, a6⟩ := ob_some.mp (show (K r1 s5).ob _ = some (acc2, s3) from a4)
            obtain ⟨⟨z, s7⟩, a7, a8⟩ := ob_some.mp a6
            obtain ⟨acc3, a9, a10⟩ := omap_some.mp a8
            cases a10
            refine ⟨p5, s5, r1, kk, s6, S5, E5, a5, fun p6 v6 H6 S6 f6 d6 => ⟨p6, s6, r1, z, s7, S6, E5.fra S5 f6, a7, fun p7 v7 H7 S7 f7 d7 => ?_⟩⟩
            obtain ⟨ho', g1, g2⟩ := ((M5.fra S6 f6).fra S7 f7).put (X := X) hP hw hD a9 (d6.fra S6 f7) d7
            exact ⟨ho', g1, p7, _, g2, rfl⟩
theorem pm_dc {kx vx tg iter : Expr} {ifs : List Expr} {scope : Scope} {own : List (Str × Nat)} {pos : Pos} {I : Fi} {T : Tg} {C : Ft} {K V : Fe} (hu : X.A.units + 64 < cLine) (hc : X.calm = true) (hN : X.N.Nodup) (hi : PI X tg iter (tIt G I)) (ok : BlkOk X.N X.env.scope scope own)
    (hg : InBlk X scope fun Y => PG Y tg (tG G T)) (ht : InBlk X scope fun Y => PTs Y ifs (tT G C)) (hk : InBlk X scope fun Y => PE Y kx (tI G K)) (he : InBlk X scope fun Y => PE Y vx (tI G V)) (hT : ∀ i ∈ T.slots, i ∈ own.map (·.2) := by decide) (hs : ∀ x, foldedSetIterable iter X.env x = pure x := by intro _; rfl)
    (hK : X.K = G.K := by rfl) (hP : X.prog = G.P := by rfl) (hw : X.w = G.w := by rfl) :
    PE X (.DictComp kx vx [⟨tg, iter, ifs, 0⟩] scope pos) (tI G (mdc I T C K V (own.map (·.2)))) := pe_imp (pe_dcM hu hK hc hN hi ok hg ht hk he hs) fun _ _ _ h => t_dc hP hw hT h
theorem sm_setDc {i : Nat} {y : Str} {py : Pos} {kx vx tg iter : Expr} {ifs : List Expr} {scope : Scope} {own : List (Str × Nat)} {pos spos : Pos} {I : Fi} {T : Tg} {C : Ft} {K V : Fe} (hu : X.A.units + 64 < cLine) (hc : X.calm = true) (hN : X.N.Nodup) (hy : X.N[i]? = some y) (hyl : X.env.scope.names.lookup y = some .local)
    (hsw : swapsWith (.DictComp kx vx [⟨tg, iter, ifs, 0⟩] scope pos) (some (.Name y py)) spos.line X.env = pure true) (hi : PI X tg iter (tIt G I)) (ok : BlkOk X.N X.env.scope scope own)
    (hg : InBlk X scope fun Y => PG Y tg (tG G T)) (ht : InBlk X scope fun Y => PTs Y ifs (tT G C)) (hk : InBlk X scope fun Y => PE Y kx (tI G K)) (he : InBlk X scope fun Y => PE Y vx (tI G V)) (hT : ∀ i ∈ T.slots, i ∈ own.map (·.2) := by decide) (hs : ∀ x, foldedSetIterable iter X.env x = pure x := by intro _; rfl)
    (hK : X.K = G.K := by rfl) (hP : X.prog = G.P := by rfl) (hw : X.w = G.w := by rfl) :
    PS X (.Assign [.Name y py] (.DictComp kx vx [⟨tg, iter, ifs, 0⟩] scope pos) spos) (tS G (sset i (mdc I T C K V (own.map (·.2))))) :=
  ps_imp (ps_setDcM hu hK hc hN hy hyl hsw hi ok hg ht hk he hs) fun D σ H ⟨p, s, r, f, r', s', S, E, q, k⟩ => by
    obtain ⟨⟨x, s1⟩, q1, q2⟩ := omap_some.mp q
    cases q2
    exact t_dc hP hw hT ⟨p, s, r, x, s1, S, E, q1, fun p1 v1 H1 S1 f1 d1 => k p1 H1 S1 f1 _ ((E.fra S f1).set d1)⟩
end

end
section
/-! ### further methods of lists; xs[i] += e -/
noncomputable def extW (n : Nat) (xs ws : List Mv) (s : Ms) : Option (Mv × Ms) := match ws with
  | [.ref m] => match s.get m with
    | some (.lst ys) => cond (Nat.ble (llen xs + llen ys) 16777216) (some (.non, s.put n (.lst (lapp xs ys)))) none
    | _ => none
  | _ => none
/-- the first place of a whole number in a list of such ones -/
noncomputable def findI (k : Int) (xs : List Mv) : Option (Nat × List Mv) := List.rec (motive := fun _ => Option (Nat × List Mv)) none
  (fun x r ih => match x with
    | .int i => cond (iEq i k) (some (0, r)) (ih.om fun q => (q.1 + 1, x :: q.2))
    | _ => none) xs
noncomputable def intsOf : List Mv → Option (List Int)
  | [] => some []
  | .int x :: ws => (intsOf ws).om fun r => x :: r
  | _ => none
noncomputable def remW (n : Nat) (xs ws : List Mv) (s : Ms) : Option (Mv × Ms) := match ws with
  | [.int k] => match intsOf xs with
    | some _ => (findI k xs).om fun q => (.non, s.put n (.lst q.2))
    | _ => none
  | _ => none
noncomputable def pop0W (n : Nat) (xs ws : List Mv) (s : Ms) : Option (Mv × Ms) := match ws with
  | [] => (lget xs (Nat.sub (llen xs) 1)).om fun w => (w, s.put n (.lst xs.dropLast))
  | _ => none
noncomputable def sagS (O I A : Fe) (f : Mv → Mv → Ms → Option (Mv × Ms)) : Fs := fun r s => (O r s).ob fun o => (I r o.2).ob fun i => match o.1, i.1 with
  | .ref n, .int (.ofNat k) => match i.2.get n with
    | some (.lst xs) => (lget xs k).ob fun x => (A r i.2).ob fun y => (f x y.1 y.2).ob fun z => match z.2.get n with
      | some (.lst ys) => cond (Nat.blt k (llen ys)) (some (.nx, r, z.2.put n (.lst (lset ys k z.1)))) none
      | _ => none
    | _ => none
  | _, _ => none
section
variable {X : Cx} {G : Mg} {e o : Expr} {pos : Pos}
theorem lm_ext : LmR G extW rExtend := by
  intro p s H n a xs vs ws us w s' Q S hn en ha l hz lw q k
  match ws, lw, q with
  | [.ref m], .cons (.ref hm) .nil, q =>
    rename_i b
    have q' : (match s.get m with
      | some (.lst ys) => cond (Nat.ble (llen xs + llen ys) 16777216) (some (Mv.non, s.put n (.lst (lapp xs ys)))) none
      | _ => none) = some (w, s') := q
    split at q'
    · rename_i ys ey
      cases e : Nat.ble (llen xs + llen ys) 16777216 with
      | false => rw [e] at q'; cases q'
      | true =>
        rw [e] at q'; cases q'
        obtain ⟨ho, hb, us', rfl, l', hz'⟩ := S.get hm ey
        have hlt : vs.length + us'.length ≤ sizeLine := by
          rw [← l.length, ← l'.length, sz_eq, ← llen_eq, ← llen_eq]; exact Nat.le_of_ble_eq_true e
        obtain ⟨S2, f2⟩ := S.put hn en rfl (ho := .lst (vs ++ us')) (o := .lst (lapp xs ys)) (fun _ z => by cases z) ⟨_, rfl, by rw [lapp_eq]; exact l.append l', by rw [List.length_append]; exact hlt⟩
        exact ⟨a, b, vs, us', rfl, rfl, ha, hb, hlt, k p _ _ S2 f2 .non⟩
    · cases q'
theorem intsOf_ok {p : List Addr} {H : Hp} : ∀ {ws : List Mv} {vs : List V} {ns : List Int}, DenL G p H ws vs → intsOf ws = some ns → vs = ns.map V.int
  | [], _, _, .nil, e => by cases e; rfl
  | .int x :: ws, _, _, .cons (.int _) l, e => by
    obtain ⟨r, e1, e2⟩ := omap_some.mp (show (intsOf ws).om _ = _ from e)
    cases e2
    rw [intsOf_ok l e1]; rfl
theorem findI_ok {k : Int} : ∀ {ws : List Mv} {ns : List Int} {j : Nat} {rs : List Mv}, intsOf ws = some ns → findI k ws = some (j, rs) → ns[j]? = some k ∧ (∀ m, m < j → ns[m]? ≠ some k) ∧ rs = ws.eraseIdx j
  | [], _, _, _, _, e => by cases e
  | .int x :: ws, ns, j, rs, h, e => by
    obtain ⟨r, e1, e2⟩ := omap_some.mp (show (intsOf ws).om _ = _ from h)
    cases e2
    have e' : cond (iEq x k) (some (0, ws)) ((findI k ws).om fun q => (q.1 + 1, Mv.int x :: q.2)) = some (j, rs) := e
    cases hx : iEq x k with
    | true =>
      rw [hx] at e'; cases e'
      have : x = k := by rw [iEq_eq] at hx; exact of_decide_eq_true hx
      exact ⟨by rw [this]; rfl, fun m hm => absurd hm (Nat.not_lt_zero _), rfl⟩
    | false =>
      rw [hx] at e'
      obtain ⟨⟨j', rs'⟩, e3, e4⟩ := omap_some.mp (show ((findI k ws).om fun q => (q.1 + 1, Mv.int x :: q.2)) = some (j, rs) from e')
      cases e4
      obtain ⟨h1, h2, h3⟩ := findI_ok e1 e3
      refine ⟨h1, fun m hm => ?_, by rw [h3]; rfl⟩
      cases m with
      | zero =>
        intro z
        have z' : x = k := Option.some.inj z
        rw [iEq_eq, decide_eq_true z'] at hx; cases hx
      | succ m => exact h2 m (Nat.lt_of_succ_lt_succ hm)
theorem lm_rem : LmR G remW rRemI := by
  intro p s H n a xs vs ws us w s' Q S hn en ha l hz lw q k
  match ws, lw, q with
  | [.int i], .cons (.int _) .nil, q =>
    have q' : (match intsOf xs with
      | some _ => (findI i xs).om fun q => (Mv.non, s.put n (.lst q.2))
      | _ => none) = some (w, s') := q
    split at q'
    · rename_i ns ei
      obtain ⟨⟨j, rs⟩, e1, e2⟩ := omap_some.mp q'
      cases e2
      have ev := intsOf_ok l ei
      obtain ⟨h1, h2, h3⟩ := findI_ok ei e1
      subst ev
      obtain ⟨S2, f2⟩ := S.put hn en rfl (ho := .lst ((ns.map V.int).eraseIdx j)) (o := .lst rs) (fun _ z => by cases z) ⟨_, rfl, by rw [h3]; exact l.erase j, Nat.le_trans (List.length_eraseIdx_le ..) hz⟩
      exact ⟨a, ns, i, j, rfl, rfl, ha, h1, h2, by rw [← erase_mapI]; exact k p _ _ S2 f2 .non⟩
    · cases q'
theorem lm_pop0 : LmR G pop0W rPop := by
  intro p s H n a xs vs ws us w s' Q S hn en ha l hz lw q k
  match ws, lw, q with
  | [], .nil, q =>
    obtain ⟨x, g3, g4⟩ := omap_some.mp (show ((lget xs (Nat.sub (llen xs) 1)).om fun w => (w, s.put n (.lst xs.dropLast))) = some (w, s') from q)
    cases g4
    rw [lget_eq, llen_eq] at g3
    obtain ⟨v, g5, d⟩ := l.get g3
    obtain ⟨S2, f2⟩ := S.put hn en rfl (ho := .lst vs.dropLast) (o := .lst xs.dropLast) (fun _ z => by cases z) ⟨_, rfl, by rw [List.dropLast_eq_take, List.dropLast_eq_take, ← l.length]; exact l.take _, Nat.le_trans (by rw [List.length_dropLast]; omega) hz⟩
    exact ⟨a, vs, v, rfl, rfl, ha, by rw [← l.length]; exact g5, k p _ _ S2 f2 (d.fra S f2)⟩
theorem pm_bmL0 {f : Nat → List Mv → List Mv → Ms → Option (Mv × Ms)} {r : V → List V → Hp → VK → Prop} {O : Fe} {name : Str} {apos : Pos} (hf : LmR G f r)
    (h : PE X (.Call (.Attribute o name apos) [] [] pos) (tBM0 X.K "list" r (tI G O))) : PE X (.Call (.Attribute o name apos) [] [] pos) (tI G (mbmL f O mnil)) := pe_imp h fun σ H Q ⟨p, s, rr, w, s', S, E, q, k⟩ => by
  obtain ⟨⟨x, s1⟩, q1, q2⟩ := ob_some.mp q
  refine ⟨p, s, rr, x, s1, S, E, q1, fun p1 v1 H1 S1 f1 d1 => ?_⟩
  cases d1 <;> try (cases q2; done)
  rename_i n a hn
  simp only at q2
  split at q2
  · rename_i zs e
    obtain ⟨ho, h1, vs, rfl, ll, hz⟩ := S1.get hn e
    obtain ⟨⟨ys, s2⟩, q3, q4⟩ := ob_some.mp q2
    cases q3
    simp only at q4
    split at q4
    · rename_i xs e2
      obtain ⟨ho, h2, vs2, rfl, ll2, hz2⟩ := S1.get hn e2
      exact ⟨.inl ⟨rfl, vs, SqL.of h1⟩, hf p1 s1 H1 n a xs vs2 [] [] w s' Q S1 hn e2 h2 ll2 hz2 .nil q4 (k.of f1)⟩
    · cases q4
  · cases q2
/-- xs[k], k from 0 on, by values -/
noncomputable def rGetL (K : PySem.W.Frag) : V → V → Hp → VK → Prop := fun o i H Q => ∃ a vs, ∃ (k : Nat) (v : V), o = .ref a ∧ i = .int (Int.ofNat k) ∧ SqL K H a vs ∧ vs[k]? = some v ∧ Q v H
theorem get_list : PGet X (rGetL X.K) := by
  intro pins s σ H o i ov iv Q I ro ri h
  obtain ⟨a, vs, k, v, rfl, rfl, hq, hv, q⟩ := h
  cases ro
  obtain ⟨t, rfl⟩ := ri
  obtain ⟨its, r, pl, hz⟩ := I.list hq
  obtain ⟨w, ew, rw'⟩ := r.get hv
  have hl := r.length
  have hn := line63
  have hk : k < vs.length := (List.getElem?_eq_some_iff.mp hv).1
  exact wpAny_getItem_list pl.isList (Int.natCast_nonneg _) (by show ((k : Int)) < 2 ^ 63; omega) (by simpa using ew) ⟨v, H, I, rw', q⟩
theorem sm_agS {O I A : Fe} {i : Expr} {tp : Pos} {op : Operator} {f : Mv → Mv → Ms → Option (Mv × Ms)} (h : PS X (.AugAssign (.Subscript o i tp) op e pos) (tAugS (tI G O) (tI G I) (tI G A) (rGetL X.K) (q2R G f) rSetL)) (hK : X.K = G.K := by rfl) :
    PS X (.AugAssign (.Subscript o i tp) op e pos) (tS G (sagS O I A f)) := ps_imp h fun D σ H ⟨p, s, r, fl, r', s', S, E, q, k⟩ => by
  obtain ⟨⟨x, s1⟩, q1, q2⟩ := ob_some.mp q
  obtain ⟨⟨z, s2⟩, q3, q4⟩ := ob_some.mp q2
  refine ⟨p, s, r, x, s1, S, E, q1, fun p1 v1 H1 S1 f1 d1 => ⟨p1, s1, r, z, s2, S1, E.fra S f1, q3, fun p2 v2 H2 S2 f2 d2 => ?_⟩⟩
  simp only at q4
  split at q4
  · rename_i n k0
    cases d2
    have d1' := d1.fra S1 f2
    cases d1'
    rename_i a hn
    split at q4
    · rename_i xs ex
      obtain ⟨x0, g1, g2⟩ := ob_some.mp q4
      obtain ⟨⟨y, s3⟩, g3, g4⟩ := ob_some.mp g2
      obtain ⟨⟨z, s4⟩, g5, g6⟩ := ob_some.mp g4
      obtain ⟨ho, h1, vs, rfl, l, hz⟩ := S2.get hn ex
      rw [lget_eq] at g1
      obtain ⟨v0, hv0, d0⟩ := l.get g1
      refine ⟨a, vs, k0, v0, rfl, rfl, SqL.of h1, hv0, p2, s2, r, y, s3, S2, (E.fra S f1).fra S1 f2, g3, fun p3 v3 H3 S3 f3 d3 => ⟨p3, s3, x0, y, z, s4, S3, d0.fra S2 f3, d3, g5, fun p4 v4 H4 S4 f4 d4 => ?_⟩⟩
      simp only at g6
      split at g6
      · rename_i ys ey
        cases eb : Nat.blt k0 (llen ys) with
        | false => rw [eb] at g6; cases g6
        | true =>
          rw [eb] at g6; cases g6
          have hn4 := (f3.trans f4).at hn
          obtain ⟨ho, h4, vs4, rfl, l4, hz4⟩ := S4.get hn4 ey
          have hk : k0 < vs4.length := by rw [← l4.length, ← llen_eq]; exact Nat.blt_eq.mp eb
          obtain ⟨S5, f5⟩ := S4.put hn4 ey rfl (ho := .lst (vs4.set k0 v4)) (o := .lst (lset ys k0 z)) (fun _ z => by cases z) ⟨_, rfl, by rw [lset_eq]; exact DenL.set d4 k0 l4, by rw [List.length_set]; exact hz4⟩
          refine ⟨a, vs4, _, k0, rfl, rfl, h4, ?_, ?_⟩
          · unfold L2.ixN
            simp [hk]
          · exact k p4 _ S5 ((((f1.trans f2).trans f3).trans f4).trans f5) σ (((((E.fra S f1).fra S1 f2).fra S2 f3).fra S3 f4).fra S4 f5)
      · cases g6
    · cases q4
  · cases q4
noncomputable def isW2 (a b : Mv) (s : Ms) : Option (Mv × Ms) := match a, b with
  | .int i, .int j => some (.int (i - j), s)
  | _, _ => none
theorem pip_sub : PIp X .Sub (q2R G isW2) := by
  intro pins s σ H x y v u Q I rx ry h
  obtain ⟨p, s0, a, b, w, s', S, da, db, q, k⟩ := h
  cases da <;> cases db <;> try (cases q; done)
  cases q
  exact ip_sub pins s σ H _ _ v u Q I rx ry ⟨_, _, rfl, rfl, k p _ H S Fra.refl (.int _)⟩
end

end
section
/-! ### a dict displayed with one entry -/
theorem subDict_one {prog : Program} {w : World} {A : Around} {E : Value → Shared → Prop} {s : Shared} {pairs : List (Sem Value × Sem Value)} {Q : Addr → Shared → Prop} (hlen : pairs.length ≤ 15)
    (h : wpAny (model prog w) A (evalPairs pairs) (fun vs s₁ => ∃ a b, vs = [(a, b)] ∧ wpAny (model prog w) A (dictSet s.heap.objs.size a b) (fun _ s₂ => Q s.heap.objs.size s₂) E s₁) E
      { s with heap := s.heap.push { cls := .type "dict", data := .dict #[] } }) :
    wpAny (model prog w) A (subDict pairs) Q E s := by
  unfold subDict
  refine wpAny_bind (wpAny_alloc ?_)
  refine wpAny_bind (wpAny_holding ?_)
  rw [if_pos hlen]
  refine wpAny_bind (wpAny_mono h (fun vs s₁ h₁ => ?_) fun _ _ e => e)
  obtain ⟨a, b, rfl, hq⟩ := h₁
  refine wpAny_holding ?_
  refine wpAny_bind ?_
  rw [List.forIn_cons]
  refine wpAny_bind (wpAny_bind (wpAny_mono hq (fun _ s₂ q => wpAny_pure ?_) fun _ _ e => e))
  show wpAny _ _ (forIn [] PUnit.unit _) _ _ _
  rw [List.forIn_nil]
  exact wpAny_pure (wpAny_pure (wpAny_pure q))
noncomputable def mdis1 (K V : Fe) : Fe := fun r s => (K r s).ob fun k => (V r k.2).ob fun v => (dputO (.dk []) k.1 v.1).ob fun d => newO d v.2
section
variable {X : Cx} {G : Mg} {e o : Expr} {pos : Pos}
theorem pm_dis1 {kx vx : Expr} {K V : Fe} (hu : X.A.units + 64 < cLine) (hk : PE X kx (tI G K)) (hv : PE X vx (tI G V)) (hK : X.K = G.K := by rfl) (hP : X.prog = G.P := by rfl) (hw : X.w = G.w := by rfl) : PE X (.Dict [some kx] [vx] pos) (tI G (mdis1 K V)) := by
  refine ⟨fun pins s σ H Q I ⟨p, ms, r, w, ms', S, E, q, k⟩ => ?_⟩
  obtain ⟨⟨x, s1⟩, q1, q2⟩ := ob_some.mp q
  obtain ⟨⟨y, s2⟩, q3, q4⟩ := ob_some.mp q2
  obtain ⟨d, q5, q6⟩ := ob_some.mp q4
  have hD := I.hok.fresh (Nat.le_refl s.heap.objs.size)
  have I1 := I.laid (a := s.heap.objs.size) (o := .dK []) (h' := s.heap.push { cls := .type "dict", data := .dict #[] }) (t' := s.toks) (fun _ _ q => Heap.get?_push_of_some _ q) (Nat.le_refl _) (dk_empty s.heap I.big)
  have M0 := MidD.start S hD
  have PP : PPs X pos [some kx] [vx] [(tI G K, tI G V)] := pps_cons hk hv pps_nil
  rw [arm_eval_Dict, zip_pairTrees [some kx] [vx] X.env pos rfl rfl, dictDisplay_pairs _ (by simp [pairTrees]) (by simp [pairTrees])]
  refine wpAny_bind (wpAny_standAt (wpAny_bind (subDict_one (by simp [pairTrees]) ?_)))
  refine thn (PP.run pins _ σ _ (fun ps H2 => ∃ p2 vk vv, ps = [(vk, vv)] ∧ MidD G s.heap.objs.size p H (.dk []) p2 s2 H2 ∧ Den G p2 H2 x vk ∧ Den G p2 H2 y vv) I1 ?_) fun ws s3 ⟨ps, H2, I2, rel, p2, vk, vv, eps, M2, dx, dy⟩ => ?_
  · refine ⟨p, ms, r, x, s1, M0.S, E.fra S M0.f, q1, fun p1 v1 H1 S1 f1 d1 => ⟨p1, s1, r, y, s2, S1, (E.fra S M0.f).fra M0.S f1, q3, fun p2 v2 H2 S2 f2 d2 => ?_⟩⟩
    exact ⟨p2, v1, v2, rfl, (M0.fra S1 f1).fra S2 f2, d1.fra S1 f2, d2⟩
  · subst eps
    cases rel with
    | @cons a b as bs h1 t =>
      cases t
      obtain ⟨ho', g1, g2⟩ := M2.put (X := X) hP hw hD q5 dx dy
      refine ⟨b.1, b.2, rfl, dpa_dictSet hu I2 hK g1 h1.1 h1.2 fun s' I' => wpAny_pure ?_⟩
      exact ⟨.ref s.heap.objs.size, _, I', rfl, newO_end g2 hD q6 k⟩
/-! ### methods of dicts with one argument -/
/-- what the mirror's dict method must be -/
def DmR (X : Cx) (G : Mg) (id : String) (g : Nat → Mo → Mv → Ms → Option (Mv × Ms)) : Prop := ∀ pins s σ H p ms n a o y vy uy w ms' Q, Inv X pins σ H s → Sim G p ms H → p[n]? = some a → ms.get n = some o → isDict o = true → Den G p H y vy → RelV vy uy → g n o y ms = some (w, ms') → After G p H w ms' Q →
  wpAny (model X.prog X.w) X.A (call (.builtin id) [.ref a, uy]) (EP X pins σ Q) X.xe s
noncomputable def mdm1 (g : Nat → Mo → Mv → Ms → Option (Mv × Ms)) (D K : Fe) : Fe := fun r s => (D r s).ob fun x => (K r x.2).ob fun y => match x.1 with
  | .ref n => match x.2.get n, y.2.get n with
    | some o0, some o => cond (isDict o0) (cond (isDict o) (g n o y.1 y.2) none) none
    | _, _ => none
  | _ => none
theorem dict_type {pins : List (Addr × Obj)} {σ : L2.St} {H : Hp} {s : Shared} {p : List Addr} {ms : Ms} {n : Nat} {a : Addr} {o : Mo} (I : Inv X pins σ H s) (hK : X.K = G.K) (hP : X.prog = G.P) (hw : X.w = G.w) (S : Sim G p ms H) (hn : p[n]? = some a) (e : ms.get n = some o) (hd : isDict o = true) :
    s.TypeIs (.ref a) "dict" ∧ ∀ b, Value.ref a = .ref b → ∃ ob, s.heap.get? b = some ob ∧ ob.dict = none := by
  have D0 := S.dict (X := X) hP hw hn e hd
  have nk : ∀ {kvs : List (NestedKey × Mv × Mv)} {xs}, Rd H a (NDo X.prog X.w a xs) → DenN G p H kvs xs → s.TypeIs (.ref a) "dict" ∧ ∀ b, Value.ref a = .ref b → ∃ ob, s.heap.get? b = some ob ∧ ob.dict = none := fun rd l => by
    obtain ⟨_, _, ys, _, dd⟩ := nd_rd I hK rd l
    refine ⟨dd.typeIs, fun b eb => ?_⟩
    cases eb
    obtain ⟨oo, _, _, h1, h2, _⟩ := dd
    exact ⟨oo, h1, h2.2.1⟩
  have pk : ∀ {kvs'}, Rd H a (.dK kvs') → s.TypeIs (.ref a) "dict" ∧ ∀ b, Value.ref a = .ref b → ∃ ob, s.heap.get? b = some ob ∧ ob.dict = none := fun rd => by
    obtain ⟨_, _, vs, _, dd⟩ := dk_rd I.hok rd
    refine ⟨dd.typeIs, fun b eb => ?_⟩
    cases eb
    obtain ⟨oo, _, _, h1, h2, _⟩ := dd
    exact ⟨oo, h1, h2.2.1⟩
  cases D0 with
  | k rd _ => exact pk rd
  | lk rd _ => exact pk rd
  | n rd l => exact nk rd l
  | ln rd l => exact nk rd l
theorem pm_dm1 {id : String} {name : Str} {g : Nat → Mo → Mv → Ms → Option (Mv × Ms)} {apos cpos : Pos} {D K : Fe} (hg : DmR X G id g) (sl : Slot "dict" name id) (hty : typeOf (.builtin id) = pure (.type "method_descriptor")) (ho : PE X o (tI G D)) (he : PE X e (tI G K)) (m : M1 X o name apos e cpos) (hK : X.K = G.K := by rfl) (hP : X.prog = G.P := by rfl) (hw : X.w = G.w := by rfl) :
    PE X (.Call (.Attribute o name apos) [e] [] cpos) (tI G (mdm1 g D K)) := by
  refine ⟨fun pins s σ H Q I ⟨p, ms, r, w, ms', S, E, q, k⟩ => ?_⟩
  obtain ⟨⟨x, s1⟩, q1, q2⟩ := ob_some.mp q
  obtain ⟨⟨y, s2⟩, q3, q4⟩ := ob_some.mp q2
  refine wpAny_Call_method m.base m.few m.line PySem.F.plainAttrs_dict sl hty (thn (ho.run pins s σ H (fun v1 H1 => ∃ p1, Sim G p1 s1 H1 ∧ Fra p H p1 H1 ∧ Den G p1 H1 x v1) I ⟨p, ms, r, x, s1, S, E, q1, fun p1 v1 H1 S1 f1 d1 => ⟨p1, S1, f1, d1⟩⟩) fun u t1 ⟨vx, H1, I1, rx, p1, S1, f1, d1⟩ => ?_)
  cases x with
  | ref n =>
    cases d1
    rename_i ad hn
    cases rx
    simp only at q4
    cases e0 : s1.get n with
    | none => rw [e0] at q4; cases q4
    | some o0 =>
      rw [e0] at q4
      cases e1 : s2.get n with
      | none => rw [e1] at q4; cases q4
      | some ob =>
        rw [e1] at q4
        simp only at q4
        cases hd0 : isDict o0 with
        | false => rw [hd0] at q4; cases q4
        | true =>
          rw [hd0] at q4
          cases hd1 : isDict ob with
          | false => rw [hd1] at q4; cases q4
          | true =>
            rw [hd1] at q4
            have ty := dict_type I1 hK hP hw S1 hn e0 hd0
            refine ⟨ty.1, ty.2, ?_⟩
            rw [m.trees]
            refine Calls.callWith_builtin rfl (Calls.evalArgs_plain (Calls.spliced_cons (thn (he.run pins t1 σ H1 (fun v2 H2 => ∃ p2, Sim G p2 s2 H2 ∧ Fra p1 H1 p2 H2 ∧ Den G p2 H2 y v2) I1 ⟨p1, s1, r, y, s2, S1, E.fra S f1, q3, fun p2 v2 H2 S2 f2 d2 => ⟨p2, S2, f2, d2⟩⟩) fun iv t2 ⟨vy, H2, I2, ry, p2, S2, f2, d2⟩ => Calls.spliced_nil ?_)))
            exact hg pins t2 σ H2 p2 s2 n ad ob y vy iv w ms' Q I2 S2 (f2.at hn) e1 hd1 d2 ry q4 (k.of (f1.trans f2))
  | _ => cases q4
/-! ### d.update(d2) -/
noncomputable def dkMerge (kvs more : List (Key × Mv)) : List (Key × Mv) := List.rec (motive := fun _ => List (Key × Mv) → List (Key × Mv)) (fun acc => acc) (fun x _ ih acc => ih (dkPut x.1 x.2 acc)) more kvs
noncomputable def updW (n : Nat) (o : Mo) (y : Mv) (s : Ms) : Option (Mv × Ms) := match y with
  | .ref m => cond (Nat.beq m n) none (match o, s.get m with
    | .dk kvs, some (.dk more) => cond (Nat.ble (llen kvs + llen more) 16777216) (some (.non, s.put n (.dk (dkMerge kvs more)))) none
    | _, _ => none)
  | _ => none
theorem dkMerge_ok {p : List Addr} {H : Hp} : ∀ {more : List (Key × Mv)} {more' : List (Key × V)} {kvs : List (Key × Mv)} {kvs' : List (Key × V)}, DK G p H kvs kvs' → DK G p H more more' → DK G p H (dkMerge kvs more) (mergeK kvs' more') := by
  intro more more' kvs kvs' h hm
  have P := hm.inv
  clear hm
  induction P generalizing kvs kvs' with
  | nil => exact h
  | @cons a b as bs r t ih =>
    have := dk_put (k := b.1) r.2 h
    rw [← r.1] at this
    have z := ih this
    show DK G p H (dkMerge (dkPut a.1 a.2 kvs) as) (mergeK (putK kvs' b.1 b.2) bs)
    rw [← r.1]
    exact z
theorem dm_upd (hK : X.K = G.K := by rfl) (hP : X.prog = G.P := by rfl) (hw : X.w = G.w := by rfl) : DmR X G "dict.update" updW := by
  intro pins s σ H p ms n a o y vy uy w ms' Q I S hn e hd d ry q k
  cases y with
  | ref m =>
    cases d
    rename_i b hm
    cases ry
    unfold updW at q
    simp only at q
    cases hmn : Nat.beq m n with
    | true => rw [hmn] at q; cases q
    | false =>
      rw [hmn] at q
      have nab : a ≠ b := by
        rintro rfl
        have := S.nd
        have z : m = n := nodup_at S.nd hm hn
        rw [z, Nat.beq_refl] at hmn; cases hmn
      simp only [cond_false] at q
      split at q
      · rename_i kvs more e2
        cases hz : Nat.ble (llen kvs + llen more) 16777216 with
        | false => rw [hz] at q; cases q
        | true =>
          rw [hz] at q; cases q
          obtain ⟨ho, h1, kvs', rfl, c1, c2⟩ := S.get hn e
          obtain ⟨ho, h2, more', rfl, c3, c4⟩ := S.get hm e2
          obtain ⟨z1, l1, vs, r1, dd1⟩ := dk_of I.hok h1
          obtain ⟨z2, l2, us, r2, dd2⟩ := dk_of I.hok h2
          have len1 : kvs.length = kvs'.length := by have := congrArg List.length c1; simpa using this.symm
          have len2 : more.length = more'.length := by have := congrArg List.length c3; simpa using this.symm
          have hl : kvs'.length + more'.length ≤ sizeLine := by rw [sz_eq, ← len1, ← len2, ← llen_eq, ← llen_eq]; exact Nat.le_of_ble_eq_true hz
          refine call_meetsIn PySem.F.slot_dict_update dd1.typeIs PySem.F.entry_dict_update (PySem.F.args_dict_update_2 _ _) (meets_dict_update (mixKind X.prog X.w) a b nab l2)
            ⟨vs, us, dd1, dd2, (by rw [← r1.length, ← r2.length]; exact hl), fun h' hmm _ hs => ?_⟩
          have hz' : (mergeK kvs' more').length ≤ sizeLine := Nat.le_trans (length_mergeK more' kvs') hl
          have I' := d_write (t' := s.toks) I (by rw [h1]; exact True.intro) hs (let ⟨q, _, _, hq, _⟩ := hmm; ⟨q, hq⟩) (dk_new hz' l1 (r2.merge r1) hmm)
          have DD := dkMerge_ok (G := G) (p := p) (H := H) (kvs := kvs) (more := more) ⟨c1, c2⟩ ⟨c3, c4⟩
          obtain ⟨S2, f2⟩ := S.put hn e rfl (ho := .dK (mergeK kvs' more')) (o := .dk (dkMerge kvs more)) (fun _ z => by cases z) ⟨_, rfl, DD.1, DD.2⟩
          exact ⟨.non, _, I', rfl, k p _ _ S2 f2 .non⟩
      · cases q
  | _ => cases q
end

end
section
/-! ### isinstance with an own class -/
structure IsC (K : PySem.W.Frag) (C : Addr) : Prop where
  tu : PySem.W.kitOne K (.type "tuple") (.ref C) = some false
  ls : PySem.W.kitOne K (.type "list") (.ref C) = some false
  ha : PySem.W.findIn K (.ref C) "__class__" = some (some (.builtin "object.__class__"))
  hn : PySem.W.specialIn K (.builtin "object.__class__") "__get__" = some (some (.builtin "getset_descriptor.__get__"))
  tk : PySem.W.takesIn K (.builtin "object.__class__") = some true
  hm : PySem.W.mroIn K C (.type "object") = some true
def isCB (K : PySem.W.Frag) (C : Addr) : Bool := decide (PySem.W.kitOne K (.type "tuple") (.ref C) = some false) && (decide (PySem.W.kitOne K (.type "list") (.ref C) = some false) && (He.eqO (PySem.W.findIn K (.ref C) "__class__") (some (some (.builtin "object.__class__"))) &&
  (He.eqO (PySem.W.specialIn K (.builtin "object.__class__") "__get__") (some (some (.builtin "getset_descriptor.__get__"))) && (decide (PySem.W.takesIn K (.builtin "object.__class__") = some true) && decide (PySem.W.mroIn K C (.type "object") = some true)))))
theorem isC_ok {K : PySem.W.Frag} {C : Addr} (h : isCB K C = true) : IsC K C := by
  obtain ⟨h1, h⟩ := He.ba h
  obtain ⟨h2, h⟩ := He.ba h
  obtain ⟨h3, h⟩ := He.ba h
  obtain ⟨h4, h⟩ := He.ba h
  obtain ⟨h5, h6⟩ := He.ba h
  exact ⟨of_decide_eq_true h1, of_decide_eq_true h2, He.eqO_ok h3, He.eqO_ok h4, of_decide_eq_true h5, of_decide_eq_true h6⟩
noncomputable def misC (c : Nat) (A : Fe) : Fe := fun r s => (A r s).ob fun x => match x.1 with
  | .tup _ => some (.bl false, x.2)
  | .ref n => match x.2.get n with
    | some (.ins c' _) => cond (Nat.beq c' c) (some (.bl true, x.2)) none
    | some (.lst _) => some (.bl false, x.2)
    | _ => none
  | _ => none
section
variable {X : Cx} {G : Mg} {a e o : Expr} {pos : Pos}
theorem pm_isC {A : Fe} {c : Nat} {ce : Expr} {p1 : Pos} (ha : PE X a (tI G A)) (hc : PE X ce (tC (.ref (G.cad c)))) (ic : IsC X.K (G.cad c)) (cl : Cls X.K (G.cad c)) (hg : Gl X "isinstance") (hm : X.mg "isinstance" = none) (hs : starEach [a, ce] X.env = (false, eval a X.env) :: starEach [ce] X.env := by rfl) (hs2 : starEach [ce] X.env = [(false, eval ce X.env)] := by rfl) (hpl : (backTo pos (starEach [ce] X.env)).any (·.1) = false := by rfl) (hK : X.K = G.K := by rfl) :
    PE X (.Call (.Name "isinstance" p1) [a, ce] [] pos) (tI G (misC c A)) :=
  pe_imp (pe_callB call_isi hg hm (by decide +kernel) (pa_cons ha (pa_cons hc pa_nil hs2) hs) (he := hs) (hpl := hpl)) fun σ H Q ⟨p, s, r, w, s', S, E, q, k⟩ => by
    obtain ⟨⟨x, s1⟩, q1, q2⟩ := ob_some.mp q
    refine ⟨p, s, r, x, s1, S, E, q1, fun p1 v1 H1 S1 f1 d1 => ?_⟩
    have kk := k.of f1
    cases x with
    | tup ws =>
      have q2' : some (Mv.bl false, s1) = some (w, s') := q2
      cases q2'
      have ty := tyOf_ok (t := .tuple) S1 d1 rfl
      exact ⟨_, _, _, _, _, rfl, .own _, by rw [hK]; exact ty, ic.tu, kk p1 _ H1 S1 Fra.refl (.bl _)⟩
    | ref n =>
      have d1' := d1
      cases d1'
      rename_i ad hn
      simp only at q2
      split at q2
      · rename_i c' fs e1
        cases eb : Nat.beq c' c with
        | false => rw [eb] at q2; cases q2
        | true =>
          rw [eb] at q2; cases q2
          have ec := Nat.eq_of_beq_eq_true eb
          subst ec
          obtain ⟨ho, h1, dd⟩ := S1.get hn e1
          obtain ⟨dx, fs', rfl, _⟩ := dd
          exact ⟨_, _, _, _, _, rfl, .own _, .base (.ins h1 cl ic.ha ic.hn ic.tk ic.hm), by unfold PySem.W.kitOne; rw [if_pos (beq_self_eq_true _)], kk p1 _ H1 S1 Fra.refl (.bl _)⟩
      · rename_i ws e1
        cases q2
        have ty := tyOf_ok (t := .list) S1 d1 (by simp only [tyOf]; rw [e1])
        exact ⟨_, _, _, _, _, rfl, .own _, by rw [hK]; exact ty, ic.ls, kk p1 _ H1 S1 Fra.refl (.bl _)⟩
      · cases q2
    | _ => cases q2
/-! ### dict(d), keys whole numbers and texts -/
noncomputable def dictW : Fn := fun ws s => match ws with
  | [.ref n] => match s.get n with
    | some (.dk kvs) => newO (.dk kvs) s
    | _ => none
  | _ => none
theorem newO_fresh {p : List Addr} {s s' : Ms} {H : Hp} {o : Mo} {ho : HO} {w : Mv} {Q : VK} (S : Sim G p s H) (h : newO o s = some (w, s')) (k : After G p H w s' Q) {a : Addr} (ha : H a = none) (d : DenO G p H a o ho) : Q (.ref a) (upd H a ho) := by
  obtain ⟨⟨n, s1⟩, q1, q2⟩ := omap_some.mp h
  cases q2
  obtain ⟨S2, f2, d2⟩ := S.new q1 ha (ho := ho) (H' := upd H a ho) d upd_same fun b u eb => by rw [upd_ne (ne_of_none eb ha)]; exact eb
  exact k _ _ _ S2 f2 d2
theorem cm_dict (hK : X.K = G.K := by rfl) : CallR X (.type "dict") (rF G dictW) := cal_imp call_dictD fun xs H Q ⟨p, s, ws, w, s', S, l, q, k⟩ => by
  match ws, l, q with
  | [.ref n], .cons (.ref hn) .nil, q =>
    have q' : (match s.get n with
      | some (.dk kvs) => newO (.dk kvs) s
      | _ => none) = some (w, s') := q
    split at q'
    · rename_i kvs e
      obtain ⟨ho, h1, kvs', rfl, c1, c2⟩ := S.get hn e
      exact ⟨_, kvs', rfl, .inl h1, fun b hb => newO_fresh S q' k hb ⟨kvs', rfl, c1, c2⟩⟩
    · cases q'
/-! ### list(range(..)), tuple(range(..)) -/
abbrev Fr2 := Me → Ms → Option ((Int × Int) × Ms)
noncomputable def mrg1 (A : Fe) : Fr2 := fun r s => (A r s).ob fun x => match x.1 with
  | .int n => some ((0, n), x.2)
  | _ => none
noncomputable def mrg2 (A B : Fe) : Fr2 := fun r s => (A r s).ob fun x => (B r x.2).ob fun y => match x.1, y.1 with
  | .int i, .int j => some ((i, j), y.2)
  | _, _ => none
noncomputable def tRg (G : Mg) (F : Fr2) : L2.St → Hp → (Int → Int → Hp → Prop) → Prop := fun σ H Q => ∃ p s r i j s', Sim G p s H ∧ EnvR G p H r σ ∧ F r s = some ((i, j), s') ∧ ∀ p' H', Sim G p' s' H' → Fra p H p' H' → Q i j H'
theorem prg_imp {t t' : L2.St → Hp → (Int → Int → Hp → Prop) → Prop} (h : PRg X e t) (i : ∀ σ H Q, t' σ H Q → t σ H Q) : PRg X e t' := fun pins s σ H Q I q => h pins s σ H Q I (i σ H Q q)
theorem gm_rg1 {A : Fe} {p : Pos} (hg : Gl X "range") (hm : X.mg "range" = none) (ha : PE X a (tI G A)) (na : starEach [a] X.env = (false, eval a X.env) :: starEach [] X.env := by rfl) : PRg X (.Call (.Name "range" p) [a] [] pos) (tRg G (mrg1 A)) := prg_imp (prg_1 hg hm ha na) fun σ H Q ⟨p, s, r, i, j, s', S, E, q, k⟩ => by
  obtain ⟨⟨x, s1⟩, q1, q2⟩ := ob_some.mp q
  refine ⟨p, s, r, x, s1, S, E, q1, fun p1 v1 H1 S1 f1 d1 => ?_⟩
  cases d1 <;> try (cases q2; done)
  cases q2
  exact ⟨_, rfl, k p1 H1 S1 f1⟩
theorem gm_rg2 {A B : Fe} {b : Expr} {p : Pos} (hg : Gl X "range") (hm : X.mg "range" = none) (ha : PE X a (tI G A)) (hb : PE X b (tI G B)) (na : starEach [a, b] X.env = (false, eval a X.env) :: starEach [b] X.env := by rfl) (nb : starEach [b] X.env = (false, eval b X.env) :: starEach [] X.env := by rfl) (hp : (backTo pos (starEach [b] X.env)).any (·.1) = false := by rfl) : PRg X (.Call (.Name "range" p) [a, b] [] pos) (tRg G (mrg2 A B)) := prg_imp (prg_2 hg hm ha hb na nb hp) fun σ H Q ⟨p, s, r, i, j, s', S, E, q, k⟩ => by
  obtain ⟨⟨x, s1⟩, q1, q2⟩ := ob_some.mp q
  obtain ⟨⟨y, s2⟩, q3, q4⟩ := ob_some.mp q2
  refine ⟨p, s, r, x, s1, S, E, q1, fun p1 v1 H1 S1 f1 d1 => ⟨p1, s1, r, y, s2, S1, E.fra S f1, q3, fun p2 v2 H2 S2 f2 d2 => ?_⟩⟩
  cases d1 <;> cases d2 <;> try (cases q4; done)
  cases q4
  exact ⟨_, _, rfl, rfl, k p2 H2 S2 (f1.trans f2)⟩
noncomputable def rgM (n : Nat) (i : Int) : List Mv := Nat.rec (motive := fun _ => Int → List Mv) (fun _ => []) (fun _ ih a => .int a :: ih (a + 1)) n i
noncomputable def rgOk (i j : Int) : Bool := decide (0 ≤ i) && (decide (i ≤ 16777216) && (decide (0 ≤ j) && decide (j ≤ 16777216)))
theorem rgOk_ok {i j : Int} (h : rgOk i j = true) : RgOk i j := by
  obtain ⟨h1, h⟩ := He.ba h
  obtain ⟨h2, h⟩ := He.ba h
  obtain ⟨h3, h4⟩ := He.ba h
  exact RgOk.of_le (of_decide_eq_true h1) (of_decide_eq_true h4) (of_decide_eq_true h2) (of_decide_eq_true h3)
theorem rgM_den {p : List Addr} {H : Hp} : ∀ (n : Nat) (i : Int), DenL G p H (rgM n i) ((List.range n).map fun k => V.int (i + (k : Nat)))
  | 0, i => .nil
  | n + 1, i => by
    rw [List.range_succ_eq_map, List.map_cons, List.map_map]
    refine .cons (by rw [Int.natCast_zero, Int.add_zero]; exact .int i) ?_
    have := rgM_den (p := p) (H := H) n (i + 1)
    have e : (List.range n).map ((fun k : Nat => V.int (i + (k : Nat))) ∘ Nat.succ) = (List.range n).map fun k => V.int (i + 1 + (k : Nat)) := by
      refine List.map_congr_left fun k _ => ?_
      show V.int (i + ((k + 1 : Nat) : Int)) = V.int (i + 1 + (k : Nat))
      congr 1
      omega
    rw [e]
    exact this
noncomputable def mlstRg (F : Fr2) : Fe := fun r s => (F r s).ob fun x => cond (rgOk x.1.1 x.1.2) (newO (.lst (rgM (x.1.2 - x.1.1).toNat x.1.1)) x.2) none
noncomputable def mtupRg (F : Fr2) : Fe := fun r s => (F r s).ob fun x => cond (rgOk x.1.1 x.1.2) (some (.tup (rgM (x.1.2 - x.1.1).toNat x.1.1), x.2)) none
theorem pm_lstRg {F : Fr2} {p : Pos} (hc : X.calm = true) (hg : Gl X "list") (hm : X.mg "list" = none) (he : PRg X e (tRg G F)) (na : starEach [e] X.env = (false, eval e X.env) :: starEach [] X.env := by rfl) : PE X (.Call (.Name "list" p) [e] [] pos) (tI G (mlstRg F)) := pe_imp (pe_listRg hc hg hm he na) fun σ H Q ⟨p, s, r, w, s', S, E, q, k⟩ => by
  obtain ⟨⟨⟨i, j⟩, s1⟩, q1, q2⟩ := ob_some.mp q
  refine ⟨p, s, r, i, j, s1, S, E, q1, fun p1 H1 S1 f1 => ?_⟩
  simp only at q2
  cases eb : rgOk i j with
  | false => rw [eb] at q2; cases q2
  | true =>
    rw [eb] at q2
    have ok := rgOk_ok eb
    refine ⟨ok, fun a ha => newO_fresh S1 q2 (k.of f1) ha ⟨_, rfl, rgM_den _ _, ?_⟩⟩
    rw [rgV_length]
    exact Nat.le_trans ok.2.2.2.2 (by rw [sz_eq]; decide)
theorem pm_tupRg {F : Fr2} {p : Pos} (hc : X.calm = true) (hg : Gl X "tuple") (hm : X.mg "tuple" = none) (he : PRg X e (tRg G F)) (na : starEach [e] X.env = (false, eval e X.env) :: starEach [] X.env := by rfl) : PE X (.Call (.Name "tuple" p) [e] [] pos) (tI G (mtupRg F)) := pe_imp (pe_tupRg hc hg hm he na) fun σ H Q ⟨p, s, r, w, s', S, E, q, k⟩ => by
  obtain ⟨⟨⟨i, j⟩, s1⟩, q1, q2⟩ := ob_some.mp q
  refine ⟨p, s, r, i, j, s1, S, E, q1, fun p1 H1 S1 f1 => ?_⟩
  simp only at q2
  cases eb : rgOk i j with
  | false => rw [eb] at q2; cases q2
  | true =>
    rw [eb] at q2
    cases q2
    have ok := rgOk_ok eb
    refine ⟨ok, fun a ha => ?_⟩
    obtain ⟨S2, f2, d2⟩ := new_tup S1 ha (rgM_den (G := G) (p := p1) (H := H1) (j - i).toNat i)
    exact k p1 _ _ S2 (f1.trans f2) d2
/-! ### calls that leave parameters to their defaults -/
noncomputable def mdefs (A : Fa) (ds : List Mv) : Fa := fun r s => (A r s).om fun x => (lapp x.1 ds, x.2)
theorem pm_callD {CX : CXT} {k : Nat} {fa : Addr} {fd : FuncData} {ps : List Str} {E : XK} {f : Fn} {x : Str} {p0 : Pos} {es : List Expr} {A : Fa} {dvs : List V} {ws : List Mv} (F : FnOk X.prog X.w X.K X.mg X.base CX k fa fd ps (spM G f)) (hr : Room k X.A) (hg : Gl X x) (hm : X.mg x = some (.ref fa)) (hk : PySem.W.keepIn X.K (.ref fa) = true) (hb : ∃ ds, Vals dvs ds ∧ Binds X.K fd ps ds) (hx : Passes CX X E) (ha : PA X (e :: es) (tA G A))
    (hd : ∀ p H, DenL G p H ws dvs) (hdb : (x == ("__debug__" : Str)) = false := by decide) (he : starEach (e :: es) X.env = (false, eval e X.env) :: starEach es X.env := by rfl) (hpl : (backTo pos (starEach es X.env)).any (·.1) = false := by rfl) :
    PE X (.Call (.Name x p0) (e :: es) [] pos) (tI G (mcall f (mdefs A ws))) := by
  obtain ⟨ds, hv, hb⟩ := hb
  refine pe_imp (pe_call F hr hg hm hk hb hv hx ha hdb he hpl) fun σ H Q h => ?_
  obtain ⟨p, s, r, w, s', S, E, q, k⟩ := h
  obtain ⟨⟨xs, s1⟩, q1, q2⟩ := ob_some.mp q
  obtain ⟨⟨ys, s2⟩, q3, q4⟩ := omap_some.mp q1
  cases q4
  exact ⟨p, s, r, ys, _, S, E, q3, fun p1 vs H1 S1 f1 d1 => ⟨p1, _, lapp ys ws, w, s', S1, by rw [lapp_eq]; exact d1.append (hd p1 H1), q2, k.of f1⟩⟩
end

end
section
/-! ### -x of an int; a, b, c = x, y, z; small things -/
theorem bb_dict : bootBuiltins "dict" = some (.type "dict") := by decide +kernel
section
variable {X : Cx} {G : Mg}
noncomputable def negW (a : Mv) (s : Ms) : Option (Mv × Ms) := match a with
  | .int i => some (.int (-i), s)
  | _ => none
theorem um_neg : UnR X (unaryOp .USub) (q1R G negW) := by
  intro pins s σ H x v Q I r h
  obtain ⟨p, ms, a, w, ms', S, da, q, k⟩ := h
  cases a with
  | int i =>
    cases q
    cases da
    exact un_neg pins s σ H _ v Q I r ⟨i, rfl, k p _ H S Fra.refl (.int _)⟩
  | _ => cases q
theorem sm_par3 {i j l : Nat} {st : Stmt} {A : Fa} (h : PS X st (tPar3 i j l (tA G A))) : PS X st (tS G (spar3 i j l A)) := ps_imp h fun D σ H ⟨p, s, r, f, r', s', S, E, q, k⟩ => by
  obtain ⟨⟨x, s1⟩, q1, q2⟩ := ob_some.mp q
  refine ⟨p, s, r, x, s1, S, E, q1, fun p1 vs H1 S1 f1 d1 => ?_⟩
  match x, q2, d1 with
  | [a, b, c], q2, .cons da (.cons db (.cons dc .nil)) =>
    cases q2
    exact ⟨_, _, _, rfl, k p1 H1 S1 f1 _ ((((E.fra S f1).set da).set db).set dc)⟩
end
theorem no_free {ns : List (Str × NameKind)} {Q : Str × NameKind → Prop} (h : (ns.all fun y => match y.2 with | .free => false | _ => true) = true) : ∀ y ∈ ns, y.2 = .free → Q y := fun y hy hf => by
  have e := List.all_eq_true.mp h y hy
  rw [hf] at e
  cases e

end
section
/-! ### promises of defs that are called while nothing is being shown (repr's own guards are empty) -/
structure FnG (P : Program) (w : World) (K : PySem.W.Frag) (mg : Str → Option Value) (base : Heap) (k : Nat) (f : Addr) (fd : FuncData) (ps : List Str) (sp : Sp) : Prop where
  len : ∀ vs H Q E, sp vs H Q E → vs.length = ps.length
  run : ∀ B : Around, B.guards = some [] → ∀ (ou : List Env) (st : Shared) (H : Hp) (ar : Args) (us : List Value) (vs : List V) (Q : VK) (E : XK), Room k B → Env0 P w K mg base B ou st H → BindsTo st fd ar (ps.zip us) → Vals vs us → sp vs H Q E →
    codeAny (model P w) B (.call (.ref f) ar) (CR CX0 ou P w H st Q E) st
section
variable {P : Program} {w : World} {K : PySem.W.Frag} {mg : Str → Option Value} {base : Heap} {k : Nat} {f : Addr} {fd : FuncData} {ps : List Str} {sp sp' : Sp}
theorem FnG.imp (F : FnG P w K mg base k f fd ps sp) (h : ∀ vs H Q E, sp' vs H Q E → sp vs H Q E) : FnG P w K mg base k f fd ps sp' :=
  ⟨fun vs H Q E q => F.len vs H Q E (h vs H Q E q), fun B g ou st H ar us vs Q E a1 a2 a3 a4 a5 => F.run B g ou st H ar us vs Q E a1 a2 a3 a4 (h vs H Q E a5)⟩
theorem fnG_of {x qual : Str} {params : Arguments} {body : List Stmt} {scope : Scope} {dvs : List V} {kws : List (Str × V)} {N : List Str} (F : FunD K x qual params body scope dvs kws f fd) (S : FnScope N ps scope) (len : ∀ vs H Q E, sp vs H Q E → vs.length = ps.length)
    (hb : ∀ (cd : Value) (B : Around), B.guards = some [] → ∀ (ou : List Env) (st : Shared) (H : Hp) (vs : List V) (Q : VK) (E : XK), Room k (B.deeper (envOfC qual scope st.heap.objs.size f cd)) → sp vs H Q E →
      ∃ t, PSs (cxOf CX0 P w K mg base N qual scope f cd B ou st H E) body t ∧ t { nx := fun _ H' => Q .non H', rt := Q } (L2.start N vs) H) : FnG P w K mg base (k + 1) f fd ps sp := by
  obtain ⟨_, _, _, _, _, _, _, cd, _, _, rfl, look, hcode, _, _⟩ := F.ex
  refine ⟨len, fun B g ou st H ar us vs Q E room env bind rel pre => ?_⟩
  have inK : K.In st.heap := env.mod.kin.keeps fun b o z => (env.bs b o z).1
  have noLim : st.heap.NoLimit := env.mod.nolimit.keeps fun b o z => (env.bs b o z).1
  have kinds : ∀ y ∈ ps.zip us, scope.names.lookup y.1 = some .local ∨
      (scope.names.lookup y.1 = some .cell ∧ ((cellsFrom (st.heap.objs.size + 1) scope.names []).lookup y.1).isSome = true) := by
    rintro ⟨nm, v⟩ hy
    cases S.par nm (List.of_mem_zip hy).1 with
    | inl z => exact .inl z
    | inr z => exact .inr ⟨z, PySem.W.cellsFrom_some _ _ _ (.inl z)⟩
  refine codeAny_call_function room.depth (inK _ _ look) rfl S.co S.gen rfl (PySem.W.codeRec_of inK hcode) (bind _ _ _ _ ?_)
  refine wpAny_newFunctionEnv_cells S.kind kinds fun en hen s2 z => ?_
  subst hen
  refine ⟨noLim.keeps z.toInCall.keep, codeAny_func ?_⟩
  obtain ⟨t, ht, hq⟩ := hb cd B g ou st H vs Q E (room.deeper _) pre
  have I0 := inv_start (CX := CX0) (E := E) S room.hd env (len _ _ _ _ pre) rel z
  refine wpAny_mono (ht.run [] s2 (L2.start N vs) H _ I0 hq) (fun fl s3 hs => ?_) fun _ _ hs => hs
  cases fl with
  | ret u =>
    obtain ⟨v, _, H3, J, rv, q⟩ := hs
    exact ⟨v, H3, J.os, J.bare, J.base, J.hok, rv, q⟩
  | next =>
    obtain ⟨_, H3, J, q⟩ := hs
    exact ⟨V.non, H3, J.os, J.bare, J.base, J.hok, rfl, q⟩
  | brk => obtain ⟨_, _, _, q⟩ := hs; exact q.elim
  | cont => obtain ⟨_, _, _, q⟩ := hs; exact q.elim
end
section
variable {X : Cx} {G : Mg} {x : Str} {p0 pos : Pos} {e : Expr} {es : List Expr} {A : Fa} {f : Fn}
theorem pe_callG {k : Nat} {fa : Addr} {fd : FuncData} {ps : List Str} {sp : Sp} {t : TA} {E : XK} (F : FnG X.prog X.w X.K X.mg X.base k fa fd ps sp) (gd : X.A.guards = some []) (hr : Room k X.A) (hg : Gl X x) (hm : X.mg x = some (.ref fa)) (hk : PySem.W.keepIn X.K (.ref fa) = true) (hb : Binds X.K fd ps []) (ha : PA X (e :: es) t)
    (hdb : (x == ("__debug__" : Str)) = false := by decide) (he : starEach (e :: es) X.env = (false, eval e X.env) :: starEach es X.env := by rfl) (hpl : (backTo pos (starEach es X.env)).any (·.1) = false := by rfl) :
    PE X (.Call (.Name x p0) (e :: es) [] pos) (tCall sp [] E t) := by
  refine ⟨fun pins st σ H Q I h => wpAny_Call_Name_kw (ld_glob I hg hm ?_ hdb)⟩
  refine PySem.W.callWith_K (h₀ := X.base) I.ok.mod.kin hk (thn (ha.run pos pins st σ H _ I h) fun us s2 hz => ?_) he hpl
  obtain ⟨vs, H2, I2, rel, pre⟩ := hz
  refine ⟨I2.kIn, ?_⟩
  have rel2 : Vals (vs ++ []) (us ++ []) := rel.append .nil
  have hlen : (us ++ []).length = ps.length := by
    rw [← rel2.length]
    exact F.len _ _ _ _ pre
  refine wpAny_call (codeAny_mono (F.run X.A gd X.stack s2 H2 ⟨us, []⟩ (us ++ []) (vs ++ []) Q E hr I2.env0 (hb s2 us I2.kIn hlen) rel2 pre) fun r s3 hq => ?_)
  match r, hq with
  | .error _, hq => exact hq.elim
  | .ok (.ret u), hq => exact I2.after hq
  | .ok .next, hq => exact hq.elim
  | .ok .brk, hq => exact hq.elim
  | .ok .cont, hq => exact hq.elim
theorem pm_callG {k : Nat} {fa : Addr} {fd : FuncData} {ps : List Str} (F : FnG X.prog X.w X.K X.mg X.base k fa fd ps (spM G f)) (gd : X.A.guards = some []) (hr : Room k X.A) (hg : Gl X x) (hm : X.mg x = some (.ref fa)) (hk : PySem.W.keepIn X.K (.ref fa) = true) (hb : Binds X.K fd ps []) (ha : PA X (e :: es) (tA G A))
    (hdb : (x == ("__debug__" : Str)) = false := by decide) (he : starEach (e :: es) X.env = (false, eval e X.env) :: starEach es X.env := by rfl) (hpl : (backTo pos (starEach es X.env)).any (·.1) = false := by rfl) :
    PE X (.Call (.Name x p0) (e :: es) [] pos) (tI G (mcall f A)) := pe_imp (pe_callG (E := fun _ _ _ => False) F gd hr hg hm hk hb ha hdb he hpl) fun σ H Q h => by
  obtain ⟨p, s, r, w, s', S, E, q, k⟩ := t_call h
  exact ⟨p, s, r, w, s', S, E, q, fun p1 vs H1 S1 f1 d1 => by
    show rF G f (vs ++ []) H1 Q
    rw [List.append_nil]
    exact k p1 vs H1 S1 f1 d1⟩
theorem fn_okG {P : Program} {w : World} {K : PySem.W.Frag} {mg : Str → Option Value} {base : Heap} {x qual : Str} {st : Stmt} {f : Addr} {fd : FuncData} {N ps : List Str} {k : Nat} {B : Fs} {dvs : List V} {kws : List (Str × V)} (F : FunD K x qual (defArgs st) (defBody st) (defScope st) dvs kws f fd) (sc : FnScope N ps (defScope st)) {np nl : Nat} (hnp : ps.length = np := by rfl) (hnl : N.length = nl := by rfl)
    (hb : ∀ (cdv : Value) (A : Around) (_ : A.guards = some []) (outer : List Env) (s : Shared) (H : Hp) (E : XK), Room k (A.deeper (envOfC qual (defScope st) s.heap.objs.size f cdv)) → PSs (cxOf CX0 P w K mg base N qual (defScope st) f cdv A outer s H E).nox (defBody st) (tS G B)) :
    FnG P w K mg base (k + 1) f fd ps (spM G (fnM np nl B)) := by
  subst hnp hnl
  have len : ∀ vs H Q E, spM G (fnM ps.length N.length B) vs H Q E → vs.length = ps.length := by
    rintro vs H Q E ⟨p, s, ws, u, s', S, l, q, k'⟩
    rw [← l.length]
    unfold fnM at q
    cases e : Nat.beq ws.length ps.length with
    | false => rw [e] at q; cases q
    | true => exact Nat.eq_of_beq_eq_true e
  refine fnG_of F sc len fun cdv A gd outer s H vs Q E hr h => ⟨_, PSs.nox (hb cdv A gd outer s H E hr), ?_⟩
  have hlen := len vs H Q E h
  obtain ⟨p, s0, ws, u, s', S, l, q, k'⟩ := h
  unfold fnM at q
  cases e : Nat.beq ws.length ps.length with
  | false => rw [e] at q; cases q
  | true =>
    rw [e] at q
    obtain ⟨⟨fl, r', s1⟩, q1, q2⟩ := ob_some.mp q
    refine ⟨p, s0, _, fl, r', s1, S, ?_, q1, fun p1 H1 S1 f1 => ?_⟩
    · show EnvR G p H _ (L2.start N vs)
      unfold L2.start
      rw [hlen]
      rw [lsome_eq]
      exact envR_start _ l
    · cases fl with
      | rt w' =>
        have q2' : some (w', s1) = some (u, s') := q2
        cases q2'
        exact fun v d => k' p1 v H1 S1 f1 d
      | nx =>
        have q2' : some (Mv.non, s1) = some (u, s') := q2
        cases q2'
        exact fun σ E => k' p1 _ H1 S1 f1 .non
      | bk => cases q2
      | ct => cases q2
end

end
section
/-! ### repr of a list, a tuple; a try that runs through -/
theorem bb_repr : bootBuiltins "repr" = some (.builtin "repr") := by decide +kernel
noncomputable def showD (d : PyData) : Bool := PyData.showable d && (!PyData.hasDict d && (Nat.ble (PyData.depth d) 30 && Nat.ble (PyData.shown d).length 16777216))
noncomputable def reprW : Fn := fun ws s => match ws with
  | [.ref n] => (toD 24 s (.ref n)).ob fun d => cond (showD d) (some (.str (PyData.shown d), s)) none
  | [.tup xs] => (toD 24 s (.tup xs)).ob fun d => cond (showD d) (some (.str (PyData.shown d), s)) none
  | _ => none
section
variable {X : Cx} {G : Mg}
theorem cm_repr (gd : X.A.guards = some []) (hu : X.A.units + 64 < cLine) (hK : X.K = G.K := by rfl) : CallR X (.builtin "repr") (rF G reprW) := by
  intro pins st σ H xs us Q I r h
  obtain ⟨p, ms, ws, w, ms', S, l, q, k⟩ := h
  have core : ∀ (w0 : Mv) (a : Addr) (u : Value), Den G p H w0 (.ref a) → RelV (.ref a) u → (toD 24 ms w0).ob (fun d => cond (showD d) (some (Mv.str (PyData.shown d), ms)) none) = some (w, ms') → wpAny (model X.prog X.w) X.A (call (.builtin "repr") [u]) (EP X pins σ Q) X.xe st := by
    intro w0 a u d0 ru q
    obtain ⟨d, q1, q2⟩ := ob_some.mp q
    cases ec : showD d with
    | false => rw [ec] at q2; cases q2
    | true =>
      rw [ec] at q2
      cases q2
      unfold showD at ec
      obtain ⟨c1, c2⟩ := Bool.and_eq_true_iff.mp ec
      obtain ⟨c3, c4⟩ := Bool.and_eq_true_iff.mp c2
      obtain ⟨c5, c6⟩ := Bool.and_eq_true_iff.mp c4
      have o1 := toD_ok S 24 _ _ _ d0 q1
      obtain ⟨as, rd⟩ := Dp.reads I d (.ref a) u (by rw [hK]; exact o1.dp) ru
      have eu : u = .ref a := ru
      subst eu
      have nd : PyData.hasDict d = false := by
        cases z : PyData.hasDict d with
        | false => rfl
        | true => rw [z] at c3; cases c3
      have hd := Nat.le_of_ble_eq_true c5
      have hz : (PyData.shown d).length ≤ sizeLine := by rw [sz_eq]; exact Nat.le_of_ble_eq_true c6
      exact repr_of_reads' rd c1 (fun z => by rw [nd] at z; cases z) gd (by omega) (fun _ _ e => e) (fun h' u tk hk => ⟨.str _, H, I.kept hk, ⟨u, rfl⟩, k p _ H S Fra.refl (.str _)⟩) hz
  match ws, l, q with
  | [.ref n], .cons (.ref hn) .nil, q =>
    cases r with
    | cons r1 r2 =>
      cases r2
      exact core _ _ _ (.ref hn) r1 q
  | [.tup xs0], .cons (.tup ht lt) .nil, q =>
    cases r with
    | cons r1 r2 =>
      cases r2
      exact core _ _ _ (.tup ht lt) r1 q
/-! sorted(d), d's keys being texts -/
noncomputable def keysS : List (Key × Mv) → Option (List Str)
  | [] => some []
  | (.inr x, _) :: r => (keysS r).om fun ys => x :: ys
  | _ => none
theorem keysS_ok : ∀ {kvs : List (Key × Mv)} {ks : List Str}, keysS kvs = some ks → kvs.map (·.1) = ks.map Sum.inr
  | [], _, h => by cases h; rfl
  | (.inr x, v) :: r, ks, h => by
    obtain ⟨ys, h1, h2⟩ := omap_some.mp (show (keysS r).om (fun ys => x :: ys) = some ks from h)
    cases h2
    show Sum.inr x :: r.map (·.1) = _
    rw [keysS_ok h1]
    rfl
  | (.inl x, v) :: r, ks, h => by cases h
noncomputable def srtDW : Fn := fun ws s => match ws with
  | [.ref n] => match s.get n with
    | some (.dk kvs) => (keysS kvs).ob fun ks => cond (Nat.blt ks.length 64) (newL ((sortS ks).map .str) s) none
    | _ => none
  | _ => none
theorem cm_srtD (hc : X.calm = true) : CallR X (.builtin "sorted") (rF G srtDW) := cal_imp (call_sortedD hc) fun xs H Q ⟨p, s, ws, w, s', S, l, q, k⟩ => by
  match ws, l, q with
  | [.ref n], .cons (.ref hn) .nil, q =>
    have q : (match s.get n with
      | some (.dk kvs) => (keysS kvs).ob fun ks => cond (Nat.blt ks.length 64) (newL ((sortS ks).map .str) s) none
      | _ => none) = some (w, s') := q
    split at q
    · rename_i kvs e
      obtain ⟨ks, g1, g2⟩ := ob_some.mp q
      cases eb : Nat.blt ks.length 64 with
      | false => rw [eb] at g2; cases g2
      | true =>
        rw [eb] at g2
        obtain ⟨ho, hH, kvs', rfl, c1, c2⟩ := S.get hn e
        refine ⟨_, kvs', ks, rfl, .inl hH, by rw [c1]; exact keysS_ok g1, Nat.blt_eq.mp eb, fun ys P hp hsrt hP => ?_⟩
        rw [sortS_uniq hp hsrt]
        exact (newL_ok S (denL_strs (sortS ks)) g2 k).2 P hP
    · cases q
theorem sm_try {body : List Stmt} {h0 : ExceptHandler} {hs : List ExceptHandler} {pos : Pos} {B : Fs} (hn : ∀ e s, ¬ X.xe e s) (hb : PSs X body (tS G B)) : PS X (.Try body (h0 :: hs) [] [] pos) (tS G B) := by
  refine ps_imp (ps_try_never hn hb pss_nil) fun D σ H z => ?_
  exact z
end

end
section
/-! ### the end of a law whose def wants empty guards -/
theorem law_callG {P : Program} {w : World} {K : PySem.W.Frag} {mg mb : Str → Option Value} {k : Nat} {fa a : Addr} {fd : FuncData} {x : Str} {sp : Sp} {st : Shared} {vs : List Value} {ns : List Int}
    (KX : K.In st.heap) (gl : st.heap.Ns mainGlobals mg) (bl : st.heap.Ns builtinsNs mb) (boot : ∀ y : Str, y ≠ "__name__" → mb y = bootBuiltins y) (lim : st.heap.NoLimit) (gens : st.gens = #[])
    (ha : st.heap.get? a = some { cls := .type "list", data := .seq vs.toArray }) (hi : IntsAre vs ns) (hl : ns.length ≤ sizeLine) (room : Room k callerA)
    (F : ∀ base : Heap, K.In base → base.Ns mainGlobals mg → FnG P w K mg base k fa fd [x] sp) (bind : ∀ (s : Shared) (u : Value), BindsTo s fd ⟨[u], []⟩ [(x, u)])
    (pre : ∀ H : Hp, Only H → SqL K H a (ns.map V.int) → sp [.ref a] H (fun v _ => v = .bl true) fun _ _ _ => False) :
    codeAny (model P w) callerA (.call (.ref fa) ⟨[.ref a], []⟩) (fun r s2 => r = .ok (.ret (.bool true)) ∧ OldK st.heap s2.heap ∧ s2.os = st.os ∧ AllBare s2.gens) st := by
  have rel := vals_ints hi
  have main : ∀ H : Hp, (∀ b o, H b = some o → b = a ∧ K.lookup a = none ∧ o = .frz { cls := .type "list", data := .seq vs.toArray } (.lst (ns.map V.int))) → SqL K H a (ns.map V.int) →
      codeAny (model P w) callerA (.call (.ref fa) ⟨[.ref a], []⟩) (fun r s2 => r = .ok (.ret (.bool true)) ∧ OldK st.heap s2.heap ∧ s2.os = st.os ∧ AllBare s2.gens) st := by
    intro H hH hS
    have free : ∀ {b : Addr} {o : Obj}, st.heap.get? b = some o → (∀ us m, o.data ≠ .seq us m) → H b = none := by
      intro b o e hd
      cases q : H b with
      | none => rfl
      | some u =>
        obtain ⟨rfl, _, _⟩ := hH b u q
        rw [ha] at e
        cases e
        exact (hd _ _ rfl).elim
    have spaces : ∀ {b : Addr} {m : Str → Option Value}, st.heap.Ns b m → (hidT st.heap H).Ns b m := by
      rintro b m ⟨o, es, ep, e, d, r⟩
      exact ⟨o, es, ep, hidT_get e (free e fun us m z => by rw [d] at z; cases z), d, r⟩
    have inB : K.In (hidT st.heap H) := fun b o e => by
      refine hidT_get (KX b o e) ?_
      cases q : H b with
      | none => rfl
      | some u =>
        obtain ⟨rfl, z, _⟩ := hH b u q
        rw [z] at e
        cases e
    have md : L2.Mod K mg (hidT st.heap H) := by
      obtain ⟨mc, l1, l2⟩ := lim
      exact ⟨inB, spaces gl, ⟨mb, spaces bl, boot⟩, mc, spaces l1, l2⟩
    have good : HOk P w H st.heap := fun b u z => by
      obtain ⟨rfl, _, rfl⟩ := hH b u z
      exact ⟨ha, by rw [List.length_map]; exact hl, vs, _, rel, ha⟩
    have only : Only H := fun b => by
      cases q : H b with
      | none => exact .inl rfl
      | some u =>
        obtain ⟨_, _, rfl⟩ := hH b u q
        exact .inr ⟨_, _, rfl⟩
    have env : Env0 P w K mg (hidT st.heap H) callerA [] st H :=
      ⟨rfl, md, fun _ _ e => of_hidT e, Nat.le_of_eq (hidT_size _ _), trivial, fun b hb => (by cases (show b ∈ ([] : List Addr) from hb)), good, .of_eq gens⟩
    refine codeAny_mono ((F _ inB (spaces gl)).run callerA rfl [] st H ⟨[.ref a], []⟩ [.ref a] [.ref a] _ _ room env (bind st (.ref a)) (.cons rfl .nil) (pre H only hS)) fun r s2 h => ?_
    match r, h with
    | .error _, h => exact h.elim
    | .ok .next, h => exact h.elim
    | .ok .brk, h => exact h.elim
    | .ok .cont, h => exact h.elim
    | .ok (.ret u), h =>
      obtain ⟨v, H2, os, bare, un, good2, rv, q⟩ := h
      have ev : v = .bl true := q
      subst ev
      have eu : u = Value.bool true := rv
      subst eu
      refine ⟨rfl, OldK.of_keep fun b o e => ?_, os, bare⟩
      cases z : H b with
      | none => exact un.keep b o e z (fun y => by cases (show b ∈ ([] : List Addr) from y)) (by simp)
      | some u2 =>
        obtain ⟨rfl, _, rfl⟩ := hH b u2 z
        obtain ⟨g, _⟩ := good2 b _ (un.frzs b _ _ z)
        rw [ha] at e
        cases e
        exact g
  cases hk : K.lookup a with
  | some o =>
    have e := KX a o hk
    rw [ha] at e
    cases e
    exact main (fun _ => none) (fun b o z => by cases z) (.inr ⟨_, vs.toArray, _, hk, rfl, rfl, rfl, by rw [List.size_toArray, hi.length]; exact hl, by simpa using rel⟩)
  | none =>
    refine main (fun b => if b = a then some (.frz { cls := .type "list", data := .seq vs.toArray } (.lst (ns.map V.int))) else none) (fun b o z => ?_) (.inl (.inr ⟨_, if_pos rfl⟩))
    by_cases hb : b = a
    · have z2 := (if_pos hb).symm.trans z
      cases z2
      exact ⟨hb, hk, rfl⟩
    · have z2 := (if_neg hb).symm.trans z
      cases z2
theorem walk_ofG {l : PySem.W.OpenLaw} {n k : Nat} {q : Program} {loose : List Str} {XP : (Str → Option Value) → Heap → Prop} {YP : World → Heap → Prop} {d : DefRec} {x : Str} (hn : l.most = some n) (hn2 : n ≤ sizeLine) (hdf : d.params.defaults = []) (room : Room k callerA)
    (F : ∀ (w : World) (mg : Str → Option Value) (fa : Addr) (h : Heap), YP w h → h.Ns mainGlobals mg → mg d.name = some (.ref fa) →
      ∃ (K : PySem.W.Frag) (fd : FuncData) (sp : Sp), K.In h ∧ (∀ (s : Shared) (u : Value), BindsTo s fd ⟨[u], []⟩ [(x, u)]) ∧
        (∀ (H : Hp) (a : Addr) (ns : List Int), ns.length ≤ n → Only H → SqL K H a (ns.map V.int) → sp [.ref a] H (fun v _ => v = .bl true) fun _ _ _ => False) ∧
        ∀ base : Heap, K.In base → base.Ns mainGlobals mg → FnG l.prog w K mg base k fa fd [x] sp) :
    PySem.W.WalkO q loose XP YP l.row.toRowW d [] (fun f vs => PySem.call f vs) := by
  refine Att.attach_call hn hdf fun w _ s1 mg mb fa _ _ _ _ a vs ns top Y _ _ _ hmg hob hint hlen gens => ?_
  obtain ⟨K, fd, sp, KX, bind, pre, hF⟩ := F w mg fa _ Y top.T.g hmg
  exact law_callG KX top.T.g top.T.b top.T.builtins top.T.nolimit gens hob hint (Nat.le_trans hlen hn2) room hF bind fun H only sq => pre H a ns hlen only sq
/-! ### a def of one source, as before -/
theorem right_boxG {G : Mg} {P : Program} {w : World} {K : PySem.W.Frag} {mg : Str → Option Value} {base : Heap} {k : Nat} {fa : Addr} {fd : FuncData} {ps : List Str} {f : Fn} {ks : List Int} (F : FnG P w K mg base k fa fd ps (spM G f)) (hd : DrIn G.dr) (hk : ∀ k ∈ ks, (1 : Int) ≤ k) (h : ∀ m ds, InB ks ds → ∃ s', f [.ref 0] (one (.box m ds)) = some (.bl true, s') ∧ s'.get 0 = some (.box (m + ks.length) [])) : FnG P w K mg base k fa fd ps (spM G (rightB ks)) := by
  refine F.imp fun vs H Q E hs => ?_
  obtain ⟨p, s, ws, w, s', S, l, q, kk⟩ := hs
  match ws, l, q with
  | [.ref b], .cons (.ref hb) .nil, q =>
    rename_i ab
    have core : ∀ (a c n : Int) (m : Nat), H ab = some (.lst [.int a, .int c, .int n]) → BoxOk a c n → n ≤ m → m + ks.length ≤ 1000000 → (w, s') = (.bl true, s.put b (.box (m + ks.length) [])) → spM G f [.ref ab] H Q E := by
      intro a c n m hH ok hn hm e
      cases e
      obtain ⟨s1, t1, t2⟩ := h m (drs G.dr ks a c n) (drs_in hd ks hk a c n ok)
      refine ⟨[ab], _, [.ref 0], .bl true, s1, Sim.one (o := .box m (drs G.dr ks a c n)) hH ⟨a, c, n, rfl, ok, hn, by rw [drs_len]; exact hm, drs_Dr G.dr ks a c n⟩, .cons (.ref rfl) .nil, t1, fun p1 v H' S1 f1 d1 => ?_⟩
      obtain ⟨q1, rfl, _⟩ := id f1.pre
      obtain ⟨S2, f2⟩ := S.back (o' := .box (m + ks.length) []) hb S1 f1 fun ho h2 => by
        obtain ⟨o3, ho3, g1, g2, g3⟩ := S1.ob 0 ab (by simp)
        rw [t2] at g1; cases g1
        rw [h2] at g2; cases g2
        exact g3
      cases d1
      exact kk p _ H' S2 f2 (.bl _)
    have q' : (match s.get b with
      | some (.box m []) => cond (Nat.ble (m + ks.length) 1000000) (some (Mv.bl true, s.put b (.box (m + ks.length) []))) none
      | some (.lst [.int a, .int c, .int n]) => cond (decide (0 ≤ a) && (decide (0 ≤ c) && (decide (c < 2 ^ 62) && (decide (n = 0) && Nat.ble ks.length 1000000)))) (some (Mv.bl true, s.put b (.box ks.length []))) none
      | _ => none) = some (w, s') := q
    split at q'
    · rename_i m e
      cases ec : Nat.ble (m + ks.length) 1000000 with
      | false => rw [ec] at q'; cases q'
      | true =>
        rw [ec] at q'
        obtain ⟨ho, hH, a, c, n, rfl, ok, hn, hm, _⟩ := S.get hb e
        exact core a c n m hH ok hn (Nat.le_of_ble_eq_true ec) (Option.some.inj q').symm
    · rename_i a c n e
      cases ec : (decide (0 ≤ a) && (decide (0 ≤ c) && (decide (c < 2 ^ 62) && (decide (n = 0) && Nat.ble ks.length 1000000)))) with
      | false => rw [ec] at q'; cases q'
      | true =>
        rw [ec] at q'
        obtain ⟨c1, c2⟩ := Bool.and_eq_true_iff.mp ec
        obtain ⟨c3, c4⟩ := Bool.and_eq_true_iff.mp c2
        obtain ⟨c5, c6⟩ := Bool.and_eq_true_iff.mp c4
        obtain ⟨c7, c8⟩ := Bool.and_eq_true_iff.mp c6
        obtain ⟨ho, hH, vs3, rfl, l3, _⟩ := S.get hb e
        rw [ints3 l3] at hH
        have hn := of_decide_eq_true c7
        subst hn
        refine core a c 0 0 hH ⟨of_decide_eq_true c1, of_decide_eq_true c3, of_decide_eq_true c5, by decide⟩ (by decide) (by have := Nat.le_of_ble_eq_true c8; omega) ?_
        rw [Nat.zero_add]
        exact (Option.some.inj q').symm
    · cases q'

end
/-! ### the law's draws, as numbers -/
def drawF (k a c n : Int) : Int × Int × Int :=
  if 0 < a then (a % k, a / k, n) else
    ((((((c + 52021 * (n + 1)) * (38039 + (n + 1)) % 2147483647 + (n + 1) + c / 1000003) * ((c + 52021 * (n + 1)) * (38039 + (n + 1)) % 2147483647 % 40009 + 11)) % 2147483629) * 52021 + (c + 52021 * (n + 1)) * (38039 + (n + 1)) % 2147483647) % 2147483587 / 64 % k, a, n + 1)
theorem drawF_in : DrIn drawF := by
  intro a c n k ok hk
  unfold drawF
  by_cases h : 0 < a
  · rw [if_pos h]
    exact ⟨Int.emod_nonneg _ (by omega), Int.emod_lt_of_pos _ (by omega), Int.ediv_nonneg ok.a0 (by omega), ok.c0, ok.c1, ok.n0⟩
  · rw [if_neg h]
    have := ok.n0
    exact ⟨Int.emod_nonneg _ (by omega), Int.emod_lt_of_pos _ (by omega), ok.a0, ok.c0, ok.c1, by show (0 : Int) ≤ n + 1; omega⟩

/-! ### the program of the law, by places -/
def top (i : Nat) : Stmt := PySem.Challenge.pw_latebound_k08_processes_known_by_hand.main.body.getD i (.Pass ⟨0, 0, 0, 0⟩)
abbrev s_law : Stmt := top 48
abbrev s__law_box : Stmt := top 39
abbrev s__law_cell_at : Stmt := top 38
abbrev s__law_right : Stmt := top 47
abbrev s__law_pick : Stmt := top 41
abbrev s__law_take : Stmt := top 40
abbrev s__law_stays_right : Stmt := top 43
abbrev s_Process___init__ : Stmt := inClass (top 32) 0
abbrev s_Ground___init__ : Stmt := inClass (top 31) 0
abbrev s_as_tuples : Stmt := top 6
abbrev s_first_row : Stmt := top 17
abbrev s_row : Stmt := top 16
abbrev s_lib_at : Stmt := top 14
abbrev s_lib_of : Stmt := top 7
abbrev s_door_row : Stmt := top 18
abbrev s_Process_all_here : Stmt := inClass (top 32) 1
abbrev s_Process_open_door : Stmt := inClass (top 32) 15
abbrev s_Process_look_door : Stmt := inClass (top 32) 14
abbrev s_Process_come : Stmt := inClass (top 32) 16
abbrev s_Process_is_there : Stmt := inClass (top 32) 5
abbrev s_Process_public : Stmt := inClass (top 32) 7
abbrev s_Process_close_door : Stmt := inClass (top 32) 17
abbrev s_Process_go : Stmt := inClass (top 32) 18
abbrev s_Process_left : Stmt := inClass (top 32) 19
abbrev s_Process_call : Stmt := inClass (top 32) 21
abbrev s_Process_slot : Stmt := inClass (top 32) 11
abbrev s_Process_look_there : Stmt := inClass (top 32) 9
abbrev s_use_at : Stmt := top 15
abbrev s_Process_found : Stmt := inClass (top 32) 20
abbrev s_Process_looks : Stmt := inClass (top 32) 10
abbrev s_version_of : Stmt := top 20
abbrev s_serves : Stmt := top 19
abbrev s_Process_there : Stmt := inClass (top 32) 6
abbrev s__law_same : Stmt := top 42
abbrev s__law_deep_right : Stmt := top 44
abbrev s_Process_deep : Stmt := inClass (top 32) 8
abbrev s__law_version_right : Stmt := top 45
abbrev s_run : Stmt := top 36
abbrev s_answer_of : Stmt := top 35
abbrev s_Process_do : Stmt := inClass (top 32) 22
abbrev s__law_ring_right : Stmt := top 46
abbrev s_Process_counts : Stmt := inClass (top 32) 3
abbrev s_Process_base : Stmt := inClass (top 32) 12
/-! ### texts -/
def x0 : Str := ⟨#[111, 112, 101, 110]⟩
theorem e_x0 : (Str.ofString "open" : Str) = x0 := by decide +kernel
def x1 : Str := ⟨#[100, 101, 101, 112]⟩
theorem e_x1 : (Str.ofString "deep" : Str) = x1 := by decide +kernel
def x2 : Str := ⟨#[113]⟩
theorem e_x2 : (Str.ofString "q" : Str) = x2 := by decide +kernel
def x3 : Str := ⟨#[108]⟩
theorem e_x3 : (Str.ofString "l" : Str) = x3 := by decide +kernel
def x4 : Str := ⟨#[108, 105]⟩
theorem e_x4 : (Str.ofString "li" : Str) = x4 := by decide +kernel
def x5 : Str := ⟨#[108, 105, 98]⟩
theorem e_x5 : (Str.ofString "lib" : Str) = x5 := by decide +kernel
def x6 : Str := ⟨#[97, 98, 99, 100, 101, 102, 103, 104]⟩
theorem e_x6 : (Str.ofString "abcdefgh" : Str) = x6 := by decide +kernel
def x7 : Str := ⟨#[121]⟩
theorem e_x7 : (Str.ofString "y" : Str) = x7 := by decide +kernel
def x8 : Str := ⟨#[122, 122]⟩
theorem e_x8 : (Str.ofString "zz" : Str) = x8 := by decide +kernel
def x9 : Str := ⟨#[99]⟩
theorem e_x9 : (Str.ofString "c" : Str) = x9 := by decide +kernel
def x10 : Str := ⟨#[98]⟩
theorem e_x10 : (Str.ofString "b" : Str) = x10 := by decide +kernel
def x11 : Str := ⟨#[97]⟩
theorem e_x11 : (Str.ofString "a" : Str) = x11 := by decide +kernel
def x12 : Str := ⟨#[]⟩
theorem e_x12 : (Str.ofString "" : Str) = x12 := by decide +kernel
def x13 : Str := ⟨#[102]⟩
theorem e_x13 : (Str.ofString "f" : Str) = x13 := by decide +kernel
def x14 : Str := ⟨#[109]⟩
theorem e_x14 : (Str.ofString "m" : Str) = x14 := by decide +kernel
def x15 : Str := ⟨#[103, 108, 111, 98, 97, 108]⟩
theorem e_x15 : (Str.ofString "global" : Str) = x15 := by decide +kernel
def x16 : Str := ⟨#[108, 111, 99, 97, 108]⟩
theorem e_x16 : (Str.ofString "local" : Str) = x16 := by decide +kernel
def x17 : Str := ⟨#[98, 111, 117, 110, 100]⟩
theorem e_x17 : (Str.ofString "bound" : Str) = x17 := by decide +kernel
def x18 : Str := ⟨#[111, 112, 101, 110, 101, 100]⟩
theorem e_x18 : (Str.ofString "opened" : Str) = x18 := by decide +kernel
def x19 : Str := ⟨#[99, 108, 111, 115, 101, 100]⟩
theorem e_x19 : (Str.ofString "closed" : Str) = x19 := by decide +kernel
def x20 : Str := ⟨#[116, 111, 114, 110]⟩
theorem e_x20 : (Str.ofString "torn" : Str) = x20 := by decide +kernel
def x21 : Str := ⟨#[103]⟩
theorem e_x21 : (Str.ofString "g" : Str) = x21 := by decide +kernel
def x22 : Str := ⟨#[120]⟩
theorem e_x22 : (Str.ofString "x" : Str) = x22 := by decide +kernel
def x23 : Str := ⟨#[110, 111, 98, 111, 100, 121]⟩
theorem e_x23 : (Str.ofString "nobody" : Str) = x23 := by decide +kernel
def x24 : Str := ⟨#[119]⟩
theorem e_x24 : (Str.ofString "w" : Str) = x24 := by decide +kernel
def x25 : Str := ⟨#[118]⟩
theorem e_x25 : (Str.ofString "v" : Str) = x25 := by decide +kernel
def x26 : Str := ⟨#[117]⟩
theorem e_x26 : (Str.ofString "u" : Str) = x26 := by decide +kernel
def x27 : Str := ⟨#[99, 97, 108, 108]⟩
theorem e_x27 : (Str.ofString "call" : Str) = x27 := by decide +kernel
def x28 : Str := ⟨#[108, 111, 115, 116]⟩
theorem e_x28 : (Str.ofString "lost" : Str) = x28 := by decide +kernel
def x29 : Str := ⟨#[99, 108, 111, 115, 101]⟩
theorem e_x29 : (Str.ofString "close" : Str) = x29 := by decide +kernel
def x30 : Str := ⟨#[102, 117, 108, 108]⟩
theorem e_x30 : (Str.ofString "full" : Str) = x30 := by decide +kernel
def x31 : Str := ⟨#[115, 104, 117, 116]⟩
theorem e_x31 : (Str.ofString "shut" : Str) = x31 := by decide +kernel
def x32 : Str := ⟨#[97, 119, 97, 121]⟩
theorem e_x32 : (Str.ofString "away" : Str) = x32 := by decide +kernel
/-! ### what the top leaves: the facts that are asked of it -/
def dd_law : He.DefD := ⟨("law", none), "law", "law", defArgs s_law, defBody s_law, defScope s_law, [], []⟩
def dd__law_box : He.DefD := ⟨("_law_box", none), "_law_box", "_law_box", defArgs s__law_box, defBody s__law_box, defScope s__law_box, [], []⟩
def dd__law_cell_at : He.DefD := ⟨("_law_cell_at", none), "_law_cell_at", "_law_cell_at", defArgs s__law_cell_at, defBody s__law_cell_at, defScope s__law_cell_at, [], []⟩
def dd__law_right : He.DefD := ⟨("_law_right", none), "_law_right", "_law_right", defArgs s__law_right, defBody s__law_right, defScope s__law_right, [], []⟩
def dd__law_pick : He.DefD := ⟨("_law_pick", none), "_law_pick", "_law_pick", defArgs s__law_pick, defBody s__law_pick, defScope s__law_pick, [], []⟩
def dd__law_take : He.DefD := ⟨("_law_take", none), "_law_take", "_law_take", defArgs s__law_take, defBody s__law_take, defScope s__law_take, [], []⟩
def dd__law_stays_right : He.DefD := ⟨("_law_stays_right", none), "_law_stays_right", "_law_stays_right", defArgs s__law_stays_right, defBody s__law_stays_right, defScope s__law_stays_right, [], []⟩
def dd_Process___init__ : He.DefD := ⟨("Process", some "__init__"), "__init__", "Process.__init__", defArgs s_Process___init__, defBody s_Process___init__, defScope s_Process___init__, [], []⟩
def dd_Ground___init__ : He.DefD := ⟨("Ground", some "__init__"), "__init__", "Ground.__init__", defArgs s_Ground___init__, defBody s_Ground___init__, defScope s_Ground___init__, [], []⟩
def dd_as_tuples : He.DefD := ⟨("as_tuples", none), "as_tuples", "as_tuples", defArgs s_as_tuples, defBody s_as_tuples, defScope s_as_tuples, [], []⟩
def dd_first_row : He.DefD := ⟨("first_row", none), "first_row", "first_row", defArgs s_first_row, defBody s_first_row, defScope s_first_row, [], []⟩
def dd_row : He.DefD := ⟨("row", none), "row", "row", defArgs s_row, defBody s_row, defScope s_row, [], []⟩
def dd_lib_at : He.DefD := ⟨("lib_at", none), "lib_at", "lib_at", defArgs s_lib_at, defBody s_lib_at, defScope s_lib_at, [], []⟩
def dd_lib_of : He.DefD := ⟨("lib_of", none), "lib_of", "lib_of", defArgs s_lib_of, defBody s_lib_of, defScope s_lib_of, [], []⟩
def dd_door_row : He.DefD := ⟨("door_row", none), "door_row", "door_row", defArgs s_door_row, defBody s_door_row, defScope s_door_row, [], []⟩
def dd_Process_all_here : He.DefD := ⟨("Process", some "all_here"), "all_here", "Process.all_here", defArgs s_Process_all_here, defBody s_Process_all_here, defScope s_Process_all_here, [], []⟩
def dd_Process_open_door : He.DefD := ⟨("Process", some "open_door"), "open_door", "Process.open_door", defArgs s_Process_open_door, defBody s_Process_open_door, defScope s_Process_open_door, [], []⟩
def dd_Process_look_door : He.DefD := ⟨("Process", some "look_door"), "look_door", "Process.look_door", defArgs s_Process_look_door, defBody s_Process_look_door, defScope s_Process_look_door, [], []⟩
def dd_Process_come : He.DefD := ⟨("Process", some "come"), "come", "Process.come", defArgs s_Process_come, defBody s_Process_come, defScope s_Process_come, [], []⟩
def dd_Process_is_there : He.DefD := ⟨("Process", some "is_there"), "is_there", "Process.is_there", defArgs s_Process_is_there, defBody s_Process_is_there, defScope s_Process_is_there, [], []⟩
def dd_Process_public : He.DefD := ⟨("Process", some "public"), "public", "Process.public", defArgs s_Process_public, defBody s_Process_public, defScope s_Process_public, [], []⟩
def dd_Process_close_door : He.DefD := ⟨("Process", some "close_door"), "close_door", "Process.close_door", defArgs s_Process_close_door, defBody s_Process_close_door, defScope s_Process_close_door, [], []⟩
def dd_Process_go : He.DefD := ⟨("Process", some "go"), "go", "Process.go", defArgs s_Process_go, defBody s_Process_go, defScope s_Process_go, [], []⟩
def dd_Process_left : He.DefD := ⟨("Process", some "left"), "left", "Process.left", defArgs s_Process_left, defBody s_Process_left, defScope s_Process_left, [], []⟩
def dd_Process_call : He.DefD := ⟨("Process", some "call"), "call", "Process.call", defArgs s_Process_call, defBody s_Process_call, defScope s_Process_call, [], []⟩
def dd_Process_slot : He.DefD := ⟨("Process", some "slot"), "slot", "Process.slot", defArgs s_Process_slot, defBody s_Process_slot, defScope s_Process_slot, [], []⟩
def dd_Process_look_there : He.DefD := ⟨("Process", some "look_there"), "look_there", "Process.look_there", defArgs s_Process_look_there, defBody s_Process_look_there, defScope s_Process_look_there, [], []⟩
def dd_use_at : He.DefD := ⟨("use_at", none), "use_at", "use_at", defArgs s_use_at, defBody s_use_at, defScope s_use_at, [], []⟩
def dd_Process_found : He.DefD := ⟨("Process", some "found"), "found", "Process.found", defArgs s_Process_found, defBody s_Process_found, defScope s_Process_found, [], []⟩
def dd_Process_looks : He.DefD := ⟨("Process", some "looks"), "looks", "Process.looks", defArgs s_Process_looks, defBody s_Process_looks, defScope s_Process_looks, [], []⟩
def dd_version_of : He.DefD := ⟨("version_of", none), "version_of", "version_of", defArgs s_version_of, defBody s_version_of, defScope s_version_of, [], []⟩
def dd_serves : He.DefD := ⟨("serves", none), "serves", "serves", defArgs s_serves, defBody s_serves, defScope s_serves, [], []⟩
def dd_Process_there : He.DefD := ⟨("Process", some "there"), "there", "Process.there", defArgs s_Process_there, defBody s_Process_there, defScope s_Process_there, [], []⟩
def dd__law_same : He.DefD := ⟨("_law_same", none), "_law_same", "_law_same", defArgs s__law_same, defBody s__law_same, defScope s__law_same, [], []⟩
def dd__law_deep_right : He.DefD := ⟨("_law_deep_right", none), "_law_deep_right", "_law_deep_right", defArgs s__law_deep_right, defBody s__law_deep_right, defScope s__law_deep_right, [], []⟩
def dd_Process_deep : He.DefD := ⟨("Process", some "deep"), "deep", "Process.deep", defArgs s_Process_deep, defBody s_Process_deep, defScope s_Process_deep, [], []⟩
def dd__law_version_right : He.DefD := ⟨("_law_version_right", none), "_law_version_right", "_law_version_right", defArgs s__law_version_right, defBody s__law_version_right, defScope s__law_version_right, [], []⟩
def dd_run : He.DefD := ⟨("run", none), "run", "run", defArgs s_run, defBody s_run, defScope s_run, [], []⟩
def dd_answer_of : He.DefD := ⟨("answer_of", none), "answer_of", "answer_of", defArgs s_answer_of, defBody s_answer_of, defScope s_answer_of, [], []⟩
def dd_Process_do : He.DefD := ⟨("Process", some "do"), "do", "Process.do", defArgs s_Process_do, defBody s_Process_do, defScope s_Process_do, [], []⟩
def dd__law_ring_right : He.DefD := ⟨("_law_ring_right", none), "_law_ring_right", "_law_ring_right", defArgs s__law_ring_right, defBody s__law_ring_right, defScope s__law_ring_right, [], []⟩
def dd_Process_counts : He.DefD := ⟨("Process", some "counts"), "counts", "Process.counts", defArgs s_Process_counts, defBody s_Process_counts, defScope s_Process_counts, [], []⟩
def dd_Process_base : He.DefD := ⟨("Process", some "base"), "base", "Process.base", defArgs s_Process_base, defBody s_Process_base, defScope s_Process_base, [], []⟩
def fn : List He.DefD := ([dd_law, dd__law_box, dd__law_cell_at, dd__law_right, dd__law_pick, dd__law_take, dd__law_stays_right, dd_Process___init__, dd_Ground___init__, dd_as_tuples, dd_first_row, dd_row, dd_lib_at, dd_lib_of, dd_door_row, dd_Process_all_here, dd_Process_open_door, dd_Process_look_door, dd_Process_come, dd_Process_is_there, dd_Process_public, dd_Process_close_door, dd_Process_go, dd_Process_left, dd_Process_call, dd_Process_slot, dd_Process_look_there, dd_use_at, dd_Process_found, dd_Process_looks] : List He.DefD) ++ ([dd_version_of, dd_serves, dd_Process_there, dd__law_same, dd__law_deep_right, dd_Process_deep, dd__law_version_right, dd_run, dd_answer_of, dd_Process_do, dd__law_ring_right, dd_Process_counts, dd_Process_base] : List He.DefD)
def glos : List Str := (["_law_cell_at", "_law_box", "_law_take", "_law_pick", "Ground", "as_tuples", "lib_of", "lib_at", "row", "first_row", "door_row", "Process", "use_at", "serves", "version_of", "_law_same", "_law_stays_right", "_law_deep_right", "answer_of", "run", "_law_version_right", "_law_ring_right", "_law_right", "law", "FULL", "OPENED", "SHUT", "TORN", "CLOSED", "NOBODY"] : List Str) ++ (["LOST", "AWAY"] : List Str)
def frees : List Str := ["range", "min", "len", "int", "abs", "all", "isinstance", "tuple", "list", "sorted", "repr"]
def fa : List He.Fa := ([.int "MOST" 2, .str "DEEP" "deep", .str "GLOBAL" "global", .str "BOUND" "bound", .str "CALL" "call", .str "OPEN" "open", .cls "Process", .cls "Ground", .noat "Ground" "own_first", .noat "Ground" "own_program", .noat "Ground" "own_rows", .noat "Process" "own_counts", .noat "Process" "own_deep", .noat "Process" "own_first", .noat "Process" "own_ground", .noat "Process" "own_here", .noat "Process" "own_opened", .noat "Process" "own_program", .noat "Process" "own_public", .noat "Process" "own_rows", .noat "Process" "own_slots", .meth "Process" "all_here", .meth "Process" "base", .meth "Process" "call", .meth "Process" "close_door", .meth "Process" "come", .meth "Process" "counts", .meth "Process" "deep", .meth "Process" "do", .meth "Process" "found"] : List He.Fa) ++ ([.meth "Process" "go", .meth "Process" "is_there", .meth "Process" "left", .meth "Process" "look_door", .meth "Process" "look_there", .meth "Process" "looks", .meth "Process" "open_door", .meth "Process" "public", .meth "Process" "slot", .meth "Process" "there", .mkr "Process", .mkr "Ground"] : List He.Fa)
def faAll : List He.Fa := fa ++ (glos.map He.Fa.glo ++ frees.map He.Fa.free)
def tf : List He.Defn := []
def exB (K : PySem.W.Frag) : Bool := (He.tupB K "FULL" [.str "full"] && He.tupB K "OPENED" [.str "opened"] && He.tupB K "SHUT" [.str "shut"] && He.tupB K "TORN" [.str "torn"] && He.tupB K "CLOSED" [.str "closed"] && He.tupB K "NOBODY" [.str "nobody"] && He.tupB K "LOST" [.str "lost"] && He.tupB K "AWAY" [.str "away"]) && (isCB K (He.ga K "Ground"))
def fnames : List Str := ["own_program", "own_first", "own_rows", "own_ground", "own_counts", "own_opened", "own_public", "own_deep", "own_slots", "own_here"]
def GG (P : Program) (w : World) (K : PySem.W.Frag) : Mg where
  P := P
  w := w
  K := K
  cad := fun c => He.ga K ((["Process", "Ground"] : List Str).getD c "")
  nf := 10
  nm := fun k => fnames.getD k ""
  dr := drawF
  tad := fun t => (He.cT K (tf.getD t ("", none))).2
  inj := fun i j hi hj h => by
    have nd : fnames.Nodup := by decide +kernel
    have e1 : fnames[i]? = some (fnames.getD i "") := by rw [List.getD_eq_getElem?_getD, List.getElem?_eq_getElem (show i < fnames.length from hi)]; rfl
    have e2 : fnames[j]? = some (fnames.getD j "") := by rw [List.getD_eq_getElem?_getD, List.getElem?_eq_getElem (show j < fnames.length from hj)]; rfl
    exact nodup_at nd e1 (by rw [h]; exact e2)
structure Tx (K : PySem.W.Frag) (mg : Str → Option Value) (base : Heap) where
  fd : Nat → FuncData
  df : ∀ (i : Nat) (d : He.DefD), fn[i]? = some d → FunD K d.name d.qual d.params d.body d.scope (d.dvs K) (d.kws K) (He.fAd K d.at_) (fd i)
  gl : ∀ x, x ∈ glos → mg x = some (.ref (He.ga K x))
  fr : ∀ x, x ∈ frees → mg x = none
  fc : ∀ f, f ∈ fa → f.ok K = true
  gi : ∀ (x : Str) (i : Int), He.Fa.int x i ∈ fa → ∃ t, mg x = some (.int i t)
  gs : ∀ (x z : Str), He.Fa.str x z ∈ fa → ∃ t, mg x = some (.str z t)
  ex : exB K = true
  tb : ∀ p ∈ tf.map (He.cT K), LamX.TabB base mg p.1 p.2
section
variable {P : Program} {w : World} {K : PySem.W.Frag} {mg : Str → Option Value} {base : Heap}
theorem Tx.kp (T : Tx K mg base) (i : Nat) {d : He.DefD} (h : fn[i]? = some d) : PySem.W.keepIn K (.ref (He.fAd K d.at_)) = true := (T.df i d h).kp
theorem Tx.cl (T : Tx K mg base) (x : Str) (h : He.Fa.cls x ∈ fa) : Cls K (He.ga K x) := He.cls_ok (T.fc _ h)
theorem Tx.na (T : Tx K mg base) (x f : Str) (h : He.Fa.noat x f ∈ fa) : NoAttr K (He.ga K x) f := He.noat_ok (T.fc _ h)
theorem Tx.me (T : Tx K mg base) (x m : Str) (h : He.Fa.meth x m ∈ fa) : Meth K (He.ga K x) m (He.ma K (He.ga K x) m) := He.meth_ok (T.fc _ h)
theorem Tx.mkr (T : Tx K mg base) (x : Str) (h : He.Fa.mkr x ∈ fa) : Mk K (He.ga K x) (He.ma K (He.ga K x) "__init__") := He.mkr_ok (T.fc _ h)
def tw_FULL : List Mv := [.str x30]
theorem Tx.tp_FULL (T : Tx K mg base) (H : Hp) : SqT K H (He.ga K "FULL") [.str (Str.ofString "full")] := He.tupB_ok (vs := [.str "full"]) (Bool.and_eq_true_iff.mp (Bool.and_eq_true_iff.mp (Bool.and_eq_true_iff.mp (Bool.and_eq_true_iff.mp (Bool.and_eq_true_iff.mp (Bool.and_eq_true_iff.mp (Bool.and_eq_true_iff.mp (Bool.and_eq_true_iff.mp T.ex).1).1).1).1).1).1).1).1 H
theorem tl_FULL {p : List Addr} {H : Hp} : DenL (GG P w K) p H tw_FULL [.str (Str.ofString "full")] := .cons (by rw [e_x30]; exact .str _) (.nil)
def tw_OPENED : List Mv := [.str x18]
theorem Tx.tp_OPENED (T : Tx K mg base) (H : Hp) : SqT K H (He.ga K "OPENED") [.str (Str.ofString "opened")] := He.tupB_ok (vs := [.str "opened"]) (Bool.and_eq_true_iff.mp (Bool.and_eq_true_iff.mp (Bool.and_eq_true_iff.mp (Bool.and_eq_true_iff.mp (Bool.and_eq_true_iff.mp (Bool.and_eq_true_iff.mp (Bool.and_eq_true_iff.mp (Bool.and_eq_true_iff.mp T.ex).1).1).1).1).1).1).1).2 H
theorem tl_OPENED {p : List Addr} {H : Hp} : DenL (GG P w K) p H tw_OPENED [.str (Str.ofString "opened")] := .cons (by rw [e_x18]; exact .str _) (.nil)
def tw_SHUT : List Mv := [.str x31]
theorem Tx.tp_SHUT (T : Tx K mg base) (H : Hp) : SqT K H (He.ga K "SHUT") [.str (Str.ofString "shut")] := He.tupB_ok (vs := [.str "shut"]) (Bool.and_eq_true_iff.mp (Bool.and_eq_true_iff.mp (Bool.and_eq_true_iff.mp (Bool.and_eq_true_iff.mp (Bool.and_eq_true_iff.mp (Bool.and_eq_true_iff.mp (Bool.and_eq_true_iff.mp T.ex).1).1).1).1).1).1).2 H
theorem tl_SHUT {p : List Addr} {H : Hp} : DenL (GG P w K) p H tw_SHUT [.str (Str.ofString "shut")] := .cons (by rw [e_x31]; exact .str _) (.nil)
def tw_TORN : List Mv := [.str x20]
theorem Tx.tp_TORN (T : Tx K mg base) (H : Hp) : SqT K H (He.ga K "TORN") [.str (Str.ofString "torn")] := He.tupB_ok (vs := [.str "torn"]) (Bool.and_eq_true_iff.mp (Bool.and_eq_true_iff.mp (Bool.and_eq_true_iff.mp (Bool.and_eq_true_iff.mp (Bool.and_eq_true_iff.mp (Bool.and_eq_true_iff.mp T.ex).1).1).1).1).1).2 H
theorem tl_TORN {p : List Addr} {H : Hp} : DenL (GG P w K) p H tw_TORN [.str (Str.ofString "torn")] := .cons (by rw [e_x20]; exact .str _) (.nil)
def tw_CLOSED : List Mv := [.str x19]
theorem Tx.tp_CLOSED (T : Tx K mg base) (H : Hp) : SqT K H (He.ga K "CLOSED") [.str (Str.ofString "closed")] := He.tupB_ok (vs := [.str "closed"]) (Bool.and_eq_true_iff.mp (Bool.and_eq_true_iff.mp (Bool.and_eq_true_iff.mp (Bool.and_eq_true_iff.mp (Bool.and_eq_true_iff.mp T.ex).1).1).1).1).2 H
theorem tl_CLOSED {p : List Addr} {H : Hp} : DenL (GG P w K) p H tw_CLOSED [.str (Str.ofString "closed")] := .cons (by rw [e_x19]; exact .str _) (.nil)
def tw_NOBODY : List Mv := [.str x23]
theorem Tx.tp_NOBODY (T : Tx K mg base) (H : Hp) : SqT K H (He.ga K "NOBODY") [.str (Str.ofString "nobody")] := He.tupB_ok (vs := [.str "nobody"]) (Bool.and_eq_true_iff.mp (Bool.and_eq_true_iff.mp (Bool.and_eq_true_iff.mp (Bool.and_eq_true_iff.mp T.ex).1).1).1).2 H
theorem tl_NOBODY {p : List Addr} {H : Hp} : DenL (GG P w K) p H tw_NOBODY [.str (Str.ofString "nobody")] := .cons (by rw [e_x23]; exact .str _) (.nil)
def tw_LOST : List Mv := [.str x28]
theorem Tx.tp_LOST (T : Tx K mg base) (H : Hp) : SqT K H (He.ga K "LOST") [.str (Str.ofString "lost")] := He.tupB_ok (vs := [.str "lost"]) (Bool.and_eq_true_iff.mp (Bool.and_eq_true_iff.mp (Bool.and_eq_true_iff.mp T.ex).1).1).2 H
theorem tl_LOST {p : List Addr} {H : Hp} : DenL (GG P w K) p H tw_LOST [.str (Str.ofString "lost")] := .cons (by rw [e_x28]; exact .str _) (.nil)
def tw_AWAY : List Mv := [.str x32]
theorem Tx.tp_AWAY (T : Tx K mg base) (H : Hp) : SqT K H (He.ga K "AWAY") [.str (Str.ofString "away")] := He.tupB_ok (vs := [.str "away"]) (Bool.and_eq_true_iff.mp (Bool.and_eq_true_iff.mp T.ex).1).2 H
theorem tl_AWAY {p : List Addr} {H : Hp} : DenL (GG P w K) p H tw_AWAY [.str (Str.ofString "away")] := .cons (by rw [e_x32]; exact .str _) (.nil)
theorem Tx.isc_Ground (T : Tx K mg base) : IsC K (He.ga K "Ground") := isC_ok (Bool.and_eq_true_iff.mp T.ex).2
theorem hno_Process_all_here : ∀ j, j < (GG P w K).nf → (GG P w K).nm j ≠ "all_here" := by
  have h : ∀ j, j < fnames.length → fnames.getD j "" ≠ "all_here" := by decide +kernel
  exact h
theorem hno_Process_base : ∀ j, j < (GG P w K).nf → (GG P w K).nm j ≠ "base" := by
  have h : ∀ j, j < fnames.length → fnames.getD j "" ≠ "base" := by decide +kernel
  exact h
theorem hno_Process_call : ∀ j, j < (GG P w K).nf → (GG P w K).nm j ≠ "call" := by
  have h : ∀ j, j < fnames.length → fnames.getD j "" ≠ "call" := by decide +kernel
  exact h
theorem hno_Process_close_door : ∀ j, j < (GG P w K).nf → (GG P w K).nm j ≠ "close_door" := by
  have h : ∀ j, j < fnames.length → fnames.getD j "" ≠ "close_door" := by decide +kernel
  exact h
theorem hno_Process_come : ∀ j, j < (GG P w K).nf → (GG P w K).nm j ≠ "come" := by
  have h : ∀ j, j < fnames.length → fnames.getD j "" ≠ "come" := by decide +kernel
  exact h
theorem hno_Process_counts : ∀ j, j < (GG P w K).nf → (GG P w K).nm j ≠ "counts" := by
  have h : ∀ j, j < fnames.length → fnames.getD j "" ≠ "counts" := by decide +kernel
  exact h
theorem hno_Process_deep : ∀ j, j < (GG P w K).nf → (GG P w K).nm j ≠ "deep" := by
  have h : ∀ j, j < fnames.length → fnames.getD j "" ≠ "deep" := by decide +kernel
  exact h
theorem hno_Process_do : ∀ j, j < (GG P w K).nf → (GG P w K).nm j ≠ "do" := by
  have h : ∀ j, j < fnames.length → fnames.getD j "" ≠ "do" := by decide +kernel
  exact h
theorem hno_Process_found : ∀ j, j < (GG P w K).nf → (GG P w K).nm j ≠ "found" := by
  have h : ∀ j, j < fnames.length → fnames.getD j "" ≠ "found" := by decide +kernel
  exact h
theorem hno_Process_go : ∀ j, j < (GG P w K).nf → (GG P w K).nm j ≠ "go" := by
  have h : ∀ j, j < fnames.length → fnames.getD j "" ≠ "go" := by decide +kernel
  exact h
theorem hno_Process_is_there : ∀ j, j < (GG P w K).nf → (GG P w K).nm j ≠ "is_there" := by
  have h : ∀ j, j < fnames.length → fnames.getD j "" ≠ "is_there" := by decide +kernel
  exact h
theorem hno_Process_left : ∀ j, j < (GG P w K).nf → (GG P w K).nm j ≠ "left" := by
  have h : ∀ j, j < fnames.length → fnames.getD j "" ≠ "left" := by decide +kernel
  exact h
theorem hno_Process_look_door : ∀ j, j < (GG P w K).nf → (GG P w K).nm j ≠ "look_door" := by
  have h : ∀ j, j < fnames.length → fnames.getD j "" ≠ "look_door" := by decide +kernel
  exact h
theorem hno_Process_look_there : ∀ j, j < (GG P w K).nf → (GG P w K).nm j ≠ "look_there" := by
  have h : ∀ j, j < fnames.length → fnames.getD j "" ≠ "look_there" := by decide +kernel
  exact h
theorem hno_Process_looks : ∀ j, j < (GG P w K).nf → (GG P w K).nm j ≠ "looks" := by
  have h : ∀ j, j < fnames.length → fnames.getD j "" ≠ "looks" := by decide +kernel
  exact h
theorem hno_Process_open_door : ∀ j, j < (GG P w K).nf → (GG P w K).nm j ≠ "open_door" := by
  have h : ∀ j, j < fnames.length → fnames.getD j "" ≠ "open_door" := by decide +kernel
  exact h
theorem hno_Process_public : ∀ j, j < (GG P w K).nf → (GG P w K).nm j ≠ "public" := by
  have h : ∀ j, j < fnames.length → fnames.getD j "" ≠ "public" := by decide +kernel
  exact h
theorem hno_Process_slot : ∀ j, j < (GG P w K).nf → (GG P w K).nm j ≠ "slot" := by
  have h : ∀ j, j < fnames.length → fnames.getD j "" ≠ "slot" := by decide +kernel
  exact h
theorem hno_Process_there : ∀ j, j < (GG P w K).nf → (GG P w K).nm j ≠ "there" := by
  have h : ∀ j, j < fnames.length → fnames.getD j "" ≠ "there" := by decide +kernel
  exact h
end
/-! ### the mirror, def by def, and what each def keeps -/
section
variable {P : Program} {w : World} {K : PySem.W.Frag} {mg : Str → Option Value} {base : Heap}
def N__law_cell_at : List Str := ["_law_script", "_law_gate"]
theorem sc__law_cell_at : FnScope ["_law_script", "_law_gate"] ["_law_script", "_law_gate"] (defScope s__law_cell_at) := ⟨rfl, rfl, rfl, by decide +kernel, rfl, by decide +kernel, by decide +kernel⟩
theorem b__law_cell_at (T : Tx K mg base) : Binds K (T.fd 2) ["_law_script", "_law_gate"] [] := FunD.bindsN (T.df 2 dd__law_cell_at rfl) fun _ _ _ _ _ _ us hl => match us, hl with | [_, _], _ => rfl
def bd__law_cell_at : Fs :=
  sret (mif (mtB (mop2 ltW (mvar 1) (mcall lenW (mcons (mvar 0) (mnil))))) (mop2 ixA (mvar 0) (mvar 1)) (mcon (.int 0)))
def m__law_cell_at : Fn := fnM 2 2 bd__law_cell_at
theorem ok__law_cell_at (T : Tx K mg base) : FnOk P w K mg base CX0 1 (He.ga K "_law_cell_at") (T.fd 2) ["_law_script", "_law_gate"] (spM (GG P w K) m__law_cell_at) :=
  fn_okD (B := bd__law_cell_at) (T.df 2 dd__law_cell_at rfl) sc__law_cell_at (hb := fun cdv A outer s H E hr => sm_one (sm_ret (pm_if (pm_tcmp (om_lt) (pm_var (pv 1)) (pm_cB cm_len (by rfl) (T.fr "len" (by simp [frees])) bb_len (pm_cons (pm_var (pv 0)) (pm_nil))) (nomark _)) (pm_ixA hr.units (pm_var (pv 0)) (pm_var (pv 1))) (pm_int))))
def N__law_box : List Str := ["_law_script", "_law_gate", "_law_cell"]
theorem sc__law_box : FnScope ["_law_script", "_law_gate", "_law_cell"] ["_law_script", "_law_gate"] (defScope s__law_box) := ⟨rfl, rfl, rfl, by decide +kernel, rfl, by decide +kernel, by decide +kernel⟩
theorem b__law_box (T : Tx K mg base) : Binds K (T.fd 1) ["_law_script", "_law_gate"] [] := FunD.bindsN (T.df 1 dd__law_box rfl) fun _ _ _ _ _ _ us hl => match us, hl with | [_, _], _ => rfl
def bd__law_box : Fs :=
  sseq (sset 2 (mcall m__law_cell_at (mcons (mvar 0) (mcons (mvar 1) (mnil)))))
  (sret (mlst (mcons (mop2 mulW (mcall absW (mcons (mvar 2) (mnil))) (mcall intW (mcons (mop2 geW (mcall absW (mcons (mvar 2) (mnil))) (mop2 powW (mcon (.int 10)) (mcon (.int 18)))) (mnil)))) (mcons (mop2 addW (mop2 addW (mop2 modW (mcall intW (mcons (mvar 2) (mnil))) (mcon (.int 2305843009213693951))) (mop2 mulW (mcon (.int 41011)) (mvar 1))) (mcon (.int 19))) (mcons (mcon (.int 0)) (mnil))))))
def m__law_box : Fn := fnM 2 3 bd__law_box
theorem ok__law_box (T : Tx K mg base) : FnOk P w K mg base CX0 2 (He.ga K "_law_box") (T.fd 1) ["_law_script", "_law_gate"] (spM (GG P w K) m__law_box) :=
  fn_okD (B := bd__law_box) (T.df 1 dd__law_box rfl) sc__law_box (hb := fun cdv A outer s H E hr => sm_cons (sm_set (ps_set (i := 2) sc__law_box.nd rfl (Or.inl rfl) (pm_call (ok__law_cell_at T) (hr.mono (by decide)) (by rfl) (T.gl "_law_cell_at" (by simp [glos])) (T.kp 2 rfl) (b__law_cell_at T) pass0 (pm_cons (pm_var (pv 0)) (pm_cons (pm_var (pv 1)) (pm_nil))))))
    (sm_one (sm_ret (pm_lst (pm_cons (pm_bin om_mul (pm_cB cm_abs (by rfl) (T.fr "abs" (by simp [frees])) bb_abs (pm_cons (pm_var (pv 2)) (pm_nil))) (pm_cT cm_int (by rfl) (T.fr "int" (by simp [frees])) bb_int (pm_cons (pm_cmp (om_ge) (pm_cB cm_abs (by rfl) (T.fr "abs" (by simp [frees])) bb_abs (pm_cons (pm_var (pv 2)) (pm_nil))) (pm_bin om_pow (pm_int) (pm_int)) (nomark _)) (pm_nil)))) (pm_cons (pm_bin om_add (pm_bin om_add (pm_bin om_mod (pm_cT cm_int (by rfl) (T.fr "int" (by simp [frees])) bb_int (pm_cons (pm_var (pv 2)) (pm_nil))) (pm_int)) (pm_bin om_mul (pm_int) (pm_var (pv 1)))) (pm_int)) (pm_cons (pm_int) (pm_nil))))))))
def N__law_take : List Str := ["_law_box_here", "_law_many", "_law_found", "_law_once", "_law_odd", "_law_twice"]
theorem sc__law_take : FnScope ["_law_box_here", "_law_many", "_law_found", "_law_once", "_law_odd", "_law_twice"] ["_law_box_here", "_law_many"] (defScope s__law_take) := ⟨rfl, rfl, rfl, by decide +kernel, rfl, by decide +kernel, by decide +kernel⟩
theorem b__law_take (T : Tx K mg base) : Binds K (T.fd 5) ["_law_box_here", "_law_many"] [] := FunD.bindsN (T.df 5 dd__law_take rfl) fun _ _ _ _ _ _ us hl => match us, hl with | [_, _], _ => rfl
def bd__law_take : Fs :=
  sseq (sif (mtB (mop2 gtW (mop2 ixA (mvar 0) (mcon (.int 0))) (mcon (.int 0)))) (sseq (sset 2 (mop2 modW (mcall intW (mcons (mop2 ixA (mvar 0) (mcon (.int 0))) (mnil))) (mvar 1)))
  (sseq (ssubA (mvar 0) (mcon (.int 0)) (mop2 divW (mop2 ixA (mvar 0) (mcon (.int 0))) (mvar 1)))
  (sret (mvar 2)))) (snx))
  (sseq (ssubA (mvar 0) (mcon (.int 2)) (mop2 addW (mop2 ixA (mvar 0) (mcon (.int 2))) (mcon (.int 1))))
  (sseq (sset 3 (mop2 modW (mcall intW (mcons (mop2 mulW (mop2 addW (mop2 ixA (mvar 0) (mcon (.int 1))) (mop2 mulW (mcon (.int 52021)) (mop2 ixA (mvar 0) (mcon (.int 2))))) (mop2 addW (mcon (.int 38039)) (mop2 ixA (mvar 0) (mcon (.int 2))))) (mnil))) (mcon (.int 2147483647))))
  (sseq (sset 4 (mop2 addW (mop2 modW (mcall intW (mcons (mvar 3) (mnil))) (mcon (.int 40009))) (mcon (.int 11))))
  (sseq (sset 5 (mop2 modW (mcall intW (mcons (mop2 mulW (mop2 addW (mop2 addW (mvar 3) (mop2 ixA (mvar 0) (mcon (.int 2)))) (mop2 divW (mop2 ixA (mvar 0) (mcon (.int 1))) (mcon (.int 1000003)))) (mvar 4)) (mnil))) (mcon (.int 2147483629))))
  (sret (mop2 modW (mcall intW (mcons (mop2 divW (mop2 modW (mcall intW (mcons (mop2 addW (mop2 mulW (mvar 5) (mcon (.int 52021))) (mvar 3)) (mnil))) (mcon (.int 2147483587))) (mcon (.int 64))) (mnil))) (mvar 1)))))))
def m__law_take : Fn := fnM 2 6 bd__law_take
theorem ok__law_take (T : Tx K mg base) : FnOk P w K mg base CX0 1 (He.ga K "_law_take") (T.fd 5) ["_law_box_here", "_law_many"] (spM (GG P w K) m__law_take) :=
  fn_okD (B := bd__law_take) (T.df 5 dd__law_take rfl) sc__law_take (hb := fun cdv A outer s H E hr => sm_cons (sm_if (pm_tcmp (om_gt) (pm_ixA hr.units (pm_var (pv 0)) (pm_int)) (pm_int) (nomark _)) (sm_cons (sm_set (ps_set (i := 2) sc__law_take.nd rfl (Or.inl rfl) (pm_bin om_mod (pm_cT cm_int (by rfl) (T.fr "int" (by simp [frees])) bb_int (pm_cons (pm_ixA hr.units (pm_var (pv 0)) (pm_int)) (pm_nil))) (pm_var (pv 1)))))
    (sm_cons (sm_subA (ps_asg (pm_bin om_div (pm_ixA hr.units (pm_var (pv 0)) (pm_int)) (pm_var (pv 1))) (pg_sub (pm_var (pv 0)) (pm_int) (set_any hr.units rfl))))
    (sm_one (sm_ret (pm_var (pv 2)))))) (sm_nil))
    (sm_cons (sm_subA (ps_asg (pm_bin om_add (pm_ixA hr.units (pm_var (pv 0)) (pm_int)) (pm_int)) (pg_sub (pm_var (pv 0)) (pm_int) (set_any hr.units rfl))))
    (sm_cons (sm_set (ps_set (i := 3) sc__law_take.nd rfl (Or.inl rfl) (pm_bin om_mod (pm_cT cm_int (by rfl) (T.fr "int" (by simp [frees])) bb_int (pm_cons (pm_bin om_mul (pm_bin om_add (pm_ixA hr.units (pm_var (pv 0)) (pm_int)) (pm_bin om_mul (pm_int) (pm_ixA hr.units (pm_var (pv 0)) (pm_int)))) (pm_bin om_add (pm_int) (pm_ixA hr.units (pm_var (pv 0)) (pm_int)))) (pm_nil))) (pm_int))))
    (sm_cons (sm_set (ps_set (i := 4) sc__law_take.nd rfl (Or.inl rfl) (pm_bin om_add (pm_bin om_mod (pm_cT cm_int (by rfl) (T.fr "int" (by simp [frees])) bb_int (pm_cons (pm_var (pv 3)) (pm_nil))) (pm_int)) (pm_int))))
    (sm_cons (sm_set (ps_set (i := 5) sc__law_take.nd rfl (Or.inl rfl) (pm_bin om_mod (pm_cT cm_int (by rfl) (T.fr "int" (by simp [frees])) bb_int (pm_cons (pm_bin om_mul (pm_bin om_add (pm_bin om_add (pm_var (pv 3)) (pm_ixA hr.units (pm_var (pv 0)) (pm_int))) (pm_bin om_div (pm_ixA hr.units (pm_var (pv 0)) (pm_int)) (pm_int))) (pm_var (pv 4))) (pm_nil))) (pm_int))))
    (sm_one (sm_ret (pm_bin om_mod (pm_cT cm_int (by rfl) (T.fr "int" (by simp [frees])) bb_int (pm_cons (pm_bin om_div (pm_bin om_mod (pm_cT cm_int (by rfl) (T.fr "int" (by simp [frees])) bb_int (pm_cons (pm_bin om_add (pm_bin om_mul (pm_var (pv 5)) (pm_int)) (pm_var (pv 3))) (pm_nil))) (pm_int)) (pm_int)) (pm_nil))) (pm_var (pv 1))))))))))
theorem one_put {o o' : Mo} : (one o).put 0 o' = one o' := rfl
theorem one_get0 {o : Mo} : (one o).get 0 = some o := rfl
theorem smI_of {i : Int} (h1 : -(2 ^ 64) < i) (h2 : i < 2 ^ 64) : smI i = true := by
  unfold smI; rw [decide_eq_true h1, decide_eq_true h2]; rfl
theorem at0 {x y z : Mv} : atF [x, y, z] 0 = some x := rfl
theorem at1 {x y z : Mv} : atF [x, y, z] 1 = some y := rfl
theorem at2 {x y z : Mv} : atF [x, y, z] 2 = some z := rfl
theorem ixN0 : ixN 3 0 = some 0 := rfl
theorem ixN2 : ixN 3 2 = some 2 := rfl
theorem take_run (a c n k : Int) (ok : BoxOk a c n) (hn : n < 1000000) (hk : 1 ≤ k) (hk2 : k ≤ 1000) : m__law_take [.ref 0, .int k] (one (.lst [.int a, .int c, .int n])) = some (.int (drawF k a c n).1, one (.lst [.int (drawF k a c n).2.1, .int c, .int (drawF k a c n).2.2])) := by
  have k0 : decide (0 < k) = true := decide_eq_true (by omega)
  have k1 : decide (k < 1073741824) = true := decide_eq_true (by omega)
  have ix0 : ∀ x y z : Mv, ixA (.ref 0) (.int 0) (one (.lst [x, y, z])) = some (x, one (.lst [x, y, z])) := fun _ _ _ => rfl
  have ix1 : ∀ x y z : Mv, ixA (.ref 0) (.int 1) (one (.lst [x, y, z])) = some (y, one (.lst [x, y, z])) := fun _ _ _ => rfl
  have ix2 : ∀ x y z : Mv, ixA (.ref 0) (.int 2) (one (.lst [x, y, z])) = some (z, one (.lst [x, y, z])) := fun _ _ _ => rfl
  by_cases h : 0 < a
  · have hd : decide (0 < a) = true := decide_eq_true h
    simp [iLt_eq, iEq_eq, lget_eq, lset_eq, lsome_eq, llen_eq, m__law_take, fnM, bd__law_take, sseq, sif, mtB, mop2, mvar, mcon, ix0, ix1, ix2, gtW, cmpI, sset, mcall, mcons, mnil, intW, modW, divW, ssubA, sret, one_get0, one_put, ixN0, drawF, h, k0, k1, hd, hk]
  · have hd : decide (0 < a) = false := decide_eq_false h
    have hc := ok.c0
    have hc1 := ok.c1
    have hn0 := ok.n0
    have sm : smI (c + 52021 * (n + 1)) = true := smI_of (by omega) (by omega)
    have sm0 : smI (38039 + (n + 1)) = true := smI_of (by omega) (by omega)
    have sm1 : smI 52021 = true := by decide
    have sm3 : ∀ j : Int, smI (j % 40009 + 11) = true := fun j => smI_of (by omega) (by omega)
    simp [iLt_eq, iEq_eq, lget_eq, lset_eq, lsome_eq, llen_eq, m__law_take, fnM, bd__law_take, sseq, sif, mtB, mop2, mvar, mcon, ix0, ix1, ix2, gtW, cmpI, sset, mcall, mcons, mnil, intW, modW, divW, addW, mulW, powW, ssubA, snx, sret, one_get0, one_put, ixN2, drawF, h, k0, k1, hd, hk, sm, sm0, sm1, sm3]
theorem take_ok : TakeOk drawF m__law_take := by
  intro a c n k ok hn hk hk2
  have hin := drawF_in a c n k ok hk
  refine ⟨one (.lst [.int (drawF k a c n).2.1, .int c, .int (drawF k a c n).2.2]), ?_, rfl, hin.2.2, ?_⟩
  · exact take_run a c n k ok hn hk hk2
  · unfold drawF
    split
    · show n ≤ n + 1; omega
    · show n + 1 ≤ n + 1; omega
theorem okB__law_take (T : Tx K mg base) : FnOk P w K mg base CX0 1 (He.ga K "_law_take") (T.fd 5) ["_law_box_here", "_law_many"] (spM (GG P w K) takeB) := take_box (ok__law_take T) take_ok

def N__law_pick : List Str := ["_law_box_here", "_law_some"]
theorem sc__law_pick : FnScope ["_law_box_here", "_law_some"] ["_law_box_here", "_law_some"] (defScope s__law_pick) := ⟨rfl, rfl, rfl, by decide +kernel, rfl, by decide +kernel, by decide +kernel⟩
theorem b__law_pick (T : Tx K mg base) : Binds K (T.fd 4) ["_law_box_here", "_law_some"] [] := FunD.bindsN (T.df 4 dd__law_pick rfl) fun _ _ _ _ _ _ us hl => match us, hl with | [_, _], _ => rfl
def bd__law_pick : Fs :=
  sret (mop2 ixA (mvar 1) (mcall takeB (mcons (mvar 0) (mcons (mcall lenW (mcons (mvar 1) (mnil))) (mnil)))))
def m__law_pick : Fn := fnM 2 2 bd__law_pick
theorem ok__law_pick (T : Tx K mg base) : FnOk P w K mg base CX0 2 (He.ga K "_law_pick") (T.fd 4) ["_law_box_here", "_law_some"] (spM (GG P w K) m__law_pick) :=
  fn_okD (B := bd__law_pick) (T.df 4 dd__law_pick rfl) sc__law_pick (hb := fun cdv A outer s H E hr => sm_one (sm_ret (pm_ixA hr.units (pm_var (pv 1)) (pm_call (okB__law_take T) (hr.mono (by decide)) (by rfl) (T.gl "_law_take" (by simp [glos])) (T.kp 5 rfl) (b__law_take T) pass0 (pm_cons (pm_var (pv 0)) (pm_cons (pm_cB cm_len (by rfl) (T.fr "len" (by simp [frees])) bb_len (pm_cons (pm_var (pv 1)) (pm_nil))) (pm_nil)))))))
def N_as_tuples : List Str := ["thing", "part"]
theorem sc_as_tuples : FnScope ["thing", "part"] ["thing"] (defScope s_as_tuples) := ⟨rfl, rfl, rfl, by decide +kernel, rfl, by decide +kernel, by decide +kernel⟩
theorem b_as_tuples (T : Tx K mg base) : Binds K (T.fd 9) ["thing"] [] := FunD.bindsN (T.df 9 dd_as_tuples rfl) fun _ _ _ _ _ _ us hl => match us, hl with | [_], _ => rfl
def b0_as_tuples (m_as_tuples : Nat → Fn) (d : Nat) : Fs :=
  sret (mif (mtst (misiT (mvar 0) [.list, .tuple])) (mcall tupleW (mcons (mlc (miS (mvar 0)) (.nm 1) (myes) (mcall (m_as_tuples d) (mcons (mvar 1) (mnil))) [1]) (mnil))) (mvar 0))
def m_as_tuples : Nat → Fn
  | 0 => fun _ _ => none
  | d + 1 => fnM 1 2 (b0_as_tuples (fun _ => m_as_tuples d) d)
theorem ok_as_tuples (T : Tx K mg base) : ∀ d : Nat, FnOk P w K mg base CX0 (d + 1) (He.ga K "as_tuples") (T.fd 9) ["thing"] (spM (GG P w K) (m_as_tuples d))
  | 0 => fn_none
  | d + 1 => fn_okD (T.df 9 dd_as_tuples rfl) sc_as_tuples (hb := fun cdv A outer s H E hr => sm_one (sm_ret (pm_if (pm_tst (pm_isiT (pm_var (pv 0)) (py_cons (t := .list) (pe_bltn (by rfl) (T.fr "list" (by simp [frees])) bb_list rfl) (py_cons (t := .tuple) (pe_bltn (by rfl) (T.fr "tuple" (by simp [frees])) bb_tuple rfl) (py_nil))) (by rfl) (T.fr "isinstance" (by simp [frees])))) (pm_cT cm_tuple (by rfl) (T.fr "tuple" (by simp [frees])) bb_tuple (pm_cons (pm_lc (own := [("part", 1)]) rfl sc_as_tuples.nd (im_seq (pm_var (pv 0))) (blkOk_by (own := [("part", 1)]) (N := N_as_tuples) (sc := defScope s_as_tuples) (by decide +kernel)) (fun _ _ _ _ _ => gm_name (pg_name (i := 1) sc_as_tuples.nd rfl (Or.inl rfl))) (fun _ _ _ _ _ => tm_nil) (fun _ _ _ _ _ => pm_call (ok_as_tuples T d) hr (by rfl) (T.gl "as_tuples" (by simp [glos])) (T.kp 9 rfl) (b_as_tuples T) pass0 (pm_cons (pm_var (pv 1)) (pm_nil)))) (pm_nil))) (pm_var (pv 0)))))
def N_lib_of : List Str := ["program", "name", "some", "lib"]
theorem sc_lib_of : FnScope ["program", "name", "some", "lib"] ["program", "name"] (defScope s_lib_of) := ⟨rfl, rfl, rfl, by decide +kernel, rfl, by decide +kernel, by decide +kernel⟩
theorem b_lib_of (T : Tx K mg base) : Binds K (T.fd 13) ["program", "name"] [] := FunD.bindsN (T.df 13 dd_lib_of rfl) fun _ _ _ _ _ _ us hl => match us, hl with | [_, _], _ => rfl
def bd_lib_of : Fs :=
  sseq (sset 2 (mlc (miS (mop2 ixA (mvar 0) (mcon (.int 0)))) (.nm 3) (mtB (mop2 eqW (mop2 ixA (mvar 3) (mcon (.int 0))) (mvar 1))) (mvar 3) [3]))
  (sret (mif (mtB (mop2 gtW (mcall lenW (mcons (mvar 2) (mnil))) (mcon (.int 0)))) (mop2 ixA (mvar 2) (mcon (.int 0))) (mcon .non)))
def m_lib_of : Fn := fnM 2 4 bd_lib_of
theorem ok_lib_of (T : Tx K mg base) : FnOk P w K mg base CX0 1 (He.ga K "lib_of") (T.fd 13) ["program", "name"] (spM (GG P w K) m_lib_of) :=
  fn_okD (B := bd_lib_of) (T.df 13 dd_lib_of rfl) sc_lib_of (hb := fun cdv A outer s H E hr => sm_cons (sm_setLc (i := 2) (own := [("lib", 3)]) rfl sc_lib_of.nd rfl rfl (sw_true rfl rfl rfl (by decide +kernel)) (im_seq (pm_ixA hr.units (pm_var (pv 0)) (pm_int))) (blkOk_by (own := [("lib", 3)]) (N := N_lib_of) (sc := defScope s_lib_of) (by decide +kernel)) (fun _ _ _ _ _ => gm_name (pg_name (i := 3) sc_lib_of.nd rfl (Or.inl rfl))) (fun _ _ _ _ _ => tm_one (pm_tcmp (om_eq hr.units) (pm_ixA hr.units (pm_var (pv 3)) (pm_int)) (pm_var (pv 1)) (nomark _))) (fun _ _ _ _ _ => pm_var (pv 3)))
    (sm_one (sm_ret (pm_if (pm_tcmp (om_gt) (pm_cB cm_len (by rfl) (T.fr "len" (by simp [frees])) bb_len (pm_cons (pm_var (pv 2)) (pm_nil))) (pm_int) (nomark _)) (pm_ixA hr.units (pm_var (pv 2)) (pm_int)) (pm_non)))))
def N_lib_at : List Str := ["program", "name", "lib"]
theorem sc_lib_at : FnScope ["program", "name", "lib"] ["program", "name"] (defScope s_lib_at) := ⟨rfl, rfl, rfl, by decide +kernel, rfl, by decide +kernel, by decide +kernel⟩
theorem b_lib_at (T : Tx K mg base) : Binds K (T.fd 12) ["program", "name"] [] := FunD.bindsN (T.df 12 dd_lib_at rfl) fun _ _ _ _ _ _ us hl => match us, hl with | [_, _], _ => rfl
def bd_lib_at : Fs :=
  sseq (sset 2 (mcall m_lib_of (mcons (mvar 0) (mcons (mvar 1) (mnil)))))
  (sseq (sif (mtB (mop2 (isW false) (mvar 2) (mcon .non))) (sno) (snx))
  (sret (mvar 2)))
def m_lib_at : Fn := fnM 2 3 bd_lib_at
theorem ok_lib_at (T : Tx K mg base) : FnOk P w K mg base CX0 2 (He.ga K "lib_at") (T.fd 12) ["program", "name"] (spM (GG P w K) m_lib_at) :=
  fn_okD (B := bd_lib_at) (T.df 12 dd_lib_at rfl) sc_lib_at (hb := fun cdv A outer s H E hr => sm_cons (sm_set (ps_set (i := 2) sc_lib_at.nd rfl (Or.inl rfl) (pm_call (ok_lib_of T) (hr.mono (by decide)) (by rfl) (T.gl "lib_of" (by simp [glos])) (T.kp 13 rfl) (b_lib_of T) pass0 (pm_cons (pm_var (pv 0)) (pm_cons (pm_var (pv 1)) (pm_nil))))))
    (sm_cons (sm_if (pm_tcmp (om_is) (pm_var (pv 2)) (pm_non) (nomark _)) (sm_one (sm_no)) (sm_nil))
    (sm_one (sm_ret (pm_var (pv 2))))))
def N_row : List Str := ["program", "names", "found", "name", "at"]
theorem sc_row : FnScope ["program", "names", "found", "name", "at"] ["program", "names"] (defScope s_row) := ⟨rfl, rfl, rfl, by decide +kernel, rfl, by decide +kernel, by decide +kernel⟩
theorem b_row (T : Tx K mg base) : Binds K (T.fd 11) ["program", "names"] [] := FunD.bindsN (T.df 11 dd_row rfl) fun _ _ _ _ _ _ us hl => match us, hl with | [_, _], _ => rfl
def bd_row : Fs :=
  sseq (sset 0 (mcall (m_as_tuples 8) (mcons (mvar 0) (mnil))))
  (sseq (sset 2 (mlst (mnil)))
  (sseq (sfor (miS (mvar 1)) (.nm 3) (sseq (sexp (mcall m_lib_at (mcons (mvar 0) (mcons (mvar 3) (mnil)))))
  (sset 2 (mif (mtB (mop2 inA (mvar 3) (mvar 2))) (mvar 2) (mop2 addW (mvar 2) (mlst (mcons (mvar 3) (mnil))))))))
  (sseq (sset 4 (mcon (.int 0)))
  (sseq (swhl (mtB (mop2 ltW (mvar 4) (mcall lenW (mcons (mvar 2) (mnil))))) (sseq (sfor (miS (mop2 ixA (mcall m_lib_of (mcons (mvar 0) (mcons (mop2 ixA (mvar 2) (mvar 4)) (mnil)))) (mcon (.int 1)))) (.nm 3) (sif (mtB (mop2 ninA (mvar 3) (mvar 2))) (sexp (mbmL appW (mvar 2) (mcons (mvar 3) (mnil)))) (snx)))
  (saug 4 ipW (mcon (.int 1)))))
  (sret (mvar 2))))))
def m_row : Fn := fnM 2 5 bd_row
theorem ok_row (T : Tx K mg base) : FnOk P w K mg base CX0 10 (He.ga K "row") (T.fd 11) ["program", "names"] (spM (GG P w K) m_row) :=
  fn_okD (B := bd_row) (T.df 11 dd_row rfl) sc_row (hb := fun cdv A outer s H E hr => sm_cons (sm_set (ps_set (i := 0) sc_row.nd rfl (Or.inl rfl) (pm_call (ok_as_tuples T 8) (hr.mono (by decide)) (by rfl) (T.gl "as_tuples" (by simp [glos])) (T.kp 9 rfl) (b_as_tuples T) pass0 (pm_cons (pm_var (pv 0)) (pm_nil)))))
    (sm_cons (sm_set (ps_set (i := 2) sc_row.nd rfl (Or.inl rfl) (pm_lst (pm_nil))))
    (sm_cons (sm_for' PassesOwn.never rfl (im_seq (pm_var (pv 1))) (gm_name (pg_name (i := 3) sc_row.nd rfl (Or.inl rfl))) (sm_cons (sm_exp (pm_call (ok_lib_at T) (hr.mono (by decide)) (by rfl) (T.gl "lib_at" (by simp [glos])) (T.kp 12 rfl) (b_lib_at T) pass0 (pm_cons (pm_var (pv 0)) (pm_cons (pm_var (pv 3)) (pm_nil)))))
    (sm_one (sm_set (ps_set (i := 2) sc_row.nd rfl (Or.inl rfl) (pm_if (pm_tcmp (om_inA (u65 hr)) (pm_var (pv 3)) (pm_var (pv 2)) (by rfl)) (pm_var (pv 2)) (pm_bin om_add (pm_var (pv 2)) (pm_lst (pm_cons (pm_var (pv 3)) (pm_nil))))))))))
    (sm_cons (sm_set (ps_set (i := 4) sc_row.nd rfl (Or.inl rfl) (pm_int)))
    (sm_cons (sm_while PassesOwn.never (pm_tcmp (om_lt) (pm_var (pv 4)) (pm_cB cm_len (by rfl) (T.fr "len" (by simp [frees])) bb_len (pm_cons (pm_var (pv 2)) (pm_nil))) (nomark _)) (sm_cons (sm_for' PassesOwn.never rfl (im_seq (pm_ixA hr.units (pm_call (ok_lib_of T) (hr.mono (by decide)) (by rfl) (T.gl "lib_of" (by simp [glos])) (T.kp 13 rfl) (b_lib_of T) pass0 (pm_cons (pm_var (pv 0)) (pm_cons (pm_ixA hr.units (pm_var (pv 2)) (pm_var (pv 4))) (pm_nil)))) (pm_int))) (gm_name (pg_name (i := 3) sc_row.nd rfl (Or.inl rfl))) (sm_one (sm_if (pm_tcmp (om_ninA (u65 hr)) (pm_var (pv 3)) (pm_var (pv 2)) (by rfl)) (sm_one (sm_exp (pm_bmL lm_app (pe_bm PySem.F.plainAttrs_list PySem.F.slot_list_append PySem.F.type_list_append mt_append (pm_var (pv 2)) (pm_cons (pm_var (pv 3)) (pm_nil)))))) (sm_nil))))
    (sm_one (sm_aug (ps_aug (i := 4) sc_row.nd rfl (Or.inl rfl) (pm_int) pip_add)))))
    (sm_one (sm_ret (pm_var (pv 2)))))))))
def N_first_row : List Str := ["program"]
theorem sc_first_row : FnScope ["program"] ["program"] (defScope s_first_row) := ⟨rfl, rfl, rfl, by decide +kernel, rfl, by decide +kernel, by decide +kernel⟩
theorem b_first_row (T : Tx K mg base) : Binds K (T.fd 10) ["program"] [] := FunD.bindsN (T.df 10 dd_first_row rfl) fun _ _ _ _ _ _ us hl => match us, hl with | [_], _ => rfl
def bd_first_row : Fs :=
  sseq (sset 0 (mcall (m_as_tuples 8) (mcons (mvar 0) (mnil))))
  (sret (mcall m_row (mcons (mvar 0) (mcons (mop2 addW (mtup (mcons (mop2 ixA (mop2 ixA (mop2 ixA (mvar 0) (mcon (.int 0))) (mcon (.int 0))) (mcon (.int 0))) (mnil))) (mop2 ixA (mvar 0) (mcon (.int 1)))) (mnil)))))
def m_first_row : Fn := fnM 1 1 bd_first_row
theorem ok_first_row (T : Tx K mg base) : FnOk P w K mg base CX0 11 (He.ga K "first_row") (T.fd 10) ["program"] (spM (GG P w K) m_first_row) :=
  fn_okD (B := bd_first_row) (T.df 10 dd_first_row rfl) sc_first_row (hb := fun cdv A outer s H E hr => sm_cons (sm_set (ps_set (i := 0) sc_first_row.nd rfl (Or.inl rfl) (pm_call (ok_as_tuples T 8) (hr.mono (by decide)) (by rfl) (T.gl "as_tuples" (by simp [glos])) (T.kp 9 rfl) (b_as_tuples T) pass0 (pm_cons (pm_var (pv 0)) (pm_nil)))))
    (sm_one (sm_ret (pm_call (ok_row T) (hr.mono (by decide)) (by rfl) (T.gl "row" (by simp [glos])) (T.kp 11 rfl) (b_row T) pass0 (pm_cons (pm_var (pv 0)) (pm_cons (pm_bin om_add (pm_tup (pm_cons (pm_ixA hr.units (pm_ixA hr.units (pm_ixA hr.units (pm_var (pv 0)) (pm_int)) (pm_int)) (pm_int)) (pm_nil))) (pm_ixA hr.units (pm_var (pv 0)) (pm_int))) (pm_nil)))))))
def N_door_row : List Str := ["program", "number"]
theorem sc_door_row : FnScope ["program", "number"] ["program", "number"] (defScope s_door_row) := ⟨rfl, rfl, rfl, by decide +kernel, rfl, by decide +kernel, by decide +kernel⟩
theorem b_door_row (T : Tx K mg base) : Binds K (T.fd 14) ["program", "number"] [] := FunD.bindsN (T.df 14 dd_door_row rfl) fun _ _ _ _ _ _ us hl => match us, hl with | [_, _], _ => rfl
def bd_door_row : Fs :=
  sret (mcall m_row (mcons (mvar 0) (mcons (mtup (mcons (mop2 ixA (mop2 ixA (mop2 ixA (mvar 0) (mcon (.int 2))) (mvar 1)) (mcon (.int 0))) (mnil))) (mnil))))
def m_door_row : Fn := fnM 2 2 bd_door_row
theorem ok_door_row (T : Tx K mg base) : FnOk P w K mg base CX0 11 (He.ga K "door_row") (T.fd 14) ["program", "number"] (spM (GG P w K) m_door_row) :=
  fn_okD (B := bd_door_row) (T.df 14 dd_door_row rfl) sc_door_row (hb := fun cdv A outer s H E hr => sm_one (sm_ret (pm_call (ok_row T) (hr.mono (by decide)) (by rfl) (T.gl "row" (by simp [glos])) (T.kp 11 rfl) (b_row T) pass0 (pm_cons (pm_var (pv 0)) (pm_cons (pm_tup (pm_cons (pm_ixA hr.units (pm_ixA hr.units (pm_ixA hr.units (pm_var (pv 0)) (pm_int)) (pm_var (pv 1))) (pm_int)) (pm_nil))) (pm_nil))))))
def N_Ground___init__ : List Str := ["self", "program", "number"]
theorem sc_Ground___init__ : FnScope ["self", "program", "number"] ["self", "program"] (defScope s_Ground___init__) := ⟨rfl, rfl, rfl, by decide +kernel, rfl, by decide +kernel, by decide +kernel⟩
theorem b_Ground___init__ (T : Tx K mg base) : Binds K (T.fd 8) ["self", "program"] [] := FunD.bindsN (T.df 8 dd_Ground___init__ rfl) fun _ _ _ _ _ _ us hl => match us, hl with | [_, _], _ => rfl
def bd_Ground___init__ : Fs :=
  sseq (sfld 1 0 (mvar 0) (mcall (m_as_tuples 8) (mcons (mvar 1) (mnil))))
  (sseq (sfld 1 1 (mvar 0) (mcall m_first_row (mcons (mop1 (fldW 1 0) (mvar 0)) (mnil))))
  (sfld 1 2 (mvar 0) (mlc (miR1 (mcons (mcall lenW (mcons (mop2 ixA (mop1 (fldW 1 0) (mvar 0)) (mcon (.int 2))) (mnil))) (mnil))) (.nm 2) (myes) (mcall m_door_row (mcons (mop1 (fldW 1 0) (mvar 0)) (mcons (mvar 2) (mnil)))) [2])))
def m_Ground___init__ : Fn := fnM 2 3 bd_Ground___init__
theorem ok_Ground___init__ (T : Tx K mg base) : FnOk P w K mg base CX0 12 (He.ma K (He.ga K "Ground") "__init__") (T.fd 8) ["self", "program"] (spM (GG P w K) m_Ground___init__) :=
  fn_okD (B := bd_Ground___init__) (T.df 8 dd_Ground___init__ rfl) sc_Ground___init__ (hb := fun cdv A outer s H E hr => sm_cons (sm_fld (c := 1) (k := 0) (pm_var (pv 0)) (pm_call (ok_as_tuples T 8) (hr.mono (by decide)) (by rfl) (T.gl "as_tuples" (by simp [glos])) (T.kp 9 rfl) (b_as_tuples T) pass0 (pm_cons (pm_var (pv 1)) (pm_nil))) rfl (T.cl "Ground" (by simp [fa])) (T.na "Ground" "own_program" (by simp [fa])) rfl (by show 0 < 10; decide))
    (sm_cons (sm_fld (c := 1) (k := 1) (pm_var (pv 0)) (pm_call (ok_first_row T) (hr.mono (by decide)) (by rfl) (T.gl "first_row" (by simp [glos])) (T.kp 10 rfl) (b_first_row T) pass0 (pm_cons (pm_fld (c := 1) (k := 0) (pm_var (pv 0)) (T.cl "Ground" (by simp [fa])) (T.na "Ground" "own_program" (by simp [fa])) rfl (by show 0 < 10; decide)) (pm_nil))) rfl (T.cl "Ground" (by simp [fa])) (T.na "Ground" "own_first" (by simp [fa])) rfl (by show 1 < 10; decide))
    (sm_one (sm_fld (c := 1) (k := 2) (pm_var (pv 0)) (pm_lc (own := [("number", 2)]) rfl sc_Ground___init__.nd (im_range1 (by rfl) (T.fr "range" (by simp [frees])) (pm_cons (pm_cB cm_len (by rfl) (T.fr "len" (by simp [frees])) bb_len (pm_cons (pm_ixA hr.units (pm_fld (c := 1) (k := 0) (pm_var (pv 0)) (T.cl "Ground" (by simp [fa])) (T.na "Ground" "own_program" (by simp [fa])) rfl (by show 0 < 10; decide)) (pm_int)) (pm_nil))) (pm_nil))) (blkOk_by (own := [("number", 2)]) (N := N_Ground___init__) (sc := defScope s_Ground___init__) (by decide +kernel)) (fun _ _ _ _ _ => gm_name (pg_name (i := 2) sc_Ground___init__.nd rfl (Or.inl rfl))) (fun _ _ _ _ _ => tm_nil) (fun _ _ _ _ _ => pm_call (ok_door_row T) (hr.mono (by decide)) (by rfl) (T.gl "door_row" (by simp [glos])) (T.kp 14 rfl) (b_door_row T) pass0 (pm_cons (pm_fld (c := 1) (k := 0) (pm_var (pv 0)) (T.cl "Ground" (by simp [fa])) (T.na "Ground" "own_program" (by simp [fa])) rfl (by show 0 < 10; decide)) (pm_cons (pm_var (pv 2)) (pm_nil))))) rfl (T.cl "Ground" (by simp [fa])) (T.na "Ground" "own_rows" (by simp [fa])) rfl (by show 2 < 10; decide)))))
def N_Process_all_here : List Str := ["self", "found", "number", "name"]
theorem sc_Process_all_here : FnScope ["self", "found", "number", "name"] ["self"] (defScope s_Process_all_here) := ⟨rfl, rfl, rfl, by decide +kernel, rfl, by decide +kernel, by decide +kernel⟩
theorem b_Process_all_here (T : Tx K mg base) : Binds K (T.fd 15) ["self"] [] := FunD.bindsN (T.df 15 dd_Process_all_here rfl) fun _ _ _ _ _ _ us hl => match us, hl with | [_], _ => rfl
def bd_Process_all_here : Fs :=
  sseq (sset 1 (mdc (miS (mop1 (fldW 0 1) (mvar 0))) (.nm 3) (myes) (mvar 3) (mcon (.bl true)) [3]))
  (sseq (sfor (miS (mop1 (fldW 0 5) (mvar 0))) (.nm 2) (sexp (mdm1 updW (mvar 1) (mdc (miS (mop2 ixA (mop1 (fldW 0 2) (mvar 0)) (mvar 2))) (.nm 3) (myes) (mvar 3) (mcon (.bl true)) [3]))))
  (sret (mvar 1)))
def m_Process_all_here : Fn := fnM 1 4 bd_Process_all_here
theorem ok_Process_all_here (T : Tx K mg base) : FnOk P w K mg base CX0 1 (He.ma K (He.ga K "Process") "all_here") (T.fd 15) ["self"] (spM (GG P w K) m_Process_all_here) :=
  fn_okD (B := bd_Process_all_here) (T.df 15 dd_Process_all_here rfl) sc_Process_all_here (hb := fun cdv A outer s H E hr => sm_cons (sm_setDc (i := 1) (own := [("name", 3)]) hr.units rfl sc_Process_all_here.nd rfl rfl (swD_true rfl rfl rfl (by decide +kernel)) (im_seq (pm_fld (c := 0) (k := 1) (pm_var (pv 0)) (T.cl "Process" (by simp [fa])) (T.na "Process" "own_first" (by simp [fa])) rfl (by show 1 < 10; decide))) (blkOk_by (own := [("name", 3)]) (N := N_Process_all_here) (sc := defScope s_Process_all_here) (by decide +kernel)) (fun _ _ _ _ _ => gm_name (pg_name (i := 3) sc_Process_all_here.nd rfl (Or.inl rfl))) (fun _ _ _ _ _ => tm_nil) (fun _ _ _ _ _ => pm_var (pv 3)) (fun _ _ _ _ _ => pm_bl))
    (sm_cons (sm_for' PassesOwn.never rfl (im_seq (pm_fld (c := 0) (k := 5) (pm_var (pv 0)) (T.cl "Process" (by simp [fa])) (T.na "Process" "own_opened" (by simp [fa])) rfl (by show 5 < 10; decide))) (gm_name (pg_name (i := 2) sc_Process_all_here.nd rfl (Or.inl rfl))) (sm_one (sm_exp (pm_dm1 dm_upd PySem.F.slot_dict_update PySem.F.type_dict_update (pm_var (pv 1)) (pm_dc (own := [("name", 3)]) hr.units rfl sc_Process_all_here.nd (im_seq (pm_ixA hr.units (pm_fld (c := 0) (k := 2) (pm_var (pv 0)) (T.cl "Process" (by simp [fa])) (T.na "Process" "own_rows" (by simp [fa])) rfl (by show 2 < 10; decide)) (pm_var (pv 2)))) (blkOk_by (own := [("name", 3)]) (N := N_Process_all_here) (sc := defScope s_Process_all_here) (by decide +kernel)) (fun _ _ _ _ _ => gm_name (pg_name (i := 3) sc_Process_all_here.nd rfl (Or.inl rfl))) (fun _ _ _ _ _ => tm_nil) (fun _ _ _ _ _ => pm_var (pv 3)) (fun _ _ _ _ _ => pm_bl)) ⟨rfl, rfl, rfl, rfl⟩))))
    (sm_one (sm_ret (pm_var (pv 1))))))
def N_Process___init__ : List Str := ["self", "program", "ground", "door"]
theorem sc_Process___init__ : FnScope ["self", "program", "ground", "door"] ["self", "program"] (defScope s_Process___init__) := ⟨rfl, rfl, rfl, by decide +kernel, rfl, by decide +kernel, by decide +kernel⟩
theorem b_Process___init__ (T : Tx K mg base) : Binds K (T.fd 7) ["self", "program"] [] := FunD.bindsN (T.df 7 dd_Process___init__ rfl) fun _ _ _ _ _ _ us hl => match us, hl with | [_, _], _ => rfl
def bd_Process___init__ : Fs :=
  sseq (sset 2 (mif (mtst (misC 1 (mvar 1))) (mvar 1) (mmake 1 m_Ground___init__ (mcons (mvar 1) (mnil)))))
  (sseq (sfld 0 3 (mvar 0) (mvar 2))
  (sseq (sfld 0 0 (mvar 0) (mop1 (fldW 1 0) (mvar 2)))
  (sseq (sfld 0 1 (mvar 0) (mop1 (fldW 1 1) (mvar 2)))
  (sseq (sfld 0 2 (mvar 0) (mop1 (fldW 1 2) (mvar 2)))
  (sseq (sfld 0 4 (mvar 0) (mlc (miS (mop2 ixA (mop1 (fldW 0 0) (mvar 0)) (mcon (.int 2)))) (.nm 3) (myes) (mcon (.int 0)) [3]))
  (sseq (sfld 0 5 (mvar 0) (mlst (mnil)))
  (sseq (sfld 0 6 (mvar 0) (mcall listW (mcons (mop1 (fldW 0 1) (mvar 0)) (mnil))))
  (sseq (sfld 0 7 (mvar 0) (mlst (mnil)))
  (sseq (sfld 0 8 (mvar 0) (mdn))
  (sfld 0 9 (mvar 0) (mmeth 0 m_Process_all_here (mvar 0) mnil)))))))))))
def m_Process___init__ : Fn := fnM 2 4 bd_Process___init__
theorem ok_Process___init__ (T : Tx K mg base) : FnOk P w K mg base CX0 14 (He.ma K (He.ga K "Process") "__init__") (T.fd 7) ["self", "program"] (spM (GG P w K) m_Process___init__) :=
  fn_okD (B := bd_Process___init__) (T.df 7 dd_Process___init__ rfl) sc_Process___init__ (hb := fun cdv A outer s H E hr => sm_cons (sm_set (ps_set (i := 2) sc_Process___init__.nd rfl (Or.inl rfl) (pm_if (pm_tst (pm_isC (c := 1) (pm_var (pv 1)) (pe_glob (v := .ref _) (by rfl) (T.gl "Ground" (by simp [glos])) rfl) (T.isc_Ground) (T.cl "Ground" (by simp [fa])) (by rfl) (T.fr "isinstance" (by simp [frees])))) (pm_var (pv 1)) (pm_make (c := 1) (pe_make (T.mkr "Ground" (by simp [fa])) (ok_Ground___init__ T) (hr.mono (by decide)) (by rfl) (T.gl "Ground" (by simp [glos])) (b_Ground___init__ T) .nil pass0 (pm_cons (pm_var (pv 1)) (pm_nil)))))))
    (sm_cons (sm_fld (c := 0) (k := 3) (pm_var (pv 0)) (pm_var (pv 2)) rfl (T.cl "Process" (by simp [fa])) (T.na "Process" "own_ground" (by simp [fa])) rfl (by show 3 < 10; decide))
    (sm_cons (sm_fld (c := 0) (k := 0) (pm_var (pv 0)) (pm_fld (c := 1) (k := 0) (pm_var (pv 2)) (T.cl "Ground" (by simp [fa])) (T.na "Ground" "own_program" (by simp [fa])) rfl (by show 0 < 10; decide)) rfl (T.cl "Process" (by simp [fa])) (T.na "Process" "own_program" (by simp [fa])) rfl (by show 0 < 10; decide))
    (sm_cons (sm_fld (c := 0) (k := 1) (pm_var (pv 0)) (pm_fld (c := 1) (k := 1) (pm_var (pv 2)) (T.cl "Ground" (by simp [fa])) (T.na "Ground" "own_first" (by simp [fa])) rfl (by show 1 < 10; decide)) rfl (T.cl "Process" (by simp [fa])) (T.na "Process" "own_first" (by simp [fa])) rfl (by show 1 < 10; decide))
    (sm_cons (sm_fld (c := 0) (k := 2) (pm_var (pv 0)) (pm_fld (c := 1) (k := 2) (pm_var (pv 2)) (T.cl "Ground" (by simp [fa])) (T.na "Ground" "own_rows" (by simp [fa])) rfl (by show 2 < 10; decide)) rfl (T.cl "Process" (by simp [fa])) (T.na "Process" "own_rows" (by simp [fa])) rfl (by show 2 < 10; decide))
    (sm_cons (sm_fld (c := 0) (k := 4) (pm_var (pv 0)) (pm_lc (own := [("door", 3)]) rfl sc_Process___init__.nd (im_seq (pm_ixA hr.units (pm_fld (c := 0) (k := 0) (pm_var (pv 0)) (T.cl "Process" (by simp [fa])) (T.na "Process" "own_program" (by simp [fa])) rfl (by show 0 < 10; decide)) (pm_int))) (blkOk_by (own := [("door", 3)]) (N := N_Process___init__) (sc := defScope s_Process___init__) (by decide +kernel)) (fun _ _ _ _ _ => gm_name (pg_name (i := 3) sc_Process___init__.nd rfl (Or.inl rfl))) (fun _ _ _ _ _ => tm_nil) (fun _ _ _ _ _ => pm_int)) rfl (T.cl "Process" (by simp [fa])) (T.na "Process" "own_counts" (by simp [fa])) rfl (by show 4 < 10; decide))
    (sm_cons (sm_fld (c := 0) (k := 5) (pm_var (pv 0)) (pm_lst (pm_nil)) rfl (T.cl "Process" (by simp [fa])) (T.na "Process" "own_opened" (by simp [fa])) rfl (by show 5 < 10; decide))
    (sm_cons (sm_fld (c := 0) (k := 6) (pm_var (pv 0)) (pm_cT cm_list (by rfl) (T.fr "list" (by simp [frees])) bb_list (pm_cons (pm_fld (c := 0) (k := 1) (pm_var (pv 0)) (T.cl "Process" (by simp [fa])) (T.na "Process" "own_first" (by simp [fa])) rfl (by show 1 < 10; decide)) (pm_nil))) rfl (T.cl "Process" (by simp [fa])) (T.na "Process" "own_public" (by simp [fa])) rfl (by show 6 < 10; decide))
    (sm_cons (sm_fld (c := 0) (k := 7) (pm_var (pv 0)) (pm_lst (pm_nil)) rfl (T.cl "Process" (by simp [fa])) (T.na "Process" "own_deep" (by simp [fa])) rfl (by show 7 < 10; decide))
    (sm_cons (sm_fld (c := 0) (k := 8) (pm_var (pv 0)) (pm_dn) rfl (T.cl "Process" (by simp [fa])) (T.na "Process" "own_slots" (by simp [fa])) rfl (by show 8 < 10; decide))
    (sm_one (sm_fld (c := 0) (k := 9) (pm_var (pv 0)) (pm_meth0 (c := 0) (pe_meth0 (pm_var (pv 0)) (T.cl "Process" (by simp [fa])) (T.me "Process" "all_here" (by simp [fa])) (ok_Process_all_here T) (hr.mono (by decide)) (b_Process_all_here T) .nil pass0) (hno_Process_all_here)) rfl (T.cl "Process" (by simp [fa])) (T.na "Process" "own_here" (by simp [fa])) rfl (by show 9 < 10; decide)))))))))))))
def N_Process_look_door : List Str := ["self", "k"]
theorem sc_Process_look_door : FnScope ["self", "k"] ["self", "k"] (defScope s_Process_look_door) := ⟨rfl, rfl, rfl, by decide +kernel, rfl, by decide +kernel, by decide +kernel⟩
theorem b_Process_look_door (T : Tx K mg base) : Binds K (T.fd 17) ["self", "k"] [] := FunD.bindsN (T.df 17 dd_Process_look_door rfl) fun _ _ _ _ _ _ us hl => match us, hl with | [_, _], _ => rfl
def bd_Process_look_door : Fs :=
  sif (mnot (mtB (mchain leW ltW (mcon (.int 0)) (mvar 1) (mcall lenW (mcons (mop1 (fldW 0 4) (mvar 0)) (mnil)))))) (sno) (snx)
def m_Process_look_door : Fn := fnM 2 2 bd_Process_look_door
theorem ok_Process_look_door (T : Tx K mg base) : FnOk P w K mg base CX0 1 (He.ma K (He.ga K "Process") "look_door") (T.fd 17) ["self", "k"] (spM (GG P w K) m_Process_look_door) :=
  fn_okD (B := bd_Process_look_door) (T.df 17 dd_Process_look_door rfl) sc_Process_look_door (hb := fun cdv A outer s H E hr => sm_one (sm_if (pm_tnot (pm_tchain (om_le) (om_lt) (pm_int) (pm_var (pv 1)) (pm_cB cm_len (by rfl) (T.fr "len" (by simp [frees])) bb_len (pm_cons (pm_fld (c := 0) (k := 4) (pm_var (pv 0)) (T.cl "Process" (by simp [fa])) (T.na "Process" "own_counts" (by simp [fa])) rfl (by show 4 < 10; decide)) (pm_nil))))) (sm_one (sm_no)) (sm_nil)))
def N_Process_is_there : List Str := ["self", "name"]
theorem sc_Process_is_there : FnScope ["self", "name"] ["self", "name"] (defScope s_Process_is_there) := ⟨rfl, rfl, rfl, by decide +kernel, rfl, by decide +kernel, by decide +kernel⟩
theorem b_Process_is_there (T : Tx K mg base) : Binds K (T.fd 19) ["self", "name"] [] := FunD.bindsN (T.df 19 dd_Process_is_there rfl) fun _ _ _ _ _ _ us hl => match us, hl with | [_, _], _ => rfl
def bd_Process_is_there : Fs :=
  sret (mop2 inA (mvar 1) (mop1 (fldW 0 9) (mvar 0)))
def m_Process_is_there : Fn := fnM 2 2 bd_Process_is_there
theorem ok_Process_is_there (T : Tx K mg base) : FnOk P w K mg base CX0 1 (He.ma K (He.ga K "Process") "is_there") (T.fd 19) ["self", "name"] (spM (GG P w K) m_Process_is_there) :=
  fn_okD (B := bd_Process_is_there) (T.df 19 dd_Process_is_there rfl) sc_Process_is_there (hb := fun cdv A outer s H E hr => sm_one (sm_ret (pm_cmp (om_inA (u65 hr)) (pm_var (pv 1)) (pm_fld (c := 0) (k := 9) (pm_var (pv 0)) (T.cl "Process" (by simp [fa])) (T.na "Process" "own_here" (by simp [fa])) rfl (by show 9 < 10; decide)) (by rfl))))
def N_Process_come : List Str := ["self", "k", "name"]
theorem sc_Process_come : FnScope ["self", "k", "name"] ["self", "k"] (defScope s_Process_come) := ⟨rfl, rfl, rfl, by decide +kernel, rfl, by decide +kernel, by decide +kernel⟩
theorem b_Process_come (T : Tx K mg base) : Binds K (T.fd 18) ["self", "k"] [] := FunD.bindsN (T.df 18 dd_Process_come rfl) fun _ _ _ _ _ _ us hl => match us, hl with | [_, _], _ => rfl
def bd_Process_come : Fs :=
  sseq (sif (mtB (mop2 eqW (mop2 ixA (mop2 ixA (mop2 ixA (mop1 (fldW 0 0) (mvar 0)) (mcon (.int 2))) (mvar 1)) (mcon (.int 1))) (mcon (.str x1)))) (sexp (mbmL extW (mop1 (fldW 0 7) (mvar 0)) (mcons (mlc (miS (mop2 ixA (mop1 (fldW 0 2) (mvar 0)) (mvar 1))) (.nm 2) (mnot (mtst (mmeth 0 m_Process_is_there (mvar 0) (mcons (mvar 2) (mnil))))) (mvar 2) [2]) (mnil)))) (snx))
  (sseq (sexp (mbmL appW (mop1 (fldW 0 5) (mvar 0)) (mcons (mvar 1) (mnil))))
  (sseq (sfld 0 9 (mvar 0) (mmeth 0 m_Process_all_here (mvar 0) mnil))
  (sif (mtB (mop2 eqW (mop2 ixA (mop2 ixA (mop2 ixA (mop1 (fldW 0 0) (mvar 0)) (mcon (.int 2))) (mvar 1)) (mcon (.int 1))) (mcon (.str x15)))) (sexp (mbmL extW (mop1 (fldW 0 6) (mvar 0)) (mcons (mlc (miS (mop2 ixA (mop1 (fldW 0 2) (mvar 0)) (mvar 1))) (.nm 2) (mtB (mop2 ninA (mvar 2) (mop1 (fldW 0 6) (mvar 0)))) (mvar 2) [2]) (mnil)))) (snx))))
def m_Process_come : Fn := fnM 2 3 bd_Process_come
theorem ok_Process_come (T : Tx K mg base) : FnOk P w K mg base CX0 2 (He.ma K (He.ga K "Process") "come") (T.fd 18) ["self", "k"] (spM (GG P w K) m_Process_come) :=
  fn_okD (B := bd_Process_come) (T.df 18 dd_Process_come rfl) sc_Process_come (hb := fun cdv A outer s H E hr => sm_cons (sm_if (pm_tcmp (om_eq hr.units) (pm_ixA hr.units (pm_ixA hr.units (pm_ixA hr.units (pm_fld (c := 0) (k := 0) (pm_var (pv 0)) (T.cl "Process" (by simp [fa])) (T.na "Process" "own_program" (by simp [fa])) rfl (by show 0 < 10; decide)) (pm_int)) (pm_var (pv 1))) (pm_int)) (pm_gstr (T.gs "DEEP" "deep" (by simp [fa])) e_x1 (by rfl)) (nomark _)) (sm_one (sm_exp (pm_bmL lm_ext (pe_bm PySem.F.plainAttrs_list PySem.F.slot_list_extend PySem.F.type_list_extend mt_extend (pm_fld (c := 0) (k := 7) (pm_var (pv 0)) (T.cl "Process" (by simp [fa])) (T.na "Process" "own_deep" (by simp [fa])) rfl (by show 7 < 10; decide)) (pm_cons (pm_lc (own := [("name", 2)]) rfl sc_Process_come.nd (im_seq (pm_ixA hr.units (pm_fld (c := 0) (k := 2) (pm_var (pv 0)) (T.cl "Process" (by simp [fa])) (T.na "Process" "own_rows" (by simp [fa])) rfl (by show 2 < 10; decide)) (pm_var (pv 1)))) (blkOk_by (own := [("name", 2)]) (N := N_Process_come) (sc := defScope s_Process_come) (by decide +kernel)) (fun _ _ _ _ _ => gm_name (pg_name (i := 2) sc_Process_come.nd rfl (Or.inl rfl))) (fun _ _ _ _ _ => tm_one (pm_tnot (pm_tst (pm_meth (c := 0) (pe_meth (pm_var (pv 0)) (T.cl "Process" (by simp [fa])) (T.me "Process" "is_there" (by simp [fa])) (ok_Process_is_there T) (hr.mono (by decide)) (b_Process_is_there T) .nil pass0 (pm_cons (pm_var (pv 2)) (pm_nil))) (hno_Process_is_there))))) (fun _ _ _ _ _ => pm_var (pv 2))) (pm_nil)))))) (sm_nil))
    (sm_cons (sm_exp (pm_bmL lm_app (pe_bm PySem.F.plainAttrs_list PySem.F.slot_list_append PySem.F.type_list_append mt_append (pm_fld (c := 0) (k := 5) (pm_var (pv 0)) (T.cl "Process" (by simp [fa])) (T.na "Process" "own_opened" (by simp [fa])) rfl (by show 5 < 10; decide)) (pm_cons (pm_var (pv 1)) (pm_nil)))))
    (sm_cons (sm_fld (c := 0) (k := 9) (pm_var (pv 0)) (pm_meth0 (c := 0) (pe_meth0 (pm_var (pv 0)) (T.cl "Process" (by simp [fa])) (T.me "Process" "all_here" (by simp [fa])) (ok_Process_all_here T) (hr.mono (by decide)) (b_Process_all_here T) .nil pass0) (hno_Process_all_here)) rfl (T.cl "Process" (by simp [fa])) (T.na "Process" "own_here" (by simp [fa])) rfl (by show 9 < 10; decide))
    (sm_one (sm_if (pm_tcmp (om_eq hr.units) (pm_ixA hr.units (pm_ixA hr.units (pm_ixA hr.units (pm_fld (c := 0) (k := 0) (pm_var (pv 0)) (T.cl "Process" (by simp [fa])) (T.na "Process" "own_program" (by simp [fa])) rfl (by show 0 < 10; decide)) (pm_int)) (pm_var (pv 1))) (pm_int)) (pm_gstr (T.gs "GLOBAL" "global" (by simp [fa])) e_x15 (by rfl)) (nomark _)) (sm_one (sm_exp (pm_bmL lm_ext (pe_bm PySem.F.plainAttrs_list PySem.F.slot_list_extend PySem.F.type_list_extend mt_extend (pm_fld (c := 0) (k := 6) (pm_var (pv 0)) (T.cl "Process" (by simp [fa])) (T.na "Process" "own_public" (by simp [fa])) rfl (by show 6 < 10; decide)) (pm_cons (pm_lc (own := [("name", 2)]) rfl sc_Process_come.nd (im_seq (pm_ixA hr.units (pm_fld (c := 0) (k := 2) (pm_var (pv 0)) (T.cl "Process" (by simp [fa])) (T.na "Process" "own_rows" (by simp [fa])) rfl (by show 2 < 10; decide)) (pm_var (pv 1)))) (blkOk_by (own := [("name", 2)]) (N := N_Process_come) (sc := defScope s_Process_come) (by decide +kernel)) (fun _ _ _ _ _ => gm_name (pg_name (i := 2) sc_Process_come.nd rfl (Or.inl rfl))) (fun _ _ _ _ _ => tm_one (pm_tcmp (om_ninA (u65 hr)) (pm_var (pv 2)) (pm_fld (c := 0) (k := 6) (pm_var (pv 0)) (T.cl "Process" (by simp [fa])) (T.na "Process" "own_public" (by simp [fa])) rfl (by show 6 < 10; decide)) (by rfl))) (fun _ _ _ _ _ => pm_var (pv 2))) (pm_nil)))))) (sm_nil))))))
def N_Process_open_door : List Str := ["self", "k"]
theorem sc_Process_open_door : FnScope ["self", "k"] ["self", "k"] (defScope s_Process_open_door) := ⟨rfl, rfl, rfl, by decide +kernel, rfl, by decide +kernel, by decide +kernel⟩
theorem b_Process_open_door (T : Tx K mg base) : Binds K (T.fd 16) ["self", "k"] [] := FunD.bindsN (T.df 16 dd_Process_open_door rfl) fun _ _ _ _ _ _ us hl => match us, hl with | [_, _], _ => rfl
def bd_Process_open_door : Fs :=
  sseq (sexp (mmeth 0 m_Process_look_door (mvar 0) (mcons (mvar 1) (mnil))))
  (sseq (sif (mtB (mop2 eqW (mop2 ixA (mop1 (fldW 0 4) (mvar 0)) (mvar 1)) (mcon (.int 2)))) (sret (mcon (.tup tw_FULL))) (snx))
  (sseq (sagS (mop1 (fldW 0 4) (mvar 0)) (mvar 1) (mcon (.int 1)) ipW)
  (sseq (sif (mtB (mop2 eqW (mop2 ixA (mop1 (fldW 0 4) (mvar 0)) (mvar 1)) (mcon (.int 1)))) (sexp (mmeth 0 m_Process_come (mvar 0) (mcons (mvar 1) (mnil)))) (snx))
  (sret (mcon (.tup tw_OPENED))))))
def m_Process_open_door : Fn := fnM 2 2 bd_Process_open_door
theorem ok_Process_open_door (T : Tx K mg base) : FnOk P w K mg base CX0 3 (He.ma K (He.ga K "Process") "open_door") (T.fd 16) ["self", "k"] (spM (GG P w K) m_Process_open_door) :=
  fn_okD (B := bd_Process_open_door) (T.df 16 dd_Process_open_door rfl) sc_Process_open_door (hb := fun cdv A outer s H E hr => sm_cons (sm_exp (pm_meth (c := 0) (pe_meth (pm_var (pv 0)) (T.cl "Process" (by simp [fa])) (T.me "Process" "look_door" (by simp [fa])) (ok_Process_look_door T) (hr.mono (by decide)) (b_Process_look_door T) .nil pass0 (pm_cons (pm_var (pv 1)) (pm_nil))) (hno_Process_look_door)))
    (sm_cons (sm_if (pm_tcmp (om_eq hr.units) (pm_ixA hr.units (pm_fld (c := 0) (k := 4) (pm_var (pv 0)) (T.cl "Process" (by simp [fa])) (T.na "Process" "own_counts" (by simp [fa])) rfl (by show 4 < 10; decide)) (pm_var (pv 1))) (pm_gint (T.gi "MOST" 2 (by simp [fa])) (by rfl)) (nomark _)) (sm_one (sm_ret (pm_gtup (T.gl "FULL" (by simp [glos])) T.tp_FULL (fun _ _ => tl_FULL) (by rfl)))) (sm_nil))
    (sm_cons (sm_agS (ps_augS (pm_fld (c := 0) (k := 4) (pm_var (pv 0)) (T.cl "Process" (by simp [fa])) (T.na "Process" "own_counts" (by simp [fa])) rfl (by show 4 < 10; decide)) (pm_var (pv 1)) get_list (pm_int) pip_add set_list))
    (sm_cons (sm_if (pm_tcmp (om_eq hr.units) (pm_ixA hr.units (pm_fld (c := 0) (k := 4) (pm_var (pv 0)) (T.cl "Process" (by simp [fa])) (T.na "Process" "own_counts" (by simp [fa])) rfl (by show 4 < 10; decide)) (pm_var (pv 1))) (pm_int) (nomark _)) (sm_one (sm_exp (pm_meth (c := 0) (pe_meth (pm_var (pv 0)) (T.cl "Process" (by simp [fa])) (T.me "Process" "come" (by simp [fa])) (ok_Process_come T) (hr.mono (by decide)) (b_Process_come T) .nil pass0 (pm_cons (pm_var (pv 1)) (pm_nil))) (hno_Process_come)))) (sm_nil))
    (sm_one (sm_ret (pm_gtup (T.gl "OPENED" (by simp [glos])) T.tp_OPENED (fun _ _ => tl_OPENED) (by rfl))))))))
def N_Process_public : List Str := ["self"]
theorem sc_Process_public : FnScope ["self"] ["self"] (defScope s_Process_public) := ⟨rfl, rfl, rfl, by decide +kernel, rfl, by decide +kernel, by decide +kernel⟩
theorem b_Process_public (T : Tx K mg base) : Binds K (T.fd 20) ["self"] [] := FunD.bindsN (T.df 20 dd_Process_public rfl) fun _ _ _ _ _ _ us hl => match us, hl with | [_], _ => rfl
def bd_Process_public : Fs :=
  sret (mcall listW (mcons (mop1 (fldW 0 6) (mvar 0)) (mnil)))
def m_Process_public : Fn := fnM 1 1 bd_Process_public
theorem ok_Process_public (T : Tx K mg base) : FnOk P w K mg base CX0 1 (He.ma K (He.ga K "Process") "public") (T.fd 20) ["self"] (spM (GG P w K) m_Process_public) :=
  fn_okD (B := bd_Process_public) (T.df 20 dd_Process_public rfl) sc_Process_public (hb := fun cdv A outer s H E hr => sm_one (sm_ret (pm_cT cm_list (by rfl) (T.fr "list" (by simp [frees])) bb_list (pm_cons (pm_fld (c := 0) (k := 6) (pm_var (pv 0)) (T.cl "Process" (by simp [fa])) (T.na "Process" "own_public" (by simp [fa])) rfl (by show 6 < 10; decide)) (pm_nil)))))
def N_Process_left : List Str := ["self", "answer"]
theorem sc_Process_left : FnScope ["self", "answer"] ["self", "answer"] (defScope s_Process_left) := ⟨rfl, rfl, rfl, by decide +kernel, rfl, by decide +kernel, by decide +kernel⟩
theorem b_Process_left (T : Tx K mg base) : Binds K (T.fd 23) ["self", "answer"] [] := FunD.bindsN (T.df 23 dd_Process_left rfl) fun _ _ _ _ _ _ us hl => match us, hl with | [_, _], _ => rfl
def bd_Process_left : Fs :=
  sret (mif (mand (mtB (mop2 eqW (mop2 ixA (mvar 1) (mcon (.int 0))) (mcon (.str x17)))) (mnot (mtst (mmeth 0 m_Process_is_there (mvar 0) (mcons (mop2 ixA (mvar 1) (mcon (.int 1))) (mnil)))))) (mcon (.tup tw_TORN)) (mvar 1))
def m_Process_left : Fn := fnM 2 2 bd_Process_left
theorem ok_Process_left (T : Tx K mg base) : FnOk P w K mg base CX0 2 (He.ma K (He.ga K "Process") "left") (T.fd 23) ["self", "answer"] (spM (GG P w K) m_Process_left) :=
  fn_okD (B := bd_Process_left) (T.df 23 dd_Process_left rfl) sc_Process_left (hb := fun cdv A outer s H E hr => sm_one (sm_ret (pm_if (PW.pt (pm_wand (pm_tcmp (om_eq hr.units) (pm_ixA hr.units (pm_var (pv 1)) (pm_int)) (pm_gstr (T.gs "BOUND" "bound" (by simp [fa])) e_x17 (by rfl)) (nomark _)) (pm_wand1 (pm_tnot (pm_tst (pm_meth (c := 0) (pe_meth (pm_var (pv 0)) (T.cl "Process" (by simp [fa])) (T.me "Process" "is_there" (by simp [fa])) (ok_Process_is_there T) (hr.mono (by decide)) (b_Process_is_there T) .nil pass0 (pm_cons (pm_ixA hr.units (pm_var (pv 1)) (pm_int)) (pm_nil))) (hno_Process_is_there))))))) (pm_gtup (T.gl "TORN" (by simp [glos])) T.tp_TORN (fun _ _ => tl_TORN) (by rfl)) (pm_var (pv 1)))))
def N_Process_go : List Str := ["self", "slots", "name", "place", "answer"]
theorem sc_Process_go : FnScope ["self", "slots", "name", "place", "answer"] ["self"] (defScope s_Process_go) := ⟨rfl, rfl, rfl, by decide +kernel, rfl, by decide +kernel, by decide +kernel⟩
theorem b_Process_go (T : Tx K mg base) : Binds K (T.fd 22) ["self"] [] := FunD.bindsN (T.df 22 dd_Process_go rfl) fun _ _ _ _ _ _ us hl => match us, hl with | [_], _ => rfl
def bd_Process_go : Fs :=
  sseq (sfld 0 6 (mvar 0) (mlc (miS (mop1 (fldW 0 6) (mvar 0))) (.nm 2) (mtst (mmeth 0 m_Process_is_there (mvar 0) (mcons (mvar 2) (mnil)))) (mvar 2) [2]))
  (sseq (sfld 0 7 (mvar 0) (mlc (miS (mop1 (fldW 0 7) (mvar 0))) (.nm 2) (mtst (mmeth 0 m_Process_is_there (mvar 0) (mcons (mvar 2) (mnil)))) (mvar 2) [2]))
  (sseq (slock (mop1 (fldW 0 8) (mvar 0)) (sset 1 (mdc (miD (mop1 (fldW 0 8) (mvar 0))) (.tp [3, 4]) (mtst (mmeth 0 m_Process_is_there (mvar 0) (mcons (mop2 ixA (mvar 3) (mcon (.int 0))) (mnil)))) (mvar 3) (mvar 4) [3, 4])))
  (sfld 0 8 (mvar 0) (mlock (mvar 1) (mdc (miD (mvar 1)) (.tp [3, 4]) (myes) (mvar 3) (mmeth 0 m_Process_left (mvar 0) (mcons (mvar 4) (mnil))) [3, 4])))))
def m_Process_go : Fn := fnM 1 5 bd_Process_go
theorem ok_Process_go (T : Tx K mg base) : FnOk P w K mg base CX0 3 (He.ma K (He.ga K "Process") "go") (T.fd 22) ["self"] (spM (GG P w K) m_Process_go) :=
  fn_okD (B := bd_Process_go) (T.df 22 dd_Process_go rfl) sc_Process_go (hb := fun cdv A outer s H E hr => sm_cons (sm_fld (c := 0) (k := 6) (pm_var (pv 0)) (pm_lc (own := [("name", 2)]) rfl sc_Process_go.nd (im_seq (pm_fld (c := 0) (k := 6) (pm_var (pv 0)) (T.cl "Process" (by simp [fa])) (T.na "Process" "own_public" (by simp [fa])) rfl (by show 6 < 10; decide))) (blkOk_by (own := [("name", 2)]) (N := N_Process_go) (sc := defScope s_Process_go) (by decide +kernel)) (fun _ _ _ _ _ => gm_name (pg_name (i := 2) sc_Process_go.nd rfl (Or.inl rfl))) (fun _ _ _ _ _ => tm_one (pm_tst (pm_meth (c := 0) (pe_meth (pm_var (pv 0)) (T.cl "Process" (by simp [fa])) (T.me "Process" "is_there" (by simp [fa])) (ok_Process_is_there T) (hr.mono (by decide)) (b_Process_is_there T) .nil pass0 (pm_cons (pm_var (pv 2)) (pm_nil))) (hno_Process_is_there)))) (fun _ _ _ _ _ => pm_var (pv 2))) rfl (T.cl "Process" (by simp [fa])) (T.na "Process" "own_public" (by simp [fa])) rfl (by show 6 < 10; decide))
    (sm_cons (sm_fld (c := 0) (k := 7) (pm_var (pv 0)) (pm_lc (own := [("name", 2)]) rfl sc_Process_go.nd (im_seq (pm_fld (c := 0) (k := 7) (pm_var (pv 0)) (T.cl "Process" (by simp [fa])) (T.na "Process" "own_deep" (by simp [fa])) rfl (by show 7 < 10; decide))) (blkOk_by (own := [("name", 2)]) (N := N_Process_go) (sc := defScope s_Process_go) (by decide +kernel)) (fun _ _ _ _ _ => gm_name (pg_name (i := 2) sc_Process_go.nd rfl (Or.inl rfl))) (fun _ _ _ _ _ => tm_one (pm_tst (pm_meth (c := 0) (pe_meth (pm_var (pv 0)) (T.cl "Process" (by simp [fa])) (T.me "Process" "is_there" (by simp [fa])) (ok_Process_is_there T) (hr.mono (by decide)) (b_Process_is_there T) .nil pass0 (pm_cons (pm_var (pv 2)) (pm_nil))) (hno_Process_is_there)))) (fun _ _ _ _ _ => pm_var (pv 2))) rfl (T.cl "Process" (by simp [fa])) (T.na "Process" "own_deep" (by simp [fa])) rfl (by show 7 < 10; decide))
    (sm_cons (sm_lock (D := mop1 (fldW 0 8) (mvar 0)) (sm_setDc (i := 1) (own := [("place", 3), ("answer", 4)]) hr.units rfl sc_Process_go.nd rfl rfl (swD_true rfl rfl rfl (by decide +kernel)) (im_items (pm_fld (c := 0) (k := 8) (pm_var (pv 0)) (T.cl "Process" (by simp [fa])) (T.na "Process" "own_slots" (by simp [fa])) rfl (by show 8 < 10; decide))) (blkOk_by (own := [("place", 3), ("answer", 4)]) (N := N_Process_go) (sc := defScope s_Process_go) (by decide +kernel)) (fun _ _ _ _ _ => gm_tup rfl (gm_cons (pg_name (i := 3) sc_Process_go.nd rfl (Or.inl rfl)) (gm_cons (pg_name (i := 4) sc_Process_go.nd rfl (Or.inl rfl)) (gm_nil)))) (fun _ _ _ _ _ => tm_one (pm_tst (pm_meth (c := 0) (pe_meth (pm_var (pv 0)) (T.cl "Process" (by simp [fa])) (T.me "Process" "is_there" (by simp [fa])) (ok_Process_is_there T) (hr.mono (by decide)) (b_Process_is_there T) .nil pass0 (pm_cons (pm_ixA hr.units (pm_var (pv 3)) (pm_int)) (pm_nil))) (hno_Process_is_there)))) (fun _ _ _ _ _ => pm_var (pv 3)) (fun _ _ _ _ _ => pm_var (pv 4))))
    (sm_one (sm_fld (c := 0) (k := 8) (pm_var (pv 0)) (pm_lock (D := mvar 1) (pm_dc (own := [("place", 3), ("answer", 4)]) hr.units rfl sc_Process_go.nd (im_items (pm_var (pv 1))) (blkOk_by (own := [("place", 3), ("answer", 4)]) (N := N_Process_go) (sc := defScope s_Process_go) (by decide +kernel)) (fun _ _ _ _ _ => gm_tup rfl (gm_cons (pg_name (i := 3) sc_Process_go.nd rfl (Or.inl rfl)) (gm_cons (pg_name (i := 4) sc_Process_go.nd rfl (Or.inl rfl)) (gm_nil)))) (fun _ _ _ _ _ => tm_nil) (fun _ _ _ _ _ => pm_var (pv 3)) (fun _ _ _ _ _ => pm_meth (c := 0) (pe_meth (pm_var (pv 0)) (T.cl "Process" (by simp [fa])) (T.me "Process" "left" (by simp [fa])) (ok_Process_left T) (hr.mono (by decide)) (b_Process_left T) .nil pass0 (pm_cons (pm_var (pv 4)) (pm_nil))) (hno_Process_left)))) rfl (T.cl "Process" (by simp [fa])) (T.na "Process" "own_slots" (by simp [fa])) rfl (by show 8 < 10; decide))))))
def N_Process_close_door : List Str := ["self", "k"]
theorem sc_Process_close_door : FnScope ["self", "k"] ["self", "k"] (defScope s_Process_close_door) := ⟨rfl, rfl, rfl, by decide +kernel, rfl, by decide +kernel, by decide +kernel⟩
theorem b_Process_close_door (T : Tx K mg base) : Binds K (T.fd 21) ["self", "k"] [] := FunD.bindsN (T.df 21 dd_Process_close_door rfl) fun _ _ _ _ _ _ us hl => match us, hl with | [_, _], _ => rfl
def bd_Process_close_door : Fs :=
  sseq (sexp (mmeth 0 m_Process_look_door (mvar 0) (mcons (mvar 1) (mnil))))
  (sseq (sif (mtB (mop2 eqW (mop2 ixA (mop1 (fldW 0 4) (mvar 0)) (mvar 1)) (mcon (.int 0)))) (sret (mcon (.tup tw_SHUT))) (snx))
  (sseq (sagS (mop1 (fldW 0 4) (mvar 0)) (mvar 1) (mcon (.int 1)) isW2)
  (sseq (sif (mtB (mop2 eqW (mop2 ixA (mop1 (fldW 0 4) (mvar 0)) (mvar 1)) (mcon (.int 0)))) (sseq (sexp (mbmL remW (mop1 (fldW 0 5) (mvar 0)) (mcons (mvar 1) (mnil))))
  (sseq (sfld 0 9 (mvar 0) (mmeth 0 m_Process_all_here (mvar 0) mnil))
  (sexp (mmeth 0 m_Process_go (mvar 0) mnil)))) (snx))
  (sret (mcon (.tup tw_CLOSED))))))
def m_Process_close_door : Fn := fnM 2 2 bd_Process_close_door
theorem ok_Process_close_door (T : Tx K mg base) : FnOk P w K mg base CX0 4 (He.ma K (He.ga K "Process") "close_door") (T.fd 21) ["self", "k"] (spM (GG P w K) m_Process_close_door) :=
  fn_okD (B := bd_Process_close_door) (T.df 21 dd_Process_close_door rfl) sc_Process_close_door (hb := fun cdv A outer s H E hr => sm_cons (sm_exp (pm_meth (c := 0) (pe_meth (pm_var (pv 0)) (T.cl "Process" (by simp [fa])) (T.me "Process" "look_door" (by simp [fa])) (ok_Process_look_door T) (hr.mono (by decide)) (b_Process_look_door T) .nil pass0 (pm_cons (pm_var (pv 1)) (pm_nil))) (hno_Process_look_door)))
    (sm_cons (sm_if (pm_tcmp (om_eq hr.units) (pm_ixA hr.units (pm_fld (c := 0) (k := 4) (pm_var (pv 0)) (T.cl "Process" (by simp [fa])) (T.na "Process" "own_counts" (by simp [fa])) rfl (by show 4 < 10; decide)) (pm_var (pv 1))) (pm_int) (nomark _)) (sm_one (sm_ret (pm_gtup (T.gl "SHUT" (by simp [glos])) T.tp_SHUT (fun _ _ => tl_SHUT) (by rfl)))) (sm_nil))
    (sm_cons (sm_agS (ps_augS (pm_fld (c := 0) (k := 4) (pm_var (pv 0)) (T.cl "Process" (by simp [fa])) (T.na "Process" "own_counts" (by simp [fa])) rfl (by show 4 < 10; decide)) (pm_var (pv 1)) get_list (pm_int) pip_sub set_list))
    (sm_cons (sm_if (pm_tcmp (om_eq hr.units) (pm_ixA hr.units (pm_fld (c := 0) (k := 4) (pm_var (pv 0)) (T.cl "Process" (by simp [fa])) (T.na "Process" "own_counts" (by simp [fa])) rfl (by show 4 < 10; decide)) (pm_var (pv 1))) (pm_int) (nomark _)) (sm_cons (sm_exp (pm_bmL lm_rem (pe_bm PySem.F.plainAttrs_list PySem.F.slot_list_remove PySem.F.type_list_remove mt_remove (pm_fld (c := 0) (k := 5) (pm_var (pv 0)) (T.cl "Process" (by simp [fa])) (T.na "Process" "own_opened" (by simp [fa])) rfl (by show 5 < 10; decide)) (pm_cons (pm_var (pv 1)) (pm_nil)))))
    (sm_cons (sm_fld (c := 0) (k := 9) (pm_var (pv 0)) (pm_meth0 (c := 0) (pe_meth0 (pm_var (pv 0)) (T.cl "Process" (by simp [fa])) (T.me "Process" "all_here" (by simp [fa])) (ok_Process_all_here T) (hr.mono (by decide)) (b_Process_all_here T) .nil pass0) (hno_Process_all_here)) rfl (T.cl "Process" (by simp [fa])) (T.na "Process" "own_here" (by simp [fa])) rfl (by show 9 < 10; decide))
    (sm_one (sm_exp (pm_meth0 (c := 0) (pe_meth0 (pm_var (pv 0)) (T.cl "Process" (by simp [fa])) (T.me "Process" "go" (by simp [fa])) (ok_Process_go T) (hr.mono (by decide)) (b_Process_go T) .nil pass0) (hno_Process_go)))))) (sm_nil))
    (sm_one (sm_ret (pm_gtup (T.gl "CLOSED" (by simp [glos])) T.tp_CLOSED (fun _ _ => tl_CLOSED) (by rfl))))))))
def N_Process_look_there : List Str := ["self", "name"]
theorem sc_Process_look_there : FnScope ["self", "name"] ["self", "name"] (defScope s_Process_look_there) := ⟨rfl, rfl, rfl, by decide +kernel, rfl, by decide +kernel, by decide +kernel⟩
theorem b_Process_look_there (T : Tx K mg base) : Binds K (T.fd 26) ["self", "name"] [] := FunD.bindsN (T.df 26 dd_Process_look_there rfl) fun _ _ _ _ _ _ us hl => match us, hl with | [_, _], _ => rfl
def bd_Process_look_there : Fs :=
  sseq (sexp (mcall m_lib_at (mcons (mop1 (fldW 0 0) (mvar 0)) (mcons (mvar 1) (mnil)))))
  (sif (mnot (mtst (mmeth 0 m_Process_is_there (mvar 0) (mcons (mvar 1) (mnil))))) (sno) (snx))
def m_Process_look_there : Fn := fnM 2 2 bd_Process_look_there
theorem ok_Process_look_there (T : Tx K mg base) : FnOk P w K mg base CX0 3 (He.ma K (He.ga K "Process") "look_there") (T.fd 26) ["self", "name"] (spM (GG P w K) m_Process_look_there) :=
  fn_okD (B := bd_Process_look_there) (T.df 26 dd_Process_look_there rfl) sc_Process_look_there (hb := fun cdv A outer s H E hr => sm_cons (sm_exp (pm_call (ok_lib_at T) (hr.mono (by decide)) (by rfl) (T.gl "lib_at" (by simp [glos])) (T.kp 12 rfl) (b_lib_at T) pass0 (pm_cons (pm_fld (c := 0) (k := 0) (pm_var (pv 0)) (T.cl "Process" (by simp [fa])) (T.na "Process" "own_program" (by simp [fa])) rfl (by show 0 < 10; decide)) (pm_cons (pm_var (pv 1)) (pm_nil)))))
    (sm_one (sm_if (pm_tnot (pm_tst (pm_meth (c := 0) (pe_meth (pm_var (pv 0)) (T.cl "Process" (by simp [fa])) (T.me "Process" "is_there" (by simp [fa])) (ok_Process_is_there T) (hr.mono (by decide)) (b_Process_is_there T) .nil pass0 (pm_cons (pm_var (pv 1)) (pm_nil))) (hno_Process_is_there)))) (sm_one (sm_no)) (sm_nil))))
def N_use_at : List Str := ["program", "name", "number", "lib"]
theorem sc_use_at : FnScope ["program", "name", "number", "lib"] ["program", "name", "number"] (defScope s_use_at) := ⟨rfl, rfl, rfl, by decide +kernel, rfl, by decide +kernel, by decide +kernel⟩
theorem b_use_at (T : Tx K mg base) : Binds K (T.fd 27) ["program", "name", "number"] [] := FunD.bindsN (T.df 27 dd_use_at rfl) fun _ _ _ _ _ _ us hl => match us, hl with | [_, _, _], _ => rfl
def bd_use_at : Fs :=
  sseq (sset 3 (mcall m_lib_at (mcons (mvar 0) (mcons (mvar 1) (mnil)))))
  (sseq (sif (mnot (mtB (mchain leW ltW (mcon (.int 0)) (mvar 2) (mcall lenW (mcons (mop2 ixA (mvar 3) (mcon (.int 3))) (mnil)))))) (sno) (snx))
  (sret (mop2 ixA (mop2 ixA (mvar 3) (mcon (.int 3))) (mvar 2))))
def m_use_at : Fn := fnM 3 4 bd_use_at
theorem ok_use_at (T : Tx K mg base) : FnOk P w K mg base CX0 3 (He.ga K "use_at") (T.fd 27) ["program", "name", "number"] (spM (GG P w K) m_use_at) :=
  fn_okD (B := bd_use_at) (T.df 27 dd_use_at rfl) sc_use_at (hb := fun cdv A outer s H E hr => sm_cons (sm_set (ps_set (i := 3) sc_use_at.nd rfl (Or.inl rfl) (pm_call (ok_lib_at T) (hr.mono (by decide)) (by rfl) (T.gl "lib_at" (by simp [glos])) (T.kp 12 rfl) (b_lib_at T) pass0 (pm_cons (pm_var (pv 0)) (pm_cons (pm_var (pv 1)) (pm_nil))))))
    (sm_cons (sm_if (pm_tnot (pm_tchain (om_le) (om_lt) (pm_int) (pm_var (pv 2)) (pm_cB cm_len (by rfl) (T.fr "len" (by simp [frees])) bb_len (pm_cons (pm_ixA hr.units (pm_var (pv 3)) (pm_int)) (pm_nil))))) (sm_one (sm_no)) (sm_nil))
    (sm_one (sm_ret (pm_ixA hr.units (pm_ixA hr.units (pm_var (pv 3)) (pm_int)) (pm_var (pv 2)))))))
def N_Process_slot : List Str := ["self", "name", "i"]
theorem sc_Process_slot : FnScope ["self", "name", "i"] ["self", "name", "i"] (defScope s_Process_slot) := ⟨rfl, rfl, rfl, by decide +kernel, rfl, by decide +kernel, by decide +kernel⟩
theorem b_Process_slot (T : Tx K mg base) : Binds K (T.fd 25) ["self", "name", "i"] [] := FunD.bindsN (T.df 25 dd_Process_slot rfl) fun _ _ _ _ _ _ us hl => match us, hl with | [_, _, _], _ => rfl
def bd_Process_slot : Fs :=
  sseq (sexp (mmeth 0 m_Process_look_there (mvar 0) (mcons (mvar 1) (mnil))))
  (sseq (sexp (mcall m_use_at (mcons (mop1 (fldW 0 0) (mvar 0)) (mcons (mvar 1) (mcons (mvar 2) (mnil))))))
  (sret (mdget (mop1 (fldW 0 8) (mvar 0)) (mtup (mcons (mvar 1) (mcons (mvar 2) (mnil)))))))
def m_Process_slot : Fn := fnM 3 3 bd_Process_slot
theorem ok_Process_slot (T : Tx K mg base) : FnOk P w K mg base CX0 4 (He.ma K (He.ga K "Process") "slot") (T.fd 25) ["self", "name", "i"] (spM (GG P w K) m_Process_slot) :=
  fn_okD (B := bd_Process_slot) (T.df 25 dd_Process_slot rfl) sc_Process_slot (hb := fun cdv A outer s H E hr => sm_cons (sm_exp (pm_meth (c := 0) (pe_meth (pm_var (pv 0)) (T.cl "Process" (by simp [fa])) (T.me "Process" "look_there" (by simp [fa])) (ok_Process_look_there T) (hr.mono (by decide)) (b_Process_look_there T) .nil pass0 (pm_cons (pm_var (pv 1)) (pm_nil))) (hno_Process_look_there)))
    (sm_cons (sm_exp (pm_call (ok_use_at T) (hr.mono (by decide)) (by rfl) (T.gl "use_at" (by simp [glos])) (T.kp 27 rfl) (b_use_at T) pass0 (pm_cons (pm_fld (c := 0) (k := 0) (pm_var (pv 0)) (T.cl "Process" (by simp [fa])) (T.na "Process" "own_program" (by simp [fa])) rfl (by show 0 < 10; decide)) (pm_cons (pm_var (pv 1)) (pm_cons (pm_var (pv 2)) (pm_nil))))))
    (sm_one (sm_ret (pm_dget1 hr.units (pm_fld (c := 0) (k := 8) (pm_var (pv 0)) (T.cl "Process" (by simp [fa])) (T.na "Process" "own_slots" (by simp [fa])) rfl (by show 8 < 10; decide)) (pm_tup (pm_cons (pm_var (pv 1)) (pm_cons (pm_var (pv 2)) (pm_nil)))) ⟨rfl, rfl, rfl, rfl⟩)))))
def N_Process_looks : List Str := ["self", "name", "near", "found", "other", "number"]
theorem sc_Process_looks : FnScope ["self", "name", "near", "found", "other", "number"] ["self", "name"] (defScope s_Process_looks) := ⟨rfl, rfl, rfl, by decide +kernel, rfl, by decide +kernel, by decide +kernel⟩
theorem b_Process_looks (T : Tx K mg base) : Binds K (T.fd 29) ["self", "name"] [] := FunD.bindsN (T.df 29 dd_Process_looks rfl) fun _ _ _ _ _ _ us hl => match us, hl with | [_, _], _ => rfl
def bd_Process_looks : Fs :=
  sseq (sexp (mmeth 0 m_Process_look_there (mvar 0) (mcons (mvar 1) (mnil))))
  (sseq (sif (mtB (mop2 inA (mvar 1) (mop1 (fldW 0 1) (mvar 0)))) (sret (mcall listW (mcons (mop1 (fldW 0 6) (mvar 0)) (mnil)))) (snx))
  (sseq (sset 2 (mlc2 (miS (mop1 (fldW 0 5) (mvar 0))) (.nm 5) (mtB (mop2 inA (mvar 1) (mop2 ixA (mop1 (fldW 0 2) (mvar 0)) (mvar 5)))) (miS (mop2 ixA (mop1 (fldW 0 2) (mvar 0)) (mvar 5))) (.nm 4) (myes) (mvar 4) [5, 4] [4]))
  (sseq (sset 3 (mlst (mnil)))
  (sseq (sfor (miS (mif (mtB (mop2 inA (mvar 1) (mop1 (fldW 0 7) (mvar 0)))) (mop2 addW (mvar 2) (mop1 (fldW 0 6) (mvar 0))) (mop2 addW (mop1 (fldW 0 6) (mvar 0)) (mvar 2)))) (.nm 4) (sif (mtB (mop2 ninA (mvar 4) (mvar 3))) (sexp (mbmL appW (mvar 3) (mcons (mvar 4) (mnil)))) (snx)))
  (sret (mvar 3))))))
def m_Process_looks : Fn := fnM 2 6 bd_Process_looks
theorem ok_Process_looks (T : Tx K mg base) : FnOk P w K mg base CX0 4 (He.ma K (He.ga K "Process") "looks") (T.fd 29) ["self", "name"] (spM (GG P w K) m_Process_looks) :=
  fn_okD (B := bd_Process_looks) (T.df 29 dd_Process_looks rfl) sc_Process_looks (hb := fun cdv A outer s H E hr => sm_cons (sm_exp (pm_meth (c := 0) (pe_meth (pm_var (pv 0)) (T.cl "Process" (by simp [fa])) (T.me "Process" "look_there" (by simp [fa])) (ok_Process_look_there T) (hr.mono (by decide)) (b_Process_look_there T) .nil pass0 (pm_cons (pm_var (pv 1)) (pm_nil))) (hno_Process_look_there)))
    (sm_cons (sm_if (pm_tcmp (om_inA (u65 hr)) (pm_var (pv 1)) (pm_fld (c := 0) (k := 1) (pm_var (pv 0)) (T.cl "Process" (by simp [fa])) (T.na "Process" "own_first" (by simp [fa])) rfl (by show 1 < 10; decide)) (by rfl)) (sm_one (sm_ret (pm_cT cm_list (by rfl) (T.fr "list" (by simp [frees])) bb_list (pm_cons (pm_fld (c := 0) (k := 6) (pm_var (pv 0)) (T.cl "Process" (by simp [fa])) (T.na "Process" "own_public" (by simp [fa])) rfl (by show 6 < 10; decide)) (pm_nil))))) (sm_nil))
    (sm_cons (sm_setLc2 (own := [("number", 5), ("other", 4)]) (vs1 := [4]) (ps_setLc2 (i := 2) (own := [("number", 5), ("other", 4)]) (vs1 := [4]) rfl sc_Process_looks.nd rfl rfl (sw_true rfl rfl rfl (by decide +kernel)) (im_seq (pm_fld (c := 0) (k := 5) (pm_var (pv 0)) (T.cl "Process" (by simp [fa])) (T.na "Process" "own_opened" (by simp [fa])) rfl (by show 5 < 10; decide))) (blkOk_by (own := [("number", 5), ("other", 4)]) (N := N_Process_looks) (sc := defScope s_Process_looks) (by decide +kernel)) (by decide) (fun _ _ _ _ _ => gm_name (pg_name (i := 5) sc_Process_looks.nd rfl (Or.inl rfl))) (fun _ _ _ _ _ => tm_one (pm_tcmp (om_inA (u65 hr)) (pm_var (pv 1)) (pm_ixA hr.units (pm_fld (c := 0) (k := 2) (pm_var (pv 0)) (T.cl "Process" (by simp [fa])) (T.na "Process" "own_rows" (by simp [fa])) rfl (by show 2 < 10; decide)) (pm_var (pv 5))) (by rfl))) (fun _ _ _ _ _ => im_seq (pm_ixA hr.units (pm_fld (c := 0) (k := 2) (pm_var (pv 0)) (T.cl "Process" (by simp [fa])) (T.na "Process" "own_rows" (by simp [fa])) rfl (by show 2 < 10; decide)) (pm_var (pv 5)))) (fun _ _ _ _ _ => gm_name (pg_name (i := 4) sc_Process_looks.nd rfl (Or.inl rfl))) (fun _ _ _ _ _ => tm_nil) (fun _ _ _ _ _ => pm_var (pv 4))))
    (sm_cons (sm_set (ps_set (i := 3) sc_Process_looks.nd rfl (Or.inl rfl) (pm_lst (pm_nil))))
    (sm_cons (sm_for' PassesOwn.never rfl (im_seq (pm_if (pm_tcmp (om_inA (u65 hr)) (pm_var (pv 1)) (pm_fld (c := 0) (k := 7) (pm_var (pv 0)) (T.cl "Process" (by simp [fa])) (T.na "Process" "own_deep" (by simp [fa])) rfl (by show 7 < 10; decide)) (by rfl)) (pm_bin om_add (pm_var (pv 2)) (pm_fld (c := 0) (k := 6) (pm_var (pv 0)) (T.cl "Process" (by simp [fa])) (T.na "Process" "own_public" (by simp [fa])) rfl (by show 6 < 10; decide))) (pm_bin om_add (pm_fld (c := 0) (k := 6) (pm_var (pv 0)) (T.cl "Process" (by simp [fa])) (T.na "Process" "own_public" (by simp [fa])) rfl (by show 6 < 10; decide)) (pm_var (pv 2))))) (gm_name (pg_name (i := 4) sc_Process_looks.nd rfl (Or.inl rfl))) (sm_one (sm_if (pm_tcmp (om_ninA (u65 hr)) (pm_var (pv 4)) (pm_var (pv 3)) (by rfl)) (sm_one (sm_exp (pm_bmL lm_app (pe_bm PySem.F.plainAttrs_list PySem.F.slot_list_append PySem.F.type_list_append mt_append (pm_var (pv 3)) (pm_cons (pm_var (pv 4)) (pm_nil)))))) (sm_nil))))
    (sm_one (sm_ret (pm_var (pv 3)))))))))
def N_serves : List Str := ["definition", "use"]
theorem sc_serves : FnScope ["definition", "use"] ["definition", "use"] (defScope s_serves) := ⟨rfl, rfl, rfl, by decide +kernel, rfl, by decide +kernel, by decide +kernel⟩
theorem b_serves (T : Tx K mg base) : Binds K (T.fd 31) ["definition", "use"] [] := FunD.bindsN (T.df 31 dd_serves rfl) fun _ _ _ _ _ _ us hl => match us, hl with | [_, _], _ => rfl
def bd_serves : Fs :=
  sret (mandV (mop2 eqW (mop2 ixA (mvar 0) (mcon (.int 0))) (mop2 ixA (mvar 1) (mcon (.int 0)))) (morV (mop2 eqW (mop2 ixA (mvar 0) (mcon (.int 1))) (mop2 ixA (mvar 1) (mcon (.int 1)))) (mop2 inA (mcon (.str x12)) (mtup (mcons (mop2 ixA (mvar 0) (mcon (.int 1))) (mcons (mop2 ixA (mvar 1) (mcon (.int 1))) (mnil)))))))
def m_serves : Fn := fnM 2 2 bd_serves
theorem ok_serves (T : Tx K mg base) : FnOk P w K mg base CX0 1 (He.ga K "serves") (T.fd 31) ["definition", "use"] (spM (GG P w K) m_serves) :=
  fn_okD (B := bd_serves) (T.df 31 dd_serves rfl) sc_serves (hb := fun cdv A outer s H E hr => sm_one (sm_ret (pm_and (pm_cmp (om_eq hr.units) (pm_ixA hr.units (pm_var (pv 0)) (pm_int)) (pm_ixA hr.units (pm_var (pv 1)) (pm_int)) (nomark _)) (pm_one (pm_or (pm_cmp (om_eq hr.units) (pm_ixA hr.units (pm_var (pv 0)) (pm_int)) (pm_ixA hr.units (pm_var (pv 1)) (pm_int)) (nomark _)) (pm_one (pm_cmp (om_inA (u65 hr)) (pm_str e_x12) (pm_tup (pm_cons (pm_ixA hr.units (pm_var (pv 0)) (pm_int)) (pm_cons (pm_ixA hr.units (pm_var (pv 1)) (pm_int)) (pm_nil)))) (by rfl))))))))
def N_version_of : List Str := ["lib", "use", "some", "definition"]
theorem sc_version_of : FnScope ["lib", "use", "some", "definition"] ["lib", "use"] (defScope s_version_of) := ⟨rfl, rfl, rfl, by decide +kernel, rfl, by decide +kernel, by decide +kernel⟩
theorem b_version_of (T : Tx K mg base) : Binds K (T.fd 30) ["lib", "use"] [] := FunD.bindsN (T.df 30 dd_version_of rfl) fun _ _ _ _ _ _ us hl => match us, hl with | [_, _], _ => rfl
def bd_version_of : Fs :=
  sseq (sset 2 (mlc (miS (mop2 ixA (mvar 0) (mcon (.int 2)))) (.nm 3) (mtst (mcall m_serves (mcons (mvar 3) (mcons (mvar 1) (mnil))))) (mop2 ixA (mvar 3) (mcon (.int 1))) [3]))
  (sseq (sif (mtB (mop2 eqW (mcall lenW (mcons (mvar 2) (mnil))) (mcon (.int 0)))) (sret (mcon .non)) (snx))
  (sret (mif (mtB (mop2 inA (mop2 ixA (mvar 1) (mcon (.int 1))) (mvar 2))) (mop2 ixA (mvar 1) (mcon (.int 1))) (mcall minW (mcons (mvar 2) (mnil))))))
def m_version_of : Fn := fnM 2 4 bd_version_of
theorem ok_version_of (T : Tx K mg base) : FnOk P w K mg base CX0 2 (He.ga K "version_of") (T.fd 30) ["lib", "use"] (spM (GG P w K) m_version_of) :=
  fn_okD (B := bd_version_of) (T.df 30 dd_version_of rfl) sc_version_of (hb := fun cdv A outer s H E hr => sm_cons (sm_setLc (i := 2) (own := [("definition", 3)]) rfl sc_version_of.nd rfl rfl (sw_true rfl rfl rfl (by decide +kernel)) (im_seq (pm_ixA hr.units (pm_var (pv 0)) (pm_int))) (blkOk_by (own := [("definition", 3)]) (N := N_version_of) (sc := defScope s_version_of) (by decide +kernel)) (fun _ _ _ _ _ => gm_name (pg_name (i := 3) sc_version_of.nd rfl (Or.inl rfl))) (fun _ _ _ _ _ => tm_one (pm_tst (pm_call (ok_serves T) (hr.mono (by decide)) (by rfl) (T.gl "serves" (by simp [glos])) (T.kp 31 rfl) (b_serves T) pass0 (pm_cons (pm_var (pv 3)) (pm_cons (pm_var (pv 1)) (pm_nil)))))) (fun _ _ _ _ _ => pm_ixA hr.units (pm_var (pv 3)) (pm_int)))
    (sm_cons (sm_if (pm_tcmp (om_eq hr.units) (pm_cB cm_len (by rfl) (T.fr "len" (by simp [frees])) bb_len (pm_cons (pm_var (pv 2)) (pm_nil))) (pm_int) (nomark _)) (sm_one (sm_ret (pm_non))) (sm_nil))
    (sm_one (sm_ret (pm_if (pm_tcmp (om_inA (u65 hr)) (pm_ixA hr.units (pm_var (pv 1)) (pm_int)) (pm_var (pv 2)) (by rfl)) (pm_ixA hr.units (pm_var (pv 1)) (pm_int)) (pm_cB (cm_min (hu := hr.units)) (by rfl) (T.fr "min" (by simp [frees])) bb_min (pm_cons (pm_var (pv 2)) (pm_nil))))))))
def N_Process_found : List Str := ["self", "name", "i", "use", "other", "version"]
theorem sc_Process_found : FnScope ["self", "name", "i", "use", "other", "version"] ["self", "name", "i"] (defScope s_Process_found) := ⟨rfl, rfl, rfl, by decide +kernel, rfl, by decide +kernel, by decide +kernel⟩
theorem b_Process_found (T : Tx K mg base) : Binds K (T.fd 28) ["self", "name", "i"] [] := FunD.bindsN (T.df 28 dd_Process_found rfl) fun _ _ _ _ _ _ us hl => match us, hl with | [_, _, _], _ => rfl
def bd_Process_found : Fs :=
  sseq (sset 3 (mcall m_use_at (mcons (mop1 (fldW 0 0) (mvar 0)) (mcons (mvar 1) (mcons (mvar 2) (mnil))))))
  (sseq (sfor (miS (mmeth 0 m_Process_looks (mvar 0) (mcons (mvar 1) (mnil)))) (.nm 4) (sseq (sset 5 (mcall m_version_of (mcons (mcall m_lib_of (mcons (mop1 (fldW 0 0) (mvar 0)) (mcons (mvar 4) (mnil)))) (mcons (mvar 3) (mnil)))))
  (sif (mtB (mop2 (isW true) (mvar 5) (mcon .non))) (sret (mtup (mcons (mcon (.str x17)) (mcons (mvar 4) (mcons (mvar 5) (mnil)))))) (snx))))
  (sret (mif (mtst (mop2 ixA (mvar 3) (mcon (.int 2)))) (mcon (.tup tw_NOBODY)) (mcon (.tup tw_LOST)))))
def m_Process_found : Fn := fnM 3 6 bd_Process_found
theorem ok_Process_found (T : Tx K mg base) : FnOk P w K mg base CX0 5 (He.ma K (He.ga K "Process") "found") (T.fd 28) ["self", "name", "i"] (spM (GG P w K) m_Process_found) :=
  fn_okD (B := bd_Process_found) (T.df 28 dd_Process_found rfl) sc_Process_found (hb := fun cdv A outer s H E hr => sm_cons (sm_set (ps_set (i := 3) sc_Process_found.nd rfl (Or.inl rfl) (pm_call (ok_use_at T) (hr.mono (by decide)) (by rfl) (T.gl "use_at" (by simp [glos])) (T.kp 27 rfl) (b_use_at T) pass0 (pm_cons (pm_fld (c := 0) (k := 0) (pm_var (pv 0)) (T.cl "Process" (by simp [fa])) (T.na "Process" "own_program" (by simp [fa])) rfl (by show 0 < 10; decide)) (pm_cons (pm_var (pv 1)) (pm_cons (pm_var (pv 2)) (pm_nil)))))))
    (sm_cons (sm_for' PassesOwn.never rfl (im_seq (pm_meth (c := 0) (pe_meth (pm_var (pv 0)) (T.cl "Process" (by simp [fa])) (T.me "Process" "looks" (by simp [fa])) (ok_Process_looks T) (hr.mono (by decide)) (b_Process_looks T) .nil pass0 (pm_cons (pm_var (pv 1)) (pm_nil))) (hno_Process_looks))) (gm_name (pg_name (i := 4) sc_Process_found.nd rfl (Or.inl rfl))) (sm_cons (sm_set (ps_set (i := 5) sc_Process_found.nd rfl (Or.inl rfl) (pm_call (ok_version_of T) (hr.mono (by decide)) (by rfl) (T.gl "version_of" (by simp [glos])) (T.kp 30 rfl) (b_version_of T) pass0 (pm_cons (pm_call (ok_lib_of T) (hr.mono (by decide)) (by rfl) (T.gl "lib_of" (by simp [glos])) (T.kp 13 rfl) (b_lib_of T) pass0 (pm_cons (pm_fld (c := 0) (k := 0) (pm_var (pv 0)) (T.cl "Process" (by simp [fa])) (T.na "Process" "own_program" (by simp [fa])) rfl (by show 0 < 10; decide)) (pm_cons (pm_var (pv 4)) (pm_nil)))) (pm_cons (pm_var (pv 3)) (pm_nil))))))
    (sm_one (sm_if (pm_tcmp (om_isnot) (pm_var (pv 5)) (pm_non) (nomark _)) (sm_one (sm_ret (pm_tup (pm_cons (pm_gstr (T.gs "BOUND" "bound" (by simp [fa])) e_x17 (by rfl)) (pm_cons (pm_var (pv 4)) (pm_cons (pm_var (pv 5)) (pm_nil))))))) (sm_nil)))))
    (sm_one (sm_ret (pm_if (pm_tst (pm_ixA hr.units (pm_var (pv 3)) (pm_int))) (pm_gtup (T.gl "NOBODY" (by simp [glos])) T.tp_NOBODY (fun _ _ => tl_NOBODY) (by rfl)) (pm_gtup (T.gl "LOST" (by simp [glos])) T.tp_LOST (fun _ _ => tl_LOST) (by rfl)))))))
def N_Process_call : List Str := ["self", "name", "i", "answer"]
theorem sc_Process_call : FnScope ["self", "name", "i", "answer"] ["self", "name", "i"] (defScope s_Process_call) := ⟨rfl, rfl, rfl, by decide +kernel, rfl, by decide +kernel, by decide +kernel⟩
theorem b_Process_call (T : Tx K mg base) : Binds K (T.fd 24) ["self", "name", "i"] [] := FunD.bindsN (T.df 24 dd_Process_call rfl) fun _ _ _ _ _ _ us hl => match us, hl with | [_, _, _], _ => rfl
def bd_Process_call : Fs :=
  sseq (sif (mtB (mop2 (isW false) (mmeth 0 m_Process_slot (mvar 0) (mcons (mvar 1) (mcons (mvar 2) (mnil)))) (mcon .non))) (sseq (sset 3 (mmeth 0 m_Process_found (mvar 0) (mcons (mvar 1) (mcons (mvar 2) (mnil)))))
  (sseq (sif (mtB (mop2 neW (mvar 3) (mcon (.tup tw_LOST)))) (ssubA (mop1 (fldW 0 8) (mvar 0)) (mtup (mcons (mvar 1) (mcons (mvar 2) (mnil)))) (mvar 3)) (snx))
  (sret (mvar 3)))) (snx))
  (sret (mop2 ixA (mop1 (fldW 0 8) (mvar 0)) (mtup (mcons (mvar 1) (mcons (mvar 2) (mnil))))))
def m_Process_call : Fn := fnM 3 4 bd_Process_call
theorem ok_Process_call (T : Tx K mg base) : FnOk P w K mg base CX0 6 (He.ma K (He.ga K "Process") "call") (T.fd 24) ["self", "name", "i"] (spM (GG P w K) m_Process_call) :=
  fn_okD (B := bd_Process_call) (T.df 24 dd_Process_call rfl) sc_Process_call (hb := fun cdv A outer s H E hr => sm_cons (sm_if (pm_tcmp (om_is) (pm_meth (c := 0) (pe_meth (pm_var (pv 0)) (T.cl "Process" (by simp [fa])) (T.me "Process" "slot" (by simp [fa])) (ok_Process_slot T) (hr.mono (by decide)) (b_Process_slot T) .nil pass0 (pm_cons (pm_var (pv 1)) (pm_cons (pm_var (pv 2)) (pm_nil)))) (hno_Process_slot)) (pm_non) (nomark _)) (sm_cons (sm_set (ps_set (i := 3) sc_Process_call.nd rfl (Or.inl rfl) (pm_meth (c := 0) (pe_meth (pm_var (pv 0)) (T.cl "Process" (by simp [fa])) (T.me "Process" "found" (by simp [fa])) (ok_Process_found T) (hr.mono (by decide)) (b_Process_found T) .nil pass0 (pm_cons (pm_var (pv 1)) (pm_cons (pm_var (pv 2)) (pm_nil)))) (hno_Process_found))))
    (sm_cons (sm_if (pm_tcmp (om_ne hr.units) (pm_var (pv 3)) (pm_gtup (T.gl "LOST" (by simp [glos])) T.tp_LOST (fun _ _ => tl_LOST) (by rfl)) (nomark _)) (sm_one (sm_subA (ps_asg (pm_var (pv 3)) (pg_sub (pm_fld (c := 0) (k := 8) (pm_var (pv 0)) (T.cl "Process" (by simp [fa])) (T.na "Process" "own_slots" (by simp [fa])) rfl (by show 8 < 10; decide)) (pm_tup (pm_cons (pm_var (pv 1)) (pm_cons (pm_var (pv 2)) (pm_nil)))) (set_any hr.units rfl))))) (sm_nil))
    (sm_one (sm_ret (pm_var (pv 3)))))) (sm_nil))
    (sm_one (sm_ret (pm_ixA hr.units (pm_fld (c := 0) (k := 8) (pm_var (pv 0)) (T.cl "Process" (by simp [fa])) (T.na "Process" "own_slots" (by simp [fa])) rfl (by show 8 < 10; decide)) (pm_tup (pm_cons (pm_var (pv 1)) (pm_cons (pm_var (pv 2)) (pm_nil))))))))
def N_Process_there : List Str := ["self"]
theorem sc_Process_there : FnScope ["self"] ["self"] (defScope s_Process_there) := ⟨rfl, rfl, rfl, by decide +kernel, rfl, by decide +kernel, by decide +kernel⟩
theorem b_Process_there (T : Tx K mg base) : Binds K (T.fd 32) ["self"] [] := FunD.bindsN (T.df 32 dd_Process_there rfl) fun _ _ _ _ _ _ us hl => match us, hl with | [_], _ => rfl
def bd_Process_there : Fs :=
  sret (mcall srtDW (mcons (mop1 (fldW 0 9) (mvar 0)) (mnil)))
def m_Process_there : Fn := fnM 1 1 bd_Process_there
theorem ok_Process_there (T : Tx K mg base) : FnOk P w K mg base CX0 1 (He.ma K (He.ga K "Process") "there") (T.fd 32) ["self"] (spM (GG P w K) m_Process_there) :=
  fn_okD (B := bd_Process_there) (T.df 32 dd_Process_there rfl) sc_Process_there (hb := fun cdv A outer s H E hr => sm_one (sm_ret (pm_cB (cm_srtD rfl) (by rfl) (T.fr "sorted" (by simp [frees])) bb_sorted (pm_cons (pm_fld (c := 0) (k := 9) (pm_var (pv 0)) (T.cl "Process" (by simp [fa])) (T.na "Process" "own_here" (by simp [fa])) rfl (by show 9 < 10; decide)) (pm_nil)))))
def N__law_same : List Str := ["_law_found", "_law_due"]
theorem sc__law_same : FnScope ["_law_found", "_law_due"] ["_law_found", "_law_due"] (defScope s__law_same) := ⟨rfl, rfl, rfl, by decide +kernel, rfl, by decide +kernel, by decide +kernel⟩
theorem b__law_same (T : Tx K mg base) : Binds K (T.fd 33) ["_law_found", "_law_due"] [] := FunD.bindsN (T.df 33 dd__law_same rfl) fun _ _ _ _ _ _ us hl => match us, hl with | [_, _], _ => rfl
def bd__law_same : Fs :=
  sret (mop2 eqW (mcall reprW (mcons (mvar 0) (mnil))) (mcall reprW (mcons (mvar 1) (mnil))))
def m__law_same : Fn := fnM 2 2 bd__law_same
theorem ok__law_same (T : Tx K mg base) : FnG P w K mg base 1 (He.ga K "_law_same") (T.fd 33) ["_law_found", "_law_due"] (spM (GG P w K) m__law_same) :=
  fn_okG (B := bd__law_same) (T.df 33 dd__law_same rfl) sc__law_same (hb := fun cdv A gd outer s H E hr => sm_one (sm_ret (pm_cmp (om_eq hr.units) (pm_cB (cm_repr gd hr.units) (by rfl) (T.fr "repr" (by simp [frees])) bb_repr (pm_cons (pm_var (pv 0)) (pm_nil))) (pm_cB (cm_repr gd hr.units) (by rfl) (T.fr "repr" (by simp [frees])) bb_repr (pm_cons (pm_var (pv 1)) (pm_nil))) (nomark _))))
def N__law_stays_right : List Str := ["_law_a", "_law_b", "_law_c", "_law_libs", "_law_host", "_law_told", "_law_due"]
theorem sc__law_stays_right : FnScope ["_law_a", "_law_b", "_law_c", "_law_libs", "_law_host", "_law_told", "_law_due"] ["_law_a", "_law_b", "_law_c"] (defScope s__law_stays_right) := ⟨rfl, rfl, rfl, by decide +kernel, rfl, by decide +kernel, by decide +kernel⟩
theorem b__law_stays_right (T : Tx K mg base) : Binds K (T.fd 6) ["_law_a", "_law_b", "_law_c"] [] := FunD.bindsN (T.df 6 dd__law_stays_right rfl) fun _ _ _ _ _ _ us hl => match us, hl with | [_, _, _], _ => rfl
def bd__law_stays_right : Fs :=
  sseq (sset 3 (mtup (mcons (mtup (mcons (mcon (.str x14)) (mcons (mtup (mnil)) (mcons (mtup (mnil)) (mcons (mtup (mcons (mtup (mcons (mcon (.str x13)) (mcons (mcon (.str x12)) (mcons (mcon (.bl false)) (mnil))))) (mnil))) (mnil)))))) (mcons (mtup (mcons (mvar 0) (mcons (mtup (mnil)) (mcons (mtup (mcons (mtup (mcons (mcon (.str x13)) (mcons (mcon (.str x12)) (mnil)))) (mnil))) (mcons (mtup (mnil)) (mnil)))))) (mcons (mtup (mcons (mvar 1) (mcons (mtup (mcons (mvar 2) (mnil))) (mcons (mtup (mnil)) (mcons (mtup (mnil)) (mnil)))))) (mcons (mtup (mcons (mvar 2) (mcons (mtup (mnil)) (mcons (mtup (mcons (mtup (mcons (mcon (.str x13)) (mcons (mcon (.str x12)) (mnil)))) (mnil))) (mcons (mtup (mnil)) (mnil)))))) (mnil)))))))
  (sseq (sset 4 (mmake 0 m_Process___init__ (mcons (mtup (mcons (mvar 3) (mcons (mtup (mnil)) (mcons (mtup (mcons (mtup (mcons (mvar 1) (mcons (mcon (.str x15)) (mnil)))) (mcons (mtup (mcons (mvar 2) (mcons (mcon (.str x16)) (mnil)))) (mcons (mtup (mcons (mvar 0) (mcons (mcon (.str x15)) (mnil)))) (mnil))))) (mnil))))) (mnil))))
  (sseq (sset 5 (mlst (mcons (mmeth 0 m_Process_open_door (mvar 4) (mcons (mcon (.int 0)) (mnil))) (mcons (mmeth 0 m_Process_open_door (mvar 4) (mcons (mcon (.int 1)) (mnil))) (mcons (mmeth 0 m_Process_close_door (mvar 4) (mcons (mcon (.int 0)) (mnil))) (mcons (mmeth 0 m_Process_public (mvar 4) mnil) (mcons (mmeth 0 m_Process_open_door (mvar 4) (mcons (mcon (.int 2)) (mnil))) (mnil))))))))
  (sseq (sset 5 (mop2 addW (mvar 5) (mlst (mcons (mmeth 0 m_Process_public (mvar 4) mnil) (mcons (mmeth 0 m_Process_call (mvar 4) (mcons (mcon (.str x14)) (mcons (mcon (.int 0)) (mnil)))) (mnil))))))
  (sseq (sset 6 (mlst (mcons (mtup (mcons (mcon (.str x18)) (mnil))) (mcons (mtup (mcons (mcon (.str x18)) (mnil))) (mcons (mtup (mcons (mcon (.str x19)) (mnil))) (mcons (mlst (mcons (mcon (.str x14)) (mcons (mvar 2) (mnil)))) (mcons (mtup (mcons (mcon (.str x18)) (mnil))) (mcons (mlst (mcons (mcon (.str x14)) (mcons (mvar 2) (mcons (mvar 0) (mnil))))) (mcons (mtup (mcons (mcon (.str x17)) (mcons (mvar 2) (mcons (mcon (.str x12)) (mnil))))) (mnil))))))))))
  (sseq (sset 5 (mop2 addW (mvar 5) (mlst (mcons (mmeth 0 m_Process_close_door (mvar 4) (mcons (mcon (.int 1)) (mnil))) (mcons (mmeth 0 m_Process_call (mvar 4) (mcons (mcon (.str x14)) (mcons (mcon (.int 0)) (mnil)))) (mcons (mmeth 0 m_Process_there (mvar 4) mnil) (mcons (mmeth 0 m_Process_open_door (mvar 4) (mcons (mcon (.int 1)) (mnil))) (mnil))))))))
  (sseq (sset 5 (mop2 addW (mvar 5) (mlst (mcons (mmeth 0 m_Process_call (mvar 4) (mcons (mcon (.str x14)) (mcons (mcon (.int 0)) (mnil)))) (mcons (mmeth 0 m_Process_public (mvar 4) mnil) (mnil))))))
  (sseq (sset 6 (mop2 addW (mvar 6) (mlst (mcons (mtup (mcons (mcon (.str x19)) (mnil))) (mcons (mtup (mcons (mcon (.str x20)) (mnil))) (mcons (mcall sortedW (mcons (mlst (mcons (mvar 0) (mcons (mcon (.str x14)) (mnil)))) (mnil))) (mcons (mtup (mcons (mcon (.str x18)) (mnil))) (mcons (mtup (mcons (mcon (.str x20)) (mnil))) (mcons (mlst (mcons (mcon (.str x14)) (mcons (mvar 0) (mnil)))) (mnil))))))))))
  (sret (mcall m__law_same (mcons (mvar 5) (mcons (mvar 6) (mnil))))))))))))
def m__law_stays_right : Fn := fnM 3 7 bd__law_stays_right
theorem ok__law_stays_right (T : Tx K mg base) : FnG P w K mg base 16 (He.ga K "_law_stays_right") (T.fd 6) ["_law_a", "_law_b", "_law_c"] (spM (GG P w K) m__law_stays_right) :=
  fn_okG (B := bd__law_stays_right) (T.df 6 dd__law_stays_right rfl) sc__law_stays_right (hb := fun cdv A gd outer s H E hr => sm_cons (sm_set (ps_set (i := 3) sc__law_stays_right.nd rfl (Or.inl rfl) (pm_tup (pm_cons (pm_tup (pm_cons (pm_str e_x14) (pm_cons (pm_tup (pm_nil)) (pm_cons (pm_tup (pm_nil)) (pm_cons (pm_tup (pm_cons (pm_tup (pm_cons (pm_str e_x13) (pm_cons (pm_str e_x12) (pm_cons (pm_bl) (pm_nil))))) (pm_nil))) (pm_nil)))))) (pm_cons (pm_tup (pm_cons (pm_var (pv 0)) (pm_cons (pm_tup (pm_nil)) (pm_cons (pm_tup (pm_cons (pm_tup (pm_cons (pm_str e_x13) (pm_cons (pm_str e_x12) (pm_nil)))) (pm_nil))) (pm_cons (pm_tup (pm_nil)) (pm_nil)))))) (pm_cons (pm_tup (pm_cons (pm_var (pv 1)) (pm_cons (pm_tup (pm_cons (pm_var (pv 2)) (pm_nil))) (pm_cons (pm_tup (pm_nil)) (pm_cons (pm_tup (pm_nil)) (pm_nil)))))) (pm_cons (pm_tup (pm_cons (pm_var (pv 2)) (pm_cons (pm_tup (pm_nil)) (pm_cons (pm_tup (pm_cons (pm_tup (pm_cons (pm_str e_x13) (pm_cons (pm_str e_x12) (pm_nil)))) (pm_nil))) (pm_cons (pm_tup (pm_nil)) (pm_nil)))))) (pm_nil))))))))
    (sm_cons (sm_set (ps_set (i := 4) sc__law_stays_right.nd rfl (Or.inl rfl) (pm_make (c := 0) (pe_make (T.mkr "Process" (by simp [fa])) (ok_Process___init__ T) (hr.mono (by decide)) (by rfl) (T.gl "Process" (by simp [glos])) (b_Process___init__ T) .nil pass0 (pm_cons (pm_tup (pm_cons (pm_var (pv 3)) (pm_cons (pm_tup (pm_nil)) (pm_cons (pm_tup (pm_cons (pm_tup (pm_cons (pm_var (pv 1)) (pm_cons (pm_str e_x15) (pm_nil)))) (pm_cons (pm_tup (pm_cons (pm_var (pv 2)) (pm_cons (pm_str e_x16) (pm_nil)))) (pm_cons (pm_tup (pm_cons (pm_var (pv 0)) (pm_cons (pm_str e_x15) (pm_nil)))) (pm_nil))))) (pm_nil))))) (pm_nil))))))
    (sm_cons (sm_set (ps_set (i := 5) sc__law_stays_right.nd rfl (Or.inl rfl) (pm_lst (pm_cons (pm_meth (c := 0) (pe_meth (pm_var (pv 4)) (T.cl "Process" (by simp [fa])) (T.me "Process" "open_door" (by simp [fa])) (ok_Process_open_door T) (hr.mono (by decide)) (b_Process_open_door T) .nil pass0 (pm_cons (pm_int) (pm_nil))) (hno_Process_open_door)) (pm_cons (pm_meth (c := 0) (pe_meth (pm_var (pv 4)) (T.cl "Process" (by simp [fa])) (T.me "Process" "open_door" (by simp [fa])) (ok_Process_open_door T) (hr.mono (by decide)) (b_Process_open_door T) .nil pass0 (pm_cons (pm_int) (pm_nil))) (hno_Process_open_door)) (pm_cons (pm_meth (c := 0) (pe_meth (pm_var (pv 4)) (T.cl "Process" (by simp [fa])) (T.me "Process" "close_door" (by simp [fa])) (ok_Process_close_door T) (hr.mono (by decide)) (b_Process_close_door T) .nil pass0 (pm_cons (pm_int) (pm_nil))) (hno_Process_close_door)) (pm_cons (pm_meth0 (c := 0) (pe_meth0 (pm_var (pv 4)) (T.cl "Process" (by simp [fa])) (T.me "Process" "public" (by simp [fa])) (ok_Process_public T) (hr.mono (by decide)) (b_Process_public T) .nil pass0) (hno_Process_public)) (pm_cons (pm_meth (c := 0) (pe_meth (pm_var (pv 4)) (T.cl "Process" (by simp [fa])) (T.me "Process" "open_door" (by simp [fa])) (ok_Process_open_door T) (hr.mono (by decide)) (b_Process_open_door T) .nil pass0 (pm_cons (pm_int) (pm_nil))) (hno_Process_open_door)) (pm_nil)))))))))
    (sm_cons (sm_set (ps_set (i := 5) sc__law_stays_right.nd rfl (Or.inl rfl) (pm_bin om_add (pm_var (pv 5)) (pm_lst (pm_cons (pm_meth0 (c := 0) (pe_meth0 (pm_var (pv 4)) (T.cl "Process" (by simp [fa])) (T.me "Process" "public" (by simp [fa])) (ok_Process_public T) (hr.mono (by decide)) (b_Process_public T) .nil pass0) (hno_Process_public)) (pm_cons (pm_meth (c := 0) (pe_meth (pm_var (pv 4)) (T.cl "Process" (by simp [fa])) (T.me "Process" "call" (by simp [fa])) (ok_Process_call T) (hr.mono (by decide)) (b_Process_call T) .nil pass0 (pm_cons (pm_str e_x14) (pm_cons (pm_int) (pm_nil)))) (hno_Process_call)) (pm_nil)))))))
    (sm_cons (sm_set (ps_set (i := 6) sc__law_stays_right.nd rfl (Or.inl rfl) (pm_lst (pm_cons (pm_tup (pm_cons (pm_str e_x18) (pm_nil))) (pm_cons (pm_tup (pm_cons (pm_str e_x18) (pm_nil))) (pm_cons (pm_tup (pm_cons (pm_str e_x19) (pm_nil))) (pm_cons (pm_lst (pm_cons (pm_str e_x14) (pm_cons (pm_var (pv 2)) (pm_nil)))) (pm_cons (pm_tup (pm_cons (pm_str e_x18) (pm_nil))) (pm_cons (pm_lst (pm_cons (pm_str e_x14) (pm_cons (pm_var (pv 2)) (pm_cons (pm_var (pv 0)) (pm_nil))))) (pm_cons (pm_tup (pm_cons (pm_str e_x17) (pm_cons (pm_var (pv 2)) (pm_cons (pm_str e_x12) (pm_nil))))) (pm_nil)))))))))))
    (sm_cons (sm_set (ps_set (i := 5) sc__law_stays_right.nd rfl (Or.inl rfl) (pm_bin om_add (pm_var (pv 5)) (pm_lst (pm_cons (pm_meth (c := 0) (pe_meth (pm_var (pv 4)) (T.cl "Process" (by simp [fa])) (T.me "Process" "close_door" (by simp [fa])) (ok_Process_close_door T) (hr.mono (by decide)) (b_Process_close_door T) .nil pass0 (pm_cons (pm_int) (pm_nil))) (hno_Process_close_door)) (pm_cons (pm_meth (c := 0) (pe_meth (pm_var (pv 4)) (T.cl "Process" (by simp [fa])) (T.me "Process" "call" (by simp [fa])) (ok_Process_call T) (hr.mono (by decide)) (b_Process_call T) .nil pass0 (pm_cons (pm_str e_x14) (pm_cons (pm_int) (pm_nil)))) (hno_Process_call)) (pm_cons (pm_meth0 (c := 0) (pe_meth0 (pm_var (pv 4)) (T.cl "Process" (by simp [fa])) (T.me "Process" "there" (by simp [fa])) (ok_Process_there T) (hr.mono (by decide)) (b_Process_there T) .nil pass0) (hno_Process_there)) (pm_cons (pm_meth (c := 0) (pe_meth (pm_var (pv 4)) (T.cl "Process" (by simp [fa])) (T.me "Process" "open_door" (by simp [fa])) (ok_Process_open_door T) (hr.mono (by decide)) (b_Process_open_door T) .nil pass0 (pm_cons (pm_int) (pm_nil))) (hno_Process_open_door)) (pm_nil)))))))))
    (sm_cons (sm_set (ps_set (i := 5) sc__law_stays_right.nd rfl (Or.inl rfl) (pm_bin om_add (pm_var (pv 5)) (pm_lst (pm_cons (pm_meth (c := 0) (pe_meth (pm_var (pv 4)) (T.cl "Process" (by simp [fa])) (T.me "Process" "call" (by simp [fa])) (ok_Process_call T) (hr.mono (by decide)) (b_Process_call T) .nil pass0 (pm_cons (pm_str e_x14) (pm_cons (pm_int) (pm_nil)))) (hno_Process_call)) (pm_cons (pm_meth0 (c := 0) (pe_meth0 (pm_var (pv 4)) (T.cl "Process" (by simp [fa])) (T.me "Process" "public" (by simp [fa])) (ok_Process_public T) (hr.mono (by decide)) (b_Process_public T) .nil pass0) (hno_Process_public)) (pm_nil)))))))
    (sm_cons (sm_set (ps_set (i := 6) sc__law_stays_right.nd rfl (Or.inl rfl) (pm_bin om_add (pm_var (pv 6)) (pm_lst (pm_cons (pm_tup (pm_cons (pm_str e_x19) (pm_nil))) (pm_cons (pm_tup (pm_cons (pm_str e_x20) (pm_nil))) (pm_cons (pm_cB cm_sorted (by rfl) (T.fr "sorted" (by simp [frees])) bb_sorted (pm_cons (pm_lst (pm_cons (pm_var (pv 0)) (pm_cons (pm_str e_x14) (pm_nil)))) (pm_nil))) (pm_cons (pm_tup (pm_cons (pm_str e_x18) (pm_nil))) (pm_cons (pm_tup (pm_cons (pm_str e_x20) (pm_nil))) (pm_cons (pm_lst (pm_cons (pm_str e_x14) (pm_cons (pm_var (pv 0)) (pm_nil)))) (pm_nil)))))))))))
    (sm_one (sm_ret (pm_callG (ok__law_same T) gd (hr.mono (by decide)) (by rfl) (T.gl "_law_same" (by simp [glos])) (T.kp 33 rfl) (b__law_same T) (pm_cons (pm_var (pv 5)) (pm_cons (pm_var (pv 6)) (pm_nil))))))))))))))
def N_Process_deep : List Str := ["self"]
theorem sc_Process_deep : FnScope ["self"] ["self"] (defScope s_Process_deep) := ⟨rfl, rfl, rfl, by decide +kernel, rfl, by decide +kernel, by decide +kernel⟩
theorem b_Process_deep (T : Tx K mg base) : Binds K (T.fd 35) ["self"] [] := FunD.bindsN (T.df 35 dd_Process_deep rfl) fun _ _ _ _ _ _ us hl => match us, hl with | [_], _ => rfl
def bd_Process_deep : Fs :=
  sret (mcall sortedW (mcons (mop1 (fldW 0 7) (mvar 0)) (mnil)))
def m_Process_deep : Fn := fnM 1 1 bd_Process_deep
theorem ok_Process_deep (T : Tx K mg base) : FnOk P w K mg base CX0 1 (He.ma K (He.ga K "Process") "deep") (T.fd 35) ["self"] (spM (GG P w K) m_Process_deep) :=
  fn_okD (B := bd_Process_deep) (T.df 35 dd_Process_deep rfl) sc_Process_deep (hb := fun cdv A outer s H E hr => sm_one (sm_ret (pm_cB cm_sorted (by rfl) (T.fr "sorted" (by simp [frees])) bb_sorted (pm_cons (pm_fld (c := 0) (k := 7) (pm_var (pv 0)) (T.cl "Process" (by simp [fa])) (T.na "Process" "own_deep" (by simp [fa])) rfl (by show 7 < 10; decide)) (pm_nil)))))
def N__law_deep_right : List Str := ["_law_a", "_law_b", "_law_c", "_law_libs", "_law_host", "_law_told", "_law_due"]
theorem sc__law_deep_right : FnScope ["_law_a", "_law_b", "_law_c", "_law_libs", "_law_host", "_law_told", "_law_due"] ["_law_a", "_law_b", "_law_c"] (defScope s__law_deep_right) := ⟨rfl, rfl, rfl, by decide +kernel, rfl, by decide +kernel, by decide +kernel⟩
theorem b__law_deep_right (T : Tx K mg base) : Binds K (T.fd 34) ["_law_a", "_law_b", "_law_c"] [] := FunD.bindsN (T.df 34 dd__law_deep_right rfl) fun _ _ _ _ _ _ us hl => match us, hl with | [_, _, _], _ => rfl
def bd__law_deep_right : Fs :=
  sseq (sset 3 (mtup (mcons (mtup (mcons (mcon (.str x14)) (mcons (mtup (mnil)) (mcons (mtup (mcons (mtup (mcons (mcon (.str x13)) (mcons (mcon (.str x12)) (mnil)))) (mnil))) (mcons (mtup (mcons (mtup (mcons (mcon (.str x13)) (mcons (mcon (.str x12)) (mcons (mcon (.bl false)) (mnil))))) (mnil))) (mnil)))))) (mcons (mtup (mcons (mvar 0) (mcons (mtup (mcons (mvar 1) (mnil))) (mcons (mtup (mnil)) (mcons (mtup (mcons (mtup (mcons (mcon (.str x13)) (mcons (mcon (.str x12)) (mcons (mcon (.bl false)) (mnil))))) (mcons (mtup (mcons (mcon (.str x21)) (mcons (mcon (.str x12)) (mcons (mcon (.bl true)) (mnil))))) (mnil)))) (mnil)))))) (mnil)))))
  (sseq (sset 3 (mop2 addW (mvar 3) (mtup (mcons (mtup (mcons (mvar 1) (mcons (mtup (mnil)) (mcons (mtup (mcons (mtup (mcons (mcon (.str x13)) (mcons (mcon (.str x22)) (mnil)))) (mnil))) (mcons (mtup (mcons (mtup (mcons (mcon (.str x13)) (mcons (mcon (.str x22)) (mcons (mcon (.bl false)) (mnil))))) (mnil))) (mnil)))))) (mcons (mtup (mcons (mvar 2) (mcons (mtup (mnil)) (mcons (mtup (mcons (mtup (mcons (mcon (.str x21)) (mcons (mcon (.str x12)) (mnil)))) (mnil))) (mcons (mtup (mnil)) (mnil)))))) (mnil))))))
  (sseq (sset 4 (mmake 0 m_Process___init__ (mcons (mtup (mcons (mvar 3) (mcons (mtup (mnil)) (mcons (mtup (mcons (mtup (mcons (mvar 0) (mcons (mcon (.str x1)) (mnil)))) (mcons (mtup (mcons (mvar 0) (mcons (mcon (.str x15)) (mnil)))) (mcons (mtup (mcons (mvar 2) (mcons (mcon (.str x15)) (mnil)))) (mnil))))) (mnil))))) (mnil))))
  (sseq (sset 5 (mlst (mcons (mmeth 0 m_Process_open_door (mvar 4) (mcons (mcon (.int 0)) (mnil))) (mcons (mmeth 0 m_Process_deep (mvar 4) mnil) (mcons (mmeth 0 m_Process_looks (mvar 4) (mcons (mvar 0) (mnil))) (mcons (mmeth 0 m_Process_open_door (mvar 4) (mcons (mcon (.int 1)) (mnil))) (mcons (mmeth 0 m_Process_close_door (mvar 4) (mcons (mcon (.int 0)) (mnil))) (mcons (mmeth 0 m_Process_deep (mvar 4) mnil) (mnil)))))))))
  (sseq (sset 5 (mop2 addW (mvar 5) (mlst (mcons (mmeth 0 m_Process_public (mvar 4) mnil) (mcons (mmeth 0 m_Process_looks (mvar 4) (mcons (mvar 0) (mnil))) (mnil))))))
  (sseq (sset 6 (mlst (mcons (mtup (mcons (mcon (.str x18)) (mnil))) (mcons (mcall sortedW (mcons (mlst (mcons (mvar 0) (mcons (mvar 1) (mnil)))) (mnil))) (mcons (mlst (mcons (mvar 0) (mcons (mvar 1) (mcons (mcon (.str x14)) (mnil))))) (mcons (mtup (mcons (mcon (.str x18)) (mnil))) (mcons (mtup (mcons (mcon (.str x19)) (mnil))) (mcons (mcall sortedW (mcons (mlst (mcons (mvar 0) (mcons (mvar 1) (mnil)))) (mnil))) (mcons (mlst (mcons (mcon (.str x14)) (mcons (mvar 0) (mcons (mvar 1) (mnil))))) (mcons (mlst (mcons (mvar 0) (mcons (mvar 1) (mcons (mcon (.str x14)) (mnil))))) (mnil)))))))))))
  (sseq (sset 5 (mop2 addW (mvar 5) (mlst (mcons (mmeth 0 m_Process_call (mvar 4) (mcons (mvar 0) (mcons (mcon (.int 0)) (mnil)))) (mcons (mmeth 0 m_Process_call (mvar 4) (mcons (mvar 1) (mcons (mcon (.int 0)) (mnil)))) (mcons (mmeth 0 m_Process_call (mvar 4) (mcons (mcon (.str x14)) (mcons (mcon (.int 0)) (mnil)))) (mcons (mmeth 0 m_Process_call (mvar 4) (mcons (mvar 0) (mcons (mcon (.int 1)) (mnil)))) (mnil))))))))
  (sseq (sset 5 (mop2 addW (mvar 5) (mlst (mcons (mmeth 0 m_Process_open_door (mvar 4) (mcons (mcon (.int 2)) (mnil))) (mcons (mmeth 0 m_Process_call (mvar 4) (mcons (mvar 0) (mcons (mcon (.int 1)) (mnil)))) (mnil))))))
  (sseq (sset 6 (mop2 addW (mvar 6) (mlst (mcons (mtup (mcons (mcon (.str x17)) (mcons (mvar 1) (mcons (mcon (.str x22)) (mnil))))) (mcons (mtup (mcons (mcon (.str x17)) (mcons (mvar 1) (mcons (mcon (.str x22)) (mnil))))) (mcons (mtup (mcons (mcon (.str x17)) (mcons (mcon (.str x14)) (mcons (mcon (.str x12)) (mnil))))) (mcons (mtup (mcons (mcon (.str x23)) (mnil))) (mcons (mtup (mcons (mcon (.str x18)) (mnil))) (mcons (mtup (mcons (mcon (.str x23)) (mnil))) (mnil))))))))))
  (sseq (sset 5 (mop2 addW (mvar 5) (mlst (mcons (mmeth 0 m_Process_close_door (mvar 4) (mcons (mcon (.int 1)) (mnil))) (mcons (mmeth 0 m_Process_there (mvar 4) mnil) (mcons (mmeth 0 m_Process_open_door (mvar 4) (mcons (mcon (.int 1)) (mnil))) (mcons (mmeth 0 m_Process_deep (mvar 4) mnil) (mcons (mmeth 0 m_Process_looks (mvar 4) (mcons (mvar 0) (mnil))) (mnil)))))))))
  (sseq (sset 5 (mop2 addW (mvar 5) (mlst (mcons (mmeth 0 m_Process_call (mvar 4) (mcons (mvar 0) (mcons (mcon (.int 0)) (mnil)))) (mcons (mmeth 0 m_Process_call (mvar 4) (mcons (mvar 0) (mcons (mcon (.int 1)) (mnil)))) (mnil))))))
  (sseq (sset 6 (mop2 addW (mvar 6) (mlst (mcons (mtup (mcons (mcon (.str x19)) (mnil))) (mcons (mcall sortedW (mcons (mlst (mcons (mcon (.str x14)) (mcons (mvar 2) (mnil)))) (mnil))) (mcons (mtup (mcons (mcon (.str x18)) (mnil))) (mcons (mlst (mnil)) (mcons (mlst (mcons (mcon (.str x14)) (mcons (mvar 2) (mcons (mvar 0) (mcons (mvar 1) (mnil)))))) (mcons (mtup (mcons (mcon (.str x17)) (mcons (mcon (.str x14)) (mcons (mcon (.str x12)) (mnil))))) (mcons (mtup (mcons (mcon (.str x17)) (mcons (mvar 2) (mcons (mcon (.str x12)) (mnil))))) (mnil)))))))))))
  (sret (mcall m__law_same (mcons (mvar 5) (mcons (mvar 6) (mnil))))))))))))))))
def m__law_deep_right : Fn := fnM 3 7 bd__law_deep_right
theorem ok__law_deep_right (T : Tx K mg base) : FnG P w K mg base 16 (He.ga K "_law_deep_right") (T.fd 34) ["_law_a", "_law_b", "_law_c"] (spM (GG P w K) m__law_deep_right) :=
  fn_okG (B := bd__law_deep_right) (T.df 34 dd__law_deep_right rfl) sc__law_deep_right (hb := fun cdv A gd outer s H E hr => sm_cons (sm_set (ps_set (i := 3) sc__law_deep_right.nd rfl (Or.inl rfl) (pm_tup (pm_cons (pm_tup (pm_cons (pm_str e_x14) (pm_cons (pm_tup (pm_nil)) (pm_cons (pm_tup (pm_cons (pm_tup (pm_cons (pm_str e_x13) (pm_cons (pm_str e_x12) (pm_nil)))) (pm_nil))) (pm_cons (pm_tup (pm_cons (pm_tup (pm_cons (pm_str e_x13) (pm_cons (pm_str e_x12) (pm_cons (pm_bl) (pm_nil))))) (pm_nil))) (pm_nil)))))) (pm_cons (pm_tup (pm_cons (pm_var (pv 0)) (pm_cons (pm_tup (pm_cons (pm_var (pv 1)) (pm_nil))) (pm_cons (pm_tup (pm_nil)) (pm_cons (pm_tup (pm_cons (pm_tup (pm_cons (pm_str e_x13) (pm_cons (pm_str e_x12) (pm_cons (pm_bl) (pm_nil))))) (pm_cons (pm_tup (pm_cons (pm_str e_x21) (pm_cons (pm_str e_x12) (pm_cons (pm_bl) (pm_nil))))) (pm_nil)))) (pm_nil)))))) (pm_nil))))))
    (sm_cons (sm_set (ps_set (i := 3) sc__law_deep_right.nd rfl (Or.inl rfl) (pm_bin om_add (pm_var (pv 3)) (pm_tup (pm_cons (pm_tup (pm_cons (pm_var (pv 1)) (pm_cons (pm_tup (pm_nil)) (pm_cons (pm_tup (pm_cons (pm_tup (pm_cons (pm_str e_x13) (pm_cons (pm_str e_x22) (pm_nil)))) (pm_nil))) (pm_cons (pm_tup (pm_cons (pm_tup (pm_cons (pm_str e_x13) (pm_cons (pm_str e_x22) (pm_cons (pm_bl) (pm_nil))))) (pm_nil))) (pm_nil)))))) (pm_cons (pm_tup (pm_cons (pm_var (pv 2)) (pm_cons (pm_tup (pm_nil)) (pm_cons (pm_tup (pm_cons (pm_tup (pm_cons (pm_str e_x21) (pm_cons (pm_str e_x12) (pm_nil)))) (pm_nil))) (pm_cons (pm_tup (pm_nil)) (pm_nil)))))) (pm_nil)))))))
    (sm_cons (sm_set (ps_set (i := 4) sc__law_deep_right.nd rfl (Or.inl rfl) (pm_make (c := 0) (pe_make (T.mkr "Process" (by simp [fa])) (ok_Process___init__ T) (hr.mono (by decide)) (by rfl) (T.gl "Process" (by simp [glos])) (b_Process___init__ T) .nil pass0 (pm_cons (pm_tup (pm_cons (pm_var (pv 3)) (pm_cons (pm_tup (pm_nil)) (pm_cons (pm_tup (pm_cons (pm_tup (pm_cons (pm_var (pv 0)) (pm_cons (pm_str e_x1) (pm_nil)))) (pm_cons (pm_tup (pm_cons (pm_var (pv 0)) (pm_cons (pm_str e_x15) (pm_nil)))) (pm_cons (pm_tup (pm_cons (pm_var (pv 2)) (pm_cons (pm_str e_x15) (pm_nil)))) (pm_nil))))) (pm_nil))))) (pm_nil))))))
    (sm_cons (sm_set (ps_set (i := 5) sc__law_deep_right.nd rfl (Or.inl rfl) (pm_lst (pm_cons (pm_meth (c := 0) (pe_meth (pm_var (pv 4)) (T.cl "Process" (by simp [fa])) (T.me "Process" "open_door" (by simp [fa])) (ok_Process_open_door T) (hr.mono (by decide)) (b_Process_open_door T) .nil pass0 (pm_cons (pm_int) (pm_nil))) (hno_Process_open_door)) (pm_cons (pm_meth0 (c := 0) (pe_meth0 (pm_var (pv 4)) (T.cl "Process" (by simp [fa])) (T.me "Process" "deep" (by simp [fa])) (ok_Process_deep T) (hr.mono (by decide)) (b_Process_deep T) .nil pass0) (hno_Process_deep)) (pm_cons (pm_meth (c := 0) (pe_meth (pm_var (pv 4)) (T.cl "Process" (by simp [fa])) (T.me "Process" "looks" (by simp [fa])) (ok_Process_looks T) (hr.mono (by decide)) (b_Process_looks T) .nil pass0 (pm_cons (pm_var (pv 0)) (pm_nil))) (hno_Process_looks)) (pm_cons (pm_meth (c := 0) (pe_meth (pm_var (pv 4)) (T.cl "Process" (by simp [fa])) (T.me "Process" "open_door" (by simp [fa])) (ok_Process_open_door T) (hr.mono (by decide)) (b_Process_open_door T) .nil pass0 (pm_cons (pm_int) (pm_nil))) (hno_Process_open_door)) (pm_cons (pm_meth (c := 0) (pe_meth (pm_var (pv 4)) (T.cl "Process" (by simp [fa])) (T.me "Process" "close_door" (by simp [fa])) (ok_Process_close_door T) (hr.mono (by decide)) (b_Process_close_door T) .nil pass0 (pm_cons (pm_int) (pm_nil))) (hno_Process_close_door)) (pm_cons (pm_meth0 (c := 0) (pe_meth0 (pm_var (pv 4)) (T.cl "Process" (by simp [fa])) (T.me "Process" "deep" (by simp [fa])) (ok_Process_deep T) (hr.mono (by decide)) (b_Process_deep T) .nil pass0) (hno_Process_deep)) (pm_nil))))))))))
    (sm_cons (sm_set (ps_set (i := 5) sc__law_deep_right.nd rfl (Or.inl rfl) (pm_bin om_add (pm_var (pv 5)) (pm_lst (pm_cons (pm_meth0 (c := 0) (pe_meth0 (pm_var (pv 4)) (T.cl "Process" (by simp [fa])) (T.me "Process" "public" (by simp [fa])) (ok_Process_public T) (hr.mono (by decide)) (b_Process_public T) .nil pass0) (hno_Process_public)) (pm_cons (pm_meth (c := 0) (pe_meth (pm_var (pv 4)) (T.cl "Process" (by simp [fa])) (T.me "Process" "looks" (by simp [fa])) (ok_Process_looks T) (hr.mono (by decide)) (b_Process_looks T) .nil pass0 (pm_cons (pm_var (pv 0)) (pm_nil))) (hno_Process_looks)) (pm_nil)))))))
    (sm_cons (sm_set (ps_set (i := 6) sc__law_deep_right.nd rfl (Or.inl rfl) (pm_lst (pm_cons (pm_tup (pm_cons (pm_str e_x18) (pm_nil))) (pm_cons (pm_cB cm_sorted (by rfl) (T.fr "sorted" (by simp [frees])) bb_sorted (pm_cons (pm_lst (pm_cons (pm_var (pv 0)) (pm_cons (pm_var (pv 1)) (pm_nil)))) (pm_nil))) (pm_cons (pm_lst (pm_cons (pm_var (pv 0)) (pm_cons (pm_var (pv 1)) (pm_cons (pm_str e_x14) (pm_nil))))) (pm_cons (pm_tup (pm_cons (pm_str e_x18) (pm_nil))) (pm_cons (pm_tup (pm_cons (pm_str e_x19) (pm_nil))) (pm_cons (pm_cB cm_sorted (by rfl) (T.fr "sorted" (by simp [frees])) bb_sorted (pm_cons (pm_lst (pm_cons (pm_var (pv 0)) (pm_cons (pm_var (pv 1)) (pm_nil)))) (pm_nil))) (pm_cons (pm_lst (pm_cons (pm_str e_x14) (pm_cons (pm_var (pv 0)) (pm_cons (pm_var (pv 1)) (pm_nil))))) (pm_cons (pm_lst (pm_cons (pm_var (pv 0)) (pm_cons (pm_var (pv 1)) (pm_cons (pm_str e_x14) (pm_nil))))) (pm_nil))))))))))))
    (sm_cons (sm_set (ps_set (i := 5) sc__law_deep_right.nd rfl (Or.inl rfl) (pm_bin om_add (pm_var (pv 5)) (pm_lst (pm_cons (pm_meth (c := 0) (pe_meth (pm_var (pv 4)) (T.cl "Process" (by simp [fa])) (T.me "Process" "call" (by simp [fa])) (ok_Process_call T) (hr.mono (by decide)) (b_Process_call T) .nil pass0 (pm_cons (pm_var (pv 0)) (pm_cons (pm_int) (pm_nil)))) (hno_Process_call)) (pm_cons (pm_meth (c := 0) (pe_meth (pm_var (pv 4)) (T.cl "Process" (by simp [fa])) (T.me "Process" "call" (by simp [fa])) (ok_Process_call T) (hr.mono (by decide)) (b_Process_call T) .nil pass0 (pm_cons (pm_var (pv 1)) (pm_cons (pm_int) (pm_nil)))) (hno_Process_call)) (pm_cons (pm_meth (c := 0) (pe_meth (pm_var (pv 4)) (T.cl "Process" (by simp [fa])) (T.me "Process" "call" (by simp [fa])) (ok_Process_call T) (hr.mono (by decide)) (b_Process_call T) .nil pass0 (pm_cons (pm_str e_x14) (pm_cons (pm_int) (pm_nil)))) (hno_Process_call)) (pm_cons (pm_meth (c := 0) (pe_meth (pm_var (pv 4)) (T.cl "Process" (by simp [fa])) (T.me "Process" "call" (by simp [fa])) (ok_Process_call T) (hr.mono (by decide)) (b_Process_call T) .nil pass0 (pm_cons (pm_var (pv 0)) (pm_cons (pm_int) (pm_nil)))) (hno_Process_call)) (pm_nil)))))))))
    (sm_cons (sm_set (ps_set (i := 5) sc__law_deep_right.nd rfl (Or.inl rfl) (pm_bin om_add (pm_var (pv 5)) (pm_lst (pm_cons (pm_meth (c := 0) (pe_meth (pm_var (pv 4)) (T.cl "Process" (by simp [fa])) (T.me "Process" "open_door" (by simp [fa])) (ok_Process_open_door T) (hr.mono (by decide)) (b_Process_open_door T) .nil pass0 (pm_cons (pm_int) (pm_nil))) (hno_Process_open_door)) (pm_cons (pm_meth (c := 0) (pe_meth (pm_var (pv 4)) (T.cl "Process" (by simp [fa])) (T.me "Process" "call" (by simp [fa])) (ok_Process_call T) (hr.mono (by decide)) (b_Process_call T) .nil pass0 (pm_cons (pm_var (pv 0)) (pm_cons (pm_int) (pm_nil)))) (hno_Process_call)) (pm_nil)))))))
    (sm_cons (sm_set (ps_set (i := 6) sc__law_deep_right.nd rfl (Or.inl rfl) (pm_bin om_add (pm_var (pv 6)) (pm_lst (pm_cons (pm_tup (pm_cons (pm_str e_x17) (pm_cons (pm_var (pv 1)) (pm_cons (pm_str e_x22) (pm_nil))))) (pm_cons (pm_tup (pm_cons (pm_str e_x17) (pm_cons (pm_var (pv 1)) (pm_cons (pm_str e_x22) (pm_nil))))) (pm_cons (pm_tup (pm_cons (pm_str e_x17) (pm_cons (pm_str e_x14) (pm_cons (pm_str e_x12) (pm_nil))))) (pm_cons (pm_tup (pm_cons (pm_str e_x23) (pm_nil))) (pm_cons (pm_tup (pm_cons (pm_str e_x18) (pm_nil))) (pm_cons (pm_tup (pm_cons (pm_str e_x23) (pm_nil))) (pm_nil)))))))))))
    (sm_cons (sm_set (ps_set (i := 5) sc__law_deep_right.nd rfl (Or.inl rfl) (pm_bin om_add (pm_var (pv 5)) (pm_lst (pm_cons (pm_meth (c := 0) (pe_meth (pm_var (pv 4)) (T.cl "Process" (by simp [fa])) (T.me "Process" "close_door" (by simp [fa])) (ok_Process_close_door T) (hr.mono (by decide)) (b_Process_close_door T) .nil pass0 (pm_cons (pm_int) (pm_nil))) (hno_Process_close_door)) (pm_cons (pm_meth0 (c := 0) (pe_meth0 (pm_var (pv 4)) (T.cl "Process" (by simp [fa])) (T.me "Process" "there" (by simp [fa])) (ok_Process_there T) (hr.mono (by decide)) (b_Process_there T) .nil pass0) (hno_Process_there)) (pm_cons (pm_meth (c := 0) (pe_meth (pm_var (pv 4)) (T.cl "Process" (by simp [fa])) (T.me "Process" "open_door" (by simp [fa])) (ok_Process_open_door T) (hr.mono (by decide)) (b_Process_open_door T) .nil pass0 (pm_cons (pm_int) (pm_nil))) (hno_Process_open_door)) (pm_cons (pm_meth0 (c := 0) (pe_meth0 (pm_var (pv 4)) (T.cl "Process" (by simp [fa])) (T.me "Process" "deep" (by simp [fa])) (ok_Process_deep T) (hr.mono (by decide)) (b_Process_deep T) .nil pass0) (hno_Process_deep)) (pm_cons (pm_meth (c := 0) (pe_meth (pm_var (pv 4)) (T.cl "Process" (by simp [fa])) (T.me "Process" "looks" (by simp [fa])) (ok_Process_looks T) (hr.mono (by decide)) (b_Process_looks T) .nil pass0 (pm_cons (pm_var (pv 0)) (pm_nil))) (hno_Process_looks)) (pm_nil))))))))))
    (sm_cons (sm_set (ps_set (i := 5) sc__law_deep_right.nd rfl (Or.inl rfl) (pm_bin om_add (pm_var (pv 5)) (pm_lst (pm_cons (pm_meth (c := 0) (pe_meth (pm_var (pv 4)) (T.cl "Process" (by simp [fa])) (T.me "Process" "call" (by simp [fa])) (ok_Process_call T) (hr.mono (by decide)) (b_Process_call T) .nil pass0 (pm_cons (pm_var (pv 0)) (pm_cons (pm_int) (pm_nil)))) (hno_Process_call)) (pm_cons (pm_meth (c := 0) (pe_meth (pm_var (pv 4)) (T.cl "Process" (by simp [fa])) (T.me "Process" "call" (by simp [fa])) (ok_Process_call T) (hr.mono (by decide)) (b_Process_call T) .nil pass0 (pm_cons (pm_var (pv 0)) (pm_cons (pm_int) (pm_nil)))) (hno_Process_call)) (pm_nil)))))))
    (sm_cons (sm_set (ps_set (i := 6) sc__law_deep_right.nd rfl (Or.inl rfl) (pm_bin om_add (pm_var (pv 6)) (pm_lst (pm_cons (pm_tup (pm_cons (pm_str e_x19) (pm_nil))) (pm_cons (pm_cB cm_sorted (by rfl) (T.fr "sorted" (by simp [frees])) bb_sorted (pm_cons (pm_lst (pm_cons (pm_str e_x14) (pm_cons (pm_var (pv 2)) (pm_nil)))) (pm_nil))) (pm_cons (pm_tup (pm_cons (pm_str e_x18) (pm_nil))) (pm_cons (pm_lst (pm_nil)) (pm_cons (pm_lst (pm_cons (pm_str e_x14) (pm_cons (pm_var (pv 2)) (pm_cons (pm_var (pv 0)) (pm_cons (pm_var (pv 1)) (pm_nil)))))) (pm_cons (pm_tup (pm_cons (pm_str e_x17) (pm_cons (pm_str e_x14) (pm_cons (pm_str e_x12) (pm_nil))))) (pm_cons (pm_tup (pm_cons (pm_str e_x17) (pm_cons (pm_var (pv 2)) (pm_cons (pm_str e_x12) (pm_nil))))) (pm_nil))))))))))))
    (sm_one (sm_ret (pm_callG (ok__law_same T) gd (hr.mono (by decide)) (by rfl) (T.gl "_law_same" (by simp [glos])) (T.kp 33 rfl) (b__law_same T) (pm_cons (pm_var (pv 5)) (pm_cons (pm_var (pv 6)) (pm_nil))))))))))))))))))
def N_Process_do : List Str := ["self", "step"]
theorem sc_Process_do : FnScope ["self", "step"] ["self", "step"] (defScope s_Process_do) := ⟨rfl, rfl, rfl, by decide +kernel, rfl, by decide +kernel, by decide +kernel⟩
theorem b_Process_do (T : Tx K mg base) : Binds K (T.fd 39) ["self", "step"] [] := FunD.bindsN (T.df 39 dd_Process_do rfl) fun _ _ _ _ _ _ us hl => match us, hl with | [_, _], _ => rfl
def bd_Process_do : Fs :=
  sseq (sif (mtB (mop2 eqW (mop2 ixA (mvar 1) (mcon (.int 0))) (mcon (.str x27)))) (sret (mmeth 0 m_Process_call (mvar 0) (mcons (mop2 ixA (mvar 1) (mcon (.int 1))) (mcons (mop2 ixA (mvar 1) (mcon (.int 2))) (mnil))))) (snx))
  (sret (mif (mtB (mop2 eqW (mop2 ixA (mvar 1) (mcon (.int 0))) (mcon (.str x0)))) (mmeth 0 m_Process_open_door (mvar 0) (mcons (mop2 ixA (mvar 1) (mcon (.int 1))) (mnil))) (mmeth 0 m_Process_close_door (mvar 0) (mcons (mop2 ixA (mvar 1) (mcon (.int 1))) (mnil)))))
def m_Process_do : Fn := fnM 2 2 bd_Process_do
theorem ok_Process_do (T : Tx K mg base) : FnOk P w K mg base CX0 7 (He.ma K (He.ga K "Process") "do") (T.fd 39) ["self", "step"] (spM (GG P w K) m_Process_do) :=
  fn_okD (B := bd_Process_do) (T.df 39 dd_Process_do rfl) sc_Process_do (hb := fun cdv A outer s H E hr => sm_cons (sm_if (pm_tcmp (om_eq hr.units) (pm_ixA hr.units (pm_var (pv 1)) (pm_int)) (pm_gstr (T.gs "CALL" "call" (by simp [fa])) e_x27 (by rfl)) (nomark _)) (sm_one (sm_ret (pm_meth (c := 0) (pe_meth (pm_var (pv 0)) (T.cl "Process" (by simp [fa])) (T.me "Process" "call" (by simp [fa])) (ok_Process_call T) (hr.mono (by decide)) (b_Process_call T) .nil pass0 (pm_cons (pm_ixA hr.units (pm_var (pv 1)) (pm_int)) (pm_cons (pm_ixA hr.units (pm_var (pv 1)) (pm_int)) (pm_nil)))) (hno_Process_call)))) (sm_nil))
    (sm_one (sm_ret (pm_if (pm_tcmp (om_eq hr.units) (pm_ixA hr.units (pm_var (pv 1)) (pm_int)) (pm_gstr (T.gs "OPEN" "open" (by simp [fa])) e_x0 (by rfl)) (nomark _)) (pm_meth (c := 0) (pe_meth (pm_var (pv 0)) (T.cl "Process" (by simp [fa])) (T.me "Process" "open_door" (by simp [fa])) (ok_Process_open_door T) (hr.mono (by decide)) (b_Process_open_door T) .nil pass0 (pm_cons (pm_ixA hr.units (pm_var (pv 1)) (pm_int)) (pm_nil))) (hno_Process_open_door)) (pm_meth (c := 0) (pe_meth (pm_var (pv 0)) (T.cl "Process" (by simp [fa])) (T.me "Process" "close_door" (by simp [fa])) (ok_Process_close_door T) (hr.mono (by decide)) (b_Process_close_door T) .nil pass0 (pm_cons (pm_ixA hr.units (pm_var (pv 1)) (pm_int)) (pm_nil))) (hno_Process_close_door))))))
def N_answer_of : List Str := ["process", "step", "caught", "found", "error"]
theorem sc_answer_of : FnScope ["process", "step", "caught", "found", "error"] ["process", "step"] (defScope s_answer_of) := ⟨rfl, rfl, rfl, by decide +kernel, rfl, by decide +kernel, by decide +kernel⟩
theorem b_answer_of (T : Tx K mg base) : Binds K (T.fd 38) ["process", "step"] [] := FunD.bindsN (T.df 38 dd_answer_of rfl) fun _ _ _ _ _ _ us hl => match us, hl with | [_, _], _ => rfl
def bd_answer_of : Fs :=
  sseq (spar 2 3 (mcons (mcon .non) (mcons (mcon (.tup tw_AWAY)) (mnil))))
  (sseq (sset 3 (mmeth 0 m_Process_do (mvar 0) (mcons (mvar 1) (mnil))))
  (sret (mif (mtB (mop2 (isW false) (mvar 2) (mcon .non))) (mvar 3) (mcon (.tup tw_AWAY)))))
def m_answer_of : Fn := fnM 2 5 bd_answer_of
theorem ok_answer_of (T : Tx K mg base) : FnOk P w K mg base CX0 8 (He.ga K "answer_of") (T.fd 38) ["process", "step"] (spM (GG P w K) m_answer_of) :=
  fn_okD (B := bd_answer_of) (T.df 38 dd_answer_of rfl) sc_answer_of (hb := fun cdv A outer s H E hr => sm_cons (sm_par (ps_par (i := 2) (j := 3) rfl sc_answer_of.nd rfl rfl (by decide) rfl rfl (pm_cons (pm_non) (pm_cons (pm_gtup (T.gl "AWAY" (by simp [glos])) T.tp_AWAY (fun _ _ => tl_AWAY) (by rfl)) (pm_nil))) (by rfl)))
    (sm_cons (sm_try (fun _ _ z => z) (sm_one (sm_set (ps_set (i := 3) sc_answer_of.nd rfl (Or.inl rfl) (pm_meth (c := 0) (pe_meth (pm_var (pv 0)) (T.cl "Process" (by simp [fa])) (T.me "Process" "do" (by simp [fa])) (ok_Process_do T) (hr.mono (by decide)) (b_Process_do T) .nil pass0 (pm_cons (pm_var (pv 1)) (pm_nil))) (hno_Process_do))))))
    (sm_one (sm_ret (pm_if (pm_tcmp (om_is) (pm_var (pv 2)) (pm_non) (nomark _)) (pm_var (pv 3)) (pm_gtup (T.gl "AWAY" (by simp [glos])) T.tp_AWAY (fun _ _ => tl_AWAY) (by rfl)))))))
def N_run : List Str := ["program", "steps", "process", "step"]
theorem sc_run : FnScope ["program", "steps", "process", "step"] ["program", "steps"] (defScope s_run) := ⟨rfl, rfl, rfl, by decide +kernel, rfl, by decide +kernel, by decide +kernel⟩
theorem b_run (T : Tx K mg base) : Binds K (T.fd 37) ["program", "steps"] [] := FunD.bindsN (T.df 37 dd_run rfl) fun _ _ _ _ _ _ us hl => match us, hl with | [_, _], _ => rfl
def bd_run : Fs :=
  sseq (sset 2 (mmake 0 m_Process___init__ (mcons (mvar 0) (mnil))))
  (sret (mlc (miS (mvar 1)) (.nm 3) (myes) (mcall m_answer_of (mcons (mvar 2) (mcons (mvar 3) (mnil)))) [3]))
def m_run : Fn := fnM 2 4 bd_run
theorem ok_run (T : Tx K mg base) : FnOk P w K mg base CX0 16 (He.ga K "run") (T.fd 37) ["program", "steps"] (spM (GG P w K) m_run) :=
  fn_okD (B := bd_run) (T.df 37 dd_run rfl) sc_run (hb := fun cdv A outer s H E hr => sm_cons (sm_set (ps_set (i := 2) sc_run.nd rfl (Or.inr rfl) (pm_make (c := 0) (pe_make (T.mkr "Process" (by simp [fa])) (ok_Process___init__ T) (hr.mono (by decide)) (by rfl) (T.gl "Process" (by simp [glos])) (b_Process___init__ T) .nil pass0 (pm_cons (pm_var (pv 0)) (pm_nil))))))
    (sm_one (sm_ret (pm_lc (own := [("step", 3)]) rfl sc_run.nd (im_seq (pm_var (pv 1))) (blkOk_by (own := [("step", 3)]) (N := N_run) (sc := defScope s_run) (by decide +kernel)) (fun _ _ _ _ _ => gm_name (pg_name (i := 3) sc_run.nd rfl (Or.inl rfl))) (fun _ _ _ _ _ => tm_nil) (fun _ _ _ _ _ => pm_call (ok_answer_of T) (hr.mono (by decide)) (by rfl) (T.gl "answer_of" (by simp [glos])) (T.kp 38 rfl) (b_answer_of T) pass0 (pm_cons (pm_var (pv 2)) (pm_cons (pm_var (pv 3)) (pm_nil))))))))
def N__law_version_right : List Str := ["_law_a", "_law_b", "_law_c", "_law_uses", "_law_libs", "_law_plot", "_law_some", "_law_heard", "_law_due", "_law_again", "_law_spot"]
theorem sc__law_version_right : FnScope ["_law_a", "_law_b", "_law_c", "_law_uses", "_law_libs", "_law_plot", "_law_some", "_law_heard", "_law_due", "_law_again", "_law_spot"] ["_law_a", "_law_b", "_law_c"] (defScope s__law_version_right) := ⟨rfl, rfl, rfl, by decide +kernel, rfl, by decide +kernel, by decide +kernel⟩
theorem b__law_version_right (T : Tx K mg base) : Binds K (T.fd 36) ["_law_a", "_law_b", "_law_c"] [] := FunD.bindsN (T.df 36 dd__law_version_right rfl) fun _ _ _ _ _ _ us hl => match us, hl with | [_, _, _], _ => rfl
def bd__law_version_right : Fs :=
  sseq (sset 3 (mtup (mcons (mtup (mcons (mcon (.str x13)) (mcons (mcon (.str x12)) (mcons (mcon (.bl false)) (mnil))))) (mcons (mtup (mcons (mcon (.str x13)) (mcons (mcon (.str x26)) (mcons (mcon (.bl false)) (mnil))))) (mcons (mtup (mcons (mcon (.str x13)) (mcons (mcon (.str x25)) (mcons (mcon (.bl true)) (mnil))))) (mcons (mtup (mcons (mcon (.str x13)) (mcons (mcon (.str x24)) (mcons (mcon (.bl false)) (mnil))))) (mnil)))))))
  (sseq (sset 4 (mtup (mcons (mtup (mcons (mcon (.str x14)) (mcons (mtup (mnil)) (mcons (mtup (mnil)) (mcons (mvar 3) (mnil)))))) (mcons (mtup (mcons (mvar 0) (mcons (mtup (mnil)) (mcons (mtup (mcons (mtup (mcons (mcon (.str x13)) (mcons (mcon (.str x25)) (mnil)))) (mcons (mtup (mcons (mcon (.str x13)) (mcons (mcon (.str x24)) (mnil)))) (mnil)))) (mcons (mtup (mnil)) (mnil)))))) (mcons (mtup (mcons (mvar 1) (mcons (mtup (mnil)) (mcons (mtup (mcons (mtup (mcons (mcon (.str x13)) (mcons (mcon (.str x12)) (mnil)))) (mcons (mtup (mcons (mcon (.str x13)) (mcons (mcon (.str x24)) (mnil)))) (mnil)))) (mcons (mtup (mnil)) (mnil)))))) (mnil))))))
  (sseq (sset 5 (mtup (mcons (mop2 addW (mvar 4) (mtup (mcons (mtup (mcons (mvar 2) (mcons (mtup (mcons (mvar 0) (mcons (mvar 1) (mnil)))) (mcons (mtup (mnil)) (mcons (mtup (mnil)) (mnil)))))) (mnil)))) (mcons (mtup (mnil)) (mcons (mtup (mcons (mtup (mcons (mvar 0) (mcons (mcon (.str x15)) (mnil)))) (mcons (mtup (mcons (mvar 1) (mcons (mcon (.str x15)) (mnil)))) (mcons (mtup (mcons (mvar 2) (mcons (mcon (.str x16)) (mnil)))) (mnil))))) (mnil))))))
  (sseq (sset 6 (mlst (mcons (mtup (mcons (mcon (.str x27)) (mcons (mcon (.str x14)) (mcons (mcon (.int 3)) (mnil))))) (mcons (mtup (mcons (mcon (.str x0)) (mcons (mcon (.int 2)) (mnil)))) (mcons (mtup (mcons (mcon (.str x27)) (mcons (mcon (.str x14)) (mcons (mcon (.int 3)) (mnil))))) (mcons (mtup (mcons (mcon (.str x0)) (mcons (mcon (.int 0)) (mnil)))) (mcons (mtup (mcons (mcon (.str x27)) (mcons (mcon (.str x14)) (mcons (mcon (.int 0)) (mnil))))) (mcons (mtup (mcons (mcon (.str x27)) (mcons (mcon (.str x14)) (mcons (mcon (.int 1)) (mnil))))) (mnil)))))))))
  (sseq (sset 7 (mcall m_run (mcons (mvar 5) (mcons (mvar 6) (mnil)))))
  (sseq (sset 8 (mlst (mcons (mtup (mcons (mcon (.str x28)) (mnil))) (mcons (mtup (mcons (mcon (.str x18)) (mnil))) (mcons (mtup (mcons (mcon (.str x28)) (mnil))) (mcons (mtup (mcons (mcon (.str x18)) (mnil))) (mcons (mtup (mcons (mcon (.str x17)) (mcons (mvar 0) (mcons (mcon (.str x25)) (mnil))))) (mcons (mtup (mcons (mcon (.str x28)) (mnil))) (mnil)))))))))
  (sseq (sset 6 (mop2 addW (mlst (mcons (mtup (mcons (mcon (.str x0)) (mcons (mcon (.int 1)) (mnil)))) (mcons (mtup (mcons (mcon (.str x0)) (mcons (mcon (.int 0)) (mnil)))) (mnil)))) (mlc (miR1 (mcons (mcon (.int 4)) (mnil))) (.nm 10) (myes) (mtup (mcons (mcon (.str x27)) (mcons (mcon (.str x14)) (mcons (mvar 10) (mnil))))) [10])))
  (sseq (sset 9 (mcall m_run (mcons (mvar 5) (mcons (mop2 addW (mvar 6) (mlst (mcons (mtup (mcons (mcon (.str x29)) (mcons (mcon (.int 1)) (mnil)))) (mcons (mtup (mcons (mcon (.str x27)) (mcons (mcon (.str x14)) (mcons (mcon (.int 2)) (mnil))))) (mnil))))) (mnil)))))
  (sseq (sset 8 (mop2 addW (mvar 8) (mlst (mcons (mtup (mcons (mcon (.str x18)) (mnil))) (mcons (mtup (mcons (mcon (.str x18)) (mnil))) (mcons (mtup (mcons (mcon (.str x17)) (mcons (mvar 1) (mcons (mcon (.str x12)) (mnil))))) (mcons (mtup (mcons (mcon (.str x17)) (mcons (mvar 1) (mcons (mcon (.str x12)) (mnil))))) (mcons (mtup (mcons (mcon (.str x17)) (mcons (mvar 1) (mcons (mcon (.str x12)) (mnil))))) (mcons (mtup (mcons (mcon (.str x17)) (mcons (mvar 1) (mcons (mcon (.str x24)) (mnil))))) (mnil))))))))))
  (sret (mcall m__law_same (mcons (mop2 addW (mvar 7) (mvar 9)) (mcons (mop2 addW (mvar 8) (mlst (mcons (mtup (mcons (mcon (.str x19)) (mnil))) (mcons (mtup (mcons (mcon (.str x20)) (mnil))) (mnil))))) (mnil)))))))))))))
def m__law_version_right : Fn := fnM 3 11 bd__law_version_right
theorem ok__law_version_right (T : Tx K mg base) : FnG P w K mg base 17 (He.ga K "_law_version_right") (T.fd 36) ["_law_a", "_law_b", "_law_c"] (spM (GG P w K) m__law_version_right) :=
  fn_okG (B := bd__law_version_right) (T.df 36 dd__law_version_right rfl) sc__law_version_right (hb := fun cdv A gd outer s H E hr => sm_cons (sm_set (ps_set (i := 3) sc__law_version_right.nd rfl (Or.inl rfl) (pm_tup (pm_cons (pm_tup (pm_cons (pm_str e_x13) (pm_cons (pm_str e_x12) (pm_cons (pm_bl) (pm_nil))))) (pm_cons (pm_tup (pm_cons (pm_str e_x13) (pm_cons (pm_str e_x26) (pm_cons (pm_bl) (pm_nil))))) (pm_cons (pm_tup (pm_cons (pm_str e_x13) (pm_cons (pm_str e_x25) (pm_cons (pm_bl) (pm_nil))))) (pm_cons (pm_tup (pm_cons (pm_str e_x13) (pm_cons (pm_str e_x24) (pm_cons (pm_bl) (pm_nil))))) (pm_nil))))))))
    (sm_cons (sm_set (ps_set (i := 4) sc__law_version_right.nd rfl (Or.inl rfl) (pm_tup (pm_cons (pm_tup (pm_cons (pm_str e_x14) (pm_cons (pm_tup (pm_nil)) (pm_cons (pm_tup (pm_nil)) (pm_cons (pm_var (pv 3)) (pm_nil)))))) (pm_cons (pm_tup (pm_cons (pm_var (pv 0)) (pm_cons (pm_tup (pm_nil)) (pm_cons (pm_tup (pm_cons (pm_tup (pm_cons (pm_str e_x13) (pm_cons (pm_str e_x25) (pm_nil)))) (pm_cons (pm_tup (pm_cons (pm_str e_x13) (pm_cons (pm_str e_x24) (pm_nil)))) (pm_nil)))) (pm_cons (pm_tup (pm_nil)) (pm_nil)))))) (pm_cons (pm_tup (pm_cons (pm_var (pv 1)) (pm_cons (pm_tup (pm_nil)) (pm_cons (pm_tup (pm_cons (pm_tup (pm_cons (pm_str e_x13) (pm_cons (pm_str e_x12) (pm_nil)))) (pm_cons (pm_tup (pm_cons (pm_str e_x13) (pm_cons (pm_str e_x24) (pm_nil)))) (pm_nil)))) (pm_cons (pm_tup (pm_nil)) (pm_nil)))))) (pm_nil)))))))
    (sm_cons (sm_set (ps_set (i := 5) sc__law_version_right.nd rfl (Or.inl rfl) (pm_tup (pm_cons (pm_bin om_add (pm_var (pv 4)) (pm_tup (pm_cons (pm_tup (pm_cons (pm_var (pv 2)) (pm_cons (pm_tup (pm_cons (pm_var (pv 0)) (pm_cons (pm_var (pv 1)) (pm_nil)))) (pm_cons (pm_tup (pm_nil)) (pm_cons (pm_tup (pm_nil)) (pm_nil)))))) (pm_nil)))) (pm_cons (pm_tup (pm_nil)) (pm_cons (pm_tup (pm_cons (pm_tup (pm_cons (pm_var (pv 0)) (pm_cons (pm_str e_x15) (pm_nil)))) (pm_cons (pm_tup (pm_cons (pm_var (pv 1)) (pm_cons (pm_str e_x15) (pm_nil)))) (pm_cons (pm_tup (pm_cons (pm_var (pv 2)) (pm_cons (pm_str e_x16) (pm_nil)))) (pm_nil))))) (pm_nil)))))))
    (sm_cons (sm_set (ps_set (i := 6) sc__law_version_right.nd rfl (Or.inl rfl) (pm_lst (pm_cons (pm_tup (pm_cons (pm_str e_x27) (pm_cons (pm_str e_x14) (pm_cons (pm_int) (pm_nil))))) (pm_cons (pm_tup (pm_cons (pm_str e_x0) (pm_cons (pm_int) (pm_nil)))) (pm_cons (pm_tup (pm_cons (pm_str e_x27) (pm_cons (pm_str e_x14) (pm_cons (pm_int) (pm_nil))))) (pm_cons (pm_tup (pm_cons (pm_str e_x0) (pm_cons (pm_int) (pm_nil)))) (pm_cons (pm_tup (pm_cons (pm_str e_x27) (pm_cons (pm_str e_x14) (pm_cons (pm_int) (pm_nil))))) (pm_cons (pm_tup (pm_cons (pm_str e_x27) (pm_cons (pm_str e_x14) (pm_cons (pm_int) (pm_nil))))) (pm_nil))))))))))
    (sm_cons (sm_set (ps_set (i := 7) sc__law_version_right.nd rfl (Or.inl rfl) (pm_call (ok_run T) (hr.mono (by decide)) (by rfl) (T.gl "run" (by simp [glos])) (T.kp 37 rfl) (b_run T) pass0 (pm_cons (pm_var (pv 5)) (pm_cons (pm_var (pv 6)) (pm_nil))))))
    (sm_cons (sm_set (ps_set (i := 8) sc__law_version_right.nd rfl (Or.inl rfl) (pm_lst (pm_cons (pm_tup (pm_cons (pm_str e_x28) (pm_nil))) (pm_cons (pm_tup (pm_cons (pm_str e_x18) (pm_nil))) (pm_cons (pm_tup (pm_cons (pm_str e_x28) (pm_nil))) (pm_cons (pm_tup (pm_cons (pm_str e_x18) (pm_nil))) (pm_cons (pm_tup (pm_cons (pm_str e_x17) (pm_cons (pm_var (pv 0)) (pm_cons (pm_str e_x25) (pm_nil))))) (pm_cons (pm_tup (pm_cons (pm_str e_x28) (pm_nil))) (pm_nil))))))))))
    (sm_cons (sm_set (ps_set (i := 6) sc__law_version_right.nd rfl (Or.inl rfl) (pm_bin om_add (pm_lst (pm_cons (pm_tup (pm_cons (pm_str e_x0) (pm_cons (pm_int) (pm_nil)))) (pm_cons (pm_tup (pm_cons (pm_str e_x0) (pm_cons (pm_int) (pm_nil)))) (pm_nil)))) (pm_lc (own := [("_law_spot", 10)]) rfl sc__law_version_right.nd (im_range1 (by rfl) (T.fr "range" (by simp [frees])) (pm_cons (pm_int) (pm_nil))) (blkOk_by (own := [("_law_spot", 10)]) (N := N__law_version_right) (sc := defScope s__law_version_right) (by decide +kernel)) (fun _ _ _ _ _ => gm_name (pg_name (i := 10) sc__law_version_right.nd rfl (Or.inl rfl))) (fun _ _ _ _ _ => tm_nil) (fun _ _ _ _ _ => pm_tup (pm_cons (pm_str e_x27) (pm_cons (pm_str e_x14) (pm_cons (pm_var (pv 10)) (pm_nil)))))))))
    (sm_cons (sm_set (ps_set (i := 9) sc__law_version_right.nd rfl (Or.inl rfl) (pm_call (ok_run T) (hr.mono (by decide)) (by rfl) (T.gl "run" (by simp [glos])) (T.kp 37 rfl) (b_run T) pass0 (pm_cons (pm_var (pv 5)) (pm_cons (pm_bin om_add (pm_var (pv 6)) (pm_lst (pm_cons (pm_tup (pm_cons (pm_str e_x29) (pm_cons (pm_int) (pm_nil)))) (pm_cons (pm_tup (pm_cons (pm_str e_x27) (pm_cons (pm_str e_x14) (pm_cons (pm_int) (pm_nil))))) (pm_nil))))) (pm_nil))))))
    (sm_cons (sm_set (ps_set (i := 8) sc__law_version_right.nd rfl (Or.inl rfl) (pm_bin om_add (pm_var (pv 8)) (pm_lst (pm_cons (pm_tup (pm_cons (pm_str e_x18) (pm_nil))) (pm_cons (pm_tup (pm_cons (pm_str e_x18) (pm_nil))) (pm_cons (pm_tup (pm_cons (pm_str e_x17) (pm_cons (pm_var (pv 1)) (pm_cons (pm_str e_x12) (pm_nil))))) (pm_cons (pm_tup (pm_cons (pm_str e_x17) (pm_cons (pm_var (pv 1)) (pm_cons (pm_str e_x12) (pm_nil))))) (pm_cons (pm_tup (pm_cons (pm_str e_x17) (pm_cons (pm_var (pv 1)) (pm_cons (pm_str e_x12) (pm_nil))))) (pm_cons (pm_tup (pm_cons (pm_str e_x17) (pm_cons (pm_var (pv 1)) (pm_cons (pm_str e_x24) (pm_nil))))) (pm_nil)))))))))))
    (sm_one (sm_ret (pm_callG (ok__law_same T) gd (hr.mono (by decide)) (by rfl) (T.gl "_law_same" (by simp [glos])) (T.kp 33 rfl) (b__law_same T) (pm_cons (pm_bin om_add (pm_var (pv 7)) (pm_var (pv 9))) (pm_cons (pm_bin om_add (pm_var (pv 8)) (pm_lst (pm_cons (pm_tup (pm_cons (pm_str e_x19) (pm_nil))) (pm_cons (pm_tup (pm_cons (pm_str e_x20) (pm_nil))) (pm_nil))))) (pm_nil)))))))))))))))
def N_Process_counts : List Str := ["self"]
theorem sc_Process_counts : FnScope ["self"] ["self"] (defScope s_Process_counts) := ⟨rfl, rfl, rfl, by decide +kernel, rfl, by decide +kernel, by decide +kernel⟩
theorem b_Process_counts (T : Tx K mg base) : Binds K (T.fd 41) ["self"] [] := FunD.bindsN (T.df 41 dd_Process_counts rfl) fun _ _ _ _ _ _ us hl => match us, hl with | [_], _ => rfl
def bd_Process_counts : Fs :=
  sret (mcall listW (mcons (mop1 (fldW 0 4) (mvar 0)) (mnil)))
def m_Process_counts : Fn := fnM 1 1 bd_Process_counts
theorem ok_Process_counts (T : Tx K mg base) : FnOk P w K mg base CX0 1 (He.ma K (He.ga K "Process") "counts") (T.fd 41) ["self"] (spM (GG P w K) m_Process_counts) :=
  fn_okD (B := bd_Process_counts) (T.df 41 dd_Process_counts rfl) sc_Process_counts (hb := fun cdv A outer s H E hr => sm_one (sm_ret (pm_cT cm_list (by rfl) (T.fr "list" (by simp [frees])) bb_list (pm_cons (pm_fld (c := 0) (k := 4) (pm_var (pv 0)) (T.cl "Process" (by simp [fa])) (T.na "Process" "own_counts" (by simp [fa])) rfl (by show 4 < 10; decide)) (pm_nil)))))
def N_Process_base : List Str := ["self"]
theorem sc_Process_base : FnScope ["self"] ["self"] (defScope s_Process_base) := ⟨rfl, rfl, rfl, by decide +kernel, rfl, by decide +kernel, by decide +kernel⟩
theorem b_Process_base (T : Tx K mg base) : Binds K (T.fd 42) ["self"] [] := FunD.bindsN (T.df 42 dd_Process_base rfl) fun _ _ _ _ _ _ us hl => match us, hl with | [_], _ => rfl
def bd_Process_base : Fs :=
  sret (mtup (mcons (mcall tupleW (mcons (mop1 (fldW 0 4) (mvar 0)) (mnil))) (mcons (mcall tupleW (mcons (mop1 (fldW 0 5) (mvar 0)) (mnil))) (mcons (mcall tupleW (mcons (mop1 (fldW 0 6) (mvar 0)) (mnil))) (mcons (mcall tupleW (mcons (mmeth 0 m_Process_deep (mvar 0) mnil) (mnil))) (mnil))))))
def m_Process_base : Fn := fnM 1 1 bd_Process_base
theorem ok_Process_base (T : Tx K mg base) : FnOk P w K mg base CX0 2 (He.ma K (He.ga K "Process") "base") (T.fd 42) ["self"] (spM (GG P w K) m_Process_base) :=
  fn_okD (B := bd_Process_base) (T.df 42 dd_Process_base rfl) sc_Process_base (hb := fun cdv A outer s H E hr => sm_one (sm_ret (pm_tup (pm_cons (pm_cT cm_tuple (by rfl) (T.fr "tuple" (by simp [frees])) bb_tuple (pm_cons (pm_fld (c := 0) (k := 4) (pm_var (pv 0)) (T.cl "Process" (by simp [fa])) (T.na "Process" "own_counts" (by simp [fa])) rfl (by show 4 < 10; decide)) (pm_nil))) (pm_cons (pm_cT cm_tuple (by rfl) (T.fr "tuple" (by simp [frees])) bb_tuple (pm_cons (pm_fld (c := 0) (k := 5) (pm_var (pv 0)) (T.cl "Process" (by simp [fa])) (T.na "Process" "own_opened" (by simp [fa])) rfl (by show 5 < 10; decide)) (pm_nil))) (pm_cons (pm_cT cm_tuple (by rfl) (T.fr "tuple" (by simp [frees])) bb_tuple (pm_cons (pm_fld (c := 0) (k := 6) (pm_var (pv 0)) (T.cl "Process" (by simp [fa])) (T.na "Process" "own_public" (by simp [fa])) rfl (by show 6 < 10; decide)) (pm_nil))) (pm_cons (pm_cT cm_tuple (by rfl) (T.fr "tuple" (by simp [frees])) bb_tuple (pm_cons (pm_meth0 (c := 0) (pe_meth0 (pm_var (pv 0)) (T.cl "Process" (by simp [fa])) (T.me "Process" "deep" (by simp [fa])) (ok_Process_deep T) (hr.mono (by decide)) (b_Process_deep T) .nil pass0) (hno_Process_deep)) (pm_nil))) (pm_nil))))))))
def N__law_ring_right : List Str := ["_law_a", "_law_b", "_law_c", "_law_libs", "_law_host", "_law_told", "_law_due"]
theorem sc__law_ring_right : FnScope ["_law_a", "_law_b", "_law_c", "_law_libs", "_law_host", "_law_told", "_law_due"] ["_law_a", "_law_b", "_law_c"] (defScope s__law_ring_right) := ⟨rfl, rfl, rfl, by decide +kernel, rfl, by decide +kernel, by decide +kernel⟩
theorem b__law_ring_right (T : Tx K mg base) : Binds K (T.fd 40) ["_law_a", "_law_b", "_law_c"] [] := FunD.bindsN (T.df 40 dd__law_ring_right rfl) fun _ _ _ _ _ _ us hl => match us, hl with | [_, _, _], _ => rfl
def bd__law_ring_right : Fs :=
  sseq (sset 3 (mtup (mcons (mtup (mcons (mcon (.str x14)) (mcons (mtup (mnil)) (mcons (mtup (mnil)) (mcons (mtup (mcons (mtup (mcons (mcon (.str x13)) (mcons (mcon (.str x12)) (mcons (mcon (.bl false)) (mnil))))) (mnil))) (mnil)))))) (mcons (mtup (mcons (mvar 0) (mcons (mtup (mcons (mvar 1) (mnil))) (mcons (mtup (mnil)) (mcons (mtup (mcons (mtup (mcons (mcon (.str x13)) (mcons (mcon (.str x12)) (mcons (mcon (.bl false)) (mnil))))) (mnil))) (mnil)))))) (mcons (mtup (mcons (mvar 1) (mcons (mtup (mcons (mvar 0) (mnil))) (mcons (mtup (mnil)) (mcons (mtup (mcons (mtup (mcons (mcon (.str x13)) (mcons (mcon (.str x12)) (mcons (mcon (.bl false)) (mnil))))) (mnil))) (mnil)))))) (mnil))))))
  (sseq (sset 3 (mop2 addW (mvar 3) (mtup (mcons (mtup (mcons (mvar 2) (mcons (mtup (mcons (mvar 0) (mnil))) (mcons (mtup (mcons (mtup (mcons (mcon (.str x13)) (mcons (mcon (.str x12)) (mnil)))) (mnil))) (mcons (mtup (mcons (mtup (mcons (mcon (.str x13)) (mcons (mcon (.str x12)) (mcons (mcon (.bl false)) (mnil))))) (mnil))) (mnil)))))) (mnil)))))
  (sseq (sset 4 (mmake 0 m_Process___init__ (mcons (mtup (mcons (mvar 3) (mcons (mtup (mcons (mvar 1) (mnil))) (mcons (mtup (mcons (mtup (mcons (mvar 2) (mcons (mcon (.str x16)) (mnil)))) (mcons (mtup (mcons (mvar 0) (mcons (mcon (.str x15)) (mnil)))) (mnil)))) (mnil))))) (mnil))))
  (sseq (sset 5 (mlst (mcons (mmeth 0 m_Process_public (mvar 4) mnil) (mcons (mmeth 0 m_Process_open_door (mvar 4) (mcons (mcon (.int 0)) (mnil))) (mcons (mmeth 0 m_Process_open_door (mvar 4) (mcons (mcon (.int 0)) (mnil))) (mcons (mmeth 0 m_Process_open_door (mvar 4) (mcons (mcon (.int 0)) (mnil))) (mcons (mmeth 0 m_Process_call (mvar 4) (mcons (mvar 2) (mcons (mcon (.int 0)) (mnil)))) (mnil))))))))
  (sseq (sset 5 (mop2 addW (mvar 5) (mlst (mcons (mmeth 0 m_Process_call (mvar 4) (mcons (mvar 0) (mcons (mcon (.int 0)) (mnil)))) (mcons (mmeth 0 m_Process_looks (mvar 4) (mcons (mvar 0) (mnil))) (mnil))))))
  (sseq (sset 6 (mlst (mcons (mlst (mcons (mcon (.str x14)) (mcons (mvar 1) (mcons (mvar 0) (mnil))))) (mcons (mtup (mcons (mcon (.str x18)) (mnil))) (mcons (mtup (mcons (mcon (.str x18)) (mnil))) (mcons (mtup (mcons (mcon (.str x30)) (mnil))) (mcons (mtup (mcons (mcon (.str x17)) (mcons (mvar 2) (mcons (mcon (.str x12)) (mnil))))) (mcons (mtup (mcons (mcon (.str x28)) (mnil))) (mcons (mlst (mcons (mcon (.str x14)) (mcons (mvar 1) (mcons (mvar 0) (mnil))))) (mnil))))))))))
  (sseq (sset 5 (mop2 addW (mvar 5) (mlst (mcons (mmeth 0 m_Process_close_door (mvar 4) (mcons (mcon (.int 0)) (mnil))) (mcons (mmeth 0 m_Process_counts (mvar 4) mnil) (mcons (mmeth 0 m_Process_there (mvar 4) mnil) (mcons (mmeth 0 m_Process_close_door (mvar 4) (mcons (mcon (.int 0)) (mnil))) (mcons (mmeth 0 m_Process_close_door (mvar 4) (mcons (mcon (.int 0)) (mnil))) (mnil)))))))))
  (sseq (sset 5 (mop2 addW (mvar 5) (mlst (mcons (mmeth 0 m_Process_there (mvar 4) mnil) (mcons (mmeth 0 m_Process_public (mvar 4) mnil) (mnil))))))
  (sseq (sset 6 (mop2 addW (mvar 6) (mlst (mcons (mtup (mcons (mcon (.str x19)) (mnil))) (mcons (mlst (mcons (mcon (.int 1)) (mcons (mcon (.int 0)) (mnil)))) (mcons (mcall sortedW (mcons (mlst (mcons (mcon (.str x14)) (mcons (mvar 0) (mcons (mvar 1) (mcons (mvar 2) (mnil)))))) (mnil))) (mcons (mtup (mcons (mcon (.str x19)) (mnil))) (mcons (mtup (mcons (mcon (.str x31)) (mnil))) (mcons (mcall sortedW (mcons (mlst (mcons (mcon (.str x14)) (mcons (mvar 0) (mcons (mvar 1) (mnil))))) (mnil))) (mcons (mlst (mcons (mcon (.str x14)) (mcons (mvar 1) (mcons (mvar 0) (mnil))))) (mnil)))))))))))
  (sseq (sset 5 (mop2 addW (mvar 5) (mlst (mcons (mmeth 0 m_Process_open_door (mvar 4) (mcons (mcon (.int 1)) (mnil))) (mcons (mmeth 0 m_Process_public (mvar 4) mnil) (mcons (mmeth 0 m_Process_base (mvar 4) mnil) (mnil)))))))
  (sret (mcall m__law_same (mcons (mvar 5) (mcons (mop2 addW (mvar 6) (mlst (mcons (mtup (mcons (mcon (.str x18)) (mnil))) (mcons (mlst (mcons (mcon (.str x14)) (mcons (mvar 1) (mcons (mvar 0) (mnil))))) (mcons (mtup (mcons (mtup (mcons (mcon (.int 0)) (mcons (mcon (.int 1)) (mnil)))) (mcons (mtup (mcons (mcon (.int 1)) (mnil))) (mcons (mtup (mcons (mcon (.str x14)) (mcons (mvar 1) (mcons (mvar 0) (mnil))))) (mcons (mtup (mnil)) (mnil)))))) (mnil)))))) (mnil))))))))))))))
def m__law_ring_right : Fn := fnM 3 7 bd__law_ring_right
theorem ok__law_ring_right (T : Tx K mg base) : FnG P w K mg base 16 (He.ga K "_law_ring_right") (T.fd 40) ["_law_a", "_law_b", "_law_c"] (spM (GG P w K) m__law_ring_right) :=
  fn_okG (B := bd__law_ring_right) (T.df 40 dd__law_ring_right rfl) sc__law_ring_right (hb := fun cdv A gd outer s H E hr => sm_cons (sm_set (ps_set (i := 3) sc__law_ring_right.nd rfl (Or.inl rfl) (pm_tup (pm_cons (pm_tup (pm_cons (pm_str e_x14) (pm_cons (pm_tup (pm_nil)) (pm_cons (pm_tup (pm_nil)) (pm_cons (pm_tup (pm_cons (pm_tup (pm_cons (pm_str e_x13) (pm_cons (pm_str e_x12) (pm_cons (pm_bl) (pm_nil))))) (pm_nil))) (pm_nil)))))) (pm_cons (pm_tup (pm_cons (pm_var (pv 0)) (pm_cons (pm_tup (pm_cons (pm_var (pv 1)) (pm_nil))) (pm_cons (pm_tup (pm_nil)) (pm_cons (pm_tup (pm_cons (pm_tup (pm_cons (pm_str e_x13) (pm_cons (pm_str e_x12) (pm_cons (pm_bl) (pm_nil))))) (pm_nil))) (pm_nil)))))) (pm_cons (pm_tup (pm_cons (pm_var (pv 1)) (pm_cons (pm_tup (pm_cons (pm_var (pv 0)) (pm_nil))) (pm_cons (pm_tup (pm_nil)) (pm_cons (pm_tup (pm_cons (pm_tup (pm_cons (pm_str e_x13) (pm_cons (pm_str e_x12) (pm_cons (pm_bl) (pm_nil))))) (pm_nil))) (pm_nil)))))) (pm_nil)))))))
    (sm_cons (sm_set (ps_set (i := 3) sc__law_ring_right.nd rfl (Or.inl rfl) (pm_bin om_add (pm_var (pv 3)) (pm_tup (pm_cons (pm_tup (pm_cons (pm_var (pv 2)) (pm_cons (pm_tup (pm_cons (pm_var (pv 0)) (pm_nil))) (pm_cons (pm_tup (pm_cons (pm_tup (pm_cons (pm_str e_x13) (pm_cons (pm_str e_x12) (pm_nil)))) (pm_nil))) (pm_cons (pm_tup (pm_cons (pm_tup (pm_cons (pm_str e_x13) (pm_cons (pm_str e_x12) (pm_cons (pm_bl) (pm_nil))))) (pm_nil))) (pm_nil)))))) (pm_nil))))))
    (sm_cons (sm_set (ps_set (i := 4) sc__law_ring_right.nd rfl (Or.inl rfl) (pm_make (c := 0) (pe_make (T.mkr "Process" (by simp [fa])) (ok_Process___init__ T) (hr.mono (by decide)) (by rfl) (T.gl "Process" (by simp [glos])) (b_Process___init__ T) .nil pass0 (pm_cons (pm_tup (pm_cons (pm_var (pv 3)) (pm_cons (pm_tup (pm_cons (pm_var (pv 1)) (pm_nil))) (pm_cons (pm_tup (pm_cons (pm_tup (pm_cons (pm_var (pv 2)) (pm_cons (pm_str e_x16) (pm_nil)))) (pm_cons (pm_tup (pm_cons (pm_var (pv 0)) (pm_cons (pm_str e_x15) (pm_nil)))) (pm_nil)))) (pm_nil))))) (pm_nil))))))
    (sm_cons (sm_set (ps_set (i := 5) sc__law_ring_right.nd rfl (Or.inl rfl) (pm_lst (pm_cons (pm_meth0 (c := 0) (pe_meth0 (pm_var (pv 4)) (T.cl "Process" (by simp [fa])) (T.me "Process" "public" (by simp [fa])) (ok_Process_public T) (hr.mono (by decide)) (b_Process_public T) .nil pass0) (hno_Process_public)) (pm_cons (pm_meth (c := 0) (pe_meth (pm_var (pv 4)) (T.cl "Process" (by simp [fa])) (T.me "Process" "open_door" (by simp [fa])) (ok_Process_open_door T) (hr.mono (by decide)) (b_Process_open_door T) .nil pass0 (pm_cons (pm_int) (pm_nil))) (hno_Process_open_door)) (pm_cons (pm_meth (c := 0) (pe_meth (pm_var (pv 4)) (T.cl "Process" (by simp [fa])) (T.me "Process" "open_door" (by simp [fa])) (ok_Process_open_door T) (hr.mono (by decide)) (b_Process_open_door T) .nil pass0 (pm_cons (pm_int) (pm_nil))) (hno_Process_open_door)) (pm_cons (pm_meth (c := 0) (pe_meth (pm_var (pv 4)) (T.cl "Process" (by simp [fa])) (T.me "Process" "open_door" (by simp [fa])) (ok_Process_open_door T) (hr.mono (by decide)) (b_Process_open_door T) .nil pass0 (pm_cons (pm_int) (pm_nil))) (hno_Process_open_door)) (pm_cons (pm_meth (c := 0) (pe_meth (pm_var (pv 4)) (T.cl "Process" (by simp [fa])) (T.me "Process" "call" (by simp [fa])) (ok_Process_call T) (hr.mono (by decide)) (b_Process_call T) .nil pass0 (pm_cons (pm_var (pv 2)) (pm_cons (pm_int) (pm_nil)))) (hno_Process_call)) (pm_nil)))))))))
    (sm_cons (sm_set (ps_set (i := 5) sc__law_ring_right.nd rfl (Or.inl rfl) (pm_bin om_add (pm_var (pv 5)) (pm_lst (pm_cons (pm_meth (c := 0) (pe_meth (pm_var (pv 4)) (T.cl "Process" (by simp [fa])) (T.me "Process" "call" (by simp [fa])) (ok_Process_call T) (hr.mono (by decide)) (b_Process_call T) .nil pass0 (pm_cons (pm_var (pv 0)) (pm_cons (pm_int) (pm_nil)))) (hno_Process_call)) (pm_cons (pm_meth (c := 0) (pe_meth (pm_var (pv 4)) (T.cl "Process" (by simp [fa])) (T.me "Process" "looks" (by simp [fa])) (ok_Process_looks T) (hr.mono (by decide)) (b_Process_looks T) .nil pass0 (pm_cons (pm_var (pv 0)) (pm_nil))) (hno_Process_looks)) (pm_nil)))))))
    (sm_cons (sm_set (ps_set (i := 6) sc__law_ring_right.nd rfl (Or.inl rfl) (pm_lst (pm_cons (pm_lst (pm_cons (pm_str e_x14) (pm_cons (pm_var (pv 1)) (pm_cons (pm_var (pv 0)) (pm_nil))))) (pm_cons (pm_tup (pm_cons (pm_str e_x18) (pm_nil))) (pm_cons (pm_tup (pm_cons (pm_str e_x18) (pm_nil))) (pm_cons (pm_tup (pm_cons (pm_str e_x30) (pm_nil))) (pm_cons (pm_tup (pm_cons (pm_str e_x17) (pm_cons (pm_var (pv 2)) (pm_cons (pm_str e_x12) (pm_nil))))) (pm_cons (pm_tup (pm_cons (pm_str e_x28) (pm_nil))) (pm_cons (pm_lst (pm_cons (pm_str e_x14) (pm_cons (pm_var (pv 1)) (pm_cons (pm_var (pv 0)) (pm_nil))))) (pm_nil)))))))))))
    (sm_cons (sm_set (ps_set (i := 5) sc__law_ring_right.nd rfl (Or.inl rfl) (pm_bin om_add (pm_var (pv 5)) (pm_lst (pm_cons (pm_meth (c := 0) (pe_meth (pm_var (pv 4)) (T.cl "Process" (by simp [fa])) (T.me "Process" "close_door" (by simp [fa])) (ok_Process_close_door T) (hr.mono (by decide)) (b_Process_close_door T) .nil pass0 (pm_cons (pm_int) (pm_nil))) (hno_Process_close_door)) (pm_cons (pm_meth0 (c := 0) (pe_meth0 (pm_var (pv 4)) (T.cl "Process" (by simp [fa])) (T.me "Process" "counts" (by simp [fa])) (ok_Process_counts T) (hr.mono (by decide)) (b_Process_counts T) .nil pass0) (hno_Process_counts)) (pm_cons (pm_meth0 (c := 0) (pe_meth0 (pm_var (pv 4)) (T.cl "Process" (by simp [fa])) (T.me "Process" "there" (by simp [fa])) (ok_Process_there T) (hr.mono (by decide)) (b_Process_there T) .nil pass0) (hno_Process_there)) (pm_cons (pm_meth (c := 0) (pe_meth (pm_var (pv 4)) (T.cl "Process" (by simp [fa])) (T.me "Process" "close_door" (by simp [fa])) (ok_Process_close_door T) (hr.mono (by decide)) (b_Process_close_door T) .nil pass0 (pm_cons (pm_int) (pm_nil))) (hno_Process_close_door)) (pm_cons (pm_meth (c := 0) (pe_meth (pm_var (pv 4)) (T.cl "Process" (by simp [fa])) (T.me "Process" "close_door" (by simp [fa])) (ok_Process_close_door T) (hr.mono (by decide)) (b_Process_close_door T) .nil pass0 (pm_cons (pm_int) (pm_nil))) (hno_Process_close_door)) (pm_nil))))))))))
    (sm_cons (sm_set (ps_set (i := 5) sc__law_ring_right.nd rfl (Or.inl rfl) (pm_bin om_add (pm_var (pv 5)) (pm_lst (pm_cons (pm_meth0 (c := 0) (pe_meth0 (pm_var (pv 4)) (T.cl "Process" (by simp [fa])) (T.me "Process" "there" (by simp [fa])) (ok_Process_there T) (hr.mono (by decide)) (b_Process_there T) .nil pass0) (hno_Process_there)) (pm_cons (pm_meth0 (c := 0) (pe_meth0 (pm_var (pv 4)) (T.cl "Process" (by simp [fa])) (T.me "Process" "public" (by simp [fa])) (ok_Process_public T) (hr.mono (by decide)) (b_Process_public T) .nil pass0) (hno_Process_public)) (pm_nil)))))))
    (sm_cons (sm_set (ps_set (i := 6) sc__law_ring_right.nd rfl (Or.inl rfl) (pm_bin om_add (pm_var (pv 6)) (pm_lst (pm_cons (pm_tup (pm_cons (pm_str e_x19) (pm_nil))) (pm_cons (pm_lst (pm_cons (pm_int) (pm_cons (pm_int) (pm_nil)))) (pm_cons (pm_cB cm_sorted (by rfl) (T.fr "sorted" (by simp [frees])) bb_sorted (pm_cons (pm_lst (pm_cons (pm_str e_x14) (pm_cons (pm_var (pv 0)) (pm_cons (pm_var (pv 1)) (pm_cons (pm_var (pv 2)) (pm_nil)))))) (pm_nil))) (pm_cons (pm_tup (pm_cons (pm_str e_x19) (pm_nil))) (pm_cons (pm_tup (pm_cons (pm_str e_x31) (pm_nil))) (pm_cons (pm_cB cm_sorted (by rfl) (T.fr "sorted" (by simp [frees])) bb_sorted (pm_cons (pm_lst (pm_cons (pm_str e_x14) (pm_cons (pm_var (pv 0)) (pm_cons (pm_var (pv 1)) (pm_nil))))) (pm_nil))) (pm_cons (pm_lst (pm_cons (pm_str e_x14) (pm_cons (pm_var (pv 1)) (pm_cons (pm_var (pv 0)) (pm_nil))))) (pm_nil))))))))))))
    (sm_cons (sm_set (ps_set (i := 5) sc__law_ring_right.nd rfl (Or.inl rfl) (pm_bin om_add (pm_var (pv 5)) (pm_lst (pm_cons (pm_meth (c := 0) (pe_meth (pm_var (pv 4)) (T.cl "Process" (by simp [fa])) (T.me "Process" "open_door" (by simp [fa])) (ok_Process_open_door T) (hr.mono (by decide)) (b_Process_open_door T) .nil pass0 (pm_cons (pm_int) (pm_nil))) (hno_Process_open_door)) (pm_cons (pm_meth0 (c := 0) (pe_meth0 (pm_var (pv 4)) (T.cl "Process" (by simp [fa])) (T.me "Process" "public" (by simp [fa])) (ok_Process_public T) (hr.mono (by decide)) (b_Process_public T) .nil pass0) (hno_Process_public)) (pm_cons (pm_meth0 (c := 0) (pe_meth0 (pm_var (pv 4)) (T.cl "Process" (by simp [fa])) (T.me "Process" "base" (by simp [fa])) (ok_Process_base T) (hr.mono (by decide)) (b_Process_base T) .nil pass0) (hno_Process_base)) (pm_nil))))))))
    (sm_one (sm_ret (pm_callG (ok__law_same T) gd (hr.mono (by decide)) (by rfl) (T.gl "_law_same" (by simp [glos])) (T.kp 33 rfl) (b__law_same T) (pm_cons (pm_var (pv 5)) (pm_cons (pm_bin om_add (pm_var (pv 6)) (pm_lst (pm_cons (pm_tup (pm_cons (pm_str e_x18) (pm_nil))) (pm_cons (pm_lst (pm_cons (pm_str e_x14) (pm_cons (pm_var (pv 1)) (pm_cons (pm_var (pv 0)) (pm_nil))))) (pm_cons (pm_tup (pm_cons (pm_tup (pm_cons (pm_int) (pm_cons (pm_int) (pm_nil)))) (pm_cons (pm_tup (pm_cons (pm_int) (pm_nil))) (pm_cons (pm_tup (pm_cons (pm_str e_x14) (pm_cons (pm_var (pv 1)) (pm_cons (pm_var (pv 0)) (pm_nil))))) (pm_cons (pm_tup (pm_nil)) (pm_nil)))))) (pm_nil)))))) (pm_nil))))))))))))))))
def N__law_right : List Str := ["_law_box_here", "_law_a", "_law_b", "_law_c"]
theorem sc__law_right : FnScope ["_law_box_here", "_law_a", "_law_b", "_law_c"] ["_law_box_here"] (defScope s__law_right) := ⟨rfl, rfl, rfl, by decide +kernel, rfl, by decide +kernel, by decide +kernel⟩
theorem b__law_right (T : Tx K mg base) : Binds K (T.fd 3) ["_law_box_here"] [] := FunD.bindsN (T.df 3 dd__law_right rfl) fun _ _ _ _ _ _ us hl => match us, hl with | [_], _ => rfl
def bd__law_right : Fs :=
  sseq (sasg (mcall m__law_pick (mcons (mvar 0) (mcons (mlst (mcons (mtup (mcons (mcon (.str x11)) (mcons (mcon (.str x10)) (mcons (mcon (.str x9)) (mnil))))) (mcons (mtup (mcons (mcon (.str x8)) (mcons (mcon (.str x7)) (mcons (mcon (.str x6)) (mnil))))) (mcons (mtup (mcons (mcon (.str x5)) (mcons (mcon (.str x4)) (mcons (mcon (.str x3)) (mnil))))) (mcons (mtup (mcons (mcon (.str x2)) (mcons (mcon (.str x1)) (mcons (mcon (.str x0)) (mnil))))) (mnil)))))) (mnil)))) (.tp [1, 2, 3]))
  (sseq (sif (mor (mnot (mtst (mcall m__law_stays_right (mcons (mvar 1) (mcons (mvar 2) (mcons (mvar 3) (mnil))))))) (mnot (mtst (mcall m__law_deep_right (mcons (mvar 1) (mcons (mvar 2) (mcons (mvar 3) (mnil)))))))) (sret (mcon (.bl false))) (snx))
  (sret (mandV (mcall m__law_version_right (mcons (mvar 1) (mcons (mvar 2) (mcons (mvar 3) (mnil))))) (mcall m__law_ring_right (mcons (mvar 1) (mcons (mvar 2) (mcons (mvar 3) (mnil))))))))
def m__law_right : Fn := fnM 1 4 bd__law_right
theorem ok__law_right (T : Tx K mg base) : FnG P w K mg base 18 (He.ga K "_law_right") (T.fd 3) ["_law_box_here"] (spM (GG P w K) m__law_right) :=
  fn_okG (B := bd__law_right) (T.df 3 dd__law_right rfl) sc__law_right (hb := fun cdv A gd outer s H E hr => sm_cons (sm_asg (pm_call (ok__law_pick T) (hr.mono (by decide)) (by rfl) (T.gl "_law_pick" (by simp [glos])) (T.kp 4 rfl) (b__law_pick T) pass0 (pm_cons (pm_var (pv 0)) (pm_cons (pm_lst (pm_cons (pm_tup (pm_cons (pm_str e_x11) (pm_cons (pm_str e_x10) (pm_cons (pm_str e_x9) (pm_nil))))) (pm_cons (pm_tup (pm_cons (pm_str e_x8) (pm_cons (pm_str e_x7) (pm_cons (pm_str e_x6) (pm_nil))))) (pm_cons (pm_tup (pm_cons (pm_str e_x5) (pm_cons (pm_str e_x4) (pm_cons (pm_str e_x3) (pm_nil))))) (pm_cons (pm_tup (pm_cons (pm_str e_x2) (pm_cons (pm_str e_x1) (pm_cons (pm_str e_x0) (pm_nil))))) (pm_nil)))))) (pm_nil)))) (gm_tup rfl (gm_cons (pg_name (i := 1) sc__law_right.nd rfl (Or.inl rfl)) (gm_cons (pg_name (i := 2) sc__law_right.nd rfl (Or.inl rfl)) (gm_cons (pg_name (i := 3) sc__law_right.nd rfl (Or.inl rfl)) (gm_nil))))))
    (sm_cons (sm_if (PW.pt (pm_wor (pm_tnot (pm_tst (pm_callG (ok__law_stays_right T) gd (hr.mono (by decide)) (by rfl) (T.gl "_law_stays_right" (by simp [glos])) (T.kp 6 rfl) (b__law_stays_right T) (pm_cons (pm_var (pv 1)) (pm_cons (pm_var (pv 2)) (pm_cons (pm_var (pv 3)) (pm_nil))))))) (pm_wor1 (pm_tnot (pm_tst (pm_callG (ok__law_deep_right T) gd (hr.mono (by decide)) (by rfl) (T.gl "_law_deep_right" (by simp [glos])) (T.kp 34 rfl) (b__law_deep_right T) (pm_cons (pm_var (pv 1)) (pm_cons (pm_var (pv 2)) (pm_cons (pm_var (pv 3)) (pm_nil)))))))))) (sm_one (sm_ret (pm_bl))) (sm_nil))
    (sm_one (sm_ret (pm_and (pm_callG (ok__law_version_right T) gd (hr.mono (by decide)) (by rfl) (T.gl "_law_version_right" (by simp [glos])) (T.kp 36 rfl) (b__law_version_right T) (pm_cons (pm_var (pv 1)) (pm_cons (pm_var (pv 2)) (pm_cons (pm_var (pv 3)) (pm_nil))))) (pm_one (pm_callG (ok__law_ring_right T) gd (hr.mono (by decide)) (by rfl) (T.gl "_law_ring_right" (by simp [glos])) (T.kp 40 rfl) (b__law_ring_right T) (pm_cons (pm_var (pv 1)) (pm_cons (pm_var (pv 2)) (pm_cons (pm_var (pv 3)) (pm_nil)))))))))))
def rks : List Int := [4]
def told (o : Option (Mv × Ms)) : Option (Option Bool × Option Mo) := o.map fun x => ((match x.1 with | .bl b => some b | _ => none), x.2.get 0)
theorem told_of {o : Option (Mv × Ms)} {k : Option Mo} (h : told o = some (some true, k)) : ∃ s', o = some (.bl true, s') ∧ s'.get 0 = k := by
  cases o with
  | none => cases h
  | some x =>
    obtain ⟨w, s⟩ := x
    cases w with
    | bl b =>
      have h : some (some b, s.get 0) = some (some true, k) := h
      cases h
      exact ⟨s, rfl, rfl⟩
    | _ =>
      have z : (none : Option Bool) = some true := congrArg (fun z : Option (Option Bool × Option Mo) => (z.getD (none, none)).1) h
      cases z
theorem r_0 (m : Nat) : told (m__law_right [.ref 0] (one (.box m [(4, 0)]))) = some (some true, some (.box (m + 1) [])) := by kernel_rfl
theorem r_1 (m : Nat) : told (m__law_right [.ref 0] (one (.box m [(4, 1)]))) = some (some true, some (.box (m + 1) [])) := by kernel_rfl
theorem r_2 (m : Nat) : told (m__law_right [.ref 0] (one (.box m [(4, 2)]))) = some (some true, some (.box (m + 1) [])) := by kernel_rfl
theorem r_3 (m : Nat) : told (m__law_right [.ref 0] (one (.box m [(4, 3)]))) = some (some true, some (.box (m + 1) [])) := by kernel_rfl
theorem right_ok : ∀ m ds, InB rks ds → ∃ s', m__law_right [.ref 0] (one (.box m ds)) = some (.bl true, s') ∧ s'.get 0 = some (.box (m + rks.length) [])
  | m, [(_, a)], ⟨rfl, a0, a1, _⟩ => by
    have ha : a = 0 ∨ a = 1 ∨ a = 2 ∨ a = 3 := by omega
    refine told_of ?_
    rcases ha with rfl | rfl | rfl | rfl
    · exact r_0 m
    · exact r_1 m
    · exact r_2 m
    · exact r_3 m
theorem okB__law_right (T : Tx K mg base) : FnG P w K mg base 18 (He.ga K "_law_right") (T.fd 3) ["_law_box_here"] (spM (GG P w K) (rightB rks)) := right_boxG (ok__law_right T) drawF_in (by decide) right_ok

def N_law : List Str := ["_law_script", "_law_gate", "_law_box_here", "_law_time"]
theorem sc_law : FnScope ["_law_script", "_law_gate", "_law_box_here", "_law_time"] ["_law_script"] (defScope s_law) := ⟨rfl, rfl, rfl, by decide +kernel, rfl, by decide +kernel, by decide +kernel⟩
theorem b_law (T : Tx K mg base) : Binds K (T.fd 0) ["_law_script"] [] := FunD.bindsN (T.df 0 dd_law rfl) fun _ _ _ _ _ _ us hl => match us, hl with | [_], _ => rfl
def bd_law : Fs :=
  sseq (sfor (miR1 (mcons (mop2 addW (mcon (.int 1)) (mcall min2W (mcons (mcon (.int 3)) (mcons (mcall lenW (mcons (mvar 0) (mnil))) (mnil))))) (mnil))) (.nm 1) (sseq (sset 2 (mcall m__law_box (mcons (mvar 0) (mcons (mvar 1) (mnil)))))
  (sif (mnot (mtst (mcall allW (mcons (mlc (miR1 (mcons (mcon (.int 2)) (mnil))) (.nm 3) (myes) (mcall (rightB rks) (mcons (mvar 2) (mnil))) [3]) (mnil))))) (sret (mcon (.bl false))) (snx))))
  (sret (mcon (.bl true)))
def m_law : Fn := fnM 1 4 bd_law
theorem ok_law (T : Tx K mg base) : FnG P w K mg base 19 (He.ga K "law") (T.fd 0) ["_law_script"] (spM (GG P w K) m_law) :=
  fn_okG (B := bd_law) (T.df 0 dd_law rfl) sc_law (hb := fun cdv A gd outer s H E hr => sm_cons (sm_for' PassesOwn.never rfl (im_range1 (by rfl) (T.fr "range" (by simp [frees])) (pm_cons (pm_bin om_add (pm_int) (pm_cB cm_min2 (by rfl) (T.fr "min" (by simp [frees])) bb_min (pm_cons (pm_int) (pm_cons (pm_cB cm_len (by rfl) (T.fr "len" (by simp [frees])) bb_len (pm_cons (pm_var (pv 0)) (pm_nil))) (pm_nil))))) (pm_nil))) (gm_name (pg_name (i := 1) sc_law.nd rfl (Or.inl rfl))) (sm_cons (sm_set (ps_set (i := 2) sc_law.nd rfl (Or.inr rfl) (pm_call (ok__law_box T) (hr.mono (by decide)) (by rfl) (T.gl "_law_box" (by simp [glos])) (T.kp 1 rfl) (b__law_box T) pass0 (pm_cons (pm_var (pv 0)) (pm_cons (pm_var (pv 1)) (pm_nil))))))
    (sm_one (sm_if (pm_tnot (pm_tst (pm_cB cm_all (by rfl) (T.fr "all" (by simp [frees])) bb_all (pm_cons (pm_lc (own := [("_law_time", 3)]) rfl sc_law.nd (im_range1 (by rfl) (T.fr "range" (by simp [frees])) (pm_cons (pm_int) (pm_nil))) (blkOk_by (own := [("_law_time", 3)]) (N := N_law) (sc := defScope s_law) (by decide +kernel)) (fun _ _ _ _ _ => gm_name (pg_name (i := 3) sc_law.nd rfl (Or.inl rfl))) (fun _ _ _ _ _ => tm_nil) (fun _ _ _ _ _ => pm_callG (okB__law_right T) gd (hr.mono (by decide)) (by rfl) (T.gl "_law_right" (by simp [glos])) (T.kp 3 rfl) (b__law_right T) (pm_cons (pm_var (pv 2)) (pm_nil)))) (pm_nil))))) (sm_one (sm_ret (pm_bl))) (sm_nil)))))
    (sm_one (sm_ret (pm_bl))))
end

/-! ### the law -/
theorem cell_ok (ns : List Int) (k : Int) (s : Ms) (h0 : 0 ≤ k) : ∃ x : Int, m__law_cell_at [.fl (ns.map .int), .int k] s = some (.int x, s) := by
  have hc : ∃ x : Int, (mif (mtB (mop2 ltW (mvar 1) (mcall lenW (mcons (mvar 0) (mnil))))) (mop2 ixA (mvar 0) (mvar 1)) (mcon (.int 0))) [some (.fl (ns.map .int)), some (.int k)] s = some (.int x, s) := by
    by_cases h : k < (ns.length : Int)
    · have hx : ∃ x, atF (ns.map Mv.int) k = some (.int x) := by
        have hl : k.toNat < ns.length := by omega
        refine ⟨ns[k.toNat], ?_⟩
        rw [atF_eq]
        unfold L2.atI L2.ixN
        rw [if_pos h0, if_pos (by rw [List.length_map]; exact h)]
        simp [hl]
      obtain ⟨x, hx⟩ := hx
      have hI : ixA (.fl (ns.map Mv.int)) (.int k) s = some (.int x, s) := by
        have e : ixW (.fl (ns.map Mv.int)) (.int k) s = some (.int x, s) := by
          show (some (ns.map Mv.int)).ob (fun ws => (atF ws k).om fun w => (w, s)) = _
          rw [ob_of, hx]
          rfl
        unfold ixA
        rw [e]
      exact ⟨x, by simp [iLt_eq, iEq_eq, lget_eq, lset_eq, lsome_eq, llen_eq, mif, mtB, mop2, ltW, cmpI, mvar, mcall, mcons, mnil, lenW, lenB, hI, h]⟩
    · exact ⟨0, by simp [iLt_eq, iEq_eq, lget_eq, lset_eq, lsome_eq, llen_eq, mif, mtB, mop2, ltW, cmpI, mvar, mcall, mcons, mnil, lenW, lenB, mcon, h]⟩
  obtain ⟨x, hx⟩ := hc
  exact ⟨x, by simp [m__law_cell_at, fnM, bd__law_cell_at, sret, lsome_eq, hx]⟩
theorem box_ok : BoxFn m__law_box := by
  intro ns k s h0 h1
  obtain ⟨x, hx⟩ := cell_ok ns k s h0
  have sm0 : smI 41011 = true := by decide
  have sm2 : ∀ y : Int, smI (if 1000000000000000000 ≤ y then 1 else 0) = true := fun y => by split <;> decide
  have ge : ∀ b : Bool, (0 : Int) ≤ if b = true then 1 else 0 := fun b => by cases b <;> decide
  have sm3 : smI 10 = true := by decide
  refine ⟨(if x < 0 then -x else x) * (if (decide ((10 : Int) ^ 18 ≤ if x < 0 then -x else x)) = true then 1 else 0), x % 2305843009213693951 + 41011 * k + 19, ?_, ?_, ?_, ?_⟩
  · refine Int.mul_nonneg ?_ ?_
    · split <;> omega
    · exact ge _
  · have := Int.emod_nonneg x (b := 2305843009213693951) (by decide)
    omega
  · have := Int.emod_lt_of_pos x (b := 2305843009213693951) (by decide)
    omega
  · simp [iLt_eq, iEq_eq, lget_eq, lset_eq, lsome_eq, llen_eq, m__law_box, fnM, bd__law_box, sseq, sset, mcall, mcons, mvar, mnil, hx]
    simp [iLt_eq, iEq_eq, lget_eq, lset_eq, lsome_eq, llen_eq, mop2, modW, mcall, intW, mcons, mulW, addW, mvar, mcon, mnil, sm0, sm2, sm3, sret, mlst, absW, geW, cmpI, powW]
    generalize newL _ s = o
    cases o <;> rfl
theorem law_true (ns : List Int) : ∃ s', m_law [.fl (ns.map .int)] ⟨0, .nil⟩ = some (.bl true, s') := law_gen (bx := m__law_box) (ks := rks) (R := 3) (L := 2) box_ok (by decide) (by decide) (by decide) ns

def loose0 : List Str := ["_wall", "__name__", "GLOBAL", "DEEP", "OPEN", "CALL", "as_tuples", "lib_of", "NoDoor", "NoLib", "NoUse", "NotThere", "lib_at", "use_at", "row", "first_row", "door_row", "serves", "version_of", "MOST", "OPENED", "CLOSED", "FULL", "SHUT", "BOUND", "NOBODY", "LOST", "TORN", "Ground", "Process"]
def loose1 : List Str := ["AWAY", "answer_of", "run", "_law_cell_at", "_law_box", "_law_take", "_law_pick", "_law_same", "_law_stays_right", "_law_deep_right", "_law_version_right", "_law_ring_right", "_law_right"]
def loose : List Str := loose0 ++ loose1
abbrev R : PySem.W.OpenRow := PySem.W.OpenLaw.row PySem.Challenge.rw_latebound_k08_processes_known_by_hand
abbrev hk : PySem.W.Hook := He.hookX 4 faAll fn [] tf exB
def ob (s : PySem.W.SharedT) : He.AlX := He.obsX 4 faAll fn [] tf exB (HandSHeadRun.getT s)
theorem obL_eq (s : PySem.W.SharedT) : ob s = hk.obs s.abs := He.obsX_eq (HandSHeadRun.getT_eq s)
theorem run (w : World) : HandSHeadRun.RunEq R (PySem.W.view R.prog [48]) hk ob 12000 loose w := by
  intro os
  kernel_rfl
theorem facts {P : Program} {w : World} {K : PySem.W.Frag} {h : Heap} {mg : Str → Option Value} {f : Addr} (X : K.In h) (G : h.Ns mainGlobals mg) (hfa : mg ("law" : Str) = some (.ref f)) (c : He.SaysX faAll fn [] tf exB w h K) :
    ∃ fd : FuncData, (∀ (s : Shared) (v : Value), BindsTo s fd ⟨[v], []⟩ [("_law_script", v)]) ∧ ∀ base : Heap, K.In base → base.Ns mainGlobals mg → (∀ p ∈ tf.map (He.cT K), LamX.TabB base mg p.1 p.2) → FnG P w K mg base 19 f fd ["_law_script"] (spM (GG P w K) m_law) := by
  have ex : ∀ i : Nat, ∃ fd : FuncData, ∀ d : He.DefD, fn[i]? = some d → FunD K d.name d.qual d.params d.body d.scope (d.dvs K) (d.kws K) (He.fAd K d.at_) fd := by
    intro i
    cases e : fn[i]? with
    | none =>
      obtain ⟨fd, _⟩ := c.t.d.def_ 0 (d := dd_law) rfl
      exact ⟨fd, fun d hd => by cases hd⟩
    | some d =>
      obtain ⟨fd, F⟩ := c.t.d.def_ i (d := d) e
      exact ⟨fd, fun d' hd => by cases hd; exact F⟩
  have fc : ∀ g, g ∈ faAll → g.ok K = true := fun g hg => He.SaysD.facts c.t.d hg
  let T : ∀ base : Heap, (∀ p ∈ tf.map (He.cT K), LamX.TabB base mg p.1 p.2) → Tx K mg base := fun base tb =>
    { fd := fun i => Classical.choose (ex i)
      df := fun i d hd => Classical.choose_spec (ex i) d hd
      gl := fun x hx => He.glo_ok X G (fc (.glo x) (List.mem_append_right _ (List.mem_append_left _ (List.mem_map_of_mem hx))))
      fr := fun x hx => He.free_ok X G (fc (.free x) (List.mem_append_right _ (List.mem_append_right _ (List.mem_map_of_mem hx))))
      fc := fun g hg => fc g (List.mem_append_left _ hg)
      gi := fun x i hx => He.int_ok X G (fc (.int x i) (List.mem_append_left _ hx))
      gs := fun x z hx => He.str_ok X G (fc (.str x z) (List.mem_append_left _ hx))
      ex := c.more
      tb := tb }
  have e := hfa.symm.trans (He.glo_ok X G (fc (.glo "law") (List.mem_append_right _ (List.mem_append_left _ (List.mem_map_of_mem (by simp [glos]))))))
  cases e
  have b := FunD.bindsA (ps := ["_law_script"]) (Classical.choose_spec (ex 0) dd_law rfl) fun _ _ _ _ _ _ us hl => match us, hl with | [_], _ => rfl
  exact ⟨Classical.choose (ex 0), fun s v => b s [v] rfl, fun base _ _ tb => ok_law (T base tb)⟩
theorem denInts {G : Mg} {p : List Addr} {H : Hp} : ∀ ns : List Int, DenL G p H (ns.map Mv.int) (ns.map V.int)
  | [] => .nil
  | n :: ns => .cons (.int n) (denInts ns)
theorem flOf {K : PySem.W.Frag} {H : Hp} {a : Addr} {vs : List V} (on : Only H) (h : SqL K H a vs) : FlAt K [] H a vs := by
  rcases h with h | h
  · rcases h with h | h
    · rcases on a with e | ⟨o, xs, e⟩
      · rw [e] at h; cases h
      · rw [e] at h; cases h
    · exact .inl h
  · exact .inr (.inr h)
theorem lawSp {P : Program} {w : World} {K : PySem.W.Frag} {H : Hp} {a : Addr} {ns : List Int} {E : XK} (hl : ns.length ≤ 63) (on : Only H) (hS : SqL K H a (ns.map V.int)) : spM (GG P w K) m_law [.ref a] H (fun v _ => v = .bl true) E := by
  obtain ⟨s', hs⟩ := law_true ns
  exact ⟨[], _, [.fl (ns.map Mv.int)], .bl true, s', Sim.nil, .cons (.fl (flOf on hS) (denInts ns)) .nil, hs, fun p v H' _ _ d => by cases d; rfl⟩
end Mi
open PySem PySem.W PySem.Calls PyProof.Rows
theorem PySem.Challenge.cw_latebound_k08_processes_known_by_hand_holds : PySem.Challenge.rw_latebound_k08_processes_known_by_hand.Holds := by
  w_on; o_law
  refine HandSHeadRun.head_any (r := OpenLaw.row PySem.Challenge.rw_latebound_k08_processes_known_by_hand) (q := view (OpenLaw.row PySem.Challenge.rw_latebound_k08_processes_known_by_hand).prog [48]) (H := Mi.hk) (ob := Mi.ob) (M := 12000) (loose := Mi.loose) (d := HandSHeadRun.topDef (OpenLaw.row PySem.Challenge.rw_latebound_k08_processes_known_by_hand).prog 48) (kwd := []) Mi.obL_eq
    (by kernel_rfl) (fun s => by kernel_rfl) Mi.run (by kernel_rfl) (by kernel_rfl) (by kernel_rfl) (by rfl) (by first | assumption | decide +kernel) (by decide +kernel) ⟨rfl, rfl, rfl, rfl, rfl, by decide +kernel⟩ ?hw ?hc
  case hw => w_witness2
  case hc =>
    refine Mi.walk_ofG (l := PySem.Challenge.rw_latebound_k08_processes_known_by_hand) (n := 63) (k := 19) (x := "_law_script") rfl (by decide) (by kernel_rfl) ⟨rfl, by decide, by decide⟩ ?F
    intro w mg fa h Y G hmg0
    obtain ⟨K, KX, c⟩ := Y
    have hmg : mg ("law" : PySem.Str) = some (.ref fa) := by
      have e : (HandSHeadRun.topDef (OpenLaw.row PySem.Challenge.rw_latebound_k08_processes_known_by_hand).prog 48).name = ("law" : PySem.Str) := by kernel_rfl
      rw [← e]
      exact hmg0
    obtain ⟨fd, hb, hF⟩ := Mi.facts (P := (PySem.Challenge.rw_latebound_k08_processes_known_by_hand).prog) (w := w) KX G hmg c
    exact ⟨K, fd, Mi.spM (Mi.GG (PySem.Challenge.rw_latebound_k08_processes_known_by_hand).prog w K) Mi.m_law, KX, hb, fun H a ns hl on hS => Mi.lawSp hl on hS, fun base h1 h2 => hF base h1 h2 (fun p hp => by simp [Mi.tf] at hp)⟩
