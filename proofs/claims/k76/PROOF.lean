import PyProof.Rows.All
import Wide.All
import OpenK.AllK
import Wide.FinOn
import HandS.ForMost
import HandS.IsInst
import HandS.TupAny
import HandS.Deep
import HandS.Style
import HandS.Defaults
import KE.DataMinMax
import HandS.Star
import HandS.Zip
import KE.DataCmp
import KE.GoesEnum
import HandS.Head0
import HandS.Head1
import HandS.Head2
import HandS.HeadEnd
import HandS.HeadHook1
import HandS.HeadHook2
import HandS.HeadHook3
import HandS.HeadHook4
import PySem.Challenge.RW_latebound_k76_whole_one_that_brings_seve
set_option Elab.async false
set_option linter.all false
set_option maxRecDepth 100000
set_option maxHeartbeats 4000000
noncomputable section
namespace Mi
open PySem PySem.Spec PyProof.Rows L2
section
/-! ### values, objects, the store of the mirror -/
inductive Mty where
  | int | bool | str | list | tuple | dict | none
  deriving DecidableEq
def Mty.name : Mty → String
  | .int => "int" | .bool => "bool" | .str => "str" | .list => "list" | .tuple => "tuple" | .dict => "dict" | .none => "NoneType"
inductive Mv where
  | non | bl (b : Bool) | int (i : Int) | str (x : Str) | tup (ws : List Mv) | ref (n : Nat) | ty (t : Mty) | fl (ws : List Mv) | cls (c : Nat)
inductive Mo where
  | lst (ws : List Mv)
  | ins (c : Nat) (fs : List (Nat × Mv))
  | dk (kvs : List (Key × Mv))
  | dt (kvs : List (List Key × Mv))
  /-- a source of draws: the next ones, bound and draw -/
  | box (m : Nat) (ds : List (Int × Int))
inductive Mt where
  | nil | nod (l : Mt) (o : Option Mo) (r : Mt)
def Mt.get : Mt → Nat → Option Mo
  | .nil, _ => Option.none
  | .nod l o r, n => cond (Nat.beq n 0) o (cond (Nat.beq (n % 2) 1) (l.get (n / 2)) (r.get (n / 2 - 1)))
def Mt.set : Nat → Mt → Nat → Mo → Mt
  | 0, t, _, _ => t
  | f + 1, .nil, n, o => cond (Nat.beq n 0) (.nod .nil (some o) .nil) (cond (Nat.beq (n % 2) 1) (.nod (Mt.set f .nil (n / 2) o) Option.none .nil) (.nod .nil Option.none (Mt.set f .nil (n / 2 - 1) o)))
  | f + 1, .nod l v r, n, o => cond (Nat.beq n 0) (.nod l (some o) r) (cond (Nat.beq (n % 2) 1) (.nod (Mt.set f l (n / 2) o) v r) (.nod l v (Mt.set f r (n / 2 - 1) o)))
theorem cond_t {α : Type} {b : Bool} {x y : α} (h : b = true) : cond b x y = x := by subst h; rfl
theorem cond_f {α : Type} {b : Bool} {x y : α} (h : b = false) : cond b x y = y := by subst h; rfl
theorem beq_f {a b : Nat} (h : a ≠ b) : Nat.beq a b = false := by
  cases e : Nat.beq a b with
  | false => rfl
  | true => exact absurd (Nat.eq_of_beq_eq_true e) h
theorem beq_t {a : Nat} : Nat.beq a a = true := Nat.beq_refl a
theorem Mt.get_set : ∀ (f : Nat) (t : Mt) (n : Nat) (o : Mo), n + 1 < 2 ^ f → ∀ m, (Mt.set f t n o).get m = if m = n then some o else t.get m
  | 0, t, n, o, h, m => by simp at h
  | f + 1, .nil, n, o, h, m => by
    have hp : 2 ^ (f + 1) = 2 * 2 ^ f := by rw [Nat.pow_succ]; omega
    have nl : ∀ k, Mt.get .nil k = Option.none := fun _ => rfl
    rw [nl]
    unfold Mt.set
    by_cases h0 : n = 0
    · subst h0
      rw [cond_t beq_t]
      unfold Mt.get
      by_cases hm : m = 0
      · subst hm; rw [cond_t beq_t, if_pos rfl]
      · rw [cond_f (beq_f hm), if_neg hm, nl, nl]; cases Nat.beq (m % 2) 1 <;> rfl
    · rw [cond_f (beq_f h0)]
      by_cases h1 : n % 2 = 1
      · rw [h1, cond_t beq_t]
        unfold Mt.get
        by_cases hm : m = 0
        · subst hm; rw [cond_t beq_t, if_neg (fun e => h0 e.symm)]
        · rw [cond_f (beq_f hm)]
          by_cases hm1 : m % 2 = 1
          · rw [hm1, cond_t beq_t, Mt.get_set f .nil (n / 2) o (by omega) (m / 2), nl]
            by_cases e : m = n
            · rw [if_pos e, if_pos (by rw [e])]
            · rw [if_neg e, if_neg (by omega)]
          · rw [cond_f (beq_f hm1), nl, if_neg (by intro e; rw [e] at hm1; exact hm1 h1)]
      · rw [cond_f (beq_f h1)]
        unfold Mt.get
        by_cases hm : m = 0
        · subst hm; rw [cond_t beq_t, if_neg (fun e => h0 e.symm)]
        · rw [cond_f (beq_f hm)]
          by_cases hm1 : m % 2 = 1
          · rw [hm1, cond_t beq_t, nl, if_neg (by intro e; rw [e] at hm1; exact h1 hm1)]
          · rw [cond_f (beq_f hm1), Mt.get_set f .nil (n / 2 - 1) o (by omega) (m / 2 - 1), nl]
            by_cases e : m = n
            · rw [if_pos e, if_pos (by rw [e])]
            · rw [if_neg e, if_neg (by omega)]
  | f + 1, .nod l v r, n, o, h, m => by
    have hp : 2 ^ (f + 1) = 2 * 2 ^ f := by rw [Nat.pow_succ]; omega
    unfold Mt.set
    by_cases h0 : n = 0
    · subst h0
      rw [cond_t beq_t]
      unfold Mt.get
      by_cases hm : m = 0
      · subst hm; rw [cond_t beq_t, if_pos rfl]
      · rw [cond_f (beq_f hm), if_neg hm, cond_f (beq_f hm)]
    · rw [cond_f (beq_f h0)]
      by_cases h1 : n % 2 = 1
      · rw [h1, cond_t beq_t]
        unfold Mt.get
        by_cases hm : m = 0
        · subst hm; rw [cond_t beq_t, cond_t beq_t, if_neg (fun e => h0 e.symm)]
        · rw [cond_f (beq_f hm), cond_f (beq_f hm)]
          by_cases hm1 : m % 2 = 1
          · rw [hm1, cond_t beq_t, cond_t beq_t, Mt.get_set f l (n / 2) o (by omega) (m / 2)]
            by_cases e : m = n
            · rw [if_pos e, if_pos (by rw [e])]
            · rw [if_neg e, if_neg (by omega)]
          · rw [cond_f (beq_f hm1), cond_f (beq_f hm1), if_neg (by intro e; rw [e] at hm1; exact hm1 h1)]
      · rw [cond_f (beq_f h1)]
        unfold Mt.get
        by_cases hm : m = 0
        · subst hm; rw [cond_t beq_t, cond_t beq_t, if_neg (fun e => h0 e.symm)]
        · rw [cond_f (beq_f hm), cond_f (beq_f hm)]
          by_cases hm1 : m % 2 = 1
          · rw [hm1, cond_t beq_t, cond_t beq_t, if_neg (by intro e; rw [e] at hm1; exact h1 hm1)]
          · rw [cond_f (beq_f hm1), cond_f (beq_f hm1), Mt.get_set f r (n / 2 - 1) o (by omega) (m / 2 - 1)]
            by_cases e : m = n
            · rw [if_pos e, if_pos (by rw [e])]
            · rw [if_neg e, if_neg (by omega)]
structure Ms where
  sz : Nat
  t : Mt
def Ms.get (s : Ms) (n : Nat) : Option Mo := s.t.get n
def Ms.alloc (s : Ms) (o : Mo) : Option (Nat × Ms) := cond (Nat.ble s.sz 1000000) (some (s.sz, ⟨s.sz + 1, s.t.set 24 s.sz o⟩)) Option.none
def Ms.put (s : Ms) (n : Nat) (o : Mo) : Ms := ⟨s.sz, s.t.set 24 n o⟩
abbrev Me := List (Option Mv)
abbrev Fe := Me → Ms → Option (Mv × Ms)
abbrev Ft := Me → Ms → Option (Bool × Ms)
abbrev Fa := Me → Ms → Option (List Mv × Ms)
abbrev Fn := List Mv → Ms → Option (Mv × Ms)

/-! ### what a value of the mirror stands for -/
structure Mg where
  K : PySem.W.Frag
  cad : Nat → Addr
  nf : Nat
  nm : Nat → Str
  inj : ∀ i j, i < nf → j < nf → nm i = nm j → i = j
  /-- the next draw below k of a source that holds a, c, n: the draw, and what a and n become -/
  dr : Int → Int → Int → Int → Int × Int × Int
/-- the draws of a source -/
def Dr (dr : Int → Int → Int → Int → Int × Int × Int) : List (Int × Int) → Int → Int → Int → Prop
  | [], _, _, _ => True
  | (k, x) :: ds, a, c, n => (dr k a c n).1 = x ∧ Dr dr ds (dr k a c n).2.1 c (dr k a c n).2.2
/-- what a source holds -/
structure BoxOk (a c n : Int) : Prop where
  a0 : 0 ≤ a
  c0 : 0 ≤ c
  c1 : c < 2 ^ 62
  n0 : 0 ≤ n
/-- a list that nobody changes: known to the object or written -/
def FlAt (K : PySem.W.Frag) (p : List Addr) (H : Hp) (a : Addr) (vs : List V) : Prop := (∃ o, H a = some (.frz o (.lst vs))) ∨ SqL K (fun _ => Option.none) a vs
mutual
inductive Den (G : Mg) (p : List Addr) (H : Hp) : Mv → V → Prop
  | non : Den G p H .non .non
  | bl (b : Bool) : Den G p H (.bl b) (.bl b)
  | int (i : Int) : Den G p H (.int i) (.int i)
  | str (x : Str) : Den G p H (.str x) (.str x)
  | ty (t : Mty) : Den G p H (.ty t) (.ty t.name)
  | cls (c : Nat) : Den G p H (.cls c) (.ref (G.cad c))
  | ref {n : Nat} {a : Addr} : p[n]? = some a → Den G p H (.ref n) (.ref a)
  | tup {a : Addr} {ws : List Mv} {vs : List V} : SqT G.K H a vs → DenL G p H ws vs → Den G p H (.tup ws) (.ref a)
  | fl {a : Addr} {ws : List Mv} {vs : List V} : FlAt G.K p H a vs → DenL G p H ws vs → Den G p H (.fl ws) (.ref a)
inductive DenL (G : Mg) (p : List Addr) (H : Hp) : List Mv → List V → Prop
  | nil : DenL G p H [] []
  | cons {w : Mv} {v : V} {ws : List Mv} {vs : List V} : Den G p H w v → DenL G p H ws vs → DenL G p H (w :: ws) (v :: vs)
end
def DenO (G : Mg) (p : List Addr) (H : Hp) : Mo → HO → Prop
  | .lst ws, ho => ∃ vs, ho = .lst vs ∧ DenL G p H ws vs ∧ vs.length ≤ sizeLine
  | .ins c fs, ho => ∃ dx fs', ho = .ins (G.cad c) dx fs' ∧ fs'.map (·.1) = fs.map (fun q => G.nm q.1) ∧ DenL G p H (fs.map (·.2)) (fs'.map (·.2)) ∧ ∀ q ∈ fs, q.1 < G.nf
  | .dk kvs, ho => ∃ kvs', ho = .dK kvs' ∧ kvs'.map (·.1) = kvs.map (·.1) ∧ DenL G p H (kvs.map (·.2)) (kvs'.map (·.2))
  | .dt kvs, ho => ∃ kvs', ho = .dT kvs' ∧ kvs'.map (·.1) = kvs.map (·.1) ∧ DenL G p H (kvs.map (·.2)) (kvs'.map (·.2))
  | .box m ds, ho => ∃ a c n, ho = .lst [.int a, .int c, .int n] ∧ BoxOk a c n ∧ n ≤ m ∧ m + ds.length ≤ 1000000 ∧ Dr G.dr ds a c n
structure Sim (G : Mg) (p : List Addr) (s : Ms) (H : Hp) : Prop where
  len : p.length = s.sz
  few : s.sz ≤ 1000001
  nd : p.Nodup
  ob : ∀ n a, p[n]? = some a → ∃ o ho, s.get n = some o ∧ H a = some ho ∧ DenO G p H o ho
  out : ∀ n, s.sz ≤ n → s.get n = Option.none
structure Fra (p : List Addr) (H : Hp) (p' : List Addr) (H' : Hp) : Prop where
  pre : ∃ q, p' = p ++ q ∧ ∀ a ∈ q, a ∉ p → H a = Option.none
  kee : ∀ a o, H a = some o → a ∉ p → H' a = some o
theorem Fra.refl {p : List Addr} {H : Hp} : Fra p H p H := ⟨⟨[], by simp, fun a h => by simp at h⟩, fun _ _ e _ => e⟩
theorem Fra.notin {p p' : List Addr} {H H' : Hp} (f : Fra p H p' H') {a : Addr} {o : HO} (e : H a = some o) (n : a ∉ p) : a ∉ p' := by
  obtain ⟨q, rfl, hq⟩ := f.pre
  intro h
  rcases List.mem_append.mp h with h | h
  · exact n h
  · rw [hq a h n] at e; cases e
theorem Fra.trans {p p1 p2 : List Addr} {H H1 H2 : Hp} (f : Fra p H p1 H1) (g : Fra p1 H1 p2 H2) : Fra p H p2 H2 := by
  obtain ⟨q, e, hq⟩ := f.pre
  obtain ⟨q', e', hq'⟩ := g.pre
  refine ⟨⟨q ++ q', by rw [e', e, List.append_assoc], fun a ha np => ?_⟩, fun a o h n => g.kee a o (f.kee a o h n) (f.notin h n)⟩
  rcases List.mem_append.mp ha with h | h
  · exact hq a h np
  · cases h1 : H a with
    | none => rfl
    | some o =>
      have z := f.kee a o h1 np
      rw [hq' a h (f.notin h1 np)] at z
      cases z
theorem Fra.at {p p' : List Addr} {H H' : Hp} (f : Fra p H p' H') {n : Nat} {a : Addr} (h : p[n]? = some a) : p'[n]? = some a := by
  obtain ⟨q, rfl, _⟩ := f.pre
  rw [List.getElem?_append_left (List.getElem?_eq_some_iff.mp h).1]
  exact h
/-- no tuple, nothing locked is among the changeable ones -/
theorem Sim.kind {G : Mg} {p : List Addr} {s : Ms} {H : Hp} (S : Sim G p s H) {a : Addr} (h : a ∈ p) : (∀ vs, H a ≠ some (.tup vs)) ∧ ∀ o u, H a ≠ some (.frz o u) := by
  obtain ⟨n, hn⟩ := List.mem_iff_getElem?.mp h
  obtain ⟨o, ho, _, h2, d⟩ := S.ob n a hn
  constructor
  · intro vs e
    rw [e] at h2; cases h2
    cases o with
    | lst ws => obtain ⟨_, z, _⟩ := d; cases z
    | ins c fs => obtain ⟨_, _, z, _⟩ := d; cases z
    | dk kvs => obtain ⟨_, z, _⟩ := d; cases z
    | dt kvs => obtain ⟨_, z, _⟩ := d; cases z
    | box m ds => obtain ⟨_, _, _, z, _⟩ := d; cases z
  · intro ob u e
    rw [e] at h2; cases h2
    cases o with
    | lst ws => obtain ⟨_, z, _⟩ := d; cases z
    | ins c fs => obtain ⟨_, _, z, _⟩ := d; cases z
    | dk kvs => obtain ⟨_, z, _⟩ := d; cases z
    | dt kvs => obtain ⟨_, z, _⟩ := d; cases z
    | box m ds => obtain ⟨_, _, _, z, _⟩ := d; cases z
/-- what stays: tuples and locked things -/
structure Stays (p : List Addr) (H : Hp) (p' : List Addr) (H' : Hp) : Prop where
  ix : ∀ (n : Nat) (a : Addr), p[n]? = some a → p'[n]? = some a
  tp : ∀ a vs, H a = some (.tup vs) → H' a = some (.tup vs)
  fz : ∀ a o u, H a = some (.frz o u) → H' a = some (.frz o u)
theorem Stays.refl {p : List Addr} {H : Hp} : Stays p H p H := ⟨fun _ _ e => e, fun _ _ e => e, fun _ _ _ e => e⟩
theorem Stays.trans {p p1 p2 : List Addr} {H H1 H2 : Hp} (a : Stays p H p1 H1) (b : Stays p1 H1 p2 H2) : Stays p H p2 H2 :=
  ⟨fun n x e => b.ix n x (a.ix n x e), fun x vs e => b.tp x vs (a.tp x vs e), fun x o u e => b.fz x o u (a.fz x o u e)⟩
theorem Fra.stays {G : Mg} {p p' : List Addr} {s : Ms} {H H' : Hp} (S : Sim G p s H) (f : Fra p H p' H') : Stays p H p' H' :=
  ⟨fun n a h => f.at h, fun a vs e => f.kee a _ e fun h => (S.kind h).1 vs e, fun a o u e => f.kee a _ e fun h => (S.kind h).2 o u e⟩
theorem Stays.tup {G : Mg} {p p' : List Addr} {H H' : Hp} {a : Addr} {vs : List V} (z : Stays p H p' H') (h : SqT G.K H a vs) : SqT G.K H' a vs := by
  rcases h with h | h
  · rcases h with h | ⟨o, h⟩
    · exact .inl (.inl (z.tp a vs h))
    · exact .inl (.inr ⟨o, z.fz a o _ h⟩)
  · exact .inr h
theorem Stays.fl {K : PySem.W.Frag} {p p' : List Addr} {H H' : Hp} {a : Addr} {vs : List V} (z : Stays p H p' H') (h : FlAt K p H a vs) : FlAt K p' H' a vs := by
  rcases h with ⟨o, h⟩ | h
  · exact .inl ⟨o, z.fz a o _ h⟩
  · exact .inr h
mutual
theorem Den.stay {G : Mg} {p p' : List Addr} {H H' : Hp} (z : Stays p H p' H') : ∀ {w : Mv} {v : V}, Den G p H w v → Den G p' H' w v
  | _, _, .non => .non
  | _, _, .bl b => .bl b
  | _, _, .int i => .int i
  | _, _, .str x => .str x
  | _, _, .ty t => .ty t
  | _, _, .cls c => .cls c
  | _, _, .ref h => .ref (z.ix _ _ h)
  | _, _, .tup h l => .tup (Stays.tup (G := G) z h) (DenL.stay z l)
  | _, _, .fl h l => .fl (Stays.fl z h) (DenL.stay z l)
theorem DenL.stay {G : Mg} {p p' : List Addr} {H H' : Hp} (z : Stays p H p' H') : ∀ {ws : List Mv} {vs : List V}, DenL G p H ws vs → DenL G p' H' ws vs
  | _, _, .nil => .nil
  | _, _, .cons h l => .cons (Den.stay z h) (DenL.stay z l)
end
theorem DenO.stay {G : Mg} {p p' : List Addr} {H H' : Hp} (z : Stays p H p' H') {o : Mo} {ho : HO} (h : DenO G p H o ho) : DenO G p' H' o ho := by
  cases o with
  | lst ws => obtain ⟨vs, e, l, n⟩ := h; exact ⟨vs, e, l.stay z, n⟩
  | ins c fs => obtain ⟨dx, fs', e, n, l, b⟩ := h; exact ⟨dx, fs', e, n, l.stay z, b⟩
  | dk kvs => obtain ⟨kvs', e, n, l⟩ := h; exact ⟨kvs', e, n, l.stay z⟩
  | dt kvs => obtain ⟨kvs', e, n, l⟩ := h; exact ⟨kvs', e, n, l.stay z⟩
  | box m ds => exact h
theorem Den.fra {G : Mg} {p p' : List Addr} {s : Ms} {H H' : Hp} {w : Mv} {v : V} (h : Den G p H w v) (S : Sim G p s H) (f : Fra p H p' H') : Den G p' H' w v := h.stay (f.stays S)
theorem DenL.fra {G : Mg} {p p' : List Addr} {s : Ms} {H H' : Hp} {w : List Mv} {v : List V} (h : DenL G p H w v) (S : Sim G p s H) (f : Fra p H p' H') : DenL G p' H' w v := h.stay (f.stays S)
theorem DenL.length {G : Mg} {p : List Addr} {H : Hp} : ∀ {ws : List Mv} {vs : List V}, DenL G p H ws vs → ws.length = vs.length
  | _, _, .nil => rfl
  | _, _, .cons _ l => by rw [List.length_cons, List.length_cons, l.length]
theorem DenL.get {G : Mg} {p : List Addr} {H : Hp} : ∀ {ws : List Mv} {vs : List V}, DenL G p H ws vs → ∀ {i : Nat} {w : Mv}, ws[i]? = some w → ∃ v, vs[i]? = some v ∧ Den G p H w v
  | _, _, .nil, i, w, e => by simp at e
  | _, _, .cons h l, 0, w, e => by simp at e; subst e; exact ⟨_, rfl, h⟩
  | _, _, .cons h l, i + 1, w, e => by simpa using l.get (i := i) (by simpa using e)
theorem DenL.append {G : Mg} {p : List Addr} {H : Hp} : ∀ {ws ws' : List Mv} {vs vs' : List V}, DenL G p H ws vs → DenL G p H ws' vs' → DenL G p H (ws ++ ws') (vs ++ vs')
  | _, _, _, _, .nil, h => h
  | _, _, _, _, .cons a l, h => .cons a (l.append h)
theorem DenL.drop {G : Mg} {p : List Addr} {H : Hp} : ∀ (n : Nat) {ws : List Mv} {vs : List V}, DenL G p H ws vs → DenL G p H (ws.drop n) (vs.drop n)
  | 0, _, _, h => h
  | _ + 1, _, _, .nil => .nil
  | n + 1, _, _, .cons _ l => l.drop n
theorem DenL.take {G : Mg} {p : List Addr} {H : Hp} : ∀ (n : Nat) {ws : List Mv} {vs : List V}, DenL G p H ws vs → DenL G p H (ws.take n) (vs.take n)
  | 0, _, _, _ => .nil
  | _ + 1, _, _, .nil => .nil
  | n + 1, _, _, .cons h l => .cons h (l.take n)
theorem DenL.set {G : Mg} {p : List Addr} {H : Hp} {w : Mv} {v : V} (h : Den G p H w v) : ∀ {ws : List Mv} {vs : List V} (i : Nat), DenL G p H ws vs → DenL G p H (ws.set i w) (vs.set i v)
  | _, _, _, .nil => .nil
  | _, _, 0, .cons _ l => .cons h l
  | _, _, i + 1, .cons a l => .cons a (DenL.set h i l)
theorem DenL.erase {G : Mg} {p : List Addr} {H : Hp} : ∀ {ws : List Mv} {vs : List V} (i : Nat), DenL G p H ws vs → DenL G p H (ws.eraseIdx i) (vs.eraseIdx i)
  | _, _, _, .nil => .nil
  | _, _, 0, .cons _ l => l
  | _, _, i + 1, .cons a l => .cons a (l.erase i)
theorem nodup_at {α : Type} {l : List α} (hl : l.Nodup) {i j : Nat} {x : α} (a : l[i]? = some x) (b : l[j]? = some x) : i = j := by
  obtain ⟨h1, e1⟩ := List.getElem?_eq_some_iff.mp a
  obtain ⟨h2, e2⟩ := List.getElem?_eq_some_iff.mp b
  exact (List.getElem_inj hl).mp (e1.trans e2.symm)
/-! ### the store: new objects, changed ones -/
theorem Ms.alloc_eq {s s' : Ms} {o : Mo} {n : Nat} (h : s.alloc o = some (n, s')) : n = s.sz ∧ s'.sz = s.sz + 1 ∧ s.sz ≤ 1000000 ∧ ∀ m, s'.get m = if m = s.sz then some o else s.get m := by
  unfold Ms.alloc at h
  cases e : Nat.ble s.sz 1000000 with
  | false => rw [e] at h; cases h
  | true =>
    rw [e] at h
    have hl := Nat.le_of_ble_eq_true e
    cases h
    refine ⟨rfl, rfl, hl, fun m => ?_⟩
    exact Mt.get_set 24 s.t s.sz o (by omega) m
theorem Sim.new {G : Mg} {p : List Addr} {s s' : Ms} {H : Hp} {o : Mo} {ho : HO} {n : Nat} {a : Addr} {H' : Hp} (S : Sim G p s H) (e : s.alloc o = some (n, s')) (ha : H a = Option.none) (d : DenO G p H o ho) (ha' : H' a = some ho) (hk : ∀ b u, H b = some u → H' b = some u) :
    Sim G (p ++ [a]) s' H' ∧ Fra p H (p ++ [a]) H' ∧ Den G (p ++ [a]) H' (.ref n) (.ref a) := by
  obtain ⟨rfl, h2, h3, h4⟩ := Ms.alloc_eq e
  have nin : a ∉ p := fun h => by
    obtain ⟨k, hk'⟩ := List.mem_iff_getElem?.mp h
    obtain ⟨_, _, _, z, _⟩ := S.ob k a hk'
    rw [ha] at z; cases z
  have f : Fra p H (p ++ [a]) H' := ⟨⟨[a], rfl, fun b hb _ => by rw [List.mem_singleton.mp hb]; exact ha⟩, fun b u e _ => hk b u e⟩
  have st := f.stays S
  have hlen : (p ++ [a])[s.sz]? = some a := by rw [← S.len]; simp
  refine ⟨⟨by rw [List.length_append, S.len, h2]; rfl, by omega, ?_, fun m b hb => ?_, fun m hm => ?_⟩, f, .ref hlen⟩
  · rw [List.nodup_append]
    exact ⟨S.nd, by simp, fun x hx y hy => by rw [List.mem_singleton.mp hy]; rintro rfl; exact nin hx⟩
  · by_cases hmn : m = s.sz
    · subst hmn
      rw [hlen] at hb; cases hb
      exact ⟨o, ho, by rw [h4, if_pos rfl], ha', d.stay st⟩
    · have hlt : m < p.length := by
        have := (List.getElem?_eq_some_iff.mp hb).1
        rw [List.length_append] at this
        have := S.len
        simp at *
        omega
      rw [List.getElem?_append_left hlt] at hb
      obtain ⟨o1, ho1, q1, q2, q3⟩ := S.ob m b hb
      exact ⟨o1, ho1, by rw [h4, if_neg hmn]; exact q1, hk _ _ q2, q3.stay st⟩
  · rw [h4, if_neg (by omega)]
    exact S.out m (by omega)
theorem Sim.get {G : Mg} {p : List Addr} {s : Ms} {H : Hp} (S : Sim G p s H) {n : Nat} {a : Addr} {o : Mo} (h : p[n]? = some a) (e : s.get n = some o) : ∃ ho, H a = some ho ∧ DenO G p H o ho := by
  obtain ⟨o', ho, q1, q2, q3⟩ := S.ob n a h
  rw [e] at q1; cases q1
  exact ⟨ho, q2, q3⟩
theorem Sim.put {G : Mg} {p : List Addr} {s : Ms} {H : Hp} {o : Mo} {ho : HO} {n : Nat} {a : Addr} (S : Sim G p s H) (h : p[n]? = some a) (nt : ∀ vs, ho ≠ .tup vs) (d : DenO G p H o ho) : Sim G p (s.put n o) (upd H a ho) ∧ Fra p H p (upd H a ho) := by
  have hn : n < s.sz := by rw [← S.len]; exact (List.getElem?_eq_some_iff.mp h).1
  have ham : a ∈ p := List.mem_of_getElem? h
  have f : Fra p H p (upd H a ho) := ⟨⟨[], by simp, fun b hb => by simp at hb⟩, fun b u e nb => by
    have hne : b ≠ a := fun z => nb (by rw [z]; exact ham)
    rw [upd_ne hne]; exact e⟩
  have st := f.stays S
  have g : ∀ m, (s.put n o).get m = if m = n then some o else s.get m := fun m => Mt.get_set 24 s.t n o (by have := S.few; omega) m
  refine ⟨⟨S.len, S.few, S.nd, fun m b hb => ?_, fun m hm => ?_⟩, f⟩
  · by_cases hmn : m = n
    · subst hmn
      rw [h] at hb; cases hb
      exact ⟨o, ho, by rw [g, if_pos rfl], upd_same, d.stay st⟩
    · obtain ⟨o1, ho1, q1, q2, q3⟩ := S.ob m b hb
      have hne : b ≠ a := fun z => hmn (nodup_at S.nd (z ▸ hb) h)
      exact ⟨o1, ho1, by rw [g, if_neg hmn]; exact q1, by rw [upd_ne hne]; exact q2, q3.stay st⟩
  · rw [g, if_neg (by have : s.sz ≤ m := hm; omega)]
    exact S.out m hm

end
section
/-! ### readings of mirrored functions -/
structure EnvR (G : Mg) (p : List Addr) (H : Hp) (r : Me) (σ : L2.St) : Prop where
  len : r.length = σ.length
  get : ∀ (i : Nat) (w : Mv), r[i]? = some (some w) → ∃ v, σ[i]? = some (some v) ∧ Den G p H w v
theorem EnvR.fra {G : Mg} {p p' : List Addr} {s : Ms} {H H' : Hp} {r : Me} {σ : L2.St} (e : EnvR G p H r σ) (S : Sim G p s H) (f : Fra p H p' H') : EnvR G p' H' r σ :=
  ⟨e.len, fun i w h => let ⟨v, q, d⟩ := e.get i w h; ⟨v, q, d.fra S f⟩⟩
theorem EnvR.set {G : Mg} {p : List Addr} {H : Hp} {r : Me} {σ : L2.St} {i : Nat} {w : Mv} {v : V} (e : EnvR G p H r σ) (d : Den G p H w v) : EnvR G p H (r.set i (some w)) (σ.set i (some v)) := by
  refine ⟨by rw [List.length_set, List.length_set, e.len], fun j x h => ?_⟩
  by_cases hj : i = j
  · subst hj
    have hl : i < r.length := by
      have := (List.getElem?_eq_some_iff.mp h).1
      rwa [List.length_set] at this
    rw [List.getElem?_set_self hl] at h
    cases h
    exact ⟨v, List.getElem?_set_self (by rw [← e.len]; exact hl), d⟩
  · rw [List.getElem?_set_ne hj] at h
    rw [List.getElem?_set_ne hj]
    exact e.get j x h
def After (G : Mg) (p : List Addr) (H : Hp) (w : Mv) (s' : Ms) (Q : VK) : Prop := ∀ p' v H', Sim G p' s' H' → Fra p H p' H' → Den G p' H' w v → Q v H'
def tI (G : Mg) (F : Fe) : TE := fun σ H Q => ∃ p s r w s', Sim G p s H ∧ EnvR G p H r σ ∧ F r s = some (w, s') ∧ After G p H w s' Q
def tT (G : Mg) (F : Ft) : TT := fun σ H Q => ∃ p s r b s', Sim G p s H ∧ EnvR G p H r σ ∧ F r s = some (b, s') ∧ ∀ p' H', Sim G p' s' H' → Fra p H p' H' → Q b H'
def tA (G : Mg) (F : Fa) : TA := fun σ H Q => ∃ p s r ws s', Sim G p s H ∧ EnvR G p H r σ ∧ F r s = some (ws, s') ∧ ∀ p' vs H', Sim G p' s' H' → Fra p H p' H' → DenL G p' H' ws vs → Q vs H'
def rF (G : Mg) (f : Fn) : List V → Hp → VK → Prop := fun vs H Q => ∃ p s ws w s', Sim G p s H ∧ DenL G p H ws vs ∧ f ws s = some (w, s') ∧ After G p H w s' Q
def q1R (G : Mg) (f : Mv → Ms → Option (Mv × Ms)) : V → Hp → VK → Prop := fun x H Q => ∃ p s a w s', Sim G p s H ∧ Den G p H a x ∧ f a s = some (w, s') ∧ After G p H w s' Q
def q2R (G : Mg) (f : Mv → Mv → Ms → Option (Mv × Ms)) : R2 := fun x y H Q => ∃ p s a b w s', Sim G p s H ∧ Den G p H a x ∧ Den G p H b y ∧ f a b s = some (w, s') ∧ After G p H w s' Q
/-- m(o, args) -/
def rM (G : Mg) (f : Mv → List Mv → Ms → Option (Mv × Ms)) : V → List V → Hp → VK → Prop := fun x vs H Q => ∃ p s a ws w s', Sim G p s H ∧ Den G p H a x ∧ DenL G p H ws vs ∧ f a ws s = some (w, s') ∧ After G p H w s' Q
def spM (G : Mg) (f : Fn) : Sp := fun vs H Q _ => rF G f vs H Q
theorem After.of {G : Mg} {p p1 : List Addr} {H H1 : Hp} {w : Mv} {s' : Ms} {Q : VK} (f : Fra p H p1 H1) (a : After G p H w s' Q) : After G p1 H1 w s' Q := fun p' v H' S' f' d => a p' v H' S' (f.trans f') d

/-! ### the mirror's words -/
def mvar (i : Nat) : Fe := fun r s => match r[i]? with
  | some (some w) => some (w, s)
  | _ => none
def mcon (w : Mv) : Fe := fun _ s => some (w, s)
def mno : Fe := fun _ _ => none
def mop1 (f : Mv → Ms → Option (Mv × Ms)) (A : Fe) : Fe := fun r s => (A r s).bind fun x => f x.1 x.2
def mop2 (f : Mv → Mv → Ms → Option (Mv × Ms)) (A B : Fe) : Fe := fun r s => (A r s).bind fun x => (B r x.2).bind fun y => f x.1 y.1 y.2
def mnil : Fa := fun _ s => some ([], s)
def mcons (A : Fe) (B : Fa) : Fa := fun r s => (A r s).bind fun x => (B r x.2).bind fun y => some (x.1 :: y.1, y.2)
def mcall (f : Fn) (A : Fa) : Fe := fun r s => (A r s).bind fun x => f x.1 x.2
def mmth (f : Mv → List Mv → Ms → Option (Mv × Ms)) (A : Fe) (B : Fa) : Fe := fun r s => (A r s).bind fun x => (B r x.2).bind fun y => f x.1 y.1 y.2
def mchain (f g : Mv → Mv → Ms → Option (Mv × Ms)) (A B C : Fe) : Fe := fun r s => (A r s).bind fun x => (B r x.2).bind fun y => (f x.1 y.1 y.2).bind fun z => match z.1 with
  | .bl true => (C r z.2).bind fun u => g y.1 u.1 u.2
  | .bl false => some (.bl false, z.2)
  | _ => none
def tru : Mv → Ms → Option Bool
  | .non, _ => some false
  | .bl b, _ => some b
  | .int i, _ => some (i != 0)
  | .str x, _ => cond (Nat.ble x.length 16777216) (some (x.length != 0)) none
  | .tup ws, _ => some (!ws.isEmpty)
  | .ref n, s => match s.get n with
    | some (.lst ws) => some (!ws.isEmpty)
    | _ => none
  | _, _ => none
def mtst (A : Fe) : Ft := fun r s => (A r s).bind fun x => (tru x.1 x.2).map fun b => (b, x.2)
def mtB (A : Fe) : Ft := fun r s => (A r s).bind fun x => match x.1 with
  | .bl b => some (b, x.2)
  | _ => none
def mand (A B : Ft) : Ft := fun r s => (A r s).bind fun x => cond x.1 (B r x.2) (some (false, x.2))
def mor (A B : Ft) : Ft := fun r s => (A r s).bind fun x => cond x.1 (some (true, x.2)) (B r x.2)
def mnot (A : Ft) : Ft := fun r s => (A r s).map fun x => (!x.1, x.2)
def mandV (A B : Fe) : Fe := fun r s => (A r s).bind fun x => match x.1 with
  | .bl true => B r x.2
  | .bl false => some (.bl false, x.2)
  | _ => none
def morV (A B : Fe) : Fe := fun r s => (A r s).bind fun x => match x.1 with
  | .bl false => B r x.2
  | .bl true => some (.bl true, x.2)
  | _ => none
def mnotV (A : Fe) : Fe := fun r s => (A r s).bind fun x => match x.1 with
  | .bl b => some (.bl (!b), x.2)
  | _ => none
def mif (T : Ft) (A B : Fe) : Fe := fun r s => (T r s).bind fun x => cond x.1 (A r x.2) (B r x.2)

/-! ### one lemma a construct -/
section
variable {X : Cx} {G : Mg} {e a b c : Expr} {pos : Pos}
theorem pe_imp {t t' : TE} (h : PE X e t) (i : ∀ σ H Q, t' σ H Q → t σ H Q) : PE X e t' := ⟨fun pins s σ H Q I q => h.run pins s σ H Q I (i σ H Q q)⟩
theorem pt_imp {t t' : TT} (h : PT X e t) (i : ∀ σ H Q, t' σ H Q → t σ H Q) : PT X e t' := ⟨fun pins s σ H Q I q => h.run pins s σ H Q I (i σ H Q q)⟩
theorem pw_imp {t t' : TT} (h : PW X e t) (i : ∀ σ H Q, t' σ H Q → t σ H Q) : PW X e t' := ⟨fun wh pins s σ H Q I q => h.run wh pins s σ H Q I (i σ H Q q)⟩
theorem pa_imp {es : List Expr} {t t' : TA} (h : PA X es t) (i : ∀ σ H Q, t' σ H Q → t σ H Q) : PA X es t' := ⟨fun ps pins s σ H Q I q => h.run ps pins s σ H Q I (i σ H Q q)⟩
theorem pm_no : PE X e (tI G mno) := ⟨fun pins s σ H Q I q => by obtain ⟨_, _, _, _, _, _, _, z, _⟩ := q; cases z⟩
theorem mvar_eq {i : Nat} {r : Me} {s s' : Ms} {w : Mv} (h : mvar i r s = some (w, s')) : r[i]? = some (some w) ∧ s' = s := by
  unfold mvar at h
  split at h
  · rename_i w' e; cases h; exact ⟨e, rfl⟩
  · cases h
theorem pm_var {i : Nat} (h : PE X e (tVar i)) : PE X e (tI G (mvar i)) := pe_imp h fun σ H Q ⟨p, s, r, w, s', S, E, q, k⟩ => by
  obtain ⟨h1, rfl⟩ := mvar_eq q
  obtain ⟨v, h2, d⟩ := E.get i w h1
  exact ⟨v, h2, k p v H S Fra.refl d⟩
theorem pm_con {v : V} {w : Mv} (h : PE X e (tC v)) (d : ∀ p s H, Sim G p s H → Den G p H w v) : PE X e (tI G (mcon w)) := pe_imp h fun σ H Q ⟨p, s, r, w', s', S, E, q, k⟩ => by
  cases q
  exact k p v H S Fra.refl (d p s H S)
theorem t_op1 {f : Mv → Ms → Option (Mv × Ms)} {A : Fe} {σ : L2.St} {H : Hp} {Q : VK} (h : tI G (mop1 f A) σ H Q) : tUn (q1R G f) (tI G A) σ H Q := by
  obtain ⟨p, s, r, w, s', S, E, q, k⟩ := h
  obtain ⟨⟨x, s1⟩, q1, q2⟩ := Option.bind_eq_some_iff.mp q
  exact ⟨p, s, r, x, s1, S, E, q1, fun p1 v1 H1 S1 f1 d1 => ⟨p1, s1, x, w, s', S1, d1, q2, k.of f1⟩⟩
theorem t_op2 {f : Mv → Mv → Ms → Option (Mv × Ms)} {A B : Fe} {σ : L2.St} {H : Hp} {Q : VK} (h : tI G (mop2 f A B) σ H Q) : tOp (q2R G f) (tI G A) (tI G B) σ H Q := by
  obtain ⟨p, s, r, w, s', S, E, q, k⟩ := h
  obtain ⟨⟨x, s1⟩, q1, q2⟩ := Option.bind_eq_some_iff.mp q
  obtain ⟨⟨y, s2⟩, q3, q4⟩ := Option.bind_eq_some_iff.mp q2
  exact ⟨p, s, r, x, s1, S, E, q1, fun p1 v1 H1 S1 f1 d1 => ⟨p1, s1, r, y, s2, S1, E.fra S f1, q3, fun p2 v2 H2 S2 f2 d2 => ⟨p2, s2, x, y, w, s', S2, d1.fra S1 f2, d2, q4, k.of (f1.trans f2)⟩⟩⟩
theorem pm_un {op : UnaryOp} {f : Mv → Ms → Option (Mv × Ms)} {A : Fe} (ho : UnR X (unaryOp op) (q1R G f)) (ha : PE X a (tI G A)) : PE X (.UnaryOp op a pos) (tI G (mop1 f A)) := pe_imp (pe_un ho ha) fun _ _ _ h => t_op1 h
theorem pm_bin {op : Operator} {f : Mv → Mv → Ms → Option (Mv × Ms)} {A B : Fe} (ho : OpR X (binaryOp op) (q2R G f)) (ha : PE X a (tI G A)) (hb : PE X b (tI G B)) : PE X (.BinOp a op b pos) (tI G (mop2 f A B)) := pe_imp (pe_op ho ha hb) fun _ _ _ h => t_op2 h
theorem pm_cmp {op : CmpOp} {f : Mv → Mv → Ms → Option (Mv × Ms)} {A B : Fe} (ho : OpR X (compareOp op) (q2R G f)) (ha : PE X a (tI G A)) (hb : PE X b (tI G B)) (hm : behindInMarks op b = false) : PE X (.Compare a [op] [b] pos) (tI G (mop2 f A B)) := pe_imp (pe_cmpR ho ha hb hm) fun _ _ _ h => t_op2 h
theorem mtB_eq {A : Fe} {r : Me} {s s' : Ms} {b : Bool} (h : mtB A r s = some (b, s')) : A r s = some (.bl b, s') := by
  obtain ⟨⟨x, s1⟩, q1, q2⟩ := Option.bind_eq_some_iff.mp h
  cases x with
  | bl c => cases q2; exact q1
  | _ => cases q2
theorem Den.bl_eq {p : List Addr} {H : Hp} {v : V} {b : Bool} (d : Den G p H (.bl b) v) : v = .bl b := by cases d; rfl
theorem t_B {A : Fe} {σ : L2.St} {H : Hp} {Q : Bool → Hp → Prop} (h : tT G (mtB A) σ H Q) : tTest (tI G A) σ H Q := by
  obtain ⟨p, s, r, b, s', S, E, q, k⟩ := h
  exact ⟨p, s, r, .bl b, s', S, E, mtB_eq q, fun p1 v1 H1 S1 f1 d1 => ⟨b, d1.bl_eq, k p1 H1 S1 f1⟩⟩
theorem pm_tcmp {op : CmpOp} {f : Mv → Mv → Ms → Option (Mv × Ms)} {A B : Fe} (ho : OpR X (compareOp op) (q2R G f)) (ha : PE X a (tI G A)) (hb : PE X b (tI G B)) (hm : behindInMarks op b = false) : PT X (.Compare a [op] [b] pos) (tT G (mtB (mop2 f A B))) :=
  pt_imp (pt_cmpR ho ha hb hm) fun σ H Q h => by
    obtain ⟨p, s, r, c, s', S, E, q, k⟩ := t_B h
    exact t_op2 ⟨p, s, r, c, s', S, E, q, k⟩
theorem t_chain {f g : Mv → Mv → Ms → Option (Mv × Ms)} {A B C : Fe} {σ : L2.St} {H : Hp} {Q : VK} (h : tI G (mchain f g A B C) σ H Q) : tChain (q2R G f) (q2R G g) (tI G A) (tI G B) (tI G C) σ H Q := by
  obtain ⟨p, s, r, w, s', S, E, q, k⟩ := h
  obtain ⟨⟨x, s1⟩, q1, q2⟩ := Option.bind_eq_some_iff.mp q
  obtain ⟨⟨y, s2⟩, q3, q4⟩ := Option.bind_eq_some_iff.mp q2
  obtain ⟨⟨z, s3⟩, q5, q6⟩ := Option.bind_eq_some_iff.mp q4
  refine ⟨p, s, r, x, s1, S, E, q1, fun p1 v1 H1 S1 f1 d1 => ⟨p1, s1, r, y, s2, S1, E.fra S f1, q3, fun p2 v2 H2 S2 f2 d2 => ⟨p2, s2, x, y, z, s3, S2, d1.fra S1 f2, d2, q5, fun p3 v3 H3 S3 f3 d3 => ?_⟩⟩⟩
  cases z with
  | bl c =>
    cases d3
    refine ⟨c, rfl, ?_⟩
    cases c with
    | false => rw [if_neg Bool.false_ne_true]; cases q6; exact k p3 _ H3 S3 ((f1.trans f2).trans f3) (.bl false)
    | true =>
      rw [if_pos rfl]
      obtain ⟨⟨u, s4⟩, q7, q8⟩ := Option.bind_eq_some_iff.mp q6
      exact ⟨p3, s3, r, u, s4, S3, ((E.fra S f1).fra S1 f2).fra S2 f3, q7, fun p4 v4 H4 S4 f4 d4 => ⟨p4, s4, y, u, w, s', S4, (d2.fra S2 f3).fra S3 f4, d4, q8, k.of (((f1.trans f2).trans f3).trans f4)⟩⟩
  | _ => cases q6
theorem pm_chain {op op' : CmpOp} {f g : Mv → Mv → Ms → Option (Mv × Ms)} {A B C : Fe} (ho : OpR X (compareOp op) (q2R G f)) (ho' : OpR X (compareOp op') (q2R G g)) (ha : PE X a (tI G A)) (hb : PE X b (tI G B)) (hc : PE X c (tI G C)) (hm : lastMarks [op, op'] [b, c] = false := by with_unfolding_all rfl) :
    PE X (.Compare a [op, op'] [b, c] pos) (tI G (mchain f g A B C)) := pe_imp (pe_chain ho ho' ha hb hc hm) fun _ _ _ h => t_chain h
theorem pm_tchain {op op' : CmpOp} {f g : Mv → Mv → Ms → Option (Mv × Ms)} {A B C : Fe} (ho : OpR X (compareOp op) (q2R G f)) (ho' : OpR X (compareOp op') (q2R G g)) (ha : PE X a (tI G A)) (hb : PE X b (tI G B)) (hc : PE X c (tI G C)) (hm : lastMarks [op, op'] [b, c] = false := by with_unfolding_all rfl) :
    PT X (.Compare a [op, op'] [b, c] pos) (tT G (mtB (mchain f g A B C))) :=
  pt_imp (pt_chain ho ho' ha hb hc hm) fun σ H Q h => by
    obtain ⟨p, s, r, c, s', S, E, q, k⟩ := t_B h
    exact t_chain ⟨p, s, r, c, s', S, E, q, k⟩
theorem pm_tB {A : Fe} (h : PE X e (tI G A)) (he : ∀ whole, isTrue e X.env whole = (do let v ← whole; standAt e.pos; holding [v] (truthy v)) := by intro _; rfl) : PT X e (tT G (mtB A)) := pt_imp (pt_val h he) fun σ H Q q => t_B q
/-! truth of any value -/
theorem tru_den {p : List Addr} {s : Ms} {H : Hp} {w : Mv} {v : V} {k : Bool} (S : Sim G p s H) (d : Den G p H w v) (h : tru w s = some k) (hK : X.K = G.K) : TruV X.K v H k := by
  cases d with
  | non => cases h; rfl
  | bl b => cases h; rfl
  | int i => cases h; rfl
  | str x =>
    simp only [tru] at h
    cases q : Nat.ble x.length 16777216 with
    | false => rw [q] at h; cases h
    | true =>
      rw [q] at h; cases h
      refine ⟨Nat.le_of_ble_eq_true q, ?_⟩
      cases x.length with
      | zero => rfl
      | succ n =>
        have h1 : (n + 1 != 0) = true := by simp
        have h2 : (((n + 1 : Nat) : Int) != 0) = true := by simp; omega
        rw [h1, h2]
  | tup h1 l =>
    cases h
    refine .inr (.inl ⟨_, by rw [hK]; exact h1, ?_⟩)
    cases l with
    | nil => rfl
    | cons _ _ => rfl
  | ref hn =>
    simp only [tru] at h
    split at h
    · rename_i ws e
      cases h
      obtain ⟨ho, h1, vs, rfl, l, _⟩ := S.get hn e
      refine .inl ⟨vs, SqL.of h1, ?_⟩
      cases l with
      | nil => rfl
      | cons _ _ => rfl
    · cases h
  | ty t => cases h
  | cls c => cases h
  | fl _ _ => cases h
theorem pm_tst {A : Fe} (h : PE X e (tI G A)) (hK : X.K = G.K := by rfl) (he : ∀ whole, isTrue e X.env whole = (do let v ← whole; standAt e.pos; holding [v] (truthy v)) := by intro _; rfl) : PT X e (tT G (mtst A)) :=
  pt_imp (pt_truth h he) fun σ H Q ⟨p, s, r, b, s', S, E, q, k⟩ => by
    obtain ⟨⟨x, s1⟩, q1, q2⟩ := Option.bind_eq_some_iff.mp q
    obtain ⟨b', q3, q4⟩ := Option.map_eq_some_iff.mp q2
    cases q4
    exact ⟨p, s, r, x, s1, S, E, q1, fun p1 v1 H1 S1 f1 d1 => ⟨b, tru_den S1 d1 q3 hK, k p1 H1 S1 f1⟩⟩
/-! and, or, not, if -/
variable {rest : List Expr}
theorem t_and {A B : Ft} {σ : L2.St} {H : Hp} {Q : Bool → Hp → Prop} (h : tT G (mand A B) σ H Q) : tAnd (tT G A) (tT G B) σ H Q := by
  obtain ⟨p, s, r, c, s', S, E, q, k⟩ := h
  obtain ⟨⟨x, s1⟩, q1, q2⟩ := Option.bind_eq_some_iff.mp q
  refine ⟨p, s, r, x, s1, S, E, q1, fun p1 H1 S1 f1 => ?_⟩
  cases x with
  | false => rw [if_neg Bool.false_ne_true]; cases q2; exact k p1 H1 S1 f1
  | true => rw [if_pos rfl]; exact ⟨p1, s1, r, c, s', S1, E.fra S f1, q2, fun p2 H2 S2 f2 => k p2 H2 S2 (f1.trans f2)⟩
theorem t_or {A B : Ft} {σ : L2.St} {H : Hp} {Q : Bool → Hp → Prop} (h : tT G (mor A B) σ H Q) : tOr (tT G A) (tT G B) σ H Q := by
  obtain ⟨p, s, r, c, s', S, E, q, k⟩ := h
  obtain ⟨⟨x, s1⟩, q1, q2⟩ := Option.bind_eq_some_iff.mp q
  refine ⟨p, s, r, x, s1, S, E, q1, fun p1 H1 S1 f1 => ?_⟩
  cases x with
  | true => rw [if_pos rfl]; cases q2; exact k p1 H1 S1 f1
  | false => rw [if_neg Bool.false_ne_true]; exact ⟨p1, s1, r, c, s', S1, E.fra S f1, q2, fun p2 H2 S2 f2 => k p2 H2 S2 (f1.trans f2)⟩
theorem pm_wand1 {A : Ft} (ha : PT X a (tT G A)) : PW X (.BoolOp .And [a] pos) (tT G A) := pw_and1 ha
theorem pm_wor1 {A : Ft} (ha : PT X a (tT G A)) : PW X (.BoolOp .Or [a] pos) (tT G A) := pw_or1 ha
theorem pm_wand {A B : Ft} (ha : PT X a (tT G A)) (hb : PW X (.BoolOp .And (b :: rest) pos) (tT G B)) : PW X (.BoolOp .And (a :: b :: rest) pos) (tT G (mand A B)) := pw_imp (pw_and ha hb) fun _ _ _ h => t_and h
theorem pm_wor {A B : Ft} (ha : PT X a (tT G A)) (hb : PW X (.BoolOp .Or (b :: rest) pos) (tT G B)) : PW X (.BoolOp .Or (a :: b :: rest) pos) (tT G (mor A B)) := pw_imp (pw_or ha hb) fun _ _ _ h => t_or h
theorem pm_tnot {A : Ft} (ha : PT X a (tT G A)) : PT X (.UnaryOp .Not a pos) (tT G (mnot A)) := pt_imp (pt_not ha) fun σ H Q ⟨p, s, r, c, s', S, E, q, k⟩ => by
  obtain ⟨⟨x, s1⟩, q1, q2⟩ := Option.map_eq_some_iff.mp q
  cases q2
  exact ⟨p, s, r, x, s1, S, E, q1, k⟩
theorem pm_and {A B : Fe} (ha : PE X a (tI G A)) (hb : PE X (.BoolOp .And (b :: rest) pos) (tI G B)) : PE X (.BoolOp .And (a :: b :: rest) pos) (tI G (mandV A B)) := pe_imp (pe_and ha hb) fun σ H Q ⟨p, s, r, w, s', S, E, q, k⟩ => by
  obtain ⟨⟨x, s1⟩, q1, q2⟩ := Option.bind_eq_some_iff.mp q
  refine ⟨p, s, r, x, s1, S, E, q1, fun p1 v1 H1 S1 f1 d1 => ?_⟩
  cases x with
  | bl c =>
    cases d1
    refine ⟨c, rfl, ?_⟩
    cases c with
    | false => rw [if_neg Bool.false_ne_true]; cases q2; exact k p1 _ H1 S1 f1 (.bl false)
    | true => rw [if_pos rfl]; exact ⟨p1, s1, r, w, s', S1, E.fra S f1, q2, k.of f1⟩
  | _ => cases q2
theorem pm_or {A B : Fe} (ha : PE X a (tI G A)) (hb : PE X (.BoolOp .Or (b :: rest) pos) (tI G B)) : PE X (.BoolOp .Or (a :: b :: rest) pos) (tI G (morV A B)) := pe_imp (pe_or ha hb) fun σ H Q ⟨p, s, r, w, s', S, E, q, k⟩ => by
  obtain ⟨⟨x, s1⟩, q1, q2⟩ := Option.bind_eq_some_iff.mp q
  refine ⟨p, s, r, x, s1, S, E, q1, fun p1 v1 H1 S1 f1 d1 => ?_⟩
  cases x with
  | bl c =>
    cases d1
    refine ⟨c, rfl, ?_⟩
    cases c with
    | true => rw [if_pos rfl]; cases q2; exact k p1 _ H1 S1 f1 (.bl true)
    | false => rw [if_neg Bool.false_ne_true]; exact ⟨p1, s1, r, w, s', S1, E.fra S f1, q2, k.of f1⟩
  | _ => cases q2
theorem pm_not {A : Fe} (ha : PE X a (tI G A)) : PE X (.UnaryOp .Not a pos) (tI G (mnotV A)) := pe_imp (pe_not ha) fun σ H Q ⟨p, s, r, w, s', S, E, q, k⟩ => by
  obtain ⟨⟨x, s1⟩, q1, q2⟩ := Option.bind_eq_some_iff.mp q
  refine ⟨p, s, r, x, s1, S, E, q1, fun p1 v1 H1 S1 f1 d1 => ?_⟩
  cases x with
  | bl c => cases d1; cases q2; exact ⟨c, rfl, k p1 _ H1 S1 f1 (.bl _)⟩
  | _ => cases q2
theorem pm_one {op} {A : Fe} (h : PE X a (tI G A)) : PE X (.BoolOp op [a] pos) (tI G A) := pe_one h
theorem pm_if {T : Ft} {A B : Fe} (hc : PT X c (tT G T)) (ha : PE X a (tI G A)) (hb : PE X b (tI G B)) : PE X (.IfExp c a b pos) (tI G (mif T A B)) := pe_imp (pe_ifExp hc ha hb) fun σ H Q ⟨p, s, r, w, s', S, E, q, k⟩ => by
  obtain ⟨⟨x, s1⟩, q1, q2⟩ := Option.bind_eq_some_iff.mp q
  refine ⟨p, s, r, x, s1, S, E, q1, fun p1 H1 S1 f1 => ?_⟩
  cases x with
  | true => rw [if_pos rfl]; exact ⟨p1, s1, r, w, s', S1, E.fra S f1, q2, k.of f1⟩
  | false => rw [if_neg Bool.false_ne_true]; exact ⟨p1, s1, r, w, s', S1, E.fra S f1, q2, k.of f1⟩
/-! arguments, calls -/
theorem pm_nil : PA X [] (tA G mnil) := pa_imp pa_nil fun σ H Q ⟨p, s, r, ws, s', S, E, q, k⟩ => by cases q; exact k p [] H S Fra.refl .nil
theorem pm_cons {es : List Expr} {A : Fe} {B : Fa} (ha : PE X e (tI G A)) (hr : PA X es (tA G B)) (hs : starEach (e :: es) X.env = (false, eval e X.env) :: starEach es X.env := by rfl) : PA X (e :: es) (tA G (mcons A B)) :=
  pa_imp (pa_cons ha hr hs) fun σ H Q ⟨p, s, r, ws, s', S, E, q, k⟩ => by
    obtain ⟨⟨x, s1⟩, q1, q2⟩ := Option.bind_eq_some_iff.mp q
    obtain ⟨⟨y, s2⟩, q3, q4⟩ := Option.bind_eq_some_iff.mp q2
    cases q4
    exact ⟨p, s, r, x, s1, S, E, q1, fun p1 v1 H1 S1 f1 d1 => ⟨p1, s1, r, y, s2, S1, E.fra S f1, q3, fun p2 vs H2 S2 f2 d2 => k p2 _ H2 S2 (f1.trans f2) (.cons (d1.fra S1 f2) d2)⟩⟩
theorem t_call {f : Fn} {A : Fa} {σ : L2.St} {H : Hp} {Q : VK} (h : tI G (mcall f A) σ H Q) : tA G A σ H fun vs H1 => rF G f vs H1 Q := by
  obtain ⟨p, s, r, w, s', S, E, q, k⟩ := h
  obtain ⟨⟨x, s1⟩, q1, q2⟩ := Option.bind_eq_some_iff.mp q
  exact ⟨p, s, r, x, s1, S, E, q1, fun p1 vs H1 S1 f1 d1 => ⟨p1, s1, x, w, s', S1, d1, q2, k.of f1⟩⟩
variable {x : Str} {p0 : Pos} {es : List Expr} {id T : String} {f : Fn} {A : Fa}
theorem pm_cB (hc : CallR X (.builtin id) (rF G f)) (hg : Gl X x) (hm : X.mg x = none) (hv : bootBuiltins x = some (.builtin id)) (ha : PA X (e :: es) (tA G A)) (hn : x ≠ "__name__" := by decide) (hdb : (x == ("__debug__" : Str)) = false := by decide)
    (he : starEach (e :: es) X.env = (false, eval e X.env) :: starEach es X.env := by rfl) (hpl : (backTo pos (starEach es X.env)).any (·.1) = false := by rfl) : PE X (.Call (.Name x p0) (e :: es) [] pos) (tI G (mcall f A)) := pe_imp (pe_callB hc hg hm hv ha hn hdb he hpl) fun _ _ _ h => t_call h
theorem pm_cT (hc : CallR X (.type T) (rF G f)) (hg : Gl X x) (hm : X.mg x = none) (hv : bootBuiltins x = some (.type T)) (ha : PA X (e :: es) (tA G A)) (hn : x ≠ "__name__" := by decide) (hdb : (x == ("__debug__" : Str)) = false := by decide)
    (he : starEach (e :: es) X.env = (false, eval e X.env) :: starEach es X.env := by rfl) (hpl : (backTo pos (starEach es X.env)).any (·.1) = false := by rfl) : PE X (.Call (.Name x p0) (e :: es) [] pos) (tI G (mcall f A)) := pe_imp (pe_callTy hc hg hm hv ha hn hdb he hpl) fun _ _ _ h => t_call h
theorem pm_call {CX : CXT} {k : Nat} {fa : Addr} {fd : FuncData} {ps : List Str} {E : XK} (F : FnOk X.prog X.w X.K X.mg X.base CX k fa fd ps (spM G f)) (hr : Room k X.A) (hg : Gl X x) (hm : X.mg x = some (.ref fa)) (hk : PySem.W.keepIn X.K (.ref fa) = true) (hb : Binds X.K fd ps []) (hx : Passes CX X E) (ha : PA X (e :: es) (tA G A))
    (hdb : (x == ("__debug__" : Str)) = false := by decide) (he : starEach (e :: es) X.env = (false, eval e X.env) :: starEach es X.env := by rfl) (hpl : (backTo pos (starEach es X.env)).any (·.1) = false := by rfl) :
    PE X (.Call (.Name x p0) (e :: es) [] pos) (tI G (mcall f A)) := pe_imp (pe_call F hr hg hm hk hb .nil hx ha hdb he hpl) fun σ H Q h => by
  obtain ⟨p, s, r, w, s', S, E, q, k⟩ := t_call h
  exact ⟨p, s, r, w, s', S, E, q, fun p1 vs H1 S1 f1 d1 => by
    show rF G f (vs ++ []) H1 Q
    rw [List.append_nil]
    exact k p1 vs H1 S1 f1 d1⟩
theorem pm_call0 {CX : CXT} {k : Nat} {fa : Addr} {fd : FuncData} {ps : List Str} {E : XK} (F : FnOk X.prog X.w X.K X.mg X.base CX k fa fd ps (spM G f)) (hr : Room k X.A) (hg : Gl X x) (hm : X.mg x = some (.ref fa)) (hk : PySem.W.keepIn X.K (.ref fa) = true) (hb : Binds X.K fd ps []) (hx : Passes CX X E)
    (hdb : (x == ("__debug__" : Str)) = false := by decide) : PE X (.Call (.Name x p0) [] [] pos) (tI G (mcall f mnil)) := pe_imp (pe_call0 F hr hg hm hk hb .nil hx hdb) fun σ H Q h => by
  obtain ⟨p, s, r, w, s', S, E, q, k⟩ := t_call h
  cases q
  exact k p [] H S Fra.refl .nil
end

end
section
/-! ### statements -/
inductive Fl where
  | nx | bk | ct | rt (w : Mv)
abbrev Fs := Me → Ms → Option (Fl × Me × Ms)
/-- what is wanted behind a statement that ends so -/
def Ended (G : Mg) (D : Ends) (p : List Addr) (H : Hp) (r : Me) : Fl → Prop
  | .nx => ∀ σ, EnvR G p H r σ → D.nx σ H
  | .bk => ∀ σ, EnvR G p H r σ → D.bk σ H
  | .ct => ∀ σ, EnvR G p H r σ → D.ct σ H
  | .rt w => ∀ v, Den G p H w v → D.rt v H
def tS (G : Mg) (F : Fs) : TS := fun D σ H => ∃ p s r f r' s', Sim G p s H ∧ EnvR G p H r σ ∧ F r s = some (f, r', s') ∧ ∀ p' H', Sim G p' s' H' → Fra p H p' H' → Ended G D p' H' r' f
def snx : Fs := fun r s => some (.nx, r, s)
def sno : Fs := fun _ _ => none
def sbk : Fs := fun r s => some (.bk, r, s)
def sct : Fs := fun r s => some (.ct, r, s)
def sseq (A B : Fs) : Fs := fun r s => (A r s).bind fun x => match x.1 with
  | .nx => B x.2.1 x.2.2
  | .bk => some (.bk, x.2)
  | .ct => some (.ct, x.2)
  | .rt w => some (.rt w, x.2)
def sret (A : Fe) : Fs := fun r s => (A r s).map fun x => (.rt x.1, r, x.2)
def sexp (A : Fe) : Fs := fun r s => (A r s).map fun x => (.nx, r, x.2)
def sif (T : Ft) (A B : Fs) : Fs := fun r s => (T r s).bind fun x => cond x.1 (A r x.2) (B r x.2)
section
variable {X : Cx} {G : Mg} {e : Expr} {pos : Pos} {st : Stmt} {rest : List Stmt}
theorem ps_imp {t t' : TS} (h : PS X st t) (i : ∀ D σ H, t' D σ H → t D σ H) : PS X st t' := ⟨fun pins s σ H D I q => h.run pins s σ H D I (i D σ H q)⟩
theorem pss_imp {st : List Stmt} {t t' : TS} (h : PSs X st t) (i : ∀ D σ H, t' D σ H → t D σ H) : PSs X st t' := ⟨fun pins s σ H D I q => h.run pins s σ H D I (i D σ H q)⟩
theorem sm_no : PS X st (tS G sno) := ⟨fun pins s σ H D I q => by obtain ⟨_, _, _, _, _, _, _, _, z, _⟩ := q; cases z⟩
theorem sm_nos {st : List Stmt} : PSs X st (tS G sno) := ⟨fun pins s σ H D I q => by obtain ⟨_, _, _, _, _, _, _, _, z, _⟩ := q; cases z⟩
theorem sm_nil : PSs X [] (tS G snx) := pss_imp pss_nil fun D σ H ⟨p, s, r, f, r', s', S, E, q, k⟩ => by
  cases q
  exact k p H S Fra.refl σ E
theorem sm_pass : PS X (.Pass pos) (tS G snx) := ps_imp ps_pass fun D σ H ⟨p, s, r, f, r', s', S, E, q, k⟩ => by
  cases q
  exact k p H S Fra.refl σ E
theorem sm_break : PS X (.Break pos) (tS G sbk) := ps_imp ps_break fun D σ H ⟨p, s, r, f, r', s', S, E, q, k⟩ => by
  cases q
  exact k p H S Fra.refl σ E
theorem sm_continue : PS X (.Continue pos) (tS G sct) := ps_imp ps_continue fun D σ H ⟨p, s, r, f, r', s', S, E, q, k⟩ => by
  cases q
  exact k p H S Fra.refl σ E
theorem t_seq {A B : Fs} {D : Ends} {σ : L2.St} {H : Hp} (h : tS G (sseq A B) D σ H) : tSeq (tS G A) (tS G B) D σ H := by
  obtain ⟨p, s, r, f, r', s', S, E, q, k⟩ := h
  obtain ⟨⟨fl, r1, s1⟩, q1, q2⟩ := Option.bind_eq_some_iff.mp q
  refine ⟨p, s, r, fl, r1, s1, S, E, q1, fun p1 H1 S1 f1 => ?_⟩
  cases fl with
  | nx => exact fun σ1 E1 => ⟨p1, s1, r1, f, r', s', S1, E1, q2, fun p2 H2 S2 f2 => k p2 H2 S2 (f1.trans f2)⟩
  | bk => cases q2; exact k p1 H1 S1 f1
  | ct => cases q2; exact k p1 H1 S1 f1
  | rt w => cases q2; exact k p1 H1 S1 f1
theorem sm_cons {A B : Fs} (h1 : PS X st (tS G A)) (h2 : PSs X rest (tS G B)) : PSs X (st :: rest) (tS G (sseq A B)) := pss_imp (pss_cons h1 h2) fun _ _ _ h => t_seq h
theorem sm_one {A : Fs} (h1 : PS X st (tS G A)) : PSs X [st] (tS G A) := pss_one h1
theorem sm_ret {A : Fe} (h : PE X e (tI G A)) : PS X (.Return (some e) pos) (tS G (sret A)) := ps_imp (ps_ret h) fun D σ H ⟨p, s, r, f, r', s', S, E, q, k⟩ => by
  obtain ⟨⟨x, s1⟩, q1, q2⟩ := Option.map_eq_some_iff.mp q
  cases q2
  exact ⟨p, s, r, x, s1, S, E, q1, fun p1 v1 H1 S1 f1 d1 => k p1 H1 S1 f1 v1 d1⟩
theorem sm_exp {A : Fe} (h : PE X e (tI G A)) (hs : swapsWith e none pos.line X.env = pure false := by rfl) : PS X (.Expr e pos) (tS G (sexp A)) := ps_imp (ps_expr h hs) fun D σ H ⟨p, s, r, f, r', s', S, E, q, k⟩ => by
  obtain ⟨⟨x, s1⟩, q1, q2⟩ := Option.map_eq_some_iff.mp q
  cases q2
  exact ⟨p, s, r, x, s1, S, E, q1, fun p1 v1 H1 S1 f1 d1 => k p1 H1 S1 f1 σ (E.fra S f1)⟩
theorem sm_if {c : Expr} {a b : List Stmt} {T : Ft} {A B : Fs} (hc : PT X c (tT G T)) (ha : PSs X a (tS G A)) (hb : PSs X b (tS G B)) : PS X (.If c a b pos) (tS G (sif T A B)) := ps_imp (ps_if hc ha hb) fun D σ H ⟨p, s, r, f, r', s', S, E, q, k⟩ => by
  obtain ⟨⟨x, s1⟩, q1, q2⟩ := Option.bind_eq_some_iff.mp q
  refine ⟨p, s, r, x, s1, S, E, q1, fun p1 H1 S1 f1 => ?_⟩
  cases x with
  | true => rw [if_pos rfl]; exact ⟨p1, s1, r, f, r', s', S1, E.fra S f1, q2, fun p2 H2 S2 f2 => k p2 H2 S2 (f1.trans f2)⟩
  | false => rw [if_neg Bool.false_ne_true]; exact ⟨p1, s1, r, f, r', s', S1, E.fra S f1, q2, fun p2 H2 S2 f2 => k p2 H2 S2 (f1.trans f2)⟩
end
/-! ### targets -/
inductive Tg where
  | nm (i : Nat) | tp (is : List Nat)
def asgs : List Nat → List Mv → Me → Option Me
  | [], [], r => some r
  | i :: is, w :: ws, r => asgs is ws (r.set i (some w))
  | _, _, _ => none
def Tg.asg : Tg → Mv → Me → Option Me
  | .nm i, w, r => some (r.set i (some w))
  | .tp is, .tup ws, r => asgs is ws r
  | _, _, _ => none
def Tg.slots : Tg → List Nat
  | .nm i => [i]
  | .tp is => is
def tG (G : Mg) (T : Tg) : TG := fun v σ H Q => ∃ p s r w r', Sim G p s H ∧ EnvR G p H r σ ∧ Den G p H w v ∧ T.asg w r = some r' ∧ ∀ σ', EnvR G p H r' σ' → (∀ i, i ∉ T.slots → σ'[i]? = σ[i]?) → Q σ' H
def tGs (G : Mg) (is : List Nat) : TGs := fun vs σ H Q => ∃ p s r ws r', Sim G p s H ∧ EnvR G p H r σ ∧ DenL G p H ws vs ∧ asgs is ws r = some r' ∧ ∀ σ', EnvR G p H r' σ' → (∀ i, i ∉ is → σ'[i]? = σ[i]?) → Q σ' H
def sasg (A : Fe) (T : Tg) : Fs := fun r s => (A r s).bind fun x => (T.asg x.1 r).map fun r' => (.nx, r', x.2)
def sset (i : Nat) (A : Fe) : Fs := fun r s => (A r s).map fun x => (.nx, r.set i (some x.1), x.2)
def spar (i j : Nat) (A : Fa) : Fs := fun r s => (A r s).bind fun x => match x.1 with
  | [a, b] => some (.nx, (r.set i (some a)).set j (some b), x.2)
  | _ => none
def spar3 (i j l : Nat) (A : Fa) : Fs := fun r s => (A r s).bind fun x => match x.1 with
  | [a, b, c] => some (.nx, ((r.set i (some a)).set j (some b)).set l (some c), x.2)
  | _ => none
section
variable {X : Cx} {G : Mg} {e : Expr} {pos : Pos}
theorem pg_imp {tg : Expr} {t t' : TG} (h : PG X tg t) (i : ∀ v σ H Q, t' v σ H Q → t v σ H Q) : PG X tg t' := ⟨fun pins s σ H v u Q I r q => h.run pins s σ H v u Q I r (i v σ H Q q)⟩
theorem pgs_imp {tg : List Expr} {t t' : TGs} (h : PGs X tg t) (i : ∀ v σ H Q, t' v σ H Q → t v σ H Q) : PGs X tg t' := ⟨fun pins s σ H v u Q I r q => h.run pins s σ H v u Q I r (i v σ H Q q)⟩
theorem gm_name {i : Nat} {tg : Expr} (h : PG X tg (gName i)) : PG X tg (tG G (.nm i)) := pg_imp h fun v σ H Q ⟨p, s, r, w, r', S, E, d, q, k⟩ => by
  cases q
  exact k _ (E.set d) fun j hj => by
    have hij : i ≠ j := fun z => hj (by simp [Tg.slots, z])
    rw [List.getElem?_set_ne hij]
theorem gm_nil : PGs X [] (tGs G []) := pgs_imp pgs_nil fun vs σ H Q ⟨p, s, r, ws, r', S, E, d, q, k⟩ => by
  cases d with
  | nil => cases q; exact ⟨rfl, k σ E fun _ _ => rfl⟩
  | cons a l => cases q
theorem gm_cons {es : List Expr} {i : Nat} {is : List Nat} (h1 : PG X e (gName i)) (h2 : PGs X es (tGs G is)) (hs : (assignEach (e :: es) X.env).map (·.2) = assign e X.env :: (assignEach es X.env).map (·.2) := by rfl) : PGs X (e :: es) (tGs G (i :: is)) :=
  pgs_imp (pgs_cons h1 h2 hs) fun vs σ H Q ⟨p, s, r, ws, r', S, E, d, q, k⟩ => by
    cases d with
    | nil => cases q
    | cons a l =>
      refine ⟨_, _, rfl, p, s, _, _, r', S, E.set (i := i) a, l, q, fun σ2 E2 h2 => k σ2 E2 fun j hj => ?_⟩
      have hj' : j ≠ i ∧ j ∉ is := by simpa using hj
      rw [h2 j hj'.2, List.getElem?_set_ne (Ne.symm hj'.1)]
theorem Den.tup_inv {p : List Addr} {H : Hp} {ws : List Mv} {v : V} (d : Den G p H (.tup ws) v) : ∃ a vs, v = .ref a ∧ SqT G.K H a vs ∧ DenL G p H ws vs := by
  cases d with
  | tup h l => exact ⟨_, _, rfl, h, l⟩
theorem asgs_len : ∀ {is : List Nat} {ws : List Mv} {r r' : Me}, asgs is ws r = some r' → ws.length = is.length
  | [], [], _, _, _ => rfl
  | [], _ :: _, _, _, h => by cases h
  | _ :: _, [], _, _, h => by cases h
  | i :: is, w :: ws, r, r', h => by rw [List.length_cons, List.length_cons, asgs_len (is := is) (ws := ws) h]
theorem gm_tup {es : List Expr} {k : Nat} {is : List Nat} (hc : X.calm = true) (h : PGs X es (tGs G is)) (hn : (assignEach es X.env).length = is.length := by rfl) (hst : (assignEach es X.env).findIdx? (·.1) = none := by rfl) (hK : X.K = G.K := by rfl) : PG X (.Tuple es k pos) (tG G (.tp is)) :=
  pg_imp (pg_tup hc h hn hst) fun v σ H Q ⟨p, s, r, w, r', S, E, d, q, kk⟩ => by
    cases w with
    | tup ws =>
      obtain ⟨a, vs, rfl, h1, l⟩ := d.tup_inv
      refine ⟨a, vs, rfl, by rw [hK]; exact h1, ?_, p, s, r, ws, r', S, E, l, q, fun σ' E' hh => kk σ' E' fun i hi => hh i hi⟩
      rw [← l.length]
      exact asgs_len q
    | _ => cases q
theorem sm_set {i : Nat} {tg : Expr} {A : Fe} (h : PS X (.Assign [tg] e pos) (tAsg (tI G A) (gName i))) : PS X (.Assign [tg] e pos) (tS G (sset i A)) := ps_imp h fun D σ H ⟨p, s, r, f, r', s', S, E, q, k⟩ => by
  obtain ⟨⟨x, s1⟩, q1, q2⟩ := Option.map_eq_some_iff.mp q
  cases q2
  exact ⟨p, s, r, x, s1, S, E, q1, fun p1 v1 H1 S1 f1 d1 => k p1 H1 S1 f1 _ ((E.fra S f1).set d1)⟩
theorem sm_asg {tg : Expr} {A : Fe} {T : Tg} (he : PE X e (tI G A)) (hg : PG X tg (tG G T)) (hs : swapsWithSole [tg] e pos.line X.env = pure false := by rfl) (hw : swappedStores [tg] e X.env = pure none := by rfl)
    (h1 : (assignEach [tg] X.env).map (·.2) = [assign tg X.env] := by rfl) : PS X (.Assign [tg] e pos) (tS G (sasg A T)) := ps_imp (ps_asg he hg hs hw h1) fun D σ H ⟨p, s, r, f, r', s', S, E, q, k⟩ => by
  obtain ⟨⟨x, s1⟩, q1, q2⟩ := Option.bind_eq_some_iff.mp q
  obtain ⟨r1, q3, q4⟩ := Option.map_eq_some_iff.mp q2
  cases q4
  exact ⟨p, s, r, x, s1, S, E, q1, fun p1 v1 H1 S1 f1 d1 => ⟨p1, s1, r, x, _, S1, E.fra S f1, d1, q3, fun σ' E' _ => k p1 H1 S1 f1 σ' E'⟩⟩
theorem sm_par {i j : Nat} {st : Stmt} {A : Fa} (h : PS X st (tPar i j (tA G A))) : PS X st (tS G (spar i j A)) := ps_imp h fun D σ H ⟨p, s, r, f, r', s', S, E, q, k⟩ => by
  obtain ⟨⟨x, s1⟩, q1, q2⟩ := Option.bind_eq_some_iff.mp q
  refine ⟨p, s, r, x, s1, S, E, q1, fun p1 vs H1 S1 f1 d1 => ?_⟩
  match x, q2, d1 with
  | [a, b], q2, .cons da (.cons db .nil) =>
    cases q2
    exact ⟨_, _, rfl, k p1 H1 S1 f1 _ (((E.fra S f1).set da).set db)⟩
/-! ### for, while -/
inductive It0 where
  | lst (n : Nat) | seq (ws : List Mv) | rng (lo : Int) (n : Nat) | zl (n m : Nat)
def It0.at : It0 → Nat → Ms → Option (Option Mv)
  | .lst n, i, s => match s.get n with
    | some (.lst ws) => some ws[i]?
    | _ => none
  | .seq ws, i, _ => some ws[i]?
  | .rng lo n, i, _ => some (cond (Nat.blt i n) (some (.int (lo + i))) none)
  | .zl n m, i, s => match s.get n, s.get m with
    | some (.lst xs), some (.lst ys) => some (match xs[i]?, ys[i]? with
      | some x, some y => some (.tup [x, y])
      | _, _ => none)
    | _, _ => none
abbrev Fi := Me → Ms → Option (It0 × Ms)
/-- the walker J does what the mirror's iterator says, as long as what may not change stays -/
def ItR (G : Mg) (J : It) (it : It0) (p0 : List Addr) (H0 : Hp) : Prop := ∀ p s H i, Sim G p s H → Stays p0 H0 p H → (it.at i s = some none → J.stop i H) ∧ ∀ w, it.at i s = some (some w) → J.go i H ∧ ∀ v H', J.yld i H v H' → Sim G p s H' ∧ Fra p H p H' ∧ Den G p H' w v
def tIt (G : Mg) (F : Fi) : TI := fun σ H R => ∃ p s r it s', Sim G p s H ∧ EnvR G p H r σ ∧ F r s = some (it, s') ∧ ∀ p' H' J, Sim G p' s' H' → Fra p H p' H' → ItR G J it p' H' → R J H'

/-! iterators -/
theorem pi_imp {tg it : Expr} {t t' : TI} (h : PI X tg it t) (i : ∀ σ H R, t' σ H R → t σ H R) : PI X tg it t' := ⟨fun pins s σ H R I q => h.run pins s σ H R I (i σ H R q)⟩
def iof (w : Mv) : Option It0 := match w with
  | .ref n => some (.lst n)
  | .tup ws => some (.seq ws)
  | .fl ws => some (.seq ws)
  | _ => none
def miL (A : Fe) : Fi := fun r s => (A r s).bind fun x => match x.1 with
  | .ref n => (match x.2.get n with
    | some (.lst _) => some (.lst n, x.2)
    | _ => none)
  | .fl ws => some (.seq ws, x.2)
  | _ => none
def miT (A : Fe) : Fi := fun r s => (A r s).bind fun x => match x.1 with
  | .tup ws => some (.seq ws, x.2)
  | _ => none
theorem itr_list {p0 : List Addr} {H0 : Hp} {n : Nat} {a : Addr} (h : p0[n]? = some a) (hK : X.K = G.K) : ItR G (Itl X.K a) (.lst n) p0 H0 := by
  intro p s H i S st
  have ha := st.ix n a h
  constructor
  · intro q
    simp only [It0.at] at q
    split at q
    · rename_i ws e
      obtain ⟨ho, h1, vs, rfl, l, _⟩ := S.get ha e
      have q' : ws[i]? = none := by simpa using q
      refine ⟨vs, SqL.of h1, ?_⟩
      rw [← l.length]
      exact List.getElem?_eq_none_iff.mp q'
    · cases q
  · intro w q
    simp only [It0.at] at q
    split at q
    · rename_i ws e
      obtain ⟨ho, h1, vs, rfl, l, _⟩ := S.get ha e
      have q' : ws[i]? = some w := by simpa using q
      obtain ⟨v, hv, d⟩ := l.get q'
      refine ⟨⟨vs, v, SqL.of h1, hv⟩, fun v' H' y => ?_⟩
      obtain ⟨rfl, y2⟩ := y
      have := y2 vs (SqL.of h1)
      rw [hv] at this; cases this
      exact ⟨S, Fra.refl, d⟩
    · cases q
theorem itr_tup {p0 : List Addr} {H0 : Hp} {a : Addr} {ws : List Mv} {vs : List V} (h : SqT G.K H0 a vs) (l0 : DenL G p0 H0 ws vs) (hK : X.K = G.K) : ItR G (Itt X.K a) (.seq ws) p0 H0 := by
  intro p s H i S st
  have h1 : SqT X.K H a vs := by rw [hK]; exact Stays.tup (G := G) st h
  have l := l0.stay st
  constructor
  · intro q
    have q' : ws[i]? = none := by simpa [It0.at] using q
    refine ⟨vs, h1, ?_⟩
    rw [← l.length]
    exact List.getElem?_eq_none_iff.mp q'
  · intro w q
    have q' : ws[i]? = some w := by simpa [It0.at] using q
    obtain ⟨v, hv, d⟩ := l.get q'
    refine ⟨⟨vs, v, h1, hv⟩, fun v' H' y => ?_⟩
    obtain ⟨rfl, y2⟩ := y
    have := y2 vs h1
    rw [hv] at this; cases this
    exact ⟨S, Fra.refl, d⟩
theorem FlAt.sq {K : PySem.W.Frag} {p : List Addr} {H : Hp} {a : Addr} {vs : List V} (h : FlAt K p H a vs) : SqL K H a vs := by
  rcases h with ⟨o, h⟩ | h
  · exact .inl (.inr ⟨o, h⟩)
  · rcases h with h | h
    · rcases h with h | ⟨o, h⟩ <;> cases h
    · exact .inr h
theorem itr_fl {p0 : List Addr} {H0 : Hp} {a : Addr} {ws : List Mv} {vs : List V} (h : FlAt G.K p0 H0 a vs) (l0 : DenL G p0 H0 ws vs) (hK : X.K = G.K) : ItR G (Itl X.K a) (.seq ws) p0 H0 := by
  intro p s H i S st
  have h1 : SqL X.K H a vs := by rw [hK]; exact (Stays.fl st h).sq
  have l := l0.stay st
  constructor
  · intro q
    have q' : ws[i]? = none := by simpa [It0.at] using q
    refine ⟨vs, h1, ?_⟩
    rw [← l.length]
    exact List.getElem?_eq_none_iff.mp q'
  · intro w q
    have q' : ws[i]? = some w := by simpa [It0.at] using q
    obtain ⟨v, hv, d⟩ := l.get q'
    refine ⟨⟨vs, v, h1, hv⟩, fun v' H' y => ?_⟩
    obtain ⟨rfl, y2⟩ := y
    have := y2 vs h1
    rw [hv] at this; cases this
    exact ⟨S, Fra.refl, d⟩
theorem itr_rng {p0 : List Addr} {H0 : Hp} {lo : Int} {n : Nat} : ItR G (Itr lo n) (.rng lo n) p0 H0 := by
  intro p s H i S st
  constructor
  · intro q
    show n ≤ i
    cases e : Nat.blt i n with
    | false =>
      have : ¬ i < n := fun h => by rw [Nat.blt_eq.mpr h] at e; cases e
      omega
    | true => simp [It0.at, e] at q
  · intro w q
    cases e : Nat.blt i n with
    | false => simp [It0.at, e] at q
    | true =>
      refine ⟨Nat.blt_eq.mp e, fun v' H' y => ?_⟩
      obtain ⟨rfl, rfl⟩ := y
      have : w = .int (lo + i) := by simpa [It0.at, e] using q.symm
      subst this
      exact ⟨S, Fra.refl, .int _⟩
theorem im_list {tg : Expr} {A : Fe} (h : PE X e (tI G A)) (hK : X.K = G.K := by rfl) : PI X tg e (tIt G (miL A)) := pi_imp (pi_list h) fun σ H R ⟨p, s, r, it, s', S, E, q, k⟩ => by
  obtain ⟨⟨x, s1⟩, q1, q2⟩ := Option.bind_eq_some_iff.mp q
  refine ⟨p, s, r, x, s1, S, E, q1, fun p1 v1 H1 S1 f1 d1 => ?_⟩
  cases d1 with
  | ref hn =>
    simp only at q2
    split at q2
    · rename_i ws e
      cases q2
      obtain ⟨ho, h1, vs, rfl, l, _⟩ := S1.get hn e
      exact ⟨_, rfl, ⟨vs, SqL.of h1⟩, k p1 H1 _ S1 f1 (itr_list hn hK)⟩
    · cases q2
  | fl h1 l =>
    cases q2
    exact ⟨_, rfl, ⟨_, by rw [hK]; exact h1.sq⟩, k p1 H1 _ S1 f1 (itr_fl h1 l hK)⟩
  | _ => cases q2
theorem im_tup {tg : Expr} {A : Fe} (h : PE X e (tI G A)) (hK : X.K = G.K := by rfl) : PI X tg e (tIt G (miT A)) := pi_imp (pi_tup h) fun σ H R ⟨p, s, r, it, s', S, E, q, k⟩ => by
  obtain ⟨⟨x, s1⟩, q1, q2⟩ := Option.bind_eq_some_iff.mp q
  refine ⟨p, s, r, x, s1, S, E, q1, fun p1 v1 H1 S1 f1 d1 => ?_⟩
  cases d1 with
  | tup h1 l =>
    cases q2
    exact ⟨_, rfl, ⟨_, by rw [hK]; exact h1⟩, k p1 H1 _ S1 f1 (itr_tup h1 l hK)⟩
  | _ => cases q2
/-- a list or a tuple: known only when it is met -/
def iSeq (K : PySem.W.Frag) (tl : TE) : TI := fun σ H R => tl σ H fun x H1 => ∃ a, x = .ref a ∧ (((∃ xs, SqL K H1 a xs) ∧ R (Itl K a) H1) ∨ ((∃ xs, SqT K H1 a xs) ∧ R (Itt K a) H1))
theorem pi_seq {tg l : Expr} {tl : TE} (hl : PE X l tl) : PI X tg l (iSeq X.K tl) := by
  refine ⟨fun pins s σ H R I h => ?_⟩
  refine thn (hl.run pins s σ H _ I h) fun v s1 ⟨x, H1, I1, r1, q1⟩ => ?_
  obtain ⟨a, e, q⟩ := q1
  subst e
  cases r1
  have fresh := I1.fpOk (Nat.le_refl _) (I1.hok.fresh (Nat.le_refl s1.heap.objs.size))
  rcases q with ⟨⟨xs, hq⟩, q⟩ | ⟨⟨xs, hq⟩, q⟩
  · obtain ⟨its, rv, p, hz⟩ := I1.list hq
    refine wpAny_pyIter_list p.isList ?_
    refine ⟨s1.heap.objs.size, [s1.heap.objs.size], _, _, H1, rfl, I1.kept (t' := s1.toks) fun b o e => Heap.get?_push_of_some _ e, turn_list a _, ⟨_, Heap.get?_push_size _ rfl, rfl, rfl⟩, fun b hb => ?_, q⟩
    rw [List.mem_singleton.mp hb]
    exact fresh
  · obtain ⟨its, rv, p, hz⟩ := I1.tuple hq
    refine wpAny_pyIter_tuple (show s1.heap.IsTuple a its.toArray from p) ?_
    refine ⟨s1.heap.objs.size, [s1.heap.objs.size], _, _, H1, rfl, I1.kept (t' := s1.toks) fun b o e => Heap.get?_push_of_some _ e, turn_tuple a _, ⟨_, Heap.get?_push_size _ rfl, rfl, rfl⟩, fun b hb => ?_, q⟩
    rw [List.mem_singleton.mp hb]
    exact fresh
def miS (A : Fe) : Fi := fun r s => (A r s).bind fun x => match x.1 with
  | .ref n => (match x.2.get n with
    | some (.lst _) => some (.lst n, x.2)
    | _ => none)
  | .fl ws => some (.seq ws, x.2)
  | .tup ws => some (.seq ws, x.2)
  | _ => none
theorem im_seq {tg : Expr} {A : Fe} (h : PE X e (tI G A)) (hK : X.K = G.K := by rfl) : PI X tg e (tIt G (miS A)) := pi_imp (pi_seq h) fun σ H R ⟨p, s, r, it, s', S, E, q, k⟩ => by
  obtain ⟨⟨x, s1⟩, q1, q2⟩ := Option.bind_eq_some_iff.mp q
  refine ⟨p, s, r, x, s1, S, E, q1, fun p1 v1 H1 S1 f1 d1 => ?_⟩
  cases d1 with
  | ref hn =>
    simp only at q2
    split at q2
    · rename_i ws e
      cases q2
      obtain ⟨ho, h1, vs, rfl, l, _⟩ := S1.get hn e
      exact ⟨_, rfl, .inl ⟨⟨vs, SqL.of h1⟩, k p1 H1 _ S1 f1 (itr_list hn hK)⟩⟩
    · cases q2
  | fl h1 l =>
    cases q2
    exact ⟨_, rfl, .inl ⟨⟨_, by rw [hK]; exact h1.sq⟩, k p1 H1 _ S1 f1 (itr_fl h1 l hK)⟩⟩
  | tup h1 l =>
    cases q2
    exact ⟨_, rfl, .inr ⟨⟨_, by rw [hK]; exact h1⟩, k p1 H1 _ S1 f1 (itr_tup h1 l hK)⟩⟩
  | _ => cases q2
def okI (i : Int) : Bool := decide (-(2 ^ 62) ≤ i) && decide (i < 2 ^ 62)
theorem okI_iff {i : Int} (h : okI i = true) : -(2 ^ 62) ≤ i ∧ i < 2 ^ 62 := by
  have := Bool.and_eq_true_iff.mp h
  exact ⟨of_decide_eq_true this.1, of_decide_eq_true this.2⟩
def miR1 (A : Fa) : Fi := fun r s => (A r s).bind fun x => match x.1 with
  | [.int j] => cond (okI j) (some (.rng 0 j.toNat, x.2)) none
  | _ => none
def miR2 (A : Fa) : Fi := fun r s => (A r s).bind fun x => match x.1 with
  | [.int i, .int j] => cond (okI i && okI j) (some (.rng i (j - i).toNat, x.2)) none
  | _ => none
theorem im_range1 {tg a : Expr} {A : Fa} {p pos : Pos} (hg : Gl X "range") (hm : X.mg "range" = none) (ha : PA X [a] (tA G A)) (hs : starEach [a] X.env = [(false, eval a X.env)] := by rfl) : PI X tg (.Call (.Name "range" p) [a] [] pos) (tIt G (miR1 A)) :=
  pi_imp (pi_range1 hg hm ha hs) fun σ H R ⟨p, s, r, it, s', S, E, q, k⟩ => by
    obtain ⟨⟨x, s1⟩, q1, q2⟩ := Option.bind_eq_some_iff.mp q
    refine ⟨p, s, r, x, s1, S, E, q1, fun p1 v1 H1 S1 f1 d1 => ?_⟩
    match x, q2, d1 with
    | [.int j], q2, .cons (.int _) .nil =>
      cases e : okI j with
      | false => simp only [e] at q2; cases q2
      | true =>
        simp only [e] at q2; cases q2
        exact ⟨j, rfl, (okI_iff e).1, (okI_iff e).2, k p1 H1 _ S1 f1 itr_rng⟩
theorem im_range2 {tg a b : Expr} {A : Fa} {p pos : Pos} (hg : Gl X "range") (hm : X.mg "range" = none) (ha : PA X [a, b] (tA G A)) (hs : starEach [a, b] X.env = [(false, eval a X.env), (false, eval b X.env)] := by rfl) (hs2 : starEach [b] X.env = [(false, eval b X.env)] := by rfl) :
    PI X tg (.Call (.Name "range" p) [a, b] [] pos) (tIt G (miR2 A)) :=
  pi_imp (pi_range2 hg hm ha hs hs2) fun σ H R ⟨p, s, r, it, s', S, E, q, k⟩ => by
    obtain ⟨⟨x, s1⟩, q1, q2⟩ := Option.bind_eq_some_iff.mp q
    refine ⟨p, s, r, x, s1, S, E, q1, fun p1 v1 H1 S1 f1 d1 => ?_⟩
    match x, q2, d1 with
    | [.int i, .int j], q2, .cons (.int _) (.cons (.int _) .nil) =>
      cases e : okI i && okI j with
      | false => simp only [e] at q2; cases q2
      | true =>
        simp only [e] at q2; cases q2
        have e' := Bool.and_eq_true_iff.mp e
        exact ⟨i, j, rfl, ⟨(okI_iff e'.1).1, (okI_iff e'.1).2, (okI_iff e'.2).1, (okI_iff e'.2).2⟩, k p1 H1 _ S1 f1 itr_rng⟩
def mloop (it : It0) (T : Tg) (B : Fs) : Nat → Nat → Me → Ms → Option (Fl × Me × Ms)
  | 0, _, _, _ => none
  | m + 1, i, r, s => match it.at i s with
    | none => none
    | some none => some (.nx, r, s)
    | some (some w) => (T.asg w r).bind fun r1 => (B r1 s).bind fun x => match x.1 with
      | .nx => mloop it T B m (i + 1) x.2.1 x.2.2
      | .ct => mloop it T B m (i + 1) x.2.1 x.2.2
      | .bk => some (.nx, x.2)
      | .rt w => some (.rt w, x.2)
def sfor (I : Fi) (T : Tg) (B : Fs) : Fs := fun r s => (I r s).bind fun x => mloop x.1 T B 100000 0 r x.2
theorem sm_for {tg iter : Expr} {body : List Stmt} {I : Fi} {T : Tg} {B : Fs} (hp : PassesOwn (model X.prog X.w) X.A X.env X.xe) (hc : X.calm = true) (hi : PI X tg iter (tIt G I)) (hg : PG X tg (tG G T)) (hb : PSs X body (tS G B)) (h : PS X (.For tg iter body [] pos) (tFor (tIt G I) (tG G T) (tS G B))) :
    PS X (.For tg iter body [] pos) (tS G (sfor I T B)) := ps_imp h fun D σ H ⟨p, s, r, f, r', s', S, E, q, k⟩ => by
  obtain ⟨⟨it, s1⟩, q1, q2⟩ := Option.bind_eq_some_iff.mp q
  refine ⟨p, s, r, it, s1, S, E, q1, fun p1 H1 J S1 f1 R => ?_⟩
  refine ⟨fun i m σ2 H2 => ∃ p2 s2 r2, Sim G p2 s2 H2 ∧ EnvR G p2 H2 r2 σ2 ∧ Fra p1 H1 p2 H2 ∧ mloop it T B m i r2 s2 = some (f, r', s'), ⟨100000, p1, s1, r, S1, E.fra S f1, Fra.refl, q2⟩, ?_⟩
  rintro i m σ2 H2 ⟨p2, s2, r2, S2, E2, f2, q3⟩
  cases m with
  | zero => cases q3
  | succ m =>
    have R2 := R p2 s2 H2 i S2 (f2.stays S1)
    unfold mloop at q3
    cases e : it.at i s2 with
    | none => rw [e] at q3; cases q3
    | some o =>
      cases o with
      | none =>
        rw [e] at q3
        have q3' : some (Fl.nx, r2, s2) = some (f, r', s') := q3
        cases q3'
        exact .inl ⟨R2.1 e, k p2 H2 S2 (f1.trans f2) σ2 E2⟩
      | some w =>
        rw [e] at q3
        obtain ⟨g, y⟩ := R2.2 w e
        obtain ⟨r3, q4, q5⟩ := Option.bind_eq_some_iff.mp q3
        obtain ⟨⟨fl, r4, s4⟩, q6, q7⟩ := Option.bind_eq_some_iff.mp q5
        refine .inr ⟨g, fun σ3 H3 => ∃ p3 s3 r5, Sim G p3 s3 H3 ∧ EnvR G p3 H3 r5 σ3 ∧ Fra p1 H1 p3 H3 ∧ mloop it T B m (i + 1) r5 s3 = some (f, r', s'), fun σ3 H3 h3 => ⟨m, Nat.lt_succ_self m, h3⟩, fun v H' hy => ?_⟩
        obtain ⟨S2', f2', d⟩ := y v H' hy
        refine ⟨p2, s2, r2, w, r3, S2', E2.fra S2 f2', d, q4, fun σ' E' _ => ⟨p2, s2, r3, fl, r4, s4, S2', E', q6, fun p4 H4 S4 f4 => ?_⟩⟩
        have ff := (f2.trans f2').trans f4
        cases fl with
        | nx => exact fun σ4 E4 => ⟨p4, s4, r4, S4, E4, ff, q7⟩
        | ct => exact fun σ4 E4 => ⟨p4, s4, r4, S4, E4, ff, q7⟩
        | bk =>
          have q7' : some (Fl.nx, r4, s4) = some (f, r', s') := q7
          cases q7'
          exact fun σ4 E4 => k p4 H4 S4 (f1.trans ff) σ4 E4
        | rt w' =>
          have q7' : some (Fl.rt w', r4, s4) = some (f, r', s') := q7
          cases q7'
          exact fun v' d' => k p4 H4 S4 (f1.trans ff) v' d'
def mwhl (T : Ft) (B : Fs) : Nat → Me → Ms → Option (Fl × Me × Ms)
  | 0, _, _ => none
  | m + 1, r, s => (T r s).bind fun t => cond t.1 ((B r t.2).bind fun x => match x.1 with
      | .nx => mwhl T B m x.2.1 x.2.2
      | .ct => mwhl T B m x.2.1 x.2.2
      | .bk => some (.nx, x.2)
      | .rt w => some (.rt w, x.2)) (some (.nx, r, t.2))
def swhl (T : Ft) (B : Fs) : Fs := mwhl T B 100000
theorem sm_while {c : Expr} {body : List Stmt} {T : Ft} {B : Fs} (hp : PassesOwn (model X.prog X.w) X.A X.env X.xe) (hc : PT X c (tT G T)) (hb : PSs X body (tS G B)) : PS X (.While c body [] pos) (tS G (swhl T B)) := ps_imp (ps_while hp hc hb) fun D σ H ⟨p, s, r, f, r', s', S, E, q, k⟩ => by
  refine ⟨fun m σ2 H2 => ∃ p2 s2 r2, Sim G p2 s2 H2 ∧ EnvR G p2 H2 r2 σ2 ∧ Fra p H p2 H2 ∧ mwhl T B m r2 s2 = some (f, r', s'), ⟨100000, p, s, r, S, E, Fra.refl, q⟩, ?_⟩
  rintro m σ2 H2 ⟨p2, s2, r2, S2, E2, f2, q3⟩
  cases m with
  | zero => cases q3
  | succ m =>
    unfold mwhl at q3
    obtain ⟨⟨t, s3⟩, q4, q5⟩ := Option.bind_eq_some_iff.mp q3
    refine ⟨p2, s2, r2, t, s3, S2, E2, q4, fun p3 H3 S3 f3 => ?_⟩
    cases t with
    | false =>
      rw [if_neg Bool.false_ne_true]
      have q5' : some (Fl.nx, r2, s3) = some (f, r', s') := q5
      cases q5'
      exact k p3 H3 S3 (f2.trans f3) σ2 (E2.fra S2 f3)
    | true =>
      rw [if_pos rfl]
      obtain ⟨⟨fl, r4, s4⟩, q6, q7⟩ := Option.bind_eq_some_iff.mp (show (B r2 s3).bind _ = _ from q5)
      refine ⟨fun σ5 H5 => ∃ p5 s5 r5, Sim G p5 s5 H5 ∧ EnvR G p5 H5 r5 σ5 ∧ Fra p H p5 H5 ∧ mwhl T B m r5 s5 = some (f, r', s'), fun σ5 H5 h5 => ⟨m, Nat.lt_succ_self m, h5⟩, p3, s3, r2, fl, r4, s4, S3, E2.fra S2 f3, q6, fun p4 H4 S4 f4 => ?_⟩
      have ff := (f2.trans f3).trans f4
      cases fl with
      | nx => exact fun σ4 E4 => ⟨p4, s4, r4, S4, E4, ff, q7⟩
      | ct => exact fun σ4 E4 => ⟨p4, s4, r4, S4, E4, ff, q7⟩
      | bk =>
        have q7' : some (Fl.nx, r4, s4) = some (f, r', s') := q7
        cases q7'
        exact fun σ4 E4 => k p4 H4 S4 ff σ4 E4
      | rt w' =>
        have q7' : some (Fl.rt w', r4, s4) = some (f, r', s') := q7
        cases q7'
        exact fun v' d' => k p4 H4 S4 ff v' d'
end
/-! ### defs -/
def fnM (np nl : Nat) (B : Fs) : Fn := fun ws s => cond (Nat.beq ws.length np) ((B (ws.map some ++ List.replicate (nl - np) none) s).bind fun x => match x.1 with
  | .rt w => some (w, x.2.2)
  | .nx => some (.non, x.2.2)
  | _ => none) none
theorem envR_start {G : Mg} {p : List Addr} {H : Hp} (n : Nat) : ∀ {ws : List Mv} {vs : List V}, DenL G p H ws vs → EnvR G p H (ws.map some ++ List.replicate n none) (vs.map some ++ List.replicate n none) := by
  intro ws vs l
  refine ⟨by simp [l.length], fun i w h => ?_⟩
  by_cases hi : i < ws.length
  · rw [List.getElem?_append_left (by simpa using hi)] at h
    rw [List.getElem?_append_left (by simpa [← l.length] using hi)]
    rw [List.getElem?_map] at h ⊢
    cases e : ws[i]? with
    | none => rw [e] at h; cases h
    | some w' =>
      rw [e] at h
      cases h
      obtain ⟨v, hv, d⟩ := l.get e
      exact ⟨v, by rw [hv]; rfl, d⟩
  · rw [List.getElem?_append_right (by simpa using hi)] at h
    have := List.mem_of_getElem? h
    have := List.eq_of_mem_replicate this
    cases this
section
variable {P : Program} {w : World} {K : PySem.W.Frag} {mg : Str → Option Value} {base : Heap} {G : Mg}
theorem fn_ok {x qual : Str} {st : Stmt} {f : Addr} {fd : FuncData} {N ps : List Str} {k : Nat} {B : Fs} (F : Fun K x qual st f fd) (sc : FnScope N ps (defScope st)) {np nl : Nat} (hnp : ps.length = np := by rfl) (hnl : N.length = nl := by rfl)
    (hb : ∀ (cdv : Value) (A : Around) (outer : List Env) (s : Shared) (H : Hp) (E : XK), Room k (A.deeper (envOfC qual (defScope st) s.heap.objs.size f cdv)) → PSs (cxOf CX0 P w K mg base N qual (defScope st) f cdv A outer s H E).nox (defBody st) (tS G B)) :
    FnOk P w K mg base CX0 (k + 1) f fd ps (spM G (fnM np nl B)) := by
  subst hnp hnl
  have len : ∀ vs H Q E, spM G (fnM ps.length N.length B) vs H Q E → vs.length = ps.length := by
    rintro vs H Q E ⟨p, s, ws, u, s', S, l, q, k'⟩
    rw [← l.length]
    unfold fnM at q
    cases e : Nat.beq ws.length ps.length with
    | false => rw [e] at q; cases q
    | true => exact Nat.eq_of_beq_eq_true e
  refine F.ok sc len fun cdv A outer s H vs Q E hr h => ⟨_, hb cdv A outer s H E hr, ?_⟩
  have hlen := len vs H Q E h
  obtain ⟨p, s0, ws, u, s', S, l, q, k'⟩ := h
  unfold fnM at q
  cases e : Nat.beq ws.length ps.length with
  | false => rw [e] at q; cases q
  | true =>
    rw [e] at q
    obtain ⟨⟨fl, r', s1⟩, q1, q2⟩ := Option.bind_eq_some_iff.mp q
    refine ⟨p, s0, _, fl, r', s1, S, ?_, q1, fun p1 H1 S1 f1 => ?_⟩
    · show EnvR G p H _ (L2.start N vs)
      unfold L2.start
      rw [hlen]
      exact envR_start _ l
    · cases fl with
      | rt w' =>
        have q2' : some (w', s1) = some (u, s') := q2
        cases q2'
        exact fun v d => k' p1 v H1 S1 f1 d
      | nx =>
        have q2' : some (Mv.non, s1) = some (u, s') := q2
        cases q2'
        exact fun σ E => k' p1 _ H1 S1 f1 .non
      | bk => cases q2
      | ct => cases q2
end

end
section
/-! ### data -/
def toDL (f : Mv → Option PyData) : List Mv → Option (List PyData)
  | [] => some []
  | w :: ws => (f w).bind fun d => (toDL f ws).map fun ds => d :: ds
def toD : Nat → Ms → Mv → Option PyData
  | 0, _, _ => none
  | n + 1, s, w => match w with
    | .non => some .none
    | .bl b => some (.bool b)
    | .int i => some (.int i)
    | .str x => cond (PyData.strOk x) (some (.str x)) none
    | .tup ws => (toDL (toD n s) ws).map .tuple
    | .fl ws => (toDL (toD n s) ws).map .list
    | .ref k => match s.get k with
      | some (.lst ws) => (toDL (toD n s) ws).map .list
      | _ => none
    | _ => none
section
variable {G : Mg} {p : List Addr} {s : Ms} {H : Hp}
structure DOk (G : Mg) (H : Hp) (n : Nat) (v : V) (d : PyData) : Prop where
  dp : Dp G.K H v d
  lay : d.canLay0 = true
  dep : d.depth ≤ n
theorem toDL_ok {n : Nat} {f : Mv → Option PyData} (hf : ∀ w v d, Den G p H w v → f w = some d → DOk G H n v d) : ∀ {ws : List Mv} {vs : List V} {ds : List PyData}, DenL G p H ws vs → toDL f ws = some ds →
    DpAll G.K H vs ds ∧ PyData.canLayAll0 ds = true ∧ PyData.depthAll ds ≤ n
  | _, _, _, .nil, h => by
    cases h
    exact ⟨.nil, by simp [PyData.canLayAll0], by simp [PyData.depthAll]⟩
  | _, _, _, .cons (w := w) (ws := ws) d l, h => by
    obtain ⟨x, h1, h2⟩ := Option.bind_eq_some_iff.mp (show (f w).bind (fun d => (toDL f ws).map fun ds => d :: ds) = _ from h)
    obtain ⟨xs, h3, h4⟩ := Option.map_eq_some_iff.mp h2
    cases h4
    have a := hf _ _ _ d h1
    obtain ⟨b1, b2, b3⟩ := toDL_ok hf l h3
    refine ⟨.cons a.dp b1, by simp [PyData.canLayAll0, a.lay, b2], ?_⟩
    have := a.dep
    simp only [PyData.depthAll]
    omega
theorem toD_ok (S : Sim G p s H) : ∀ (n : Nat) (w : Mv) (v : V) (d : PyData), Den G p H w v → toD n s w = some d → DOk G H n v d
  | 0, _, _, _, _, h => by cases h
  | n + 1, w, v, d, de, h => by
    have ih := toD_ok S n
    cases de with
    | non => cases h; exact ⟨.non, rfl, by simp [PyData.depth]⟩
    | bl b => cases h; exact ⟨.bl b, rfl, by simp [PyData.depth]⟩
    | int i => cases h; exact ⟨.int i, rfl, by simp [PyData.depth]⟩
    | str x =>
      have h' : cond (PyData.strOk x) (some (PyData.str x)) none = some d := h
      cases e : PyData.strOk x with
      | false => rw [e] at h'; cases h'
      | true =>
        rw [e] at h'; cases h'
        exact ⟨.str x, by simp [PyData.canLay0, e], by simp [PyData.depth]⟩
    | ty t => cases h
    | cls c => cases h
    | ref hn =>
      rename_i k a
      have h' : (match s.get k with
        | some (.lst ws) => (toDL (toD n s) ws).map PyData.list
        | _ => none) = some d := h
      split at h'
      · rename_i ws e
        obtain ⟨ho, h1, vs, rfl, l, _⟩ := S.get hn e
        obtain ⟨ds, h3, h4⟩ := Option.map_eq_some_iff.mp h'
        cases h4
        obtain ⟨b1, b2, b3⟩ := toDL_ok ih l h3
        exact ⟨.lst (SqL.of h1) b1, by simp [PyData.canLay0, b2], by simp only [PyData.depth]; omega⟩
      · cases h'
    | tup h1 l =>
      obtain ⟨ds, h3, h4⟩ := Option.map_eq_some_iff.mp (show (toDL (toD n s) _).map PyData.tuple = some d from h)
      cases h4
      obtain ⟨b1, b2, b3⟩ := toDL_ok ih l h3
      exact ⟨.tup h1 b1, by simp [PyData.canLay0, b2], by simp only [PyData.depth]; omega⟩
    | fl h1 l =>
      obtain ⟨ds, h3, h4⟩ := Option.map_eq_some_iff.mp (show (toDL (toD n s) _).map PyData.list = some d from h)
      cases h4
      obtain ⟨b1, b2, b3⟩ := toDL_ok ih l h3
      exact ⟨.lst h1.sq b1, by simp [PyData.canLay0, b2], by simp only [PyData.depth]; omega⟩
theorem DOk.shaped {n : Nat} {v : V} {d : PyData} (h : DOk G H n v d) (hn : n ≤ 64) : SeqAt.shaped d = true := by
  unfold SeqAt.shaped
  rw [h.lay, Bool.true_and]
  exact decide_eq_true (Nat.le_trans h.dep hn)
end
/-! ### operations -/
def opr (o : Option Mv) (s : Ms) : Option (Mv × Ms) := o.map fun w => (w, s)
def newL (ws : List Mv) (s : Ms) : Option (Mv × Ms) := cond (Nat.ble ws.length 16777216) ((s.alloc (.lst ws)).map fun q => (.ref q.1, q.2)) none
def newT (ws : List Mv) (s : Ms) : Option (Mv × Ms) := cond (Nat.ble ws.length 16777216) (some (.tup ws, s)) none
/-- the items of a list, a tuple -/
def items (w : Mv) (s : Ms) : Option (List Mv) := match w with
  | .tup ws => some ws
  | .fl ws => some ws
  | .ref n => match s.get n with
    | some (.lst ws) => some ws
    | _ => none
  | _ => none
def sqEq (a b : Mv) : Option Bool := match a, b with
  | .int i, .int j => some (decide (i = j))
  | .str x, .str y => some (decide (x = y))
  | .bl x, .bl y => some (decide (x = y))
  | .non, .non => some true
  | .non, .int _ | .int _, .non | .non, .bl _ | .bl _, .non | .non, .str _ | .str _, .non => some false
  | .int _, .str _ | .str _, .int _ | .bl _, .str _ | .str _, .bl _ => some false
  | _, _ => none
def eqBo (a b : Mv) (s : Ms) : Option Bool := match sqEq a b with
  | some k => some k
  | none => (toD 24 s a).bind fun d => (toD 24 s b).map fun e => PyData.eqv d e
def eqW (a b : Mv) (s : Ms) : Option (Mv × Ms) := (eqBo a b s).map fun k => (.bl k, s)
def neW (a b : Mv) (s : Ms) : Option (Mv × Ms) := (eqBo a b s).map fun k => (.bl (!k), s)
def addW (a b : Mv) (s : Ms) : Option (Mv × Ms) := match a, b with
  | .int i, .int j => some (.int (i + j), s)
  | .str x, .str y => cond (Nat.ble (x.length + y.length) 16777216) (some (.str (x ++ y), s)) none
  | .tup x, .tup y => newT (x ++ y) s
  | .ref n, .ref m => match s.get n, s.get m with
    | some (.lst x), some (.lst y) => newL (x ++ y) s
    | _, _ => none
  | _, _ => none
def subW (a b : Mv) (s : Ms) : Option (Mv × Ms) := match a, b with
  | .int i, .int j => some (.int (i - j), s)
  | _, _ => none
def smI (i : Int) : Bool := decide (-(2 ^ 64) < i) && decide (i < 2 ^ 64)
def mulW (a b : Mv) (s : Ms) : Option (Mv × Ms) := match a, b with
  | .int i, .int j => cond (smI i || smI j) (some (.int (i * j), s)) none
  | _, _ => none
def modW (a b : Mv) (s : Ms) : Option (Mv × Ms) := match a, b with
  | .int i, .int j => cond (decide (0 < j)) (some (.int (i % j), s)) none
  | _, _ => none
def divW (a b : Mv) (s : Ms) : Option (Mv × Ms) := match a, b with
  | .int i, .int j => cond (decide (0 < j) && decide (j < 1073741824)) (some (.int (i / j), s)) none
  | _, _ => none
def powW (a b : Mv) (s : Ms) : Option (Mv × Ms) := match a, b with
  | .int i, .int j => cond (decide (0 ≤ j) && decide (j ≤ 1000000) && smI i) (some (.int (i ^ j.toNat), s)) none
  | _, _ => none
def cmpI (f : Int → Int → Bool) (g : List Nat → List Nat → Bool) (a b : Mv) (s : Ms) : Option (Mv × Ms) := match a, b with
  | .int i, .int j => some (.bl (f i j), s)
  | .str x, .str y => some (.bl (g x.cps.toList y.cps.toList), s)
  | _, _ => none
def ltW := cmpI (fun i j => decide (i < j)) fun x y => decide (x < y)
def leW := cmpI (fun i j => decide (i ≤ j)) fun x y => !decide (y < x)
def gtW := cmpI (fun i j => decide (j < i)) fun x y => decide (y < x)
def geW := cmpI (fun i j => decide (j ≤ i)) fun x y => !decide (x < y)
def isW (neg : Bool) (a b : Mv) (s : Ms) : Option (Mv × Ms) := match b with
  | .non => some (.bl (neg != (match a with | .non => true | _ => false)), s)
  | _ => none
theorem sz_eq : sizeLine = 16777216 := sizeLine_eq
theorem ble_sz {n : Nat} (h : Nat.ble n 16777216 = true) : n ≤ sizeLine := by rw [sz_eq]; exact Nat.le_of_ble_eq_true h
section
variable {X : Cx} {G : Mg}
theorem newL_ok {p : List Addr} {s s' : Ms} {H : Hp} {ws : List Mv} {vs : List V} {w : Mv} {Q : VK} (S : Sim G p s H) (l : DenL G p H ws vs) (h : newL ws s = some (w, s')) (k : After G p H w s' Q) : vs.length ≤ sizeLine ∧ ∀ a, H a = none → Q (.ref a) (upd H a (.lst vs)) := by
  unfold newL at h
  cases e : Nat.ble ws.length 16777216 with
  | false => rw [e] at h; cases h
  | true =>
    rw [e] at h
    obtain ⟨⟨n, s1⟩, h1, h2⟩ := Option.map_eq_some_iff.mp (show (s.alloc (.lst ws)).map _ = some (w, s') from h)
    cases h2
    have hl : vs.length ≤ sizeLine := by rw [← l.length]; exact ble_sz e
    refine ⟨hl, fun a ha => ?_⟩
    obtain ⟨S', f', d'⟩ := S.new h1 ha (ho := .lst vs) ⟨vs, rfl, l, hl⟩ (H' := upd H a (.lst vs)) upd_same fun b u eb => by rw [upd_ne (ne_of_none eb ha)]; exact eb
    exact k _ _ _ S' f' d'
theorem fra_new {p : List Addr} {H : Hp} {a : Addr} {o : HO} (ha : H a = none) : Fra p H p (upd H a o) := ⟨⟨[], by simp, fun b hb => by simp at hb⟩, fun b u eb _ => by rw [upd_ne (ne_of_none eb ha)]; exact eb⟩
theorem Sim.fra_new {p : List Addr} {s : Ms} {H : Hp} {a : Addr} {o : HO} (S : Sim G p s H) (ha : H a = none) : Sim G p s (upd H a o) := by
  have st := (Mi.fra_new (p := p) (o := o) ha).stays S
  refine ⟨S.len, S.few, S.nd, fun n b hb => ?_, S.out⟩
  obtain ⟨o1, ho, q1, q2, q3⟩ := S.ob n b hb
  exact ⟨o1, ho, q1, by rw [upd_ne (ne_of_none q2 ha)]; exact q2, q3.stay st⟩
theorem newT_ok {p : List Addr} {s s' : Ms} {H : Hp} {ws : List Mv} {vs : List V} {w : Mv} {Q : VK} (S : Sim G p s H) (l : DenL G p H ws vs) (h : newT ws s = some (w, s')) (k : After G p H w s' Q) : vs.length ≤ sizeLine ∧ (∀ a, H a = none → Q (.ref a) (upd H a (.tup vs))) ∧ ∀ a, SqT G.K H a vs → Q (.ref a) H := by
  unfold newT at h
  cases e : Nat.ble ws.length 16777216 with
  | false => rw [e] at h; cases h
  | true =>
    rw [e] at h
    have h' : some (Mv.tup ws, s) = some (w, s') := h
    cases h'
    refine ⟨by rw [← l.length]; exact ble_sz e, fun a ha => ?_, fun a ha => k _ _ _ S Fra.refl (.tup ha l)⟩
    have f := Mi.fra_new (p := p) (o := HO.tup vs) ha
    exact k _ _ _ (S.fra_new ha) f (.tup (SqT.of upd_same) (l.fra S f))
def mtup (A : Fa) : Fe := fun r s => (A r s).bind fun x => newT x.1 x.2
def mlst (A : Fa) : Fe := fun r s => (A r s).bind fun x => newL x.1 x.2
theorem pm_tup {es : List Expr} {k : Nat} {pos : Pos} {A : Fa} (h : PA X es (tA G A)) : PE X (.Tuple es k pos) (tI G (mtup A)) := pe_imp (pe_tup h) fun σ H Q ⟨p, s, r, w, s', S, E, q, k⟩ => by
  obtain ⟨⟨x, s1⟩, q1, q2⟩ := Option.bind_eq_some_iff.mp q
  exact ⟨p, s, r, x, s1, S, E, q1, fun p1 vs H1 S1 f1 l => let ⟨a, b, _⟩ := newT_ok S1 l q2 (k.of f1); ⟨a, b⟩⟩
theorem pm_lst {es : List Expr} {pos : Pos} {A : Fa} (h : PA X es (tA G A)) : PE X (.List es pos) (tI G (mlst A)) := pe_imp (pe_lst h) fun σ H Q ⟨p, s, r, w, s', S, E, q, k⟩ => by
  obtain ⟨⟨x, s1⟩, q1, q2⟩ := Option.bind_eq_some_iff.mp q
  exact ⟨p, s, r, x, s1, S, E, q1, fun p1 vs H1 S1 f1 l => newL_ok S1 l q2 (k.of f1)⟩
theorem items_ok {p : List Addr} {s : Ms} {H : Hp} {w : Mv} {v : V} {ws : List Mv} (S : Sim G p s H) (d : Den G p H w v) (h : items w s = some ws) : ∃ a vs, v = .ref a ∧ (SqL G.K H a vs ∨ SqT G.K H a vs) ∧ DenL G p H ws vs := by
  cases d with
  | tup h1 l => cases h; exact ⟨_, _, rfl, .inr h1, l⟩
  | fl h1 l => cases h; exact ⟨_, _, rfl, .inl h1.sq, l⟩
  | ref hn =>
    simp only [items] at h
    split at h
    · rename_i ws' e
      cases h
      obtain ⟨ho, h1, vs, rfl, l, _⟩ := S.get hn e
      exact ⟨_, _, rfl, .inl (SqL.of h1), l⟩
    · cases h
  | _ => cases h
theorem opr_imp {f : Value → Value → Sem Value} {r r' : R2} (h : OpR X f r) (i : ∀ x y H Q, r' x y H Q → r x y H Q) : OpR X f r' := fun pins s σ H x y v u Q I rx ry q => h pins s σ H x y v u Q I rx ry (i x y H Q q)
theorem cal_imp {f : Value} {r r' : List V → Hp → VK → Prop} (h : CallR X f r) (i : ∀ x H Q, r' x H Q → r x H Q) : CallR X f r' := fun pins s σ H xs us Q I rv q => h pins s σ H xs us Q I rv (i xs H Q q)
theorem sqEq_ok {a b : Mv} {k : Bool} (h : sqEq a b = some k) {p : List Addr} {H : Hp} {x y : V} (da : Den G p H a x) (db : Den G p H b y) : scal x y = true ∧ decide (x = y) = k := by
  cases da <;> cases db <;> first
    | (cases h; done)
    | (cases h; exact ⟨rfl, by simp⟩)
    | (cases h; exact ⟨rfl, rfl⟩)
theorem om_eq (hu : X.A.units + 64 < cLine) (hK : X.K = G.K := by rfl) : OpR X (compareOp .Eq) (q2R G eqW) := opr_imp (OpR.or op_eq (op_eqD hu)) fun x y H Q ⟨p, s, a, b, w, s', S, da, db, q, k⟩ => by
  obtain ⟨c, q1, q2⟩ := Option.map_eq_some_iff.mp q
  cases q2
  unfold eqBo at q1
  split at q1
  · rename_i c' e
    cases q1
    obtain ⟨h1, h2⟩ := sqEq_ok e da db
    exact .inl ⟨h1, by rw [h2]; exact k p _ H S Fra.refl (.bl _)⟩
  · obtain ⟨d, h1, h2⟩ := Option.bind_eq_some_iff.mp q1
    obtain ⟨e, h3, h4⟩ := Option.map_eq_some_iff.mp h2
    subst h4
    have o1 := toD_ok S 24 _ _ _ da h1
    have o2 := toD_ok S 24 _ _ _ db h3
    exact .inr ⟨d, e, by rw [hK]; exact o1.dp, by rw [hK]; exact o2.dp, o1.shaped (by decide), o2.shaped (by decide), k p _ H S Fra.refl (.bl _)⟩
theorem om_ne (hu : X.A.units + 64 < cLine) (hK : X.K = G.K := by rfl) : OpR X (compareOp .NotEq) (q2R G neW) := opr_imp (OpR.or op_ne (op_neD hu)) fun x y H Q ⟨p, s, a, b, w, s', S, da, db, q, k⟩ => by
  obtain ⟨c, q1, q2⟩ := Option.map_eq_some_iff.mp q
  cases q2
  unfold eqBo at q1
  split at q1
  · rename_i c' e
    cases q1
    obtain ⟨h1, h2⟩ := sqEq_ok e da db
    exact .inl ⟨h1, by rw [h2]; exact k p _ H S Fra.refl (.bl _)⟩
  · obtain ⟨d, h1, h2⟩ := Option.bind_eq_some_iff.mp q1
    obtain ⟨e, h3, h4⟩ := Option.map_eq_some_iff.mp h2
    subst h4
    have o1 := toD_ok S 24 _ _ _ da h1
    have o2 := toD_ok S 24 _ _ _ db h3
    exact .inr ⟨d, e, by rw [hK]; exact o1.dp, by rw [hK]; exact o2.dp, o1.shaped (by decide), o2.shaped (by decide), k p _ H S Fra.refl (.bl _)⟩
theorem om_add (hK : X.K = G.K := by rfl) : OpR X (binaryOp .Add) (q2R G addW) := opr_imp (OpR.or (OpR.or op_add op_add_str) (OpR.or op_cat op_catA)) fun x y H Q ⟨p, s, a, b, w, s', S, da, db, q, k⟩ => by
  cases da <;> cases db <;> try (cases q; done)
  · cases q
    exact .inl (.inl ⟨_, _, rfl, rfl, k p _ H S Fra.refl (.int _)⟩)
  · rename_i x y _
    have q' : cond (Nat.ble (x.length + y.length) 16777216) (some (Mv.str (x ++ y), s)) none = some (w, s') := q
    cases e : Nat.ble (x.length + y.length) 16777216 with
    | false => rw [e] at q'; cases q'
    | true =>
      rw [e] at q'; cases q'
      exact .inl (.inr ⟨_, _, rfl, rfl, ble_sz e, k p _ H S Fra.refl (.str _)⟩)
  · rename_i n a h1 m b h2 _
    simp only [addW] at q
    split at q
    · rename_i u v e1 e2
      obtain ⟨ho, g1, vs, rfl, l1, _⟩ := S.get h1 e1
      obtain ⟨ho, g2, us, rfl, l2, _⟩ := S.get h2 e2
      obtain ⟨z1, z2⟩ := newL_ok S (l1.append l2) q k
      exact .inr (.inl ⟨_, _, _, _, rfl, rfl, g1, g2, by rw [← List.length_append]; exact z1, z2⟩)
    · cases q
  · rename_i a u vs h1 l1 b v us h2 l2 _
    obtain ⟨z1, z2, z3⟩ := newT_ok S (l1.append l2) q k
    refine .inr (.inr ⟨_, _, _, _, rfl, rfl, by rw [hK]; exact h1, by rw [hK]; exact h2, by rw [← List.length_append]; exact z1, fun e => ?_, fun _ e => ?_, fun _ _ => z2⟩)
    · subst e; exact z3 _ h2
    · subst e; exact z3 _ (by rw [List.append_nil]; exact h1)
theorem om_sub : OpR X (binaryOp .Sub) (q2R G subW) := opr_imp op_sub fun x y H Q ⟨p, s, a, b, w, s', S, da, db, q, k⟩ => by
  cases da <;> cases db <;> try (cases q; done)
  cases q
  exact ⟨_, _, rfl, rfl, k p _ H S Fra.refl (.int _)⟩
theorem smI_iff {i : Int} (h : smI i = true) : -(2 ^ 64) < i ∧ i < 2 ^ 64 := by
  have := Bool.and_eq_true_iff.mp h
  exact ⟨of_decide_eq_true this.1, of_decide_eq_true this.2⟩
theorem om_mul : OpR X (binaryOp .Mult) (q2R G mulW) := opr_imp op_mul fun x y H Q ⟨p, s, a, b, w, s', S, da, db, q, k⟩ => by
  cases da <;> cases db <;> try (cases q; done)
  rename_i i j _
  have q' : cond (smI i || smI j) (some (Mv.int (i * j), s)) none = some (w, s') := q
  cases e : (smI i || smI j) with
  | false => rw [e] at q'; cases q'
  | true =>
    rw [e] at q'; cases q'
    refine ⟨_, _, rfl, rfl, ?_, k p _ H S Fra.refl (.int _)⟩
    rcases Bool.or_eq_true_iff.mp e with e | e
    · exact .inl (smI_iff e)
    · exact .inr (smI_iff e)
theorem om_mod : OpR X (binaryOp .Mod) (q2R G modW) := opr_imp op_mod fun x y H Q ⟨p, s, a, b, w, s', S, da, db, q, k⟩ => by
  cases da <;> cases db <;> try (cases q; done)
  rename_i i j _
  have q' : cond (decide (0 < j)) (some (Mv.int (i % j), s)) none = some (w, s') := q
  cases e : decide (0 < j) with
  | false => rw [e] at q'; cases q'
  | true =>
    rw [e] at q'; cases q'
    exact ⟨_, _, rfl, rfl, of_decide_eq_true e, k p _ H S Fra.refl (.int _)⟩
theorem om_div : OpR X (binaryOp .FloorDiv) (q2R G divW) := opr_imp op_fdiv fun x y H Q ⟨p, s, a, b, w, s', S, da, db, q, k⟩ => by
  cases da <;> cases db <;> try (cases q; done)
  rename_i i j _
  have q' : cond (decide (0 < j) && decide (j < 1073741824)) (some (Mv.int (i / j), s)) none = some (w, s') := q
  cases e : (decide (0 < j) && decide (j < 1073741824)) with
  | false => rw [e] at q'; cases q'
  | true =>
    rw [e] at q'; cases q'
    have e' := Bool.and_eq_true_iff.mp e
    exact ⟨_, _, rfl, rfl, ⟨of_decide_eq_true e'.1, of_decide_eq_true e'.2⟩, k p _ H S Fra.refl (.int _)⟩
theorem om_pow : OpR X (binaryOp .Pow) (q2R G powW) := opr_imp op_pow fun x y H Q ⟨p, s, a, b, w, s', S, da, db, q, k⟩ => by
  cases da <;> cases db <;> try (cases q; done)
  rename_i i j _
  have q' : cond (decide (0 ≤ j) && decide (j ≤ 1000000) && smI i) (some (Mv.int (i ^ j.toNat), s)) none = some (w, s') := q
  cases e : (decide (0 ≤ j) && decide (j ≤ 1000000) && smI i) with
  | false => rw [e] at q'; cases q'
  | true =>
    rw [e] at q'; cases q'
    have e' := Bool.and_eq_true_iff.mp e
    have e2 := Bool.and_eq_true_iff.mp e'.1
    have h3 := smI_iff e'.2
    exact ⟨_, _, rfl, rfl, ⟨of_decide_eq_true e2.1, of_decide_eq_true e2.2, by omega⟩, k p _ H S Fra.refl (.int _)⟩
theorem om_lt : OpR X (compareOp .Lt) (q2R G ltW) := opr_imp (OpR.or op_lt op_lt_str) fun x y H Q ⟨p, s, a, b, w, s', S, da, db, q, k⟩ => by
  cases da <;> cases db <;> try (cases q; done)
  · cases q; exact .inl ⟨_, _, rfl, rfl, k p _ H S Fra.refl (.bl _)⟩
  · cases q; exact .inr ⟨_, _, rfl, rfl, k p _ H S Fra.refl (.bl _)⟩
theorem om_le : OpR X (compareOp .LtE) (q2R G leW) := opr_imp (OpR.or op_le op_le_str) fun x y H Q ⟨p, s, a, b, w, s', S, da, db, q, k⟩ => by
  cases da <;> cases db <;> try (cases q; done)
  · cases q; exact .inl ⟨_, _, rfl, rfl, k p _ H S Fra.refl (.bl _)⟩
  · cases q; exact .inr ⟨_, _, rfl, rfl, k p _ H S Fra.refl (.bl _)⟩
theorem om_gt : OpR X (compareOp .Gt) (q2R G gtW) := opr_imp (OpR.or op_gt op_gt_str) fun x y H Q ⟨p, s, a, b, w, s', S, da, db, q, k⟩ => by
  cases da <;> cases db <;> try (cases q; done)
  · cases q; exact .inl ⟨_, _, rfl, rfl, k p _ H S Fra.refl (.bl _)⟩
  · cases q; exact .inr ⟨_, _, rfl, rfl, k p _ H S Fra.refl (.bl _)⟩
theorem om_ge : OpR X (compareOp .GtE) (q2R G geW) := opr_imp (OpR.or op_ge op_ge_str) fun x y H Q ⟨p, s, a, b, w, s', S, da, db, q, k⟩ => by
  cases da <;> cases db <;> try (cases q; done)
  · cases q; exact .inl ⟨_, _, rfl, rfl, k p _ H S Fra.refl (.bl _)⟩
  · cases q; exact .inr ⟨_, _, rfl, rfl, k p _ H S Fra.refl (.bl _)⟩
theorem om_is : OpR X (compareOp .Is) (q2R G (isW false)) := opr_imp op_isN fun x y H Q ⟨p, s, a, b, w, s', S, da, db, q, k⟩ => by
  cases db <;> try (cases q; done)
  refine ⟨rfl, ?_⟩
  cases da <;> (cases q; exact k p _ H S Fra.refl (.bl _))
theorem om_isnot : OpR X (compareOp .IsNot) (q2R G (isW true)) := opr_imp op_notN fun x y H Q ⟨p, s, a, b, w, s', S, da, db, q, k⟩ => by
  cases db <;> try (cases q; done)
  refine ⟨rfl, ?_⟩
  cases da <;> (cases q; exact k p _ H S Fra.refl (.bl _))
end

end
section
/-! ### comprehensions -/
theorem itF {P Q : Prop} (h : Q) : if false = true then P else Q := by rw [if_neg Bool.false_ne_true]; exact h
theorem itT {P Q : Prop} (h : P) : if true = true then P else Q := by rw [if_pos rfl]; exact h
def mwipe (r : Me) : List Nat → Me
  | [] => r
  | v :: vs => (mwipe r vs).set v none
theorem EnvR.unset {G : Mg} {p : List Addr} {H : Hp} {r : Me} {σ : L2.St} {i : Nat} (e : EnvR G p H r σ) : EnvR G p H (r.set i none) (σ.set i none) := by
  refine ⟨by rw [List.length_set, List.length_set, e.len], fun j x h => ?_⟩
  by_cases hj : i = j
  · subst hj
    have hl : i < r.length := by
      have := (List.getElem?_eq_some_iff.mp h).1
      rwa [List.length_set] at this
    rw [List.getElem?_set_self hl] at h
    cases h
  · rw [List.getElem?_set_ne hj] at h
    rw [List.getElem?_set_ne hj]
    exact e.get j x h
theorem EnvR.wipe {G : Mg} {p : List Addr} {H : Hp} {r : Me} {σ : L2.St} (e : EnvR G p H r σ) : ∀ vs : List Nat, EnvR G p H (mwipe r vs) (L2.wipe σ vs)
  | [] => e
  | v :: vs => (e.wipe vs).unset
/-- the items of all turns, one turn giving some -/
def mflat (it : It0) (st : Mv → Ms → Option (List Mv × Ms)) : Nat → Nat → Ms → Option (List Mv × Ms)
  | 0, _, _ => none
  | m + 1, i, s => match it.at i s with
    | none => none
    | some none => some ([], s)
    | some (some w) => (st w s).bind fun x => (mflat it st m (i + 1) x.2).map fun y => (x.1 ++ y.1, y.2)
def mstep (T : Tg) (C : Ft) (E : Fe) (r : Me) (w : Mv) (s : Ms) : Option (List Mv × Ms) := (T.asg w r).bind fun r1 => (C r1 s).bind fun c => cond c.1 ((E r1 c.2).map fun x => ([x.1], x.2)) (some ([], c.2))
def mlc (I : Fi) (T : Tg) (C : Ft) (E : Fe) (vs : List Nat) : Fe := fun r s => (I r s).bind fun x => (mflat x.1 (mstep T C E (mwipe r vs)) 100000 0 x.2).bind fun y => newL y.1 y.2
def myes : Ft := fun _ s => some (true, s)
section
variable {X : Cx} {G : Mg}
theorem t_yes {σ : L2.St} {H : Hp} {Q : Bool → Hp → Prop} (h : tT G myes σ H Q) : tYes σ H Q := by
  obtain ⟨p, s, r, b, s', S, E, q, k⟩ := h
  cases q
  exact k p H S Fra.refl
theorem pts_imp {ifs : List Expr} {t t' : TT} (h : PTs X ifs t) (i : ∀ σ H Q, t' σ H Q → t σ H Q) : PTs X ifs t' := ⟨fun pins s σ H Q I q => h.run pins s σ H Q I (i σ H Q q)⟩
theorem tm_nil : PTs X [] (tT G myes) := pts_imp pts_nil fun _ _ _ h => t_yes h
theorem tm_one {c : Expr} {C : Ft} (h : PT X c (tT G C)) : PTs X [c] (tT G C) := pts_one h
theorem getElem?_wipe {σ : L2.St} {i : Nat} : ∀ {vs : List Nat}, i ∉ vs → (L2.wipe σ vs)[i]? = σ[i]?
  | [], _ => rfl
  | v :: vs, h => by
    have h' : i ≠ v ∧ i ∉ vs := by simpa using h
    show ((L2.wipe σ vs).set v none)[i]? = _
    rw [List.getElem?_set_ne (Ne.symm h'.1), getElem?_wipe h'.2]
theorem getElem?_wipe_in {σ : L2.St} {i : Nat} (hi : i < σ.length) : ∀ {vs : List Nat}, i ∈ vs → (L2.wipe σ vs)[i]? = some none
  | [], h => by cases h
  | v :: vs, h => by
    show ((L2.wipe σ vs).set v none)[i]? = _
    by_cases e : v = i
    · subst e
      rw [List.getElem?_set_self (by rw [wipe_length]; exact hi)]
    · rw [List.getElem?_set_ne e]
      exact getElem?_wipe_in hi (by simpa [Ne.symm e] using h)
theorem wipe_same {σ σ2 : L2.St} {vs : List Nat} (hl : σ2.length = σ.length) (h : ∀ i, i ∉ vs → σ2[i]? = (L2.wipe σ vs)[i]?) : L2.wipe σ2 vs = L2.wipe σ vs := by
  apply List.ext_getElem?
  intro i
  by_cases hi : i ∈ vs
  · by_cases hl2 : i < σ.length
    · rw [getElem?_wipe_in hl2 hi, getElem?_wipe_in (by omega) hi]
    · rw [List.getElem?_eq_none (by rw [wipe_length]; omega), List.getElem?_eq_none (by rw [wipe_length]; omega)]
  · rw [getElem?_wipe hi, h i hi]
theorem Sim.upd_out {p : List Addr} {s : Ms} {H : Hp} {D : Addr} {xs ys : List V} (S : Sim G p s H) (hD : H D = some (.lst xs)) (n : D ∉ p) : Sim G p s (upd H D (.lst ys)) ∧ Stays p H p (upd H D (.lst ys)) := by
  have st : Stays p H p (upd H D (.lst ys)) := by
    refine ⟨fun _ _ e => e, fun a vs e => ?_, fun a o u e => ?_⟩
    · rw [upd_ne (by rintro rfl; rw [hD] at e; cases e)]; exact e
    · rw [upd_ne (by rintro rfl; rw [hD] at e; cases e)]; exact e
  refine ⟨⟨S.len, S.few, S.nd, fun m b hb => ?_, S.out⟩, st⟩
  obtain ⟨o1, ho, q1, q2, q3⟩ := S.ob m b hb
  have hne : b ≠ D := by rintro rfl; exact n (List.mem_of_getElem? hb)
  exact ⟨o1, ho, q1, by rw [upd_ne hne]; exact q2, q3.stay st⟩
theorem Sim.adopt {p : List Addr} {s s' : Ms} {H : Hp} {D : Addr} {ws : List Mv} {vs : List V} {n : Nat} (S : Sim G p s H) (hD : H D = some (.lst vs)) (nin : D ∉ p) (l : DenL G p H ws vs) (hz : vs.length ≤ sizeLine) (e : s.alloc (.lst ws) = some (n, s')) : Sim G (p ++ [D]) s' H ∧ Den G (p ++ [D]) H (.ref n) (.ref D) := by
  obtain ⟨rfl, h2, h3, h4⟩ := Ms.alloc_eq e
  have st : Stays p H (p ++ [D]) H := ⟨fun n a h => by rw [List.getElem?_append_left (List.getElem?_eq_some_iff.mp h).1]; exact h, fun _ _ e => e, fun _ _ _ e => e⟩
  have hlen : (p ++ [D])[s.sz]? = some D := by rw [← S.len]; simp
  refine ⟨⟨by rw [List.length_append, S.len, h2]; rfl, by omega, ?_, fun m b hb => ?_, fun m hm => ?_⟩, .ref hlen⟩
  · rw [List.nodup_append]
    exact ⟨S.nd, by simp, fun x hx y hy => by rw [List.mem_singleton.mp hy]; rintro rfl; exact nin hx⟩
  · by_cases hmn : m = s.sz
    · subst hmn
      rw [hlen] at hb; cases hb
      exact ⟨.lst ws, .lst vs, by rw [h4, if_pos rfl], hD, vs, rfl, l.stay st, hz⟩
    · have hlt : m < p.length := by
        have := (List.getElem?_eq_some_iff.mp hb).1
        rw [List.length_append] at this
        have := S.len
        simp at *
        omega
      rw [List.getElem?_append_left hlt] at hb
      obtain ⟨o1, ho1, q1, q2, q3⟩ := S.ob m b hb
      exact ⟨o1, ho1, by rw [h4, if_neg hmn]; exact q1, q2, q3.stay st⟩
  · rw [h4, if_neg (by omega)]
    exact S.out m (by omega)
theorem asgs_rlen : ∀ {is : List Nat} {ws : List Mv} {r r' : Me}, asgs is ws r = some r' → r'.length = r.length
  | [], [], _, _, h => by cases h; rfl
  | [], _ :: _, _, _, h => by cases h
  | _ :: _, [], _, _, h => by cases h
  | i :: is, w :: ws, r, r', h => by rw [asgs_rlen (is := is) (ws := ws) h, List.length_set]
theorem asg_len {T : Tg} {w : Mv} {r r' : Me} (h : T.asg w r = some r') : r'.length = r.length := by
  cases T with
  | nm i => cases h; rw [List.length_set]
  | tp is =>
    cases w with
    | tup ws => exact asgs_rlen h
    | _ => cases h
/-- while a comprehension runs: its list at D stands outside -/
structure Mid (G : Mg) (D : Addr) (p1 : List Addr) (H1 : Hp) (acc : List Mv) (p : List Addr) (s : Ms) (H : Hp) : Prop where
  S : Sim G p s H
  f : Fra p1 H1 p H
  n : D ∉ p
  a : ∃ vs, H D = some (.lst vs) ∧ DenL G p H acc vs
theorem Mid.fra {D : Addr} {p1 p p' : List Addr} {H1 H H' : Hp} {acc : List Mv} {s s' : Ms} (M : Mid G D p1 H1 acc p s H) (S' : Sim G p' s' H') (f : Fra p H p' H') : Mid G D p1 H1 acc p' s' H' := by
  obtain ⟨vs, h1, h2⟩ := M.a
  exact ⟨S', M.f.trans f, f.notin h1 M.n, vs, f.kee D _ h1 M.n, h2.fra M.S f⟩
theorem Mid.app {D : Addr} {p1 p : List Addr} {H1 H : Hp} {acc : List Mv} {s : Ms} {w : Mv} {v : V} (M : Mid G D p1 H1 acc p s H) (hD : H1 D = none) (d : Den G p H w v) : ∃ vs, H D = some (.lst vs) ∧ vs.length = acc.length ∧ Mid G D p1 H1 (acc ++ [w]) p s (upd H D (.lst (vs ++ [v]))) := by
  obtain ⟨vs, h1, h2⟩ := M.a
  obtain ⟨S', st⟩ := M.S.upd_out (ys := vs ++ [v]) h1 M.n
  refine ⟨vs, h1, h2.length.symm, S', ⟨M.f.pre, fun a o e n => ?_⟩, M.n, _, upd_same, (h2.stay st).append (.cons (d.stay st) .nil)⟩
  rw [upd_ne (by rintro rfl; rw [hD] at e; cases e)]
  exact M.f.kee a o e n
theorem newL_end {D : Addr} {p1 p : List Addr} {H1 H : Hp} {acc : List Mv} {s s' : Ms} {w : Mv} {Q : VK} (M : Mid G D p1 H1 acc p s H) (hD : H1 D = none) (h : newL acc s = some (w, s')) (k : After G p1 H1 w s' Q) : Q (.ref D) H := by
  obtain ⟨vs, h1, h2⟩ := M.a
  unfold newL at h
  cases e : Nat.ble acc.length 16777216 with
  | false => rw [e] at h; cases h
  | true =>
    rw [e] at h
    obtain ⟨⟨n, s1⟩, g1, g2⟩ := Option.map_eq_some_iff.mp (show (s.alloc (.lst acc)).map _ = some (w, s') from h)
    cases g2
    obtain ⟨S', d'⟩ := M.S.adopt h1 M.n h2 (by rw [← h2.length]; exact ble_sz e) g1
    obtain ⟨q, eq, hq⟩ := M.f.pre
    refine k _ _ _ S' ⟨⟨q ++ [D], by rw [eq, List.append_assoc], fun a ha np => ?_⟩, M.f.kee⟩ d'
    rcases List.mem_append.mp ha with z | z
    · exact hq a z np
    · rw [List.mem_singleton.mp z]; exact hD
theorem newL_len {acc : List Mv} {s s' : Ms} {w : Mv} (h : newL acc s = some (w, s')) : acc.length ≤ sizeLine := by
  unfold newL at h
  cases e : Nat.ble acc.length 16777216 with
  | false => rw [e] at h; cases h
  | true => exact ble_sz e
theorem Sim.free {p : List Addr} {s : Ms} {H : Hp} {D : Addr} (S : Sim G p s H) (hD : H D = none) : D ∉ p := fun h => by
  obtain ⟨k, hk⟩ := List.mem_iff_getElem?.mp h
  obtain ⟨_, _, _, z, _⟩ := S.ob k D hk
  rw [hD] at z; cases z
theorem Mid.start {D : Addr} {p1 : List Addr} {H1 : Hp} {s1 : Ms} (S : Sim G p1 s1 H1) (hD : H1 D = none) : Mid G D p1 H1 [] p1 s1 (upd H1 D (.lst [])) :=
  ⟨S.fra_new hD, fra_new hD, S.free hD, ⟨[], upd_same, .nil⟩⟩
theorem t_lc {I : Fi} {T : Tg} {C : Ft} {E : Fe} {vs : List Nat} (hT : ∀ i ∈ T.slots, i ∈ vs) {σ : L2.St} {H : Hp} {Q : VK} (h : tI G (mlc I T C E vs) σ H Q) : tLc (tIt G I) (tG G T) (tT G C) (tI G E) vs σ H Q := by
  obtain ⟨p, s, r, w, s', S, Er, q, k⟩ := h
  obtain ⟨⟨it, s1⟩, q1, q2⟩ := Option.bind_eq_some_iff.mp q
  obtain ⟨⟨tot, s9⟩, q3, q4⟩ := Option.bind_eq_some_iff.mp q2
  have hlen : tot.length ≤ sizeLine := newL_len q4
  refine ⟨p, s, r, it, s1, S, Er, q1, fun p1 H1 J S1 f1 R D hD => ?_⟩
  have k1 := k.of f1
  have E1 := Er.fra S f1
  refine ⟨fun i m H2 => ∃ p2 s2 acc rest, Mid G D p1 H1 acc p2 s2 H2 ∧ mflat it (mstep T C E (mwipe r vs)) m i s2 = some (rest, s9) ∧ acc ++ rest = tot, ⟨100000, p1, s1, [], tot, Mid.start S1 hD, q3, rfl⟩, ?_⟩
  rintro i m H2 ⟨p2, s2, acc, rest, M, q5, e5⟩
  cases m with
  | zero => cases q5
  | succ m =>
    have st2 := M.f.stays S1
    have R2 := R p2 s2 H2 i M.S st2
    unfold mflat at q5
    cases e : it.at i s2 with
    | none => rw [e] at q5; cases q5
    | some o =>
      cases o with
      | none =>
        rw [e] at q5
        have q5' : some (([] : List Mv), s2) = some (rest, s9) := q5
        cases q5'
        rw [List.append_nil] at e5
        subst e5
        exact .inl ⟨R2.1 e, newL_end M hD q4 k1⟩
      | some x =>
        rw [e] at q5
        obtain ⟨⟨xs, s3⟩, q6, q7⟩ := Option.bind_eq_some_iff.mp q5
        obtain ⟨⟨ys, s4⟩, q8, q9⟩ := Option.map_eq_some_iff.mp q7
        cases q9
        obtain ⟨g, y⟩ := R2.2 x e
        refine .inr ⟨g, fun H3 => ∃ p3 s3', Mid G D p1 H1 (acc ++ xs) p3 s3' H3 ∧ s3' = s3, fun H3 ⟨p3, s3', M3, e3⟩ => ⟨m, Nat.lt_succ_self m, p3, s3', acc ++ xs, ys, M3, by rw [e3]; exact q8, by rw [List.append_assoc]; exact e5⟩, fun v H' hy => ?_⟩
        obtain ⟨S2', f2', d⟩ := y v H' hy
        have M2 := M.fra S2' f2'
        unfold mstep at q6
        obtain ⟨r1, a1, a2⟩ := Option.bind_eq_some_iff.mp q6
        obtain ⟨⟨c, s5⟩, a3, a4⟩ := Option.bind_eq_some_iff.mp a2
        have E2 : EnvR G p2 H' (mwipe r vs) (L2.wipe σ vs) := (((E1.fra S1 M.f).fra M.S f2').wipe vs)
        refine ⟨p2, s2, _, x, r1, S2', E2, d, a1, fun σ2 E3 hs => ⟨?_, p2, s2, r1, c, s5, S2', E3, a3, fun p5 H5 S5 f5 => ?_⟩⟩
        · refine wipe_same ?_ fun i hi => hs i fun z => hi (hT i z)
          rw [← E3.len, asg_len a1]
          have := E2.len
          rw [wipe_length] at this
          exact this
        · have M5 := M2.fra S5 f5
          cases c with
          | false =>
            refine itF ?_
            have a4' : some (([] : List Mv), s5) = some (xs, s3) := a4
            cases a4'
            exact ⟨p5, _, by rw [List.append_nil]; exact M5, rfl⟩
          | true =>
            refine itT ?_
            obtain ⟨⟨z, s6⟩, a5, a6⟩ := Option.map_eq_some_iff.mp (show (E r1 s5).map _ = some (xs, s3) from a4)
            cases a6
            refine ⟨p5, s5, r1, z, s6, S5, E3.fra S2' f5, a5, fun p6 v6 H6 S6 f6 d6 => ?_⟩
            obtain ⟨vs', b1, b2, b3⟩ := (M5.fra S6 f6).app hD d6
            refine ⟨vs', b1, ?_, p6, _, b3, rfl⟩
            rw [b2]
            have : (acc ++ ([z] ++ ys)).length = tot.length := by rw [e5]
            simp at this
            omega
theorem pm_lc {elt tg iter : Expr} {ifs : List Expr} {scope : Scope} {own : List (Str × Nat)} {pos : Pos} {I : Fi} {T : Tg} {C : Ft} {E : Fe} (hc : X.calm = true) (hN : X.N.Nodup) (hi : PI X tg iter (tIt G I)) (ok : BlkOk X.N X.env.scope scope own)
    (hg : ∀ (s : Shared) (H : Hp) (C : Addr) (cl : List (Str × Addr)) (fp : List Addr), PG (X.blk s H scope (compEnvC scope cl C X.env) fp) tg (tG G T)) (ht : ∀ (s : Shared) (H : Hp) (C0 : Addr) (cl : List (Str × Addr)) (fp : List Addr), PTs (X.blk s H scope (compEnvC scope cl C0 X.env) fp) ifs (tT G C))
    (he : ∀ (s : Shared) (H : Hp) (C : Addr) (cl : List (Str × Addr)) (fp : List Addr), PE (X.blk s H scope (compEnvC scope cl C X.env) fp) elt (tI G E)) (hT : ∀ i ∈ T.slots, i ∈ own.map (·.2) := by decide) (hs : ∀ x, foldedSetIterable iter X.env x = pure x := by intro _; rfl) :
    PE X (.ListComp elt [⟨tg, iter, ifs, 0⟩] scope pos) (tI G (mlc I T C E (own.map (·.2)))) := pe_imp (pe_lc hc hN hi ok hg ht he hs) fun _ _ _ h => t_lc hT h
theorem sm_setLc {i : Nat} {y : Str} {py : Pos} {elt tg iter : Expr} {ifs : List Expr} {scope : Scope} {own : List (Str × Nat)} {pos spos : Pos} {I : Fi} {T : Tg} {C : Ft} {E : Fe} (hc : X.calm = true) (hN : X.N.Nodup) (hy : X.N[i]? = some y) (hyl : X.env.scope.names.lookup y = some .local)
    (hsw : swapsWith (.ListComp elt [⟨tg, iter, ifs, 0⟩] scope pos) (some (.Name y py)) spos.line X.env = pure true) (hi : PI X tg iter (tIt G I)) (ok : BlkOk X.N X.env.scope scope own)
    (hg : ∀ (s : Shared) (H : Hp) (C : Addr) (cl : List (Str × Addr)) (fp : List Addr), PG (X.blk s H scope (compEnvC scope cl C X.env) fp) tg (tG G T)) (ht : ∀ (s : Shared) (H : Hp) (C0 : Addr) (cl : List (Str × Addr)) (fp : List Addr), PTs (X.blk s H scope (compEnvC scope cl C0 X.env) fp) ifs (tT G C))
    (he : ∀ (s : Shared) (H : Hp) (C : Addr) (cl : List (Str × Addr)) (fp : List Addr), PE (X.blk s H scope (compEnvC scope cl C X.env) fp) elt (tI G E)) (hT : ∀ i ∈ T.slots, i ∈ own.map (·.2) := by decide) (hs : ∀ x, foldedSetIterable iter X.env x = pure x := by intro _; rfl) :
    PS X (.Assign [.Name y py] (.ListComp elt [⟨tg, iter, ifs, 0⟩] scope pos) spos) (tS G (sset i (mlc I T C E (own.map (·.2))))) :=
  ps_imp (ps_setLc hc hN hy hyl hsw hi ok hg ht he hs) fun D σ H ⟨p, s, r, f, r', s', S, E, q, k⟩ => by
    obtain ⟨⟨x, s1⟩, q1, q2⟩ := Option.map_eq_some_iff.mp q
    cases q2
    exact t_lc hT ⟨p, s, r, x, s1, S, E, q1, fun p1 v1 H1 S1 f1 d1 => k p1 H1 S1 f1 _ ((E.fra S f1).set d1)⟩
/-! two fors -/
def mlc2 (I : Fi) (T : Tg) (C : Ft) (I1 : Fi) (T1 : Tg) (C1 : Ft) (E : Fe) (vs vs1 : List Nat) : Fe := fun r s => (I r s).bind fun x => (mflat x.1 (fun w s => (T.asg w (mwipe r vs)).bind fun r1 => (C r1 s).bind fun c => cond c.1 ((I1 r1 c.2).bind fun z => mflat z.1 (mstep T1 C1 E (mwipe r1 vs1)) 100000 0 z.2) (some ([], c.2))) 100000 0 x.2).bind fun y => newL y.1 y.2
theorem Mid.eqv {D : Addr} {p1 p : List Addr} {H1 H : Hp} {acc acc' : List Mv} {s : Ms} (M : Mid G D p1 H1 acc p s H) (e : acc = acc') : Mid G D p1 H1 acc' p s H := e ▸ M
theorem t_lc2 {I : Fi} {T : Tg} {C : Ft} {I1 : Fi} {T1 : Tg} {C1 : Ft} {E : Fe} {vs vs1 : List Nat} (hT : ∀ i ∈ T.slots, i ∈ vs) (hT1 : ∀ i ∈ T1.slots, i ∈ vs1) {σ : L2.St} {H : Hp} {Q : VK} (h : tI G (mlc2 I T C I1 T1 C1 E vs vs1) σ H Q) :
    tLc2 (tIt G I) (tG G T) (tT G C) (tIt G I1) (tG G T1) (tT G C1) (tI G E) vs vs1 σ H Q := by
  obtain ⟨p, s, r, w, s', S, Er, q, k⟩ := h
  obtain ⟨⟨it, s1⟩, q1, q2⟩ := Option.bind_eq_some_iff.mp q
  obtain ⟨⟨tot, s9⟩, q3, q4⟩ := Option.bind_eq_some_iff.mp q2
  have hlen : tot.length ≤ sizeLine := newL_len q4
  refine ⟨p, s, r, it, s1, S, Er, q1, fun p1 H1 J S1 f1 R D hD => ?_⟩
  have k1 := k.of f1
  have E1 := Er.fra S f1
  refine ⟨fun i m H2 => ∃ p2 s2 acc rest, Mid G D p1 H1 acc p2 s2 H2 ∧ mflat it _ m i s2 = some (rest, s9) ∧ acc ++ rest = tot, ⟨100000, p1, s1, [], tot, Mid.start S1 hD, q3, rfl⟩, ?_⟩
  rintro i m H2 ⟨p2, s2, acc, rest, M, q5, e5⟩
  cases m with
  | zero => cases q5
  | succ m =>
    have st2 := M.f.stays S1
    have R2 := R p2 s2 H2 i M.S st2
    unfold mflat at q5
    cases e : it.at i s2 with
    | none => rw [e] at q5; cases q5
    | some o =>
      cases o with
      | none =>
        rw [e] at q5
        have q5' : some (([] : List Mv), s2) = some (rest, s9) := q5
        cases q5'
        rw [List.append_nil] at e5
        subst e5
        exact .inl ⟨R2.1 e, newL_end M hD q4 k1⟩
      | some x =>
        rw [e] at q5
        obtain ⟨⟨xs, s3⟩, q6, q7⟩ := Option.bind_eq_some_iff.mp q5
        obtain ⟨⟨ys, s4⟩, q8, q9⟩ := Option.map_eq_some_iff.mp q7
        cases q9
        obtain ⟨g, y⟩ := R2.2 x e
        have htot : acc.length + (xs.length + ys.length) = tot.length := by rw [← e5]; simp
        refine .inr ⟨g, fun H3 => ∃ p3 s3', Mid G D p1 H1 (acc ++ xs) p3 s3' H3 ∧ s3' = s3, fun H3 ⟨p3, s3', M3, e3⟩ => ⟨m, Nat.lt_succ_self m, p3, s3', acc ++ xs, ys, M3, by rw [e3]; exact q8, by rw [List.append_assoc]; exact e5⟩, fun v H' hy => ?_⟩
        obtain ⟨S2', f2', d⟩ := y v H' hy
        have M2 := M.fra S2' f2'
        obtain ⟨r1, a1, a2⟩ := Option.bind_eq_some_iff.mp q6
        obtain ⟨⟨c, s5⟩, a3, a4⟩ := Option.bind_eq_some_iff.mp a2
        have E2 : EnvR G p2 H' (mwipe r vs) (L2.wipe σ vs) := (((E1.fra S1 M.f).fra M.S f2').wipe vs)
        refine ⟨p2, s2, _, x, r1, S2', E2, d, a1, fun σ2 E3 hs => ⟨?_, p2, s2, r1, c, s5, S2', E3, a3, fun p5 H5 S5 f5 => ?_⟩⟩
        · refine wipe_same ?_ fun i hi => hs i fun z => hi (hT i z)
          rw [← E3.len, asg_len a1]
          have := E2.len
          rw [wipe_length] at this
          exact this
        · have M5 := M2.fra S5 f5
          have E5 := E3.fra S2' f5
          cases c with
          | false =>
            refine itF ?_
            have a4' : some (([] : List Mv), s5) = some (xs, s3) := a4
            cases a4'
            exact ⟨p5, _, M5.eqv (by rw [List.append_nil]), rfl⟩
          | true =>
            refine itT ?_
            obtain ⟨⟨it1, s6⟩, a5, a6⟩ := Option.bind_eq_some_iff.mp (show (I1 r1 s5).bind _ = some (xs, s3) from a4)
            refine ⟨p5, s5, r1, it1, s6, S5, E5, a5, fun p6 H6 J1 S6 f6 R6 => ?_⟩
            have M6 := M5.fra S6 f6
            have E6 := E5.fra S5 f6
            refine ⟨fun j n H7 => ∃ p7 s7 acc7 rest7, Mid G D p1 H1 acc7 p7 s7 H7 ∧ Stays p6 H6 p7 H7 ∧ mflat it1 (mstep T1 C1 E (mwipe r1 vs1)) n j s7 = some (rest7, s3) ∧ acc7 ++ rest7 = acc ++ xs, ⟨100000, p6, s6, acc, xs, M6, Stays.refl, a6, rfl⟩, ?_⟩
            rintro j n H7 ⟨p7, s7, acc7, rest7, M7, st7, b5, be⟩
            cases n with
            | zero => cases b5
            | succ n =>
              have R7 := R6 p7 s7 H7 j M7.S st7
              unfold mflat at b5
              cases e7 : it1.at j s7 with
              | none => rw [e7] at b5; cases b5
              | some o7 =>
                cases o7 with
                | none =>
                  rw [e7] at b5
                  have b5' : some (([] : List Mv), s7) = some (rest7, s3) := b5
                  cases b5'
                  rw [List.append_nil] at be
                  exact .inl ⟨R7.1 e7, p7, _, M7.eqv be, rfl⟩
                | some x7 =>
                  rw [e7] at b5
                  obtain ⟨⟨xs8, s8⟩, b6, b7⟩ := Option.bind_eq_some_iff.mp b5
                  obtain ⟨⟨ys8, s10⟩, b8, b9⟩ := Option.map_eq_some_iff.mp b7
                  cases b9
                  obtain ⟨g7, y7⟩ := R7.2 x7 e7
                  refine .inr ⟨g7, fun H3 => ∃ p3 s3', Mid G D p1 H1 (acc7 ++ xs8) p3 s3' H3 ∧ Stays p6 H6 p3 H3 ∧ s3' = s8, fun H3 ⟨p3, s3', M3, st3, e3⟩ => ⟨n, Nat.lt_succ_self n, p3, s3', acc7 ++ xs8, ys8, M3, st3, by rw [e3]; exact b8, by rw [List.append_assoc]; exact be⟩, fun v7 H' hy7 => ?_⟩
                  obtain ⟨S7', f7', d7⟩ := y7 v7 H' hy7
                  have M8 := M7.fra S7' f7'
                  have st8 := st7.trans (f7'.stays M7.S)
                  obtain ⟨r9, c1, c2⟩ := Option.bind_eq_some_iff.mp b6
                  obtain ⟨⟨cc, s11⟩, c3, c4⟩ := Option.bind_eq_some_iff.mp c2
                  have E8 : EnvR G p7 H' (mwipe r1 vs1) (L2.wipe σ2 vs1) := EnvR.wipe ⟨E6.len, fun i w h => let ⟨v, q, d⟩ := E6.get i w h; ⟨v, q, d.stay st8⟩⟩ vs1
                  refine ⟨p7, s7, _, x7, r9, S7', E8, d7, c1, fun σ3 E9 hs9 => ⟨?_, p7, s7, r9, cc, s11, S7', E9, c3, fun p10 H10 S10 f10 => ?_⟩⟩
                  · refine wipe_same ?_ fun i hi => hs9 i fun z => hi (hT1 i z)
                    rw [← E9.len, asg_len c1]
                    have := E8.len
                    rw [wipe_length] at this
                    exact this
                  · have M10 := M8.fra S10 f10
                    have st10 := st8.trans (f10.stays S7')
                    cases cc with
                    | false =>
                      refine itF ?_
                      have c4' : some (([] : List Mv), s11) = some (xs8, s8) := c4
                      cases c4'
                      exact ⟨p10, _, M10.eqv (by rw [List.append_nil]), st10, rfl⟩
                    | true =>
                      refine itT ?_
                      obtain ⟨⟨z, s12⟩, c5, c6⟩ := Option.map_eq_some_iff.mp (show (E r9 s11).map _ = some (xs8, s8) from c4)
                      cases c6
                      refine ⟨p10, s11, r9, z, s12, S10, E9.fra S7' f10, c5, fun p12 v12 H12 S12 f12 d12 => ?_⟩
                      obtain ⟨vs', g1, g2, g3⟩ := (M10.fra S12 f12).app hD d12
                      refine ⟨vs', g1, ?_, p12, _, g3, ?_, rfl⟩
                      · rw [g2]
                        have : (acc7 ++ ([z] ++ ys8)).length = (acc ++ xs).length := by rw [be]
                        simp at this
                        omega
                      · exact (st10.trans (f12.stays S10)).trans (S12.upd_out g1 (M10.fra S12 f12).n).2
theorem pm_lc2 {elt tg iter tg1 iter1 : Expr} {ifs ifs1 : List Expr} {scope : Scope} {own : List (Str × Nat)} {vs1 : List Nat} {pos : Pos} {I I1 : Fi} {T T1 : Tg} {C C1 : Ft} {E : Fe} (hc : X.calm = true) (hN : X.N.Nodup) (hi : PI X tg iter (tIt G I)) (ok : BlkOk X.N X.env.scope scope own)
    (hg : ∀ (s : Shared) (H : Hp) (C : Addr) (cl : List (Str × Addr)) (fp : List Addr), PG (X.blk s H scope (compEnvC scope cl C X.env) fp) tg (tG G T)) (ht : ∀ (s : Shared) (H : Hp) (C0 : Addr) (cl : List (Str × Addr)) (fp : List Addr), PTs (X.blk s H scope (compEnvC scope cl C0 X.env) fp) ifs (tT G C))
    (hi1 : ∀ (s : Shared) (H : Hp) (C : Addr) (cl : List (Str × Addr)) (fp : List Addr), PI (X.blk s H scope (compEnvC scope cl C X.env) fp) tg1 iter1 (tIt G I1))
    (hg1 : ∀ (s : Shared) (H : Hp) (C : Addr) (cl : List (Str × Addr)) (fp : List Addr), PG (X.blk s H scope (compEnvC scope cl C X.env) fp) tg1 (tG G T1)) (ht1 : ∀ (s : Shared) (H : Hp) (C0 : Addr) (cl : List (Str × Addr)) (fp : List Addr), PTs (X.blk s H scope (compEnvC scope cl C0 X.env) fp) ifs1 (tT G C1))
    (he : ∀ (s : Shared) (H : Hp) (C : Addr) (cl : List (Str × Addr)) (fp : List Addr), PE (X.blk s H scope (compEnvC scope cl C X.env) fp) elt (tI G E)) (hv : ∀ i ∈ vs1, i ∈ own.map (·.2) := by decide) (hT : ∀ i ∈ T.slots, i ∈ own.map (·.2) := by decide) (hT1 : ∀ i ∈ T1.slots, i ∈ vs1 := by decide)
    (hs : ∀ x, foldedSetIterable iter X.env x = pure x := by intro _; rfl) (hs1 : ∀ env x, foldedSetIterable iter1 env x = pure x := by intro _ _; rfl) :
    PE X (.ListComp elt [⟨tg, iter, ifs, 0⟩, ⟨tg1, iter1, ifs1, 0⟩] scope pos) (tI G (mlc2 I T C I1 T1 C1 E (own.map (·.2)) vs1)) := pe_imp (pe_lc2 hc hN hi ok hv hg ht hi1 hg1 ht1 he hs hs1) fun _ _ _ h => t_lc2 hT hT1 h
theorem sm_setLc2 {i : Nat} {y : Str} {py : Pos} {elt tg iter tg1 iter1 : Expr} {ifs ifs1 : List Expr} {scope : Scope} {own : List (Str × Nat)} {vs1 : List Nat} {pos spos : Pos} {I I1 : Fi} {T T1 : Tg} {C C1 : Ft} {E : Fe}
    (h : PS X (.Assign [.Name y py] (.ListComp elt [⟨tg, iter, ifs, 0⟩, ⟨tg1, iter1, ifs1, 0⟩] scope pos) spos) (tAsg (tLc2 (tIt G I) (tG G T) (tT G C) (tIt G I1) (tG G T1) (tT G C1) (tI G E) (own.map (·.2)) vs1) (gName i))) (hT : ∀ i ∈ T.slots, i ∈ own.map (·.2) := by decide) (hT1 : ∀ i ∈ T1.slots, i ∈ vs1 := by decide) :
    PS X (.Assign [.Name y py] (.ListComp elt [⟨tg, iter, ifs, 0⟩, ⟨tg1, iter1, ifs1, 0⟩] scope pos) spos) (tS G (sset i (mlc2 I T C I1 T1 C1 E (own.map (·.2)) vs1))) :=
  ps_imp h fun D σ H ⟨p, s, r, f, r', s', S, E, q, k⟩ => by
    obtain ⟨⟨x, s1⟩, q1, q2⟩ := Option.map_eq_some_iff.mp q
    cases q2
    exact t_lc2 hT hT1 ⟨p, s, r, x, s1, S, E, q1, fun p1 v1 H1 S1 f1 d1 => k p1 H1 S1 f1 _ ((E.fra S f1).set d1)⟩
end

end
section
/-! ### subscripts, slices, membership -/
theorem DenL.atI {G : Mg} {p : List Addr} {H : Hp} {ws : List Mv} {vs : List V} (l : DenL G p H ws vs) {i : Int} {w : Mv} (h : L2.atI ws i = some w) : ∃ v, L2.atI vs i = some v ∧ Den G p H w v := by
  unfold L2.atI at h ⊢
  rw [← l.length]
  obtain ⟨j, h1, h2⟩ := Option.bind_eq_some_iff.mp h
  obtain ⟨v, h3, d⟩ := l.get h2
  exact ⟨v, by rw [h1]; exact h3, d⟩
def ixW (a b : Mv) (s : Ms) : Option (Mv × Ms) := match b with
  | .int i => (items a s).bind fun ws => (L2.atI ws i).map fun w => (w, s)
  | _ => none
def cutM (ws : List Mv) (lo hi : Option Int) : List Mv := (ws.drop (HT.sIx ws.length 0 lo)).take (HT.sIx ws.length ws.length hi - HT.sIx ws.length 0 lo)
def slW (w : Mv) (lo hi : Option Int) (s : Ms) : Option (Mv × Ms) := match w with
  | .tup ws => newT (cutM ws lo hi) s
  | .fl ws => newL (cutM ws lo hi) s
  | .ref n => match s.get n with
    | some (.lst ws) => newL (cutM ws lo hi) s
    | _ => none
  | _ => none
abbrev Fo := Me → Ms → Option (Option Int × Ms)
def onone : Fo := fun _ s => some (none, s)
def osome (A : Fe) : Fo := fun r s => (A r s).bind fun x => match x.1 with
  | .int i => some (some i, x.2)
  | _ => none
def mslice (A : Fe) (L U : Fo) : Fe := fun r s => (A r s).bind fun x => (L r x.2).bind fun l => (U r l.2).bind fun u => slW x.1 l.1 u.1 u.2
def tO (G : Mg) (F : Fo) : TO := fun σ H Q => ∃ p s r o s', Sim G p s H ∧ EnvR G p H r σ ∧ F r s = some (o, s') ∧ ∀ p' H', Sim G p' s' H' → Fra p H p' H' → Q o H'
/-- a text in a list of texts -/
def strsOf : List Mv → Option (List Str)
  | [] => some []
  | .str x :: ws => (strsOf ws).map fun r => x :: r
  | _ => none
def inBo (x : Mv) (y : Mv) (s : Ms) : Option Bool := (items y s).bind fun ws => match x, strsOf ws with
  | .str z, some ys => some (ys.any fun y => decide (y = z))
  | _, _ => (toD 24 s x).bind fun d => (toDL (toD 23 s) ws).map fun ds => ds.any fun z => PyData.eqv z d
def inW (x y : Mv) (s : Ms) : Option (Mv × Ms) := (inBo x y s).map fun k => (.bl k, s)
def ninW (x y : Mv) (s : Ms) : Option (Mv × Ms) := (inBo x y s).map fun k => (.bl (!k), s)
section
variable {X : Cx} {G : Mg} {e a b : Expr} {pos : Pos}
theorem ixr_imp {r r' : R2} (h : IxR X r) (i : ∀ x y H Q, r' x y H Q → r x y H Q) : IxR X r' := fun v sl pins s σ H x y u w Q I rx ry q => h v sl pins s σ H x y u w Q I rx ry (i x y H Q q)
theorem ixm (hK : X.K = G.K := by rfl) : IxR X (q2R G ixW) := ixr_imp ix_seq fun x y H Q ⟨p, s, a, b, w, s', S, da, db, q, k⟩ => by
  cases db <;> try (cases q; done)
  rename_i i _
  obtain ⟨ws, q1, q2⟩ := Option.bind_eq_some_iff.mp (show (items a s).bind _ = some (w, s') from q)
  obtain ⟨w', q3, q4⟩ := Option.map_eq_some_iff.mp q2
  cases q4
  obtain ⟨ad, vs, rfl, h1, l⟩ := items_ok S da q1
  obtain ⟨v, h2, d⟩ := l.atI q3
  rcases h1 with h1 | h1
  · exact .inl ⟨ad, vs, i, v, rfl, rfl, by rw [hK]; exact h1, h2, k p v H S Fra.refl d⟩
  · exact .inr (.inl ⟨ad, vs, i, v, rfl, rfl, by rw [hK]; exact h1, h2, k p v H S Fra.refl d⟩)
theorem pm_ix {A B : Fe} (ha : PE X a (tI G A)) (hb : PE X b (tI G B)) (hs : PlainIx b := by exact fun _ _ => rfl) (hK : X.K = G.K := by rfl) : PE X (.Subscript a b pos) (tI G (mop2 ixW A B)) := pe_imp (pe_ix (ixm hK) ha hb hs) fun _ _ _ h => t_op2 h
theorem po_imp {e : Option Expr} {t t' : TO} (h : PO X e t) (i : ∀ σ H Q, t' σ H Q → t σ H Q) : PO X e t' := ⟨fun pins s σ H Q I q => h.run pins s σ H Q I (i σ H Q q)⟩
theorem om_none : PO X none (tO G onone) := po_imp po_none fun σ H Q ⟨p, s, r, o, s', S, E, q, k⟩ => by cases q; exact k p H S Fra.refl
theorem om_some {A : Fe} (h : PE X e (tI G A)) : PO X (some e) (tO G (osome A)) := po_imp (po_some h) fun σ H Q ⟨p, s, r, o, s', S, E, q, k⟩ => by
  obtain ⟨⟨x, s1⟩, q1, q2⟩ := Option.bind_eq_some_iff.mp q
  refine ⟨p, s, r, x, s1, S, E, q1, fun p1 v1 H1 S1 f1 d1 => ?_⟩
  cases d1 <;> try (cases q2; done)
  cases q2
  exact ⟨_, rfl, k p1 H1 S1 f1⟩
theorem cut_den {p : List Addr} {H : Hp} {ws : List Mv} {vs : List V} (l : DenL G p H ws vs) (lo hi : Option Int) : DenL G p H (cutM ws lo hi) (cutV vs lo hi) := by
  unfold cutM cutV
  rw [← l.length]
  exact (l.drop _).take _
theorem cut_whole {vs : List V} {lo hi : Option Int} (h : HT.sIx vs.length 0 lo = 0 ∧ HT.sIx vs.length vs.length hi = vs.length) : cutV vs lo hi = vs := by
  unfold cutV
  rw [h.1, h.2]
  simp
theorem pm_slice {A : Fe} {L U : Fo} {lo hi : Option Expr} {p2 : Pos} (he : PE X e (tI G A)) (hl : PO X lo (tO G L)) (hu : PO X hi (tO G U)) (hK : X.K = G.K := by rfl) : PE X (.Subscript e (.Slice lo hi none p2) pos) (tI G (mslice A L U)) :=
  pe_imp (pe_slice (SlR.or sl_list sl_tupA) he hl hu) fun σ H Q ⟨p, s, r, w, s', S, E, q, k⟩ => by
    obtain ⟨⟨x, s1⟩, q1, q2⟩ := Option.bind_eq_some_iff.mp q
    obtain ⟨⟨l, s2⟩, q3, q4⟩ := Option.bind_eq_some_iff.mp q2
    obtain ⟨⟨u, s3⟩, q5, q6⟩ := Option.bind_eq_some_iff.mp q4
    refine ⟨p, s, r, x, s1, S, E, q1, fun p1 v1 H1 S1 f1 d1 => ⟨p1, s1, r, l, s2, S1, E.fra S f1, q3, fun p2 H2 S2 f2 => ⟨p2, s2, r, u, s3, S2, (E.fra S f1).fra S1 f2, q5, fun p3 H3 S3 f3 => ?_⟩⟩⟩
    have d3 := (d1.fra S1 f2).fra S2 f3
    have k3 := k.of ((f1.trans f2).trans f3)
    cases d3 with
    | tup h1 ll =>
      obtain ⟨z1, z2, z3⟩ := newT_ok S3 (cut_den ll l u) q6 k3
      refine .inr ⟨_, _, rfl, by rw [hK]; exact h1, fun e => ?_, fun _ => z2⟩
      rw [cut_whole e] at z3
      exact z3 _ h1
    | fl h1 ll =>
      obtain ⟨z1, z2⟩ := newL_ok S3 (cut_den ll l u) q6 k3
      exact .inl ⟨_, _, rfl, by rw [hK]; exact h1.sq, z2⟩
    | ref hn =>
      simp only [slW] at q6
      split at q6
      · rename_i ws e
        obtain ⟨ho, h1, vs, rfl, ll, _⟩ := S3.get hn e
        obtain ⟨z1, z2⟩ := newL_ok S3 (cut_den ll l u) q6 k3
        exact .inl ⟨_, _, rfl, SqL.of h1, z2⟩
      · cases q6
    | _ => cases q6
theorem strsOf_ok {p : List Addr} {H : Hp} : ∀ {ws : List Mv} {vs : List V} {ys : List Str}, DenL G p H ws vs → strsOf ws = some ys → vs = ys.map V.str ∧ ws = ys.map Mv.str
  | _, _, _, .nil, h => by cases h; exact ⟨rfl, rfl⟩
  | _, _, _, .cons (w := w) (ws := ws) d l, h => by
    cases d <;> try (cases h; done)
    rename_i x
    obtain ⟨r, h1, h2⟩ := Option.map_eq_some_iff.mp (show (strsOf ws).map _ = _ from h)
    cases h2
    obtain ⟨e1, e2⟩ := strsOf_ok l h1
    exact ⟨by rw [e1]; rfl, by rw [e2]; rfl⟩
/-- x in a tuple of data -/
def rInDT (K : PySem.W.Frag) (neg : Bool) : R2 := fun x y H Q => ∃ d ds, Dp K H x d ∧ Dp K H y (.tuple ds) ∧ SeqAt.shaped d = true ∧ SeqAt.shaped (.tuple ds) = true ∧ Q (.bl (neg != ds.any fun z => PyData.eqv z d)) H
theorem op_inDT (hu : X.A.units + 65 < cLine) : OpR X (compareOp .In) (rInDT X.K false) := by
  intro pins s σ H x y v u Q I rx ry h
  obtain ⟨d, ds, hd, he, sd, se, q⟩ := h
  obtain ⟨as, r1⟩ := Dp.reads I d x v hd rx
  obtain ⟨bs, r2⟩ := Dp.reads I (.tuple ds) y u he ry
  exact SeqAt.in_tuple_reads r2 r1 (SeqAt.canLay_of_shaped se) (SeqAt.canLay_of_shaped sd) (room_in_shaped sd hu) ⟨.bl _, H, I, rfl, by simpa using q⟩
theorem op_ninDT (hu : X.A.units + 65 < cLine) : OpR X (compareOp .NotIn) (rInDT X.K true) := by
  intro pins s σ H x y v u Q I rx ry h
  obtain ⟨d, ds, hd, he, sd, se, q⟩ := h
  obtain ⟨as, r1⟩ := Dp.reads I d x v hd rx
  obtain ⟨bs, r2⟩ := Dp.reads I (.tuple ds) y u he ry
  exact SeqAt.notIn_tuple_reads r2 r1 (SeqAt.canLay_of_shaped se) (SeqAt.canLay_of_shaped sd) (room_in_shaped sd hu) ⟨.bl _, H, I, rfl, by simpa using q⟩
theorem in_core (hK : X.K = G.K) {p : List Addr} {s : Ms} {H : Hp} {x y : Mv} {vx vy : V} {c : Bool} {neg : Bool} {Q : VK} (S : Sim G p s H) (dx : Den G p H x vx) (dy : Den G p H y vy) (h : inBo x y s = some c) (q : Q (.bl (neg != c)) H) :
    rIn X.K neg vx vy H Q ∨ (∃ d ds, Dp X.K H vx d ∧ Dp X.K H vy (.list ds) ∧ SeqAt.shaped d = true ∧ SeqAt.shaped (.list ds) = true ∧ Q (.bl (neg != ds.any fun z => PyData.eqv z d)) H) ∨ rInDT X.K neg vx vy H Q := by
  obtain ⟨ws, h1, h2⟩ := Option.bind_eq_some_iff.mp h
  obtain ⟨ad, vs, rfl, hs, l⟩ := items_ok S dy h1
  split at h2
  · rename_i z ys e
    cases h2
    obtain ⟨e1, e2⟩ := strsOf_ok l e
    cases dx
    refine .inl ⟨ad, vs, rfl, by rw [hK]; exact hs, rfl, by rw [e1]; simp [flatV], ?_⟩
    have e3 : inV (V.str z) vs = ys.any fun y => decide (y = z) := by
      rw [e1]
      unfold inV
      rw [List.any_map]
      have e4 : ((fun y => eqV y (V.str z)) ∘ V.str) = fun y => decide (y = z) := by
        funext y
        exact Bool.beq_eq_decide_eq y z
      rw [e4]
    rw [e3]
    cases neg
    · simpa using q
    · simpa using q
  · obtain ⟨d, g1, g2⟩ := Option.bind_eq_some_iff.mp h2
    obtain ⟨ds, g3, g4⟩ := Option.map_eq_some_iff.mp g2
    subst g4
    have o1 := toD_ok S 24 _ _ _ dx g1
    obtain ⟨b1, b2, b3⟩ := toDL_ok (toD_ok S 23) l g3
    have sh : ∀ c : List PyData → PyData, (c = PyData.list ∨ c = PyData.tuple) → SeqAt.shaped (c ds) = true := fun c hc => by
      unfold SeqAt.shaped
      rcases hc with rfl | rfl
      · simp only [PyData.canLay0, b2, PyData.depth, Bool.true_and]; exact decide_eq_true (by omega)
      · simp only [PyData.canLay0, b2, PyData.depth, Bool.true_and]; exact decide_eq_true (by omega)
    rcases hs with hs | hs
    · exact .inr (.inl ⟨d, ds, by rw [hK]; exact o1.dp, by rw [hK]; exact .lst hs b1, o1.shaped (by decide), sh _ (.inl rfl), q⟩)
    · exact .inr (.inr ⟨d, ds, by rw [hK]; exact o1.dp, by rw [hK]; exact .tup hs b1, o1.shaped (by decide), sh _ (.inr rfl), q⟩)
theorem om_in (hu : X.A.units + 65 < cLine) (hK : X.K = G.K := by rfl) : OpR X (compareOp .In) (q2R G inW) := opr_imp (OpR.or op_in_seq (OpR.or (op_inD hu) (op_inDT hu))) fun x y H Q ⟨p, s, a, b, w, s', S, da, db, q, k⟩ => by
  obtain ⟨c, q1, q2⟩ := Option.map_eq_some_iff.mp q
  cases q2
  rcases in_core hK (neg := false) S da db q1 (Q := Q) (by simpa using k p _ H S Fra.refl (.bl _)) with h | ⟨d, ds, h1, h2, h3, h4, h5⟩ | h
  · exact .inl h
  · exact .inr (.inl ⟨d, ds, h1, h2, h3, h4, by simpa using h5⟩)
  · exact .inr (.inr h)
theorem om_nin (hu : X.A.units + 65 < cLine) (hK : X.K = G.K := by rfl) : OpR X (compareOp .NotIn) (q2R G ninW) := opr_imp (OpR.or op_notIn_seq (OpR.or (op_notInD hu) (op_ninDT hu))) fun x y H Q ⟨p, s, a, b, w, s', S, da, db, q, k⟩ => by
  obtain ⟨c, q1, q2⟩ := Option.map_eq_some_iff.mp q
  cases q2
  rcases in_core hK (neg := true) S da db q1 (Q := Q) (by simpa using k p _ H S Fra.refl (.bl _)) with h | ⟨d, ds, h1, h2, h3, h4, h5⟩ | h
  · exact .inl h
  · exact .inr (.inl ⟨d, ds, h1, h2, h3, h4, by simpa using h5⟩)
  · exact .inr (.inr h)
/-! ### stars -/
def mstar (A : Fe) (B : Fa) : Fa := fun r s => (A r s).bind fun x => (items x.1 x.2).bind fun ws => (B r x.2).bind fun y => some (ws ++ y.1, y.2)
end
/-! ### built-ins -/
def lenB (w : Mv) (s : Ms) : Option Nat := match w with
  | .str x => cond (Nat.ble x.length 16777216) (some x.length) none
  | .tup ws => some ws.length
  | .fl ws => some ws.length
  | .ref n => match s.get n with
    | some (.lst ws) => some ws.length
    | _ => none
  | _ => none
def lenW : Fn := fun ws s => match ws with
  | [w] => (lenB w s).map fun (n : Nat) => (Mv.int (n : Int), s)
  | _ => none
def listW : Fn := fun ws s => match ws with
  | [w] => (items w s).bind fun xs => newL xs s
  | _ => none
def tupleW : Fn := fun ws s => match ws with
  | [w] => (items w s).bind fun xs => newT xs s
  | _ => none
def boolsOf : List Mv → Option (List Bool)
  | [] => some []
  | .bl x :: ws => (boolsOf ws).map fun r => x :: r
  | _ => none
def lstOf (w : Mv) (s : Ms) : Option (List Mv) := match w with
  | .tup _ => none
  | _ => items w s
def allW : Fn := fun ws s => match ws with
  | [w] => (lstOf w s).bind fun xs => (boolsOf xs).map fun bs => (.bl (bs.all id), s)
  | _ => none
def anyW : Fn := fun ws s => match ws with
  | [w] => (lstOf w s).bind fun xs => (boolsOf xs).map fun bs => (.bl (bs.any id), s)
  | _ => none
def absW : Fn := fun ws s => match ws with
  | [.int i] => some (.int (if i < 0 then -i else i), s)
  | _ => none
def min2W : Fn := fun ws s => match ws with
  | [.int i, .int j] => some (.int (if j < i then j else i), s)
  | _ => none
def intW : Fn := fun ws s => match ws with
  | [.int i] => some (.int i, s)
  | [.bl k] => some (.int (if k then 1 else 0), s)
  | _ => none
def tyOf : Mv → Ms → Option Mty
  | .non, _ => some .none
  | .bl _, _ => some .bool
  | .int _, _ => some .int
  | .str _, _ => some .str
  | .tup _, _ => some .tuple
  | .fl _, _ => some .list
  | .ref n, s => match s.get n with
    | some (.lst _) => some .list
    | some (.dk _) => some .dict
    | some (.dt _) => some .dict
    | _ => none
  | _, _ => none
def isaT (t c : Mty) : Bool := decide (t = c) || (decide (t = .bool) && decide (c = .int))
def tysOf : List Mv → Option (List Mty)
  | [] => some []
  | .ty t :: ws => (tysOf ws).map fun r => t :: r
  | _ => none
def isiW : Fn := fun ws s => match ws with
  | [w, .ty c] => (tyOf w s).map fun t => (.bl (isaT t c), s)
  | _ => none
def insS (x : Str) : List Str → List Str
  | [] => [x]
  | y :: r => cond (decide (y.cps.toList < x.cps.toList)) (y :: insS x r) (x :: y :: r)
def sortS (l : List Str) : List Str := l.foldr insS []
def sortedW : Fn := fun ws s => match ws with
  | [w] => (lstOf w s).bind fun xs => (strsOf xs).bind fun ys => cond (Nat.blt ys.length 64) (newL ((sortS ys).map .str) s) none
  | _ => none
def minS (x : Str) (xs : List Str) : Str := xs.foldl (fun a y => if decide (y.cps.toList < a.cps.toList) = true then y else a) x
def minW : Fn := fun ws s => match ws with
  | [w] => (lstOf w s).bind fun xs => match strsOf xs with
    | some (y :: ys) => some (.str (minS y ys), s)
    | _ => none
  | _ => none
section
variable {X : Cx} {G : Mg} {e a b : Expr} {pos : Pos}
theorem lstOf_ok {p : List Addr} {s : Ms} {H : Hp} {w : Mv} {v : V} {ws : List Mv} (S : Sim G p s H) (d : Den G p H w v) (h : lstOf w s = some ws) : ∃ a vs, v = .ref a ∧ SqL G.K H a vs ∧ DenL G p H ws vs := by
  cases d with
  | tup h1 l => cases h
  | fl h1 l => cases h; exact ⟨_, _, rfl, h1.sq, l⟩
  | ref hn =>
    simp only [lstOf, items] at h
    split at h
    · rename_i ws' e
      cases h
      obtain ⟨ho, h1, vs, rfl, l, _⟩ := S.get hn e
      exact ⟨_, _, rfl, SqL.of h1, l⟩
    · cases h
  | _ => cases h
theorem pm_star {A : Fe} {B : Fa} {es : List Expr} {q : Pos} (ha : PE X e (tI G A)) (hr : PA X es (tA G B)) (hs : starEach (.Starred e q :: es) X.env = (true, eval e X.env) :: starEach es X.env := by rfl) (hK : X.K = G.K := by rfl) : PA X (.Starred e q :: es) (tA G (mstar A B)) :=
  pa_imp (StX.pa_star ha hr hs) fun σ H Q ⟨p, s, r, ws, s', S, E, q, k⟩ => by
    obtain ⟨⟨x, s1⟩, q1, q2⟩ := Option.bind_eq_some_iff.mp q
    obtain ⟨xs, q3, q4⟩ := Option.bind_eq_some_iff.mp q2
    obtain ⟨⟨y, s2⟩, q5, q6⟩ := Option.bind_eq_some_iff.mp q4
    cases q6
    refine ⟨p, s, r, x, s1, S, E, q1, fun p1 v1 H1 S1 f1 d1 => ?_⟩
    obtain ⟨ad, vs, rfl, hs, l⟩ := items_ok S1 d1 q3
    exact ⟨ad, vs, rfl, by rw [hK]; exact hs.symm, p1, s1, r, y, s2, S1, E.fra S f1, q5, fun p2 us H2 S2 f2 d2 => k p2 _ H2 S2 (f1.trans f2) ((l.fra S1 f2).append d2)⟩
theorem lenB_ok {p : List Addr} {s : Ms} {H : Hp} {w : Mv} {v : V} {n : Nat} (S : Sim G p s H) (d : Den G p H w v) (h : lenB w s = some n) : LenV G.K v H n := by
  cases d with
  | str x =>
    have q' : cond (Nat.ble x.length 16777216) (some x.length) none = some n := h
    cases e : Nat.ble x.length 16777216 with
    | false => rw [e] at q'; cases q'
    | true => rw [e] at q'; cases q'; exact ⟨ble_sz e, rfl⟩
  | tup h1 l => cases h; exact .inr ⟨_, h1, l.length⟩
  | fl h1 l => cases h; exact .inl ⟨_, h1.sq, l.length⟩
  | ref hn =>
    simp only [lenB] at h
    split at h
    · rename_i ws e
      cases h
      obtain ⟨ho, h1, vs, rfl, l, _⟩ := S.get hn e
      exact .inl ⟨_, SqL.of h1, l.length⟩
    · cases h
  | _ => cases h
theorem cm_len (hK : X.K = G.K := by rfl) : CallR X (.builtin "len") (rF G lenW) := cal_imp call_len fun xs H Q ⟨p, s, ws, w, s', S, l, q, k⟩ => by
  match ws, l, q with
  | [w0], .cons d .nil, q =>
    obtain ⟨n, g1, g2⟩ := Option.map_eq_some_iff.mp (show (lenB w0 s).map (fun (n : Nat) => (Mv.int (n : Int), s)) = some (w, s') from q)
    cases g2
    exact ⟨_, n, rfl, by rw [hK]; exact lenB_ok S d g1, k p _ H S Fra.refl (.int _)⟩
theorem cm_list (hK : X.K = G.K := by rfl) : CallR X (.type "list") (rF G listW) := cal_imp call_list_of fun xs H Q ⟨p, s, ws, w, s', S, l, q, k⟩ => by
  match ws, l, q with
  | [w0], .cons d .nil, q =>
    obtain ⟨ys, g1, g2⟩ := Option.bind_eq_some_iff.mp (show (items w0 s).bind _ = some (w, s') from q)
    obtain ⟨ad, vs, rfl, hs, ll⟩ := items_ok S d g1
    exact ⟨ad, vs, rfl, by rw [hK]; exact hs, (newL_ok S ll g2 k).2⟩
theorem cm_tuple (hK : X.K = G.K := by rfl) : CallR X (.type "tuple") (rF G tupleW) := cal_imp call_tuple_of fun xs H Q ⟨p, s, ws, w, s', S, l, q, k⟩ => by
  match ws, l, q with
  | [w0], .cons d .nil, q =>
    obtain ⟨ys, g1, g2⟩ := Option.bind_eq_some_iff.mp (show (items w0 s).bind _ = some (w, s') from q)
    obtain ⟨ad, vs, rfl, hs, ll⟩ := items_ok S d g1
    obtain ⟨z1, z2, z3⟩ := newT_ok S ll g2 k
    refine ⟨ad, vs, rfl, ?_⟩
    rcases hs with hs | hs
    · exact .inl ⟨by rw [hK]; exact hs, z2⟩
    · exact .inr ⟨by rw [hK]; exact hs, z3 _ hs⟩
theorem boolsOf_ok {p : List Addr} {H : Hp} : ∀ {ws : List Mv} {vs : List V} {ys : List Bool}, DenL G p H ws vs → boolsOf ws = some ys → vs = ys.map V.bl
  | _, _, _, .nil, h => by cases h; rfl
  | _, _, _, .cons (w := w) (ws := ws) d l, h => by
    cases d <;> try (cases h; done)
    obtain ⟨r, h1, h2⟩ := Option.map_eq_some_iff.mp (show (boolsOf ws).map _ = _ from h)
    cases h2
    rw [boolsOf_ok l h1]
    rfl
theorem cm_all (hc : X.calm = true := by rfl) (hK : X.K = G.K := by rfl) : CallR X (.builtin "all") (rF G allW) := cal_imp (cr_all hc) fun xs H Q ⟨p, s, ws, w, s', S, l, q, k⟩ => by
  match ws, l, q with
  | [w0], .cons d .nil, q =>
    obtain ⟨ys, g1, g2⟩ := Option.bind_eq_some_iff.mp (show (lstOf w0 s).bind _ = some (w, s') from q)
    obtain ⟨bs, g3, g4⟩ := Option.map_eq_some_iff.mp g2
    cases g4
    obtain ⟨ad, vs, rfl, hs, ll⟩ := lstOf_ok S d g1
    refine ⟨ad, bs, rfl, ?_, k p _ H S Fra.refl (.bl _)⟩
    rw [hK, ← boolsOf_ok ll g3]
    exact hs
theorem cm_any (hc : X.calm = true := by rfl) (hK : X.K = G.K := by rfl) : CallR X (.builtin "any") (rF G anyW) := cal_imp (cr_any hc) fun xs H Q ⟨p, s, ws, w, s', S, l, q, k⟩ => by
  match ws, l, q with
  | [w0], .cons d .nil, q =>
    obtain ⟨ys, g1, g2⟩ := Option.bind_eq_some_iff.mp (show (lstOf w0 s).bind _ = some (w, s') from q)
    obtain ⟨bs, g3, g4⟩ := Option.map_eq_some_iff.mp g2
    cases g4
    obtain ⟨ad, vs, rfl, hs, ll⟩ := lstOf_ok S d g1
    refine ⟨ad, bs, rfl, ?_, k p _ H S Fra.refl (.bl _)⟩
    rw [hK, ← boolsOf_ok ll g3]
    exact hs
theorem cm_abs : CallR X (.builtin "abs") (rF G absW) := cal_imp call_abs fun xs H Q ⟨p, s, ws, w, s', S, l, q, k⟩ => by
  match ws, l, q with
  | [.int i], .cons (.int _) .nil, q => cases q; exact ⟨i, rfl, k p _ H S Fra.refl (.int _)⟩
theorem cm_min2 (hc : X.calm = true := by rfl) : CallR X (.builtin "min") (rF G min2W) := cal_imp (call_min2 hc) fun xs H Q ⟨p, s, ws, w, s', S, l, q, k⟩ => by
  match ws, l, q with
  | [.int i, .int j], .cons (.int _) (.cons (.int _) .nil), q => cases q; exact ⟨i, j, rfl, k p _ H S Fra.refl (.int _)⟩
theorem cm_int : CallR X (.type "int") (rF G intW) := cal_imp call_int1 fun xs H Q ⟨p, s, ws, w, s', S, l, q, k⟩ => by
  match ws, l, q with
  | [.int i], .cons (.int _) .nil, q => cases q; exact .inl ⟨i, rfl, k p _ H S Fra.refl (.int _)⟩
  | [.bl b], .cons (.bl _) .nil, q => cases q; exact .inr ⟨b, rfl, k p _ H S Fra.refl (.int _)⟩
/-! isinstance -/
theorem tyOf_ok {p : List Addr} {s : Ms} {H : Hp} {w : Mv} {v : V} {t : Mty} (S : Sim G p s H) (d : Den G p H w v) (h : tyOf w s = some t) : TyX G.K H v (.type t.name) := by
  cases d with
  | non => cases h; exact .base .non
  | bl b => cases h; exact .base (.bl b)
  | int i => cases h; exact .base (.int i)
  | str x => cases h; exact .base (.str x)
  | tup h1 l =>
    cases h
    rcases h1 with h1 | ⟨o, its, n, h1, h2, _⟩
    · rcases h1 with h1 | ⟨o, h1⟩
      · exact .base (.tup h1)
      · exact .fTuple h1
    · exact .kTuple h1 h2
  | fl h1 l =>
    cases h
    rcases h1.sq with h1 | ⟨o, its, n, h1, h2, _⟩
    · rcases h1 with h1 | ⟨o, h1⟩
      · exact .base (.lst h1)
      · exact .base (.frz h1)
    · exact .kList h1 h2
  | ref hn =>
    simp only [tyOf] at h
    split at h
    · rename_i ws e
      cases h
      obtain ⟨ho, h1, vs, rfl, _⟩ := S.get hn e
      exact .base (.lst h1)
    · rename_i ws e
      cases h
      obtain ⟨ho, h1, vs, rfl, _⟩ := S.get hn e
      exact .base (.dK h1)
    · rename_i ws e
      cases h
      obtain ⟨ho, h1, vs, rfl, _⟩ := S.get hn e
      exact .base (.dT h1)
    · cases h
  | ty t => cases h
  | cls c => cases h
theorem isaT_ok (t c : Mty) : kitB t.name c.name = some (isaT t c) := by cases t <;> cases c <;> decide +kernel
theorem tysOf_ok {p : List Addr} {H : Hp} : ∀ {ws : List Mv} {vs : List V} {ts : List Mty}, DenL G p H ws vs → tysOf ws = some ts → Paired ClsV vs (ts.map fun t => Value.type t.name)
  | _, _, _, .nil, h => by cases h; exact .nil
  | _, _, _, .cons (w := w) (ws := ws) d l, h => by
    cases d <;> try (cases h; done)
    obtain ⟨r, h1, h2⟩ := Option.map_eq_some_iff.mp (show (tysOf ws).map _ = _ from h)
    cases h2
    exact .cons (.ty _) (tysOf_ok l h1)
theorem kitAny_ok {K : PySem.W.Frag} (t : Mty) : ∀ ts : List Mty, PySem.W.kitAny K (.type t.name) (ts.map fun t => Value.type t.name) = some (ts.any fun c => isaT t c)
  | [] => kitAny_nil
  | c :: ts => by
    refine kitAny_cons (b := isaT t c) (kit_ty (isaT_ok t c)) (fun h => ?_) (fun h => ?_)
    · rw [kitAny_ok t ts]; simp [h]
    · simp [h]
theorem cm_isi (hK : X.K = G.K := by rfl) : CallR X (.builtin "isinstance") (rF G isiW) := cal_imp call_isi fun xs H Q ⟨p, s, ws, w, s', S, l, q, k⟩ => by
  match ws, l, q with
  | [w0, .ty c], .cons d (.cons (.ty _) .nil), q =>
    obtain ⟨t, g1, g2⟩ := Option.map_eq_some_iff.mp (show (tyOf w0 s).map _ = some (w, s') from q)
    cases g2
    exact ⟨_, _, _, _, _, rfl, .ty _, by rw [hK]; exact tyOf_ok S d g1, kit_ty (isaT_ok t c), k p _ H S Fra.refl (.bl _)⟩
def tTys (ts : List Mty) : TA := fun _ H Q => Q (ts.map fun t => V.ty t.name) H
theorem py_nil : PA X [] (tTys []) := pa_nil
theorem py_cons {es : List Expr} {t : Mty} {ts : List Mty} (h : PE X e (tC (.ty t.name))) (hr : PA X es (tTys ts)) (hs : starEach (e :: es) X.env = (false, eval e X.env) :: starEach es X.env := by rfl) : PA X (e :: es) (tTys (t :: ts)) := pa_imp (pa_cons h hr hs) fun σ H Q q => q
def misiT (A : Fe) (ts : List Mty) : Fe := fun r s => (A r s).bind fun x => (tyOf x.1 x.2).map fun t => (.bl (ts.any fun c => isaT t c), x.2)
theorem paired_ty : ∀ ts : List Mty, Paired ClsV (ts.map fun t => V.ty t.name) (ts.map fun t => Value.type t.name)
  | [] => .nil
  | t :: ts => .cons (.ty _) (paired_ty ts)
theorem pm_isiT {A : Fe} {ts : List Mty} {es : List Expr} {k0 : Nat} {p1 p2 : Pos} (ha : PE X a (tI G A)) (hes : PA X es (tTys ts)) (hg : Gl X "isinstance") (hm : X.mg "isinstance" = none) (hl : ts.length ≤ 1000 := by decide) (hs : starEach [a, .Tuple es k0 p2] X.env = (false, eval a X.env) :: starEach [.Tuple es k0 p2] X.env := by rfl) (hK : X.K = G.K := by rfl) (hpl : (backTo pos (starEach [.Tuple es k0 p2] X.env)).any (·.1) = false := by rfl) :
    PE X (.Call (.Name "isinstance" p1) [a, .Tuple es k0 p2] [] pos) (tI G (misiT A ts)) :=
  pe_imp (pe_callB call_isiT hg hm (by decide +kernel) (pa_cons ha (pa_cons (pe_tup hes) pa_nil) hs) (he := hs) (hpl := hpl)) fun σ H Q ⟨p, s, r, w, s', S, E, q, k⟩ => by
    obtain ⟨⟨x, s1⟩, q1, q2⟩ := Option.bind_eq_some_iff.mp q
    obtain ⟨t, q3, q4⟩ := Option.map_eq_some_iff.mp q2
    cases q4
    refine ⟨p, s, r, x, s1, S, E, q1, fun p1 v1 H1 S1 f1 d1 => ⟨by rw [List.length_map]; exact Nat.le_trans hl (by rw [sz_eq]; decide), fun T hT => ?_⟩⟩
    have f2 := Mi.fra_new (p := p1) (o := HO.tup (ts.map fun t => V.ty t.name)) hT
    have S2 := S1.fra_new (o := HO.tup (ts.map fun t => V.ty t.name)) hT
    exact ⟨_, T, _, _, _, _, rfl, upd_same, paired_ty ts, by rw [hK]; exact tyOf_ok S2 (d1.fra S1 f2) q3, kitAny_ok t ts, k _ _ _ S2 (f1.trans f2) (.bl _)⟩
/-! sorted texts, the least text -/
theorem ltCps_eq : ∀ x y : List Nat, ltCps x y = decide (x < y)
  | [], [] => by simp [ltCps]
  | [], _ :: _ => by simp [ltCps]
  | _ :: _, [] => by simp [ltCps]
  | a :: x, b :: y => by
    have ih := ltCps_eq x y
    unfold ltCps
    rw [ih]
    by_cases h1 : a < b
    · simp [h1, List.cons_lt_cons_iff]
    · by_cases h2 : a = b
      · simp [h2, List.cons_lt_cons_iff]
      · simp [h1, h2, List.cons_lt_cons_iff]
def leS (a b : Str) : Prop := ¬ b.cps.toList < a.cps.toList
theorem leS_trans {a b c : Str} (h1 : leS a b) (h2 : leS b c) : leS a c := fun h => absurd h (List.not_lt.mpr (List.le_trans (List.not_lt.mp h1) (List.not_lt.mp h2)))
theorem leS_anti {a b : Str} (h1 : leS a b) (h2 : leS b a) : a = b := PySem.W.str_of_cps (List.le_antisymm (List.not_lt.mp h1) (List.not_lt.mp h2))
theorem leS_of {a b : Str} (h : b.cps.toList < a.cps.toList) : leS b a := fun z => absurd h (List.lt_asymm z)
theorem rising_pw : ∀ (x : Str) (l : List Str), risingS x l = true → (x :: l).Pairwise leS
  | x, [], _ => by simp
  | x, y :: l, h => by
    simp only [risingS, Bool.and_eq_true, Bool.not_eq_true'] at h
    have hxy : leS x y := fun z => by
      have := h.1
      rw [ltCps_eq, decide_eq_true z] at this
      cases this
    have ih := rising_pw y l h.2
    refine List.pairwise_cons.mpr ⟨fun z hz => ?_, ih⟩
    rcases List.mem_cons.mp hz with rfl | hz
    · exact hxy
    · exact leS_trans hxy (List.rel_of_pairwise_cons ih hz)
theorem sorted_pw : ∀ (l : List Str), sortedS l = true → l.Pairwise leS
  | [], _ => List.Pairwise.nil
  | x :: l, h => rising_pw x l h
theorem ins_perm (x : Str) : ∀ l : List Str, (insS x l).Perm (x :: l)
  | [] => List.Perm.refl _
  | y :: r => by
    unfold insS
    cases decide (y.cps.toList < x.cps.toList) with
    | true => exact ((ins_perm x r).cons y).trans (List.Perm.swap x y r)
    | false => exact List.Perm.refl _
theorem ins_pw (x : Str) : ∀ l : List Str, l.Pairwise leS → (insS x l).Pairwise leS
  | [], _ => by simp [insS]
  | y :: r, h => by
    unfold insS
    cases e : decide (y.cps.toList < x.cps.toList) with
    | true =>
      have hyx : leS y x := leS_of (of_decide_eq_true e)
      show (y :: insS x r).Pairwise leS
      refine List.pairwise_cons.mpr ⟨fun z hz => ?_, ins_pw x r (List.pairwise_cons.mp h).2⟩
      rcases List.mem_cons.mp ((ins_perm x r).mem_iff.mp hz) with rfl | hz
      · exact hyx
      · exact List.rel_of_pairwise_cons h hz
    | false =>
      have hxy : leS x y := of_decide_eq_false e
      show (x :: y :: r).Pairwise leS
      refine List.pairwise_cons.mpr ⟨fun z hz => ?_, h⟩
      rcases List.mem_cons.mp hz with rfl | hz
      · exact hxy
      · exact leS_trans hxy (List.rel_of_pairwise_cons h hz)
theorem sortS_perm : ∀ l : List Str, (sortS l).Perm l
  | [] => List.Perm.refl _
  | x :: l => (ins_perm x (sortS l)).trans ((sortS_perm l).cons x)
theorem sortS_pw : ∀ l : List Str, (sortS l).Pairwise leS
  | [] => List.Pairwise.nil
  | x :: l => ins_pw x _ (sortS_pw l)
theorem sortS_uniq {ys l : List Str} (hp : ys.Perm l) (hs : sortedS ys = true) : ys = sortS l :=
  List.Perm.eq_of_pairwise (fun a b _ _ h1 h2 => leS_anti h1 h2) (sorted_pw ys hs) (sortS_pw l) (hp.trans (sortS_perm l).symm)
theorem denL_strs {p : List Addr} {H : Hp} : ∀ ys : List Str, DenL G p H (ys.map .str) (ys.map .str)
  | [] => .nil
  | y :: ys => .cons (.str y) (denL_strs ys)
theorem cm_sorted (hK : X.K = G.K := by rfl) : CallR X (.builtin "sorted") (rF G sortedW) := cal_imp cr_sortedS fun xs H Q ⟨p, s, ws, w, s', S, l, q, k⟩ => by
  match ws, l, q with
  | [w0], .cons d .nil, q =>
    obtain ⟨ys, g1, g2⟩ := Option.bind_eq_some_iff.mp (show (lstOf w0 s).bind _ = some (w, s') from q)
    obtain ⟨zs, g3, g4⟩ := Option.bind_eq_some_iff.mp g2
    obtain ⟨ad, vs, rfl, hs, ll⟩ := lstOf_ok S d g1
    have e1 := (strsOf_ok ll g3).1
    cases e : Nat.blt zs.length 64 with
    | false => rw [e] at g4; cases g4
    | true =>
      rw [e] at g4
      refine ⟨ad, zs, rfl, by rw [hK, ← e1]; exact hs, Nat.blt_eq.mp e, fun us P hp hsrt hP => ?_⟩
      rw [sortS_uniq hp hsrt]
      exact (newL_ok S (denL_strs (sortS zs)) g4 k).2 P hP
theorem min_ok : ∀ (xs : List Str) (x : Str), PySem.W.minD (.str x) (xs.map PyData.str) = .str (minS x xs)
  | [], x => rfl
  | y :: xs, x => by
    have h1 : PySem.W.minD (.str x) ((y :: xs).map PyData.str) = PySem.W.minD (if PySem.W.dataLt (.str y) (.str x) then .str y else .str x) (xs.map PyData.str) := rfl
    have h2 : minS x (y :: xs) = minS (if decide (y.cps.toList < x.cps.toList) = true then y else x) xs := rfl
    rw [h1, h2, PySem.W.dataLt_str]
    cases e : decide (y.cps.toList < x.cps.toList) with
    | true => simpa using min_ok xs y
    | false => simpa using min_ok xs x
theorem alike_strs (xs : List Str) : PySem.W.AlikeAll (xs.map PyData.str) := by
  refine ⟨fun x hx y hy => ?_, fun x hx => ?_⟩
  · obtain ⟨a, _, rfl⟩ := List.mem_map.mp hx
    obtain ⟨b, _, rfl⟩ := List.mem_map.mp hy
    rfl
  · obtain ⟨a, _, rfl⟩ := List.mem_map.mp hx
    intro z; cases z
theorem depth_strs : ∀ xs : List Str, PyData.depthAll (xs.map PyData.str) ≤ 1
  | [] => by simp [PyData.depthAll]
  | x :: xs => by
    have := depth_strs xs
    simp only [List.map_cons, PyData.depthAll, PyData.depth]
    omega
theorem dp_strs {K : PySem.W.Frag} {H : Hp} : ∀ xs : List Str, DpAll K H (xs.map V.str) (xs.map PyData.str)
  | [] => .nil
  | x :: xs => .cons (.str x) (dp_strs xs)
theorem cm_min (hc : X.calm = true := by rfl) (hu : X.A.units + 64 < cLine) (hK : X.K = G.K := by rfl) : CallR X (.builtin "min") (rF G minW) := by
  intro pins s σ H xs us Q I rv h
  obtain ⟨p, s0, ws, w, s', S, l, q, k⟩ := h
  match ws, l, q with
  | [w0], .cons d .nil, q =>
    obtain ⟨ys, g1, g2⟩ := Option.bind_eq_some_iff.mp (show (lstOf w0 s0).bind _ = some (w, s') from q)
    obtain ⟨ad, vs, rfl, hs, ll⟩ := lstOf_ok S d g1
    split at g2
    · rename_i y zs e
      cases g2
      have e1 := (strsOf_ok ll e).1
      subst e1
      obtain ⟨its, r1, hl, _⟩ := I.list (show SqL X.K H ad ((y :: zs).map V.str) by rw [hK]; exact hs)
      rw [Vals.ref1 rv]
      obtain ⟨as, hr⟩ := Dp.readsAll I ((y :: zs).map PyData.str) ((y :: zs).map V.str) its (dp_strs (y :: zs)) r1
      have hdep := depth_strs (y :: zs)
      refine PySem.W.min_list_data (I.ok.hd hc) hl.isList (x := .str y) (xs := zs.map PyData.str) (as := as) (by simpa using hr) (alike_strs (y :: zs)) (by have : PyData.depthAll (PyData.str y :: zs.map PyData.str) ≤ 1 := hdep; omega) fun i v h' tk bs hv hrd hk => ?_
      rw [min_ok] at hrd
      cases hrd with
      | str x t => exact ⟨.str (minS y zs), H, I.kept hk, ⟨t, rfl⟩, k p _ H S Fra.refl (.str _)⟩
    · cases g2
end

end
section
/-! ### instances: fields by number -/
def getM (k : Nat) : List (Nat × Mv) → Option Mv
  | [] => none
  | (j, w) :: r => cond (Nat.beq j k) (some w) (getM k r)
def putM (k : Nat) (w : Mv) : List (Nat × Mv) → List (Nat × Mv)
  | [] => [(k, w)]
  | (j, x) :: r => cond (Nat.beq j k) ((j, w) :: r) ((j, x) :: putM k w r)
def fldW (c k : Nat) (a : Mv) (s : Ms) : Option (Mv × Ms) := match a with
  | .ref n => match s.get n with
    | some (.ins c' fs) => cond (Nat.beq c' c) ((getM k fs).map fun w => (w, s)) none
    | _ => none
  | _ => none
def sfld (c k : Nat) (O A : Fe) : Fs := fun r s => (A r s).bind fun y => (O r y.2).bind fun x => match x.1 with
  | .ref n => match x.2.get n with
    | some (.ins c' fs) => cond (Nat.beq c' c && Nat.blt fs.length 1000) (some (.nx, r, x.2.put n (.ins c (putM k y.1 fs)))) none
    | _ => none
  | _ => none
/-- o.m(args): the receiver is of class c -/
def mmeth (c : Nat) (f : Fn) (O : Fe) (A : Fa) : Fe := fun r s => (O r s).bind fun x => match x.1 with
  | .ref n => match x.2.get n with
    | some (.ins c' _) => cond (Nat.beq c' c) ((A r x.2).bind fun y => f (.ref n :: y.1) y.2) none
    | _ => none
  | _ => none
def mmake (c : Nat) (f : Fn) (A : Fa) : Fe := fun r s => (A r s).bind fun y => (y.2.alloc (.ins c [])).bind fun q => (f (.ref q.1 :: y.1) q.2).bind fun z => match z.1 with
  | .non => some (.ref q.1, z.2)
  | _ => none
section
variable {X : Cx} {G : Mg} {e o : Expr} {pos : Pos}
/-- the fields of the mirror and of the object -/
def FsR (G : Mg) (p : List Addr) (H : Hp) (fs : List (Nat × Mv)) (fs' : List (Str × V)) : Prop := fs'.map (·.1) = fs.map (fun q => G.nm q.1) ∧ DenL G p H (fs.map (·.2)) (fs'.map (·.2)) ∧ ∀ q ∈ fs, q.1 < G.nf
theorem FsR.cons {p : List Addr} {H : Hp} {q : Nat × Mv} {q' : Str × V} {fs : List (Nat × Mv)} {fs' : List (Str × V)} (h : FsR G p H (q :: fs) (q' :: fs')) : q'.1 = G.nm q.1 ∧ Den G p H q.2 q'.2 ∧ q.1 < G.nf ∧ FsR G p H fs fs' := by
  obtain ⟨h1, h2, h3⟩ := h
  simp only [List.map_cons, List.cons.injEq] at h1
  cases h2 with
  | cons d l => exact ⟨h1.1, d, h3 q (by simp), h1.2, l, fun z hz => h3 z (by simp [hz])⟩
theorem FsR.mk {p : List Addr} {H : Hp} {q : Nat × Mv} {q' : Str × V} {fs : List (Nat × Mv)} {fs' : List (Str × V)} (h1 : q'.1 = G.nm q.1) (d : Den G p H q.2 q'.2) (hb : q.1 < G.nf) (h : FsR G p H fs fs') : FsR G p H (q :: fs) (q' :: fs') := by
  obtain ⟨g1, g2, g3⟩ := h
  refine ⟨by simp [h1, g1], .cons d g2, fun z hz => ?_⟩
  rcases List.mem_cons.mp hz with rfl | hz
  · exact hb
  · exact g3 z hz
theorem FsR.get {p : List Addr} {H : Hp} {k : Nat} (hk : k < G.nf) : ∀ {fs : List (Nat × Mv)} {fs' : List (Str × V)} {w : Mv}, FsR G p H fs fs' → getM k fs = some w → ∃ v, fs'.lookup (G.nm k) = some v ∧ Den G p H w v
  | [], fs', w, h, e => by cases e
  | (j, x) :: fs, [], w, h, e => by simp [FsR] at h
  | (j, x) :: fs, (n, v) :: fs', w, h, e => by
    obtain ⟨h1, d, hb, h2⟩ := h.cons
    have h1' : n = G.nm j := h1
    unfold getM at e
    by_cases hjk : j = k
    · subst hjk
      rw [cond_t beq_t] at e
      cases e
      exact ⟨v, by rw [h1']; simp [List.lookup], d⟩
    · rw [cond_f (beq_f hjk)] at e
      obtain ⟨v', g1, g2⟩ := FsR.get hk h2 e
      refine ⟨v', ?_, g2⟩
      have hne : (G.nm k == n) = false := by
        rw [h1']
        exact beq_eq_false_iff_ne.mpr fun z => hjk (G.inj j k hb hk z.symm)
      simp only [List.lookup, hne]
      exact g1
theorem FsR.put {p : List Addr} {H : Hp} {k : Nat} {w : Mv} {v : V} (hk : k < G.nf) (d : Den G p H w v) : ∀ {fs : List (Nat × Mv)} {fs' : List (Str × V)}, FsR G p H fs fs' → FsR G p H (putM k w fs) (putF (G.nm k) v fs')
  | [], [], h => .mk rfl d hk ⟨rfl, .nil, fun z hz => by cases hz⟩
  | [], _ :: _, h => by simp [FsR] at h
  | _ :: _, [], h => by simp [FsR] at h
  | (j, x) :: fs, (n, u) :: fs', h => by
    obtain ⟨h1, d1, hb, h2⟩ := h.cons
    have h1' : n = G.nm j := h1
    unfold putM putF
    by_cases hjk : j = k
    · subst hjk
      rw [cond_t beq_t, if_pos h1']
      exact .mk h1 d hb h2
    · have hne : ¬ n = G.nm k := fun z => hjk (G.inj j k hb hk (h1'.symm.trans z))
      rw [cond_f (beq_f hjk), if_neg hne]
      exact .mk h1 d1 hb (FsR.put hk d h2)
theorem FsR.len {p : List Addr} {H : Hp} {fs : List (Nat × Mv)} {fs' : List (Str × V)} (h : FsR G p H fs fs') : fs'.length = fs.length := by
  have := congrArg List.length h.1
  simpa using this
theorem FsR.no {p : List Addr} {H : Hp} {m : Str} (hm : ∀ k, k < G.nf → G.nm k ≠ m) : ∀ {fs : List (Nat × Mv)} {fs' : List (Str × V)}, FsR G p H fs fs' → fs'.lookup m = none
  | _, [], _ => rfl
  | [], _ :: _, h => by simp [FsR] at h
  | (j, x) :: fs, (n, u) :: fs', h => by
    obtain ⟨h1, d1, hb, h2⟩ := h.cons
    have h1' : n = G.nm j := h1
    have hne : (m == n) = false := beq_eq_false_iff_ne.mpr fun z => hm j hb (h1'.symm.trans z.symm)
    simp only [List.lookup, hne]
    exact FsR.no hm h2
theorem pm_fld {A : Fe} {f : Str} {c k : Nat} (ha : PE X o (tI G A)) (cl : Cls X.K (G.cad c)) (na : NoAttr X.K (G.cad c) f) (hf : f = G.nm k) (hk : k < G.nf) (hb : attributeBase o f X.env (eval o X.env) = eval o X.env := by rfl) : PE X (.Attribute o f pos) (tI G (mop1 (fldW c k) A)) :=
  pe_imp (pe_fld ha hb) fun σ H Q h => by
    obtain ⟨p, s, r, w, s', S, E, q, kk⟩ := t_op1 h
    refine ⟨p, s, r, w, s', S, E, q, fun p1 v1 H1 S1 f1 d1 => ?_⟩
    obtain ⟨p2, s2, a2, w2, s3, S2, d2, q2, k2⟩ := kk p1 v1 H1 S1 f1 d1
    cases d2 <;> try (cases q2; done)
    rename_i n a hn
    simp only [fldW] at q2
    split at q2
    · rename_i c' fs e
      cases ec : Nat.beq c' c with
      | false => rw [ec] at q2; cases q2
      | true =>
        rw [ec] at q2
        have hc := Nat.eq_of_beq_eq_true ec
        subst hc
        obtain ⟨w', g1, g2⟩ := Option.map_eq_some_iff.mp (show (getM k fs).map _ = some (w2, s3) from q2)
        cases g2
        obtain ⟨ho, h1, dx, fs', rfl, hfs⟩ := S2.get hn e
        obtain ⟨v, h2, d⟩ := FsR.get (G := G) hk hfs g1
        exact ⟨a, _, dx, fs', v, rfl, h1, cl, na, by rw [hf]; exact h2, k2 p2 v H1 S2 Fra.refl d⟩
    · cases q2
theorem sm_fld {A O : Fe} {f : Str} {c k : Nat} {value : Expr} {pos' : Pos} (ha : PE X o (tI G O)) (hv : PE X value (tI G A)) (hs : swapsWith value (some (.Attribute o f pos')) pos.line X.env = pure false) (cl : Cls X.K (G.cad c)) (na : NoAttr X.K (G.cad c) f) (hf : f = G.nm k) (hk : k < G.nf) :
    PS X (.Assign [.Attribute o f pos'] value pos) (tS G (sfld c k O A)) := ps_imp (ps_fld ha hv hs) fun D σ H ⟨p, s, r, fl, r', s', S, E, q, kk⟩ => by
  obtain ⟨⟨y, s1⟩, q1, q2⟩ := Option.bind_eq_some_iff.mp q
  obtain ⟨⟨x, s2⟩, q3, q4⟩ := Option.bind_eq_some_iff.mp q2
  refine ⟨p, s, r, y, s1, S, E, q1, fun p1 v1 H1 S1 f1 d1 => ⟨p1, s1, r, x, s2, S1, E.fra S f1, q3, fun p2 v2 H2 S2 f2 d2 => ?_⟩⟩
  cases d2 <;> try (cases q4; done)
  rename_i n a hn
  simp only at q4
  split at q4
  · rename_i c' fs e
    cases ec : (Nat.beq c' c && Nat.blt fs.length 1000) with
    | false => rw [ec] at q4; cases q4
    | true =>
      rw [ec] at q4
      have q4' : some (Fl.nx, r, s2.put n (.ins c (putM k y fs))) = some (fl, r', s') := q4
      cases q4'
      have ec' := Bool.and_eq_true_iff.mp ec
      have hc := Nat.eq_of_beq_eq_true ec'.1
      subst hc
      obtain ⟨ho, h1, dx, fs', rfl, hfs⟩ := S2.get hn e
      have hfs' : FsR G p2 H2 fs fs' := hfs
      have hp := hfs'.put hk (d1.fra S1 f2)
      obtain ⟨S3, f3⟩ := S2.put hn (ho := .ins (G.cad c') dx (putF (G.nm k) v1 fs')) (o := .ins c' (putM k y fs)) (fun vs z => by cases z) ⟨dx, _, rfl, hp⟩
      refine ⟨a, _, dx, fs', rfl, h1, cl, na, by rw [hfs'.len]; exact Nat.blt_eq.mp ec'.2, ?_⟩
      rw [hf]
      exact kk p2 _ S3 ((f1.trans f2).trans f3) σ (((E.fra S f1).fra S1 f2).fra S2 f3)
  · cases q4
theorem mmeth_inv {c : Nat} {f : Fn} {O : Fe} {A : Fa} {σ : L2.St} {H : Hp} {Q : VK} (h : tI G (mmeth c f O A) σ H Q) : tI G O σ H fun x H1 => ∃ a dx fs, x = .ref a ∧ H1 a = some (.ins (G.cad c) dx fs) ∧ (∃ p fs0, FsR G p H1 fs0 fs) ∧ tA G A σ H1 fun vs H2 => rF G f (x :: vs) H2 Q := by
  obtain ⟨p, s, r, w, s', S, E, q, k⟩ := h
  obtain ⟨⟨x, s1⟩, q1, q2⟩ := Option.bind_eq_some_iff.mp q
  refine ⟨p, s, r, x, s1, S, E, q1, fun p1 v1 H1 S1 f1 d1 => ?_⟩
  cases d1 <;> try (cases q2; done)
  rename_i n a hn
  simp only at q2
  split at q2
  · rename_i c' fs e
    cases ec : Nat.beq c' c with
    | false => rw [ec] at q2; cases q2
    | true =>
      rw [ec] at q2
      have hc := Nat.eq_of_beq_eq_true ec
      subst hc
      obtain ⟨⟨ys, s2⟩, q3, q4⟩ := Option.bind_eq_some_iff.mp (show (A r s1).bind _ = some (w, s') from q2)
      obtain ⟨ho, h1, dx, fs', rfl, hfs⟩ := S1.get hn e
      exact ⟨a, dx, fs', rfl, h1, ⟨p1, fs, hfs⟩, p1, s1, r, ys, s2, S1, E.fra S f1, q3, fun p2 vs H2 S2 f2 l2 => ⟨p2, s2, .ref n :: ys, w, s', S2, .cons (.ref (f2.at hn)) l2, q4, k.of (f1.trans f2)⟩⟩
  · cases q2
variable {CX : CXT} {k : Nat} {fa : Addr} {fd : FuncData} {ps : List Str} {E : XK} {f : Fn} {A : Fa} {c : Nat}
theorem pm_meth {O : Fe} {m : Str} {es : List Expr} {apos : Pos} (h : PE X (.Call (.Attribute o m apos) (e :: es) [] pos) (tMeth (G.cad c) m (spM G f) [] E (tI G O) (tA G A))) (hno : ∀ j, j < G.nf → G.nm j ≠ m) : PE X (.Call (.Attribute o m apos) (e :: es) [] pos) (tI G (mmeth c f O A)) :=
  pe_imp h fun σ H Q q => by
    obtain ⟨p, s, r, w, s', S, E, q, kk⟩ := mmeth_inv q
    refine ⟨p, s, r, w, s', S, E, q, fun p1 v1 H1 S1 f1 d1 => ?_⟩
    obtain ⟨a, dx, fs, rfl, h1, ⟨p0, fs0, hfs⟩, h2⟩ := kk p1 v1 H1 S1 f1 d1
    refine ⟨a, dx, fs, rfl, h1, FsR.no hno hfs, ?_⟩
    obtain ⟨p2, s2, r2, ws, s3, S2, E2, q2, k2⟩ := h2
    exact ⟨p2, s2, r2, ws, s3, S2, E2, q2, fun p3 vs H3 S3 f3 l3 => by
      show rF G f (.ref a :: (vs ++ [])) H3 Q
      rw [List.append_nil]
      exact k2 p3 vs H3 S3 f3 l3⟩
theorem pm_meth0 {O : Fe} {m : Str} {apos : Pos} (h : PE X (.Call (.Attribute o m apos) [] [] pos) (tMeth (G.cad c) m (spM G f) [] E (tI G O) tNil)) (hno : ∀ j, j < G.nf → G.nm j ≠ m) : PE X (.Call (.Attribute o m apos) [] [] pos) (tI G (mmeth c f O mnil)) :=
  pe_imp h fun σ H Q q => by
    obtain ⟨p, s, r, w, s', S, E, q, kk⟩ := mmeth_inv q
    refine ⟨p, s, r, w, s', S, E, q, fun p1 v1 H1 S1 f1 d1 => ?_⟩
    obtain ⟨a, dx, fs, rfl, h1, ⟨p0, fs0, hfs⟩, h2⟩ := kk p1 v1 H1 S1 f1 d1
    refine ⟨a, dx, fs, rfl, h1, FsR.no hno hfs, ?_⟩
    obtain ⟨p2, s2, r2, ws, s3, S2, E2, q2, k2⟩ := h2
    cases q2
    exact k2 p2 [] H1 S2 Fra.refl .nil
theorem pm_make {x : Str} {p0 : Pos} {es : List Expr} (h : PE X (.Call (.Name x p0) (e :: es) [] pos) (tMake (G.cad c) (spM G f) [] E (tA G A))) : PE X (.Call (.Name x p0) (e :: es) [] pos) (tI G (mmake c f A)) :=
  pe_imp h fun σ H Q ⟨p, s, r, w, s', S, E, q, kk⟩ => by
    obtain ⟨⟨ys, s1⟩, q1, q2⟩ := Option.bind_eq_some_iff.mp q
    obtain ⟨⟨n, s2⟩, q3, q4⟩ := Option.bind_eq_some_iff.mp q2
    obtain ⟨⟨z, s3⟩, q5, q6⟩ := Option.bind_eq_some_iff.mp q4
    refine ⟨p, s, r, ys, s1, S, E, q1, fun p1 vs H1 S1 f1 l1 x dx hx hdx hne => ?_⟩
    have hkeep : ∀ b u, H1 b = some u → upd (upd H1 dx (.own x)) x (.ins (G.cad c) dx []) b = some u := fun b u eb => by
      rw [upd_ne (ne_of_none eb hx), upd_ne (ne_of_none eb hdx)]; exact eb
    obtain ⟨S2, f2, d2⟩ := S1.new q3 hx (ho := .ins (G.cad c) dx []) ⟨dx, [], rfl, rfl, .nil, fun q hq => by cases hq⟩ upd_same hkeep
    have hfr : Den G (p1 ++ [x]) _ (.ref n) (.ref x) := d2
    refine ⟨p1 ++ [x], s2, .ref n :: ys, z, s3, S2, ?_, q5, fun p3 v3 H3 S3 f3 d3 => ?_⟩
    · show DenL G _ _ (.ref n :: ys) (.ref x :: (vs ++ []))
      rw [List.append_nil]
      exact .cons d2 (l1.fra S1 f2)
    · cases z <;> try (cases q6; done)
      cases q6
      cases d3
      exact ⟨rfl, kk p3 _ H3 S3 ((f1.trans f2).trans f3) (hfr.fra S2 f3)⟩
end

end
section
/-! ### methods of lists, stores by place -/
def mbmL (f : Nat → List Mv → List Mv → Ms → Option (Mv × Ms)) (O : Fe) (A : Fa) : Fe := fun r s => (O r s).bind fun x => match x.1 with
  | .ref n => match x.2.get n with
    | some (.lst _) => (A r x.2).bind fun y => match y.2.get n with
      | some (.lst xs) => f n xs y.1 y.2
      | _ => none
    | _ => none
  | _ => none
def appW (n : Nat) (xs ws : List Mv) (s : Ms) : Option (Mv × Ms) := match ws with
  | [w] => cond (Nat.blt xs.length 16777216) (some (.non, s.put n (.lst (xs ++ [w])))) none
  | _ => none
def popW (n : Nat) (xs ws : List Mv) (s : Ms) : Option (Mv × Ms) := match ws with
  | [.int i] => (ixN xs.length i).bind fun j => (xs[j]?).map fun w => (w, s.put n (.lst (xs.eraseIdx j)))
  | _ => none
def ssub (O I A : Fe) : Fs := fun r s => (A r s).bind fun v => (O r v.2).bind fun o => (I r o.2).bind fun i => match o.1, i.1 with
  | .ref n, .int k => match i.2.get n with
    | some (.lst xs) => (ixN xs.length k).map fun j => (.nx, r, i.2.put n (.lst (xs.set j v.1)))
    | _ => none
  | _, _ => none
def saug (i : Nat) (f : Mv → Mv → Ms → Option (Mv × Ms)) (A : Fe) : Fs := fun r s => match r[i]? with
  | some (some x) => (A r s).bind fun y => (f x y.1 y.2).map fun z => (.nx, r.set i (some z.1), z.2)
  | _ => none
section
variable {X : Cx} {G : Mg} {e o : Expr} {pos : Pos}
/-- what the mirror's list method must be, over the abstract heap -/
def LmR (G : Mg) (f : Nat → List Mv → List Mv → Ms → Option (Mv × Ms)) (r : V → List V → Hp → VK → Prop) : Prop := ∀ p s H n a xs vs ws us w s' Q, Sim G p s H → p[n]? = some a → H a = some (.lst vs) → DenL G p H xs vs → vs.length ≤ sizeLine → DenL G p H ws us → f n xs ws s = some (w, s') → After G p H w s' Q → r (.ref a) us H Q
theorem pm_bmL {f : Nat → List Mv → List Mv → Ms → Option (Mv × Ms)} {r : V → List V → Hp → VK → Prop} {O : Fe} {A : Fa} {name : Str} {es : List Expr} {apos : Pos} (hf : LmR G f r)
    (h : PE X (.Call (.Attribute o name apos) (e :: es) [] pos) (tBM X.K "list" r (tI G O) (tA G A))) : PE X (.Call (.Attribute o name apos) (e :: es) [] pos) (tI G (mbmL f O A)) := pe_imp h fun σ H Q ⟨p, s, rr, w, s', S, E, q, k⟩ => by
  obtain ⟨⟨x, s1⟩, q1, q2⟩ := Option.bind_eq_some_iff.mp q
  refine ⟨p, s, rr, x, s1, S, E, q1, fun p1 v1 H1 S1 f1 d1 => ?_⟩
  cases d1 <;> try (cases q2; done)
  rename_i n a hn
  simp only at q2
  split at q2
  · rename_i zs e
    obtain ⟨ho, h1, vs, rfl, _, _⟩ := S1.get hn e
    obtain ⟨⟨ys, s2⟩, q3, q4⟩ := Option.bind_eq_some_iff.mp q2
    refine ⟨.inl ⟨rfl, vs, SqL.of h1⟩, p1, s1, rr, ys, s2, S1, E.fra S f1, q3, fun p2 us H2 S2 f2 l2 => ?_⟩
    simp only at q4
    split at q4
    · rename_i xs e2
      obtain ⟨ho, h2, vs2, rfl, ll, hz⟩ := S2.get (f2.at hn) e2
      exact hf p2 s2 H2 n a xs vs2 ys us w s' Q S2 (f2.at hn) h2 ll hz l2 q4 (k.of (f1.trans f2))
    · cases q4
  · cases q2
theorem lm_app : LmR G appW rAppend := by
  intro p s H n a xs vs ws us w s' Q S hn ha l hz lw q k
  match ws, lw, q with
  | [w0], .cons d .nil, q =>
    have q' : cond (Nat.blt xs.length 16777216) (some (Mv.non, s.put n (.lst (xs ++ [w0])))) none = some (w, s') := q
    cases e : Nat.blt xs.length 16777216 with
    | false => rw [e] at q'; cases q'
    | true =>
      rw [e] at q'; cases q'
      have hlt : vs.length < sizeLine := by rw [← l.length, sz_eq]; exact Nat.blt_eq.mp e
      obtain ⟨S2, f2⟩ := S.put hn (ho := .lst (vs ++ [_])) (o := .lst (xs ++ [w0])) (fun _ z => by cases z) ⟨_, rfl, l.append (.cons d .nil), by rw [List.length_append]; exact hlt⟩
      exact ⟨a, vs, _, rfl, rfl, ha, hlt, k p _ _ S2 f2 .non⟩
theorem lm_pop : LmR G popW rPopAt := by
  intro p s H n a xs vs ws us w s' Q S hn ha l hz lw q k
  match ws, lw, q with
  | [.int i], .cons (.int _) .nil, q =>
    obtain ⟨j, g1, g2⟩ := Option.bind_eq_some_iff.mp (show (ixN xs.length i).bind _ = some (w, s') from q)
    obtain ⟨x, g3, g4⟩ := Option.map_eq_some_iff.mp g2
    cases g4
    obtain ⟨v, g5, d⟩ := l.get g3
    rw [l.length] at g1
    obtain ⟨h1, h2, h3, h4⟩ := ixN_seq g1
    have hl := line63
    obtain ⟨S2, f2⟩ := S.put hn (ho := .lst (vs.eraseIdx j)) (o := .lst (xs.eraseIdx j)) (fun _ z => by cases z) ⟨_, rfl, l.erase j, Nat.le_trans (List.length_eraseIdx_le ..) hz⟩
    exact ⟨a, vs, i, j, v, rfl, rfl, ha, by omega, by omega, h1, g5, k p _ _ S2 f2 (d.fra S f2)⟩
theorem sm_sub {O I A : Fe} {i v : Expr} {tp : Pos} (h : PS X (.Assign [.Subscript o i tp] v pos) (tAsg (tI G A) (gSub (tI G O) (tI G I) rSetL))) : PS X (.Assign [.Subscript o i tp] v pos) (tS G (ssub O I A)) := ps_imp h fun D σ H ⟨p, s, r, fl, r', s', S, E, q, k⟩ => by
  obtain ⟨⟨y, s1⟩, q1, q2⟩ := Option.bind_eq_some_iff.mp q
  obtain ⟨⟨x, s2⟩, q3, q4⟩ := Option.bind_eq_some_iff.mp q2
  obtain ⟨⟨z, s3⟩, q5, q6⟩ := Option.bind_eq_some_iff.mp q4
  refine ⟨p, s, r, y, s1, S, E, q1, fun p1 v1 H1 S1 f1 d1 => ⟨p1, s1, r, x, s2, S1, E.fra S f1, q3, fun p2 v2 H2 S2 f2 d2 => ⟨p2, s2, r, z, s3, S2, (E.fra S f1).fra S1 f2, q5, fun p3 v3 H3 S3 f3 d3 => ?_⟩⟩⟩
  simp only at q6
  split at q6
  · rename_i n k0
    cases d3
    have d2' := d2.fra S2 f3
    cases d2'
    rename_i a hn
    split at q6
    · rename_i xs e
      obtain ⟨j, g1, g2⟩ := Option.map_eq_some_iff.mp q6
      cases g2
      obtain ⟨ho, h1, vs, rfl, l, hz⟩ := S3.get hn e
      rw [l.length] at g1
      obtain ⟨S4, f4⟩ := S3.put hn (ho := .lst (vs.set j v1)) (o := .lst (xs.set j y)) (fun _ z => by cases z) ⟨_, rfl, DenL.set ((d1.fra S1 f2).fra S2 f3) j l, by rw [List.length_set]; exact hz⟩
      refine ⟨a, vs, k0, j, rfl, rfl, h1, g1, ?_⟩
      exact k p3 _ S4 (((f1.trans f2).trans f3).trans f4) σ ((((E.fra S f1).fra S1 f2).fra S2 f3).fra S3 f4)
    · cases q6
  · cases q6
theorem sm_aug {i : Nat} {tg : Expr} {op : Operator} {f : Mv → Mv → Ms → Option (Mv × Ms)} {A : Fe} (h : PS X (.AugAssign tg op e pos) (tAug i (tI G A) (q2R G f))) : PS X (.AugAssign tg op e pos) (tS G (saug i f A)) := ps_imp h fun D σ H ⟨p, s, r, fl, r', s', S, E, q, k⟩ => by
  unfold saug at q
  split at q
  · rename_i x ex
    obtain ⟨⟨y, s1⟩, q1, q2⟩ := Option.bind_eq_some_iff.mp q
    obtain ⟨⟨z, s2⟩, q3, q4⟩ := Option.map_eq_some_iff.mp q2
    cases q4
    obtain ⟨v, hv, d⟩ := E.get i x ex
    refine ⟨v, hv, p, s, r, y, s1, S, E, q1, fun p1 v1 H1 S1 f1 d1 => ⟨p1, s1, x, y, z, s2, S1, d.fra S f1, d1, q3, fun p2 v2 H2 S2 f2 d2 => ?_⟩⟩
    exact k p2 H2 S2 (f1.trans f2) _ (((E.fra S f1).fra S1 f2).set d2)
  · cases q
theorem pip_add0 : PIp X .Add (q2R G (fun a b s => match a, b with
  | .int i, .int j => some (.int (i + j), s)
  | _, _ => none)) := by
  intro pins s σ H x y v u Q I rx ry h
  obtain ⟨p, s0, a, b, w, s', S, da, db, q, k⟩ := h
  cases da <;> cases db <;> try (cases q; done)
  cases q
  exact ip_add pins s σ H _ _ v u Q I rx ry ⟨_, _, rfl, rfl, k p _ H S Fra.refl (.int _)⟩
/-! ### zip -/
def zipM : List Mv → List Mv → List Mv
  | a :: x, b :: y => .tup [a, b] :: zipM x y
  | _, _ => []
end

end
section
theorem new_tup {G : Mg} {p : List Addr} {s : Ms} {H : Hp} {T : Addr} {ws : List Mv} {vs : List V} (S : Sim G p s H) (hT : H T = none) (l : DenL G p H ws vs) : Sim G p s (upd H T (.tup vs)) ∧ Fra p H p (upd H T (.tup vs)) ∧ Den G p (upd H T (.tup vs)) (.tup ws) (.ref T) := by
  have f := Mi.fra_new (p := p) (o := HO.tup vs) hT
  exact ⟨S.fra_new hT, f, .tup (SqT.of upd_same) (l.fra S f)⟩
theorem zipM_get : ∀ (xs ys : List Mv) (i : Nat), (zipM xs ys)[i]? = match xs[i]?, ys[i]? with
    | some x, some y => some (.tup [x, y])
    | _, _ => none
  | [], ys, i => by simp [zipM]
  | x :: xs, [], i => by simp [zipM]
  | x :: xs, y :: ys, 0 => by simp [zipM]
  | x :: xs, y :: ys, i + 1 => by simpa [zipM] using zipM_get xs ys i
section
variable {X : Cx} {G : Mg} {e : Expr} {pos : Pos}
theorem itr_zl {p0 : List Addr} {H0 : Hp} {n m : Nat} {a b : Addr} (h : p0[n]? = some a) (h' : p0[m]? = some b) : ItR G (Itz X.K a b) (.zl n m) p0 H0 := by
  intro p s H i S st
  have ha := st.ix n a h
  have hb := st.ix m b h'
  have key : ∀ o, It0.at (.zl n m) i s = some o → ∃ xs ys vs us, s.get n = some (.lst xs) ∧ s.get m = some (.lst ys) ∧ H a = some (.lst vs) ∧ H b = some (.lst us) ∧ DenL G p H xs vs ∧ DenL G p H ys us ∧ o = match xs[i]?, ys[i]? with
      | some x, some y => some (.tup [x, y])
      | _, _ => none := by
    intro o q
    simp only [It0.at] at q
    split at q
    · rename_i xs ys e1 e2
      obtain ⟨ho, h1, vs, rfl, l1, _⟩ := S.get ha e1
      obtain ⟨ho, h2, us, rfl, l2, _⟩ := S.get hb e2
      exact ⟨xs, ys, vs, us, e1, e2, h1, h2, l1, l2, (Option.some.inj q).symm⟩
    · cases q
  constructor
  · intro q
    obtain ⟨xs, ys, vs, us, e1, e2, h1, h2, l1, l2, eo⟩ := key _ q
    refine ⟨vs, us, SqL.of h1, SqL.of h2, ?_⟩
    cases ex : xs[i]? with
    | none => exact .inl (by rw [← l1.length]; exact List.getElem?_eq_none_iff.mp ex)
    | some x =>
      cases ey : ys[i]? with
      | none => exact .inr (by rw [← l2.length]; exact List.getElem?_eq_none_iff.mp ey)
      | some y => rw [ex, ey] at eo; cases eo
  · intro w q
    obtain ⟨xs, ys, vs, us, e1, e2, h1, h2, l1, l2, eo⟩ := key _ q
    cases ex : xs[i]? with
    | none => rw [ex] at eo; cases eo
    | some x =>
      cases ey : ys[i]? with
      | none => rw [ex, ey] at eo; cases eo
      | some y =>
        rw [ex, ey] at eo
        cases eo
        obtain ⟨v, hv, dv⟩ := l1.get ex
        obtain ⟨u, hu, du⟩ := l2.get ey
        refine ⟨⟨vs, us, v, u, SqL.of h1, SqL.of h2, hv, hu⟩, fun v' H' yl => ?_⟩
        obtain ⟨T, x', y', rfl, hT, rfl, g1, g2⟩ := yl
        have e3 := g1 vs (SqL.of h1)
        have e4 := g2 us (SqL.of h2)
        rw [hv] at e3; cases e3
        rw [hu] at e4; cases e4
        exact new_tup S hT (.cons dv (.cons du .nil))
theorem itr_zt {p0 : List Addr} {H0 : Hp} {xs ys : List Mv} {a b : Addr} {vs us : List V} (h : SqT G.K H0 a vs) (h' : SqT G.K H0 b us) (l : DenL G p0 H0 xs vs) (l' : DenL G p0 H0 ys us) (hK : X.K = G.K) : ItR G (RZ.ItzT X.K a b) (.seq (zipM xs ys)) p0 H0 := by
  intro p s H i S st
  have h1 : SqT X.K H a vs := by rw [hK]; exact Stays.tup (G := G) st h
  have h2 : SqT X.K H b us := by rw [hK]; exact Stays.tup (G := G) st h'
  have l1 := l.stay st
  have l2 := l'.stay st
  constructor
  · intro q
    have q' : (zipM xs ys)[i]? = none := by simpa [It0.at] using q
    rw [zipM_get] at q'
    refine ⟨vs, us, h1, h2, ?_⟩
    cases ex : xs[i]? with
    | none => exact .inl (by rw [← l1.length]; exact List.getElem?_eq_none_iff.mp ex)
    | some x =>
      cases ey : ys[i]? with
      | none => exact .inr (by rw [← l2.length]; exact List.getElem?_eq_none_iff.mp ey)
      | some y => rw [ex, ey] at q'; cases q'
  · intro w q
    have q' : (zipM xs ys)[i]? = some w := by simpa [It0.at] using q
    rw [zipM_get] at q'
    cases ex : xs[i]? with
    | none => rw [ex] at q'; cases q'
    | some x =>
      cases ey : ys[i]? with
      | none => rw [ex, ey] at q'; cases q'
      | some y =>
        rw [ex, ey] at q'
        cases q'
        obtain ⟨v, hv, dv⟩ := l1.get ex
        obtain ⟨u, hu, du⟩ := l2.get ey
        refine ⟨⟨vs, us, v, u, h1, h2, hv, hu⟩, fun v' H' yl => ?_⟩
        obtain ⟨T, x', y', rfl, hT, rfl, g1, g2⟩ := yl
        have e3 := g1 vs h1
        have e4 := g2 us h2
        rw [hv] at e3; cases e3
        rw [hu] at e4; cases e4
        exact new_tup S hT (.cons dv (.cons du .nil))
def miZ (A : Fa) : Fi := fun r s => (A r s).bind fun x => match x.1 with
  | [.ref n, .ref m] => match x.2.get n, x.2.get m with
    | some (.lst _), some (.lst _) => some (.zl n m, x.2)
    | _, _ => none
  | [.tup xs, .tup ys] => some (.seq (zipM xs ys), x.2)
  | _ => none
theorem im_zip {e2 : Expr} {A : Fa} {q tpos : Pos} {elts : List Expr} {kk : Nat} (hg : Gl X "zip") (hm : X.mg "zip" = none) (ha : PA X [e, e2] (tA G A))
    (hs : starEach [e, e2] X.env = (false, eval e X.env) :: starEach [e2] X.env := by rfl) (hpl : (backTo pos (starEach [e2] X.env)).any (·.1) = false := by rfl) (hK : X.K = G.K := by rfl) :
    PI X (.Tuple elts kk tpos) (.Call (.Name "zip" q) [e, e2] [] pos) (tIt G (miZ A)) := pi_imp (RZ.pi_zipA hg hm ha hs hpl) fun σ H R ⟨p, s, r, it, s', S, E, q, k⟩ => by
  obtain ⟨⟨x, s1⟩, q1, q2⟩ := Option.bind_eq_some_iff.mp q
  refine ⟨p, s, r, x, s1, S, E, q1, fun p1 vs H1 S1 f1 l1 => ?_⟩
  simp only at q2
  split at q2
  · rename_i n m
    match l1 with
    | .cons (.ref hn) (.cons (.ref hm') .nil) =>
      split at q2
      · rename_i xs ys e1 e2
        cases q2
        obtain ⟨ho, h1, vs, rfl, _, _⟩ := S1.get hn e1
        obtain ⟨ho, h2, us, rfl, _, _⟩ := S1.get hm' e2
        exact ⟨_, _, vs, us, rfl, .inl ⟨SqL.of h1, SqL.of h2, k p1 H1 _ S1 f1 (itr_zl hn hm')⟩⟩
      · cases q2
  · rename_i xs ys
    cases q2
    match l1 with
    | .cons (.tup h1 l2) (.cons (.tup h2 l3) .nil) => exact ⟨_, _, _, _, rfl, .inr ⟨by rw [hK]; exact h1, by rw [hK]; exact h2, k p1 H1 _ S1 f1 (itr_zt h1 h2 l2 l3 hK)⟩⟩
  · cases q2
/-! ### enumerate of a tuple -/
theorem newT_meets (t : Addr) (its : Array Value) (o : Obj) (hc : o.cls = .type "tuple") (n : Nat) (hd : o.data = .seq its n) :
    Meets (Builtin.«enumerate.__new__» ⟨[.type "enumerate", .ref t], []⟩) (fun _ R s => s.heap.get? t = some o ∧
      R (.ok (.ret (.ref (s.heap.push { cls := .type "tuple_iterator", data := .fields #[.ref t, .int 0 0] }).objs.size)))
        { s with heap := (s.heap.push { cls := .type "tuple_iterator", data := .fields #[.ref t, .int 0 0] }).push { cls := .type "enumerate", data := .fields #[.none, .bool false, .ref s.heap.objs.size, rawInt 0, .none, .none] } }) := by
  obtain ⟨c, dc, dt, sl⟩ := o
  simp only at hc hd
  subst hc hd
  refine .of_wp fun prog w A R s h => ?_
  obtain ⟨hp, g, d, tk, os⟩ := s
  obtain ⟨hl, h⟩ := h
  have hsub := sub_enumerate
  have hT : Heap.IsTuple (Shared.heap ⟨hp, g, d, tk, os⟩) t its := ⟨_, hl, rfl, n, rfl⟩
  wp_walk using AutoSeq1.wpAny_loadPart' hl
  refine wpAny_stack_any fun st => wpAny_pure ?_
  split
  · rename_i c _ _ _ _ _
    cases (c == Value.type "enumerate") <;> (wp_walk using AutoSeq1.wpAny_loadPart' hl, wpAny_pyIter_tuple hT; exact ⟨_, rfl, h⟩)
  · wp_walk using AutoSeq1.wpAny_loadPart' hl, wpAny_pyIter_tuple hT
    exact ⟨_, rfl, h⟩
theorem call_enumT {prog : Program} {w : World} {A : Around} {E : Value → Shared → Prop} {s : Shared} {t : Addr} {its : Array Value} {Q : Value → Shared → Prop} (hT : s.heap.IsTuple t its)
    (h : ∀ h', IsEnum h' (s.heap.objs.size + 1) s.heap.objs.size 0 .none → h'.IsTupleIter s.heap.objs.size t 0 → (∀ b o, s.heap.get? b = some o → h'.get? b = some o) → Q (.ref (s.heap.objs.size + 1)) { s with heap := h' }) :
    wpAny (model prog w) A (call (.type "enumerate") [.ref t]) Q E s := by
  obtain ⟨o, ho, hc, n, hd⟩ := hT
  refine callType_new F.called_enumerate (by decide) (F.typeCall_enumerate_1 _) (F.newCall_enumerate_1 _) (fun obj => F.args_object_init_2 obj _) F.entry_enumerate_new (newT_meets t its o hc n hd) ⟨ho, ?_⟩
  generalize hi : ({ cls := .type "tuple_iterator", data := .fields #[.ref t, .int 0 0] } : Obj) = oi
  have hz : (s.heap.push oi).objs.size = s.heap.objs.size + 1 := Heap.size_push ..
  show _ ∧ _
  rw [hz]
  have he : IsEnum ((s.heap.push oi).push { cls := .type "enumerate", data := .fields #[.none, .bool false, .ref s.heap.objs.size, rawInt 0, .none, .none] }) (s.heap.objs.size + 1) s.heap.objs.size 0 .none := by
    have q := Heap.get?_push_size (s.heap.push oi) (o := { cls := .type "enumerate", data := .fields #[.none, .bool false, .ref s.heap.objs.size, rawInt 0, .none, .none] }) rfl
    rw [hz] at q
    exact q
  refine ⟨⟨_, he, rfl⟩, h _ he ⟨oi, Heap.get?_push_of_some _ (Heap.get?_push_size _ (by rw [← hi]; rfl)), by rw [← hi], by rw [← hi]; rfl⟩ fun b o x => Heap.get?_push_of_some _ (Heap.get?_push_of_some _ x)⟩
theorem enumT_end {prog : Program} {w : World} {A : Around} {E : Value → Shared → Prop} {s : Shared} {e it t : Addr} {its : Array Value} {i : Nat} {k : Int} {old : Value} {Q : Option Value → Shared → Prop} (hh : A.handled = none) (he : IsEnum s.heap e it k old) (hit : s.heap.IsTupleIter it t i) (p : s.heap.IsTuple t its) (hle : its.size ≤ i)
    (hQ : ∀ h', Heap.ExtBut it s.heap h' → Q none { s with heap := h' }) : wpAny (model prog w) A (pyNext (.ref e)) Q E s := by
  have ty : s.TypeIs (.ref e) "enumerate" := ⟨_, he, rfl⟩
  unfold pyNext
  refine wpAny_bind (wpAny_attempt (wpAny_callSpecial?_slot (name := Str.ofString "__next__") ty F.slot_enumerate_next (wpAny_call_entry F.slot_enumerate_next ty F.entry_enumerate_next ?_ (F.args_enumerate_next_1 _))))
  show wpAny _ _ (field (.ref e) 2 >>= _) _ _ _
  refine wpAny_bind (wpAny_field he rfl (x := .ref it) rfl (wpAny_bind (wpAny_nextOf_tuple_end (A := A.in1) hh hit p (Array.getElem?_eq_none hle) fun h' x he' hx' => ?_)))
  obtain ⟨o, ho, hc⟩ := hx'
  exact wpAny_bind (wpAny_isInstance (T := "StopIteration") (b := true) ⟨o, ho, hc⟩ isSubtype_stop (wpAny_pure (hQ _ he')))
/-- the tuple's items, each in a new pair with its number -/
def IteT (K : PySem.W.Frag) (a : Addr) : It :=
  ⟨fun i H => ∃ (xs : List V) (x : V), SqT K H a xs ∧ xs[i]? = some x, fun i H v H' => ∃ T x, v = .ref T ∧ H T = none ∧ H' = upd H T (.tup [.int (i : Nat), x]) ∧ ∀ xs, SqT K H a xs → xs[i]? = some x, fun i H => ∃ xs : List V, SqT K H a xs ∧ xs.length ≤ i⟩
theorem tup_inj {pins : List (Addr × Obj)} {σ : L2.St} {H : Hp} {s : Shared} {a : Addr} {xs ys : List V} (I : Inv X pins σ H s) (h1 : SqT X.K H a xs) (h2 : SqT X.K H a ys) : xs = ys := by
  obtain ⟨i1, r1, ⟨o, ho, hc, n, hd⟩, _⟩ := I.tuple h1
  obtain ⟨i2, r2, ⟨o', ho', hc', n', hd'⟩, _⟩ := I.tuple h2
  rw [ho] at ho'
  cases ho'
  rw [hd] at hd'
  have e : i1 = i2 := by
    have q : i1.toArray = i2.toArray := by injection hd'
    simpa using congrArg Array.toList q
  subst e
  exact Vals.inj r1 r2
theorem turn_enumT {P : Program} {w : World} {K : PySem.W.Frag} {elts : List Expr} {kk : Nat} {tpos : Pos} (a e it : Addr) :
    Turn P w K (.Tuple elts kk tpos) (IteT K a) [e, it] e (fun i h => (∃ old, IsEnum h e it ((i : Nat) : Int) old) ∧ h.IsTupleIter it a i ∧ e ≠ it) where
  mem := by simp
  obj := fun i h st b hb => by
    obtain ⟨⟨old, he⟩, ⟨o, ho, hc, hd⟩, _⟩ := st
    rcases (show b = e ∨ b = it by simpa using hb) with z | z
    · subst z; exact ⟨_, he, fun v q => nomatch q⟩
    · subst z; exact ⟨o, ho, fun v q => by rw [hd] at q; cases q⟩
  keep := fun i h h' st k => let ⟨⟨old, he⟩, hi, hne⟩ := st; ⟨⟨old, k e (by simp) _ he⟩, hi.at fun o q => k it (by simp) o q, hne⟩
  item := by
    intro X hP hw hK hc i pins s σ H E I hf st hg
    subst hP hw hK
    obtain ⟨⟨old, he⟩, hit, hne⟩ := st
    obtain ⟨xs, x, hq, hx⟩ := hg
    obtain ⟨its, rv, p, hz⟩ := I.tuple hq
    obtain ⟨u, hu, ru⟩ := rv.get hx
    have hel : e < s.heap.objs.size := Heap.lt_size he
    have hil : it < s.heap.objs.size := by obtain ⟨_, q, _⟩ := hit; exact Heap.lt_size q
    have hta : a ≠ it := by
      obtain ⟨o1, h1, h2, _⟩ := id p
      obtain ⟨o2, h3, h4, _⟩ := id hit
      rintro rfl
      rw [h1] at h3; cases h3
      rw [h2] at h4
      injection h4 with h5
      exact absurd h5 (by decide)
    have hea : e ≠ a := by
      obtain ⟨o1, h1, h2, _⟩ := id p
      rintro rfl
      rw [show s.heap.get? e = some _ from he] at h1; cases h1
      injection h2 with h5
      exact absurd h5 (by decide)
    have hlt : i < its.toArray.size := by
      have := (List.getElem?_eq_some_iff.mp hu).1
      simpa using this
    refine wpAny_pyNext_enum_itemD (Draws.tuple (A := X.A.in1) (I.ok.hd hc) it a hta its.toArray) he ⟨hit, p⟩ hlt hne (by simp [hne, hea]) fun y h' tk hy ho hst' hT hsz hk => ?_
    have hyu : y = u := by
      have : its.toArray[i]? = some u := by simpa using hu
      rw [this] at hy
      exact (Option.some.inj hy).symm
    subst hyu
    refine ⟨_, rfl, wpAny_letOwnedTupleGo_enum (s := { s with heap := h', toks := tk + 1 }) ho fun h'' he' sb => ?_⟩
    have hT2 : h''.get? s.heap.objs.size = some { cls := .type "tuple", data := .seq #[.int i tk, y] } := (sb.2 _ (Nat.ne_of_gt hel)).trans hT
    have new : ObjOk X.prog X.w (upd H s.heap.objs.size (.tup [.int (i : Nat), x])) h'' s.heap.objs.size (.tup [.int (i : Nat), x]) :=
      ⟨by rw [sz_eq]; show 2 ≤ 16777216; decide, [.int i tk, y], .cons ⟨_, rfl⟩ (.cons ru .nil), ⟨_, hT2, rfl, _, rfl⟩⟩
    have I1 : Inv X pins σ (upd H s.heap.objs.size (.tup [.int (i : Nat), x])) { s with heap := h'', toks := tk + 1 } :=
      I.turnedNew (ch := [e, it]) (fun b ob hb q => (sb.2 b (fun z => hb (by simp [z]))).trans (hk b ob (fun z => hb (by simp [z])) (fun z => hb (by simp [z])) q)) hf (Nat.le_refl _) new
    refine ⟨.ref s.heap.objs.size, _, I1, rfl, ⟨_, x, rfl, I.hok.fresh (Nat.le_refl _), rfl, fun ys hy' => by rw [tup_inj I hy' hq]; exact hx⟩, ⟨⟨y, ?_⟩, hst'.1.at fun o q => (sb.2 it (Ne.symm hne)).trans q, hne⟩, fun b hb => ?_⟩
    · rw [show ((i + 1 : Nat) : Int) = (i : Int) + 1 by omega]
      exact he'
    · have hb' : b < s.heap.objs.size := by
        rcases (show b = e ∨ b = it by simpa using hb) with z | z
        · subst z; exact hel
        · subst z; exact hil
      rw [upd_ne (Nat.ne_of_lt hb')]
      exact (hf b hb).1
  done := by
    intro X hP hw hK hc i pins s σ H E I hf st hg
    subst hP hw hK
    obtain ⟨⟨old, he⟩, hit, hne⟩ := st
    obtain ⟨xs, hq, hx⟩ := hg
    obtain ⟨its, rv, p, hz⟩ := I.tuple hq
    obtain ⟨f0, f1, f2, f3, f4, f5⟩ := hf it (by simp)
    have hta : a ≠ it := by
      obtain ⟨o1, h1, h2, _⟩ := id p
      obtain ⟨o2, h3, h4, _⟩ := id hit
      rintro rfl
      rw [h1] at h3; cases h3
      rw [h2] at h4
      injection h4 with h5
      exact absurd h5 (by decide)
    have hl := rv.length
    exact enumT_end (I.ok.hd hc) he hit p (by simp; omega) fun h' eb => ⟨rfl, I.turned (t' := s.toks) (fun b o hb q => eb b o hb q) f0 f1 f3 f4 f5⟩
  self := fun A i s Q E st h => let ⟨⟨_, he⟩, _⟩ := st; wpAny_pyIter_enum he h
def iEnumT (K : PySem.W.Frag) (ta : TA) : TI := fun σ H R => ta σ H fun vs H1 => ∃ a xs, vs = [.ref a] ∧ SqT K H1 a xs ∧ R (IteT K a) H1
theorem pi_enumT {ta : TA} {q tpos : Pos} {elts : List Expr} {kk : Nat} (hg : Gl X "enumerate") (hm : X.mg "enumerate" = none) (ha : PA X [e] ta) (hs : starEach [e] X.env = [(false, eval e X.env)] := by rfl) :
    PI X (.Tuple elts kk tpos) (.Call (.Name "enumerate" q) [e] [] pos) (iEnumT X.K ta) := by
  refine ⟨fun pins s σ H R I h => ?_⟩
  refine Call_ (ld_blt I hg hm boot_enumerate (PyProof.Rows.callWith_type1 (thn (ha.run pos pins s σ H _ I h) fun us s1 ⟨vs, H1, I1, r1, q1⟩ => ?_) hs rfl))
  obtain ⟨a, xs, ex, hq, q⟩ := q1
  subst ex
  cases r1 with
  | cons r rr =>
    cases rr
    cases r
    obtain ⟨its, rv, p', hz⟩ := I1.tuple hq
    refine call_enumT (show s1.heap.IsTuple a its.toArray from p') fun h' he hit hk => wpAny_pyIter_enum he ?_
    have I2 : Inv X pins σ H1 { s1 with heap := h' } := I1.kept (t' := s1.toks) hk
    refine ⟨s1.heap.objs.size + 1, [s1.heap.objs.size + 1, s1.heap.objs.size], _, _, H1, rfl, I2, turn_enumT a (s1.heap.objs.size + 1) s1.heap.objs.size, ⟨⟨.none, he⟩, hit, Nat.succ_ne_self _⟩, fun b hb => ?_, q⟩
    have hle : s1.heap.objs.size ≤ b := by
      rcases (show b = s1.heap.objs.size + 1 ∨ b = s1.heap.objs.size by simpa using hb) with z | z
      · rw [z]; exact Nat.le_add_right _ _
      · rw [z]; exact Nat.le_refl _
    exact I1.fpOk hle (I1.hok.fresh hle)
def enumM : Nat → List Mv → List Mv
  | _, [] => []
  | i, w :: ws => .tup [.int i, w] :: enumM (i + 1) ws
theorem enumM_get : ∀ (ws : List Mv) (j i : Nat), (enumM j ws)[i]? = (ws[i]?).map fun w => .tup [.int ((j + i : Nat) : Int), w]
  | [], j, i => by simp [enumM]
  | w :: ws, j, 0 => by simp [enumM]
  | w :: ws, j, i + 1 => by
    simp only [enumM, List.getElem?_cons_succ]
    rw [enumM_get ws (j + 1) i, show j + 1 + i = j + (i + 1) by omega]
def miE (A : Fa) : Fi := fun r s => (A r s).bind fun x => match x.1 with
  | [.tup ws] => some (.seq (enumM 0 ws), x.2)
  | _ => none
theorem im_enum {A : Fa} {q tpos : Pos} {elts : List Expr} {kk : Nat} (hg : Gl X "enumerate") (hm : X.mg "enumerate" = none) (ha : PA X [e] (tA G A)) (hs : starEach [e] X.env = [(false, eval e X.env)] := by rfl) (hK : X.K = G.K := by rfl) :
    PI X (.Tuple elts kk tpos) (.Call (.Name "enumerate" q) [e] [] pos) (tIt G (miE A)) := pi_imp (pi_enumT hg hm ha hs) fun σ H R ⟨p, s, r, it, s', S, E, q, k⟩ => by
  obtain ⟨⟨x, s1⟩, q1, q2⟩ := Option.bind_eq_some_iff.mp q
  refine ⟨p, s, r, x, s1, S, E, q1, fun p1 vs H1 S1 f1 l1 => ?_⟩
  match x, q2, l1 with
  | [.tup ws], q2, .cons (.tup h1 l2) .nil =>
    cases q2
    rename_i a0 vs0
    refine ⟨_, _, rfl, by rw [hK]; exact h1, k p1 H1 _ S1 f1 ?_⟩
    intro p2 s2 H2 i S2 st
    have h2 : SqT X.K H2 a0 vs0 := by rw [hK]; exact Stays.tup (G := G) st h1
    have l3 := l2.stay st
    constructor
    · intro q
      have q' : (enumM 0 ws)[i]? = none := by simpa [It0.at] using q
      rw [enumM_get] at q'
      refine ⟨_, h2, ?_⟩
      rw [← l3.length]
      exact List.getElem?_eq_none_iff.mp (by simpa using q')
    · intro w q
      have q' : (enumM 0 ws)[i]? = some w := by simpa [It0.at] using q
      rw [enumM_get] at q'
      obtain ⟨w0, g1, g2⟩ := Option.map_eq_some_iff.mp q'
      subst g2
      obtain ⟨v, hv, d⟩ := l3.get g1
      refine ⟨⟨_, v, h2, hv⟩, fun v' H' yl => ?_⟩
      obtain ⟨T, x', rfl, hT, rfl, g3⟩ := yl
      have e3 := g3 _ h2
      rw [hv] at e3; cases e3
      rw [Nat.zero_add]
      exact new_tup S2 hT (.cons (.int _) (.cons d .nil))
end

end
section
section
variable {X : Cx} {G : Mg} {pos : Pos}
theorem pm_int {i j} : PE X (.Constant (.int i) j pos) (tI G (mcon (.int i))) := pm_con pe_int fun _ _ _ _ => .int _
theorem pm_bl {b j} : PE X (.Constant (.bool b) j pos) (tI G (mcon (.bl b))) := pm_con pe_bl fun _ _ _ _ => .bl _
theorem pm_non {j} : PE X (.Constant .none j pos) (tI G (mcon .non)) := pm_con pe_non fun _ _ _ _ => .non
theorem pm_str {x y : Str} {j} (h : x = y) : PE X (.Constant (.str x) j pos) (tI G (mcon (.str y))) := by subst h; exact pm_con pe_str fun _ _ _ _ => .str _
theorem pm_gint {x : Str} {i : Int} (hm : ∃ t, X.mg x = some (.int i t)) (hg : Gl X x) (hd : (x == ("__debug__" : Str)) = false := by decide) : PE X (.Name x pos) (tI G (mcon (.int i))) := by
  obtain ⟨t, hm⟩ := hm
  exact pm_con (v := .int i) (pe_glob (v := .int i) hg hm ⟨t, rfl⟩ hd) fun _ _ _ _ => .int _
theorem pm_gstr {x y z : Str} (hm : ∃ t, X.mg x = some (.str y t)) (h : y = z) (hg : Gl X x) (hd : (x == ("__debug__" : Str)) = false := by decide) : PE X (.Name x pos) (tI G (mcon (.str z))) := by
  subst h
  obtain ⟨t, hm⟩ := hm
  exact pm_con (v := .str y) (pe_glob (v := .str y) hg hm ⟨t, rfl⟩ hd) fun _ _ _ _ => .str _
theorem pm_gtup {x : Str} {a : Addr} {vs : List V} {ws : List Mv} (hm : X.mg x = some (.ref a)) (hs : ∀ H, SqT G.K H a vs) (l : ∀ p H, DenL G p H ws vs) (hg : Gl X x) (hd : (x == ("__debug__" : Str)) = false := by decide) : PE X (.Name x pos) (tI G (mcon (.tup ws))) :=
  pm_con (v := .ref a) (pe_glob (v := .ref a) hg hm rfl hd) fun p _ H _ => .tup (hs H) (l p H)
theorem fn_none {P : Program} {w : World} {K : PySem.W.Frag} {mg : Str → Option Value} {base : Heap} {CX : CXT} {k : Nat} {f : Addr} {fd : FuncData} {ps : List Str} : FnOk P w K mg base CX k f fd ps (spM G (fun _ _ => none)) :=
  ⟨fun vs H Q E h => (by obtain ⟨_, _, _, _, _, _, _, z, _⟩ := h; cases z), fun A outer s H args us vs Q E hr he hb hv h => (by obtain ⟨_, _, _, _, _, _, _, z, _⟩ := h; cases z)⟩
theorem u65 {k : Nat} {A : Around} (r : Room k A) : A.units + 65 < cLine := by have := r.un; omega
theorem sm_for' {tg iter : Expr} {body : List Stmt} {I : Fi} {T : Tg} {B : Fs} (hp : PassesOwn (model X.prog X.w) X.A X.env X.xe) (hc : X.calm = true) (hi : PI X tg iter (tIt G I)) (hg : PG X tg (tG G T)) (hb : PSs X body (tS G B)) (hs : ∀ x, foldedSetIterable iter X.env x = pure x := by intro _; rfl) : PS X (.For tg iter body [] pos) (tS G (sfor I T B)) := sm_for hp hc hi hg hb (ps_for hp hc hi hg hb hs)
def ipW (a b : Mv) (s : Ms) : Option (Mv × Ms) := match a, b with
  | .int i, .int j => some (.int (i + j), s)
  | _, _ => none
theorem pip_add : PIp X .Add (q2R G ipW) := by
  intro pins s σ H x y v u Q I rx ry h
  obtain ⟨p, s0, a, b, w, s', S, da, db, q, k⟩ := h
  cases da <;> cases db <;> try (cases q; done)
  cases q
  exact ip_add pins s σ H _ _ v u Q I rx ry ⟨_, _, rfl, rfl, k p _ H S Fra.refl (.int _)⟩
def mdn : Fe := fun _ s => (s.alloc (.dk [])).map fun q => (.ref q.1, q.2)
theorem pm_dn : PE X (.Dict [] [] pos) (tI G mdn) := pe_imp pe_dnewK fun σ H Q ⟨p, s, r, w, s', S, E, q, k⟩ => by
  obtain ⟨⟨n, s1⟩, q1, q2⟩ := Option.map_eq_some_iff.mp q
  cases q2
  intro a ha
  obtain ⟨S2, f2, d2⟩ := S.new q1 ha (ho := .dK []) (H' := upd H a (.dK [])) ⟨[], rfl, rfl, .nil⟩ upd_same fun b u eb => by rw [upd_ne (ne_of_none eb ha)]; exact eb
  exact k _ _ _ S2 f2 d2
theorem fn_okD {P : Program} {w : World} {K : PySem.W.Frag} {mg : Str → Option Value} {base : Heap} {x qual : Str} {st : Stmt} {f : Addr} {fd : FuncData} {N ps : List Str} {k : Nat} {B : Fs} (F : FunD K x qual (defArgs st) (defBody st) (defScope st) [] [] f fd) (sc : FnScope N ps (defScope st)) {np nl : Nat} (hnp : ps.length = np := by rfl) (hnl : N.length = nl := by rfl)
    (hb : ∀ (cdv : Value) (A : Around) (outer : List Env) (s : Shared) (H : Hp) (E : XK), Room k (A.deeper (envOfC qual (defScope st) s.heap.objs.size f cdv)) → PSs (cxOf CX0 P w K mg base N qual (defScope st) f cdv A outer s H E).nox (defBody st) (tS G B)) :
    FnOk P w K mg base CX0 (k + 1) f fd ps (spM G (fnM np nl B)) := by
  subst hnp hnl
  have len : ∀ vs H Q E, spM G (fnM ps.length N.length B) vs H Q E → vs.length = ps.length := by
    rintro vs H Q E ⟨p, s, ws, u, s', S, l, q, k'⟩
    rw [← l.length]
    unfold fnM at q
    cases e : Nat.beq ws.length ps.length with
    | false => rw [e] at q; cases q
    | true => exact Nat.eq_of_beq_eq_true e
  refine F.ok sc len fun cdv A outer s H vs Q E hr h => ⟨_, PSs.nox (hb cdv A outer s H E hr), ?_⟩
  have hlen := len vs H Q E h
  obtain ⟨p, s0, ws, u, s', S, l, q, k'⟩ := h
  unfold fnM at q
  cases e : Nat.beq ws.length ps.length with
  | false => rw [e] at q; cases q
  | true =>
    rw [e] at q
    obtain ⟨⟨fl, r', s1⟩, q1, q2⟩ := Option.bind_eq_some_iff.mp q
    refine ⟨p, s0, _, fl, r', s1, S, ?_, q1, fun p1 H1 S1 f1 => ?_⟩
    · show EnvR G p H _ (L2.start N vs)
      unfold L2.start
      rw [hlen]
      exact envR_start _ l
    · cases fl with
      | rt w' =>
        have q2' : some (w', s1) = some (u, s') := q2
        cases q2'
        exact fun v d => k' p1 v H1 S1 f1 d
      | nx =>
        have q2' : some (Mv.non, s1) = some (u, s') := q2
        cases q2'
        exact fun σ E => k' p1 _ H1 S1 f1 .non
      | bk => cases q2
      | ct => cases q2
end
theorem bb_len : bootBuiltins "len" = some (.builtin "len") := by decide +kernel
theorem bb_all : bootBuiltins "all" = some (.builtin "all") := by decide +kernel
theorem bb_any : bootBuiltins "any" = some (.builtin "any") := by decide +kernel
theorem bb_abs : bootBuiltins "abs" = some (.builtin "abs") := by decide +kernel
theorem bb_min : bootBuiltins "min" = some (.builtin "min") := by decide +kernel
theorem bb_sorted : bootBuiltins "sorted" = some (.builtin "sorted") := by decide +kernel
theorem bb_isinstance : bootBuiltins "isinstance" = some (.builtin "isinstance") := by decide +kernel
theorem bb_list : bootBuiltins "list" = some (.type "list") := by decide +kernel
theorem bb_tuple : bootBuiltins "tuple" = some (.type "tuple") := by decide +kernel
theorem bb_int : bootBuiltins "int" = some (.type "int") := by decide +kernel
theorem bb_bool : bootBuiltins "bool" = some (.type "bool") := by decide +kernel
theorem bb_str : bootBuiltins "str" = some (.type "str") := by decide +kernel

end
section
/-! ### a def that touches one object alone, run over a store that holds this object alone -/
def one (o : Mo) : Ms := ⟨1, .nod .nil (some o) .nil⟩
theorem one_get (o : Mo) (n : Nat) : (one o).get n = if n = 0 then some o else none := by
  unfold one Ms.get Mt.get
  by_cases h : n = 0
  · subst h; rw [cond_t beq_t, if_pos rfl]
  · rw [cond_f (beq_f h), if_neg h]
    cases Nat.beq (n % 2) 1 <;> rfl
section
variable {G : Mg}
theorem Sim.one {H : Hp} {a : Addr} {o : Mo} {ho : HO} (ha : H a = some ho) (d : DenO G [a] H o ho) : Sim G [a] (one o) H := by
  refine ⟨rfl, (by show 1 ≤ 1000001; decide), by simp, fun n b hb => ?_, fun n hn => ?_⟩
  · have h0 : n = 0 := by
      have := (List.getElem?_eq_some_iff.mp hb).1
      simp at this
      exact this
    subst h0
    cases hb
    exact ⟨o, ho, by rw [one_get, if_pos rfl], ha, d⟩
  · have h1 : 1 ≤ n := hn
    rw [one_get, if_neg (by omega)]
theorem Sim.nil {H : Hp} : Sim G [] ⟨0, .nil⟩ H := ⟨rfl, by decide, by simp, fun n b hb => by simp at hb, fun _ _ => rfl⟩
/-- behind a run that knew the object at a alone, all others stand as before -/
theorem Sim.back {p q : List Addr} {s s1 : Ms} {H H' : Hp} {b : Nat} {a : Addr} {o' : Mo} (S : Sim G p s H) (hb : p[b]? = some a) (S1 : Sim G ([a] ++ q) s1 H') (f1 : Fra [a] H ([a] ++ q) H') (nt : ∀ ho, H' a = some ho → DenO G p H' o' ho) : Sim G p (s.put b o') H' ∧ Fra p H p H' := by
  have hn : b < s.sz := by rw [← S.len]; exact (List.getElem?_eq_some_iff.mp hb).1
  have ham : a ∈ p := List.mem_of_getElem? hb
  have ff : Fra p H p H' := ⟨⟨[], by simp, fun z hz => by simp at hz⟩, fun z u e nz => f1.kee z u e (by simpa using fun y => nz (by rw [y]; exact ham))⟩
  have st := ff.stays S
  have g : ∀ m, (s.put b o').get m = if m = b then some o' else s.get m := fun m => Mt.get_set 24 s.t b o' (by have := S.few; omega) m
  refine ⟨⟨S.len, S.few, S.nd, fun m c hc => ?_, fun m hm => ?_⟩, ff⟩
  · by_cases hmb : m = b
    · subst hmb
      rw [hb] at hc; cases hc
      obtain ⟨_, ho, _, h2, _⟩ := S1.ob 0 a (by simp)
      exact ⟨o', ho, by rw [g, if_pos rfl], h2, nt ho h2⟩
    · obtain ⟨o1, ho1, q1, q2, q3⟩ := S.ob m c hc
      have hne : c ≠ a := fun z => hmb (nodup_at S.nd (z ▸ hc) hb)
      exact ⟨o1, ho1, by rw [g, if_neg hmb]; exact q1, f1.kee c ho1 q2 (by simpa using hne), q3.stay st⟩
  · rw [g, if_neg (by have : s.sz ≤ m := hm; omega)]
    exact S.out m hm
/-- the draw as the mirror sees it -/
def takeB : Fn := fun ws s => match ws with
  | [.ref b, .int k] => match s.get b with
    | some (.box m ((k', x) :: ds)) => cond (decide (k = k') && (decide (1 ≤ k) && decide (k ≤ 1000))) (some (.int x, s.put b (.box (m + 1) ds))) none
    | _ => none
  | _ => none
/-- what the law's own draw must be -/
def TakeOk (dr : Int → Int → Int → Int → Int × Int × Int) (f : Fn) : Prop := ∀ a c n k : Int, BoxOk a c n → n < 1000000 → 1 ≤ k → k ≤ 1000 → ∃ s', f [.ref 0, .int k] (one (.lst [.int a, .int c, .int n])) = some (.int (dr k a c n).1, s') ∧ s'.get 0 = some (.lst [.int (dr k a c n).2.1, .int c, .int (dr k a c n).2.2]) ∧ BoxOk (dr k a c n).2.1 c (dr k a c n).2.2 ∧ (dr k a c n).2.2 ≤ n + 1
variable {P : Program} {w : World} {K : PySem.W.Frag} {mg : Str → Option Value} {base : Heap} {k : Nat} {fa : Addr} {fd : FuncData} {ps : List Str}
theorem ints3 {p : List Addr} {H : Hp} {a c n : Int} {vs : List V} (l : DenL G p H [.int a, .int c, .int n] vs) : vs = [.int a, .int c, .int n] := by
  match l with
  | .cons (.int _) (.cons (.int _) (.cons (.int _) .nil)) => rfl
theorem den3 {p : List Addr} {H : Hp} {a c n : Int} : DenO G p H (.lst [.int a, .int c, .int n]) (.lst [.int a, .int c, .int n]) := ⟨_, rfl, .cons (.int _) (.cons (.int _) (.cons (.int _) .nil)), by rw [sz_eq]; show 3 ≤ 16777216; decide⟩
theorem take_box {f : Fn} (F : FnOk P w K mg base CX0 k fa fd ps (spM G f)) (h : TakeOk G.dr f) : FnOk P w K mg base CX0 k fa fd ps (spM G takeB) := by
  refine F.imp fun vs H Q E hs => ?_
  obtain ⟨p, s, ws, w, s', S, l, q, kk⟩ := hs
  match ws, l, q with
  | [.ref b, .int j], .cons (.ref hb) (.cons (.int _) .nil), q =>
    rename_i ab
    have q' : (match s.get b with
      | some (.box m ((k', x) :: ds)) => cond (decide (j = k') && (decide (1 ≤ j) && decide (j ≤ 1000))) (some (Mv.int x, s.put b (.box (m + 1) ds))) none
      | _ => none) = some (w, s') := q
    split at q'
    · rename_i m k' x ds e
      cases ec : (decide (j = k') && (decide (1 ≤ j) && decide (j ≤ 1000))) with
      | false => rw [ec] at q'; cases q'
      | true =>
        rw [ec] at q'; cases q'
        obtain ⟨e1, e2⟩ := Bool.and_eq_true_iff.mp ec
        obtain ⟨e3, e4⟩ := Bool.and_eq_true_iff.mp e2
        have e1 := of_decide_eq_true e1
        have e3 := of_decide_eq_true e3
        have e4 := of_decide_eq_true e4
        subst e1
        obtain ⟨ho, hH, a, c, n, rfl, ok, hn, hm, hx, hd⟩ := S.get hb e
        simp only [List.length_cons] at hm
        obtain ⟨s1, t1, t2, t3, t4⟩ := h a c n j ok (by omega) e3 e4
        refine ⟨[ab], _, [.ref 0, .int j], .int (G.dr j a c n).1, s1, Sim.one hH den3, .cons (.ref rfl) (.cons (.int _) .nil), t1, fun p1 v H' S1 f1 d1 => ?_⟩
        obtain ⟨q1, rfl, _⟩ := id f1.pre
        obtain ⟨S2, f2⟩ := S.back (o' := .box (m + 1) ds) hb S1 f1 fun ho h2 => by
          obtain ⟨o3, ho3, g1, g2, g3⟩ := S1.ob 0 ab (by simp)
          rw [t2] at g1; cases g1
          rw [h2] at g2; cases g2
          obtain ⟨vs3, rfl, l3, _⟩ := g3
          rw [ints3 l3]
          exact ⟨_, c, _, rfl, t3, by omega, by omega, hd⟩
        rw [hx] at d1
        cases d1
        exact kk p _ H' S2 f2 (.int _)
    · cases q'
/-- the draws below some bounds, one after another -/
def drs (dr : Int → Int → Int → Int → Int × Int × Int) : List Int → Int → Int → Int → List (Int × Int)
  | [], _, _, _ => []
  | k :: ks, a, c, n => (k, (dr k a c n).1) :: drs dr ks (dr k a c n).2.1 c (dr k a c n).2.2
theorem drs_Dr (dr : Int → Int → Int → Int → Int × Int × Int) : ∀ (ks : List Int) (a c n : Int), Dr dr (drs dr ks a c n) a c n
  | [], _, _, _ => trivial
  | k :: ks, a, c, n => ⟨rfl, drs_Dr dr ks _ c _⟩
theorem drs_len (dr : Int → Int → Int → Int → Int × Int × Int) : ∀ (ks : List Int) (a c n : Int), (drs dr ks a c n).length = ks.length
  | [], _, _, _ => rfl
  | k :: ks, a, c, n => by rw [drs, List.length_cons, List.length_cons, drs_len dr ks]
/-- draws within their bounds -/
def InB : List Int → List (Int × Int) → Prop
  | [], [] => True
  | k :: ks, (k', x) :: ds => k' = k ∧ 0 ≤ x ∧ x < k ∧ InB ks ds
  | _, _ => False
def DrIn (dr : Int → Int → Int → Int → Int × Int × Int) : Prop := ∀ a c n k : Int, BoxOk a c n → 1 ≤ k → 0 ≤ (dr k a c n).1 ∧ (dr k a c n).1 < k ∧ BoxOk (dr k a c n).2.1 c (dr k a c n).2.2
theorem drs_in {dr : Int → Int → Int → Int → Int × Int × Int} (h : DrIn dr) : ∀ (ks : List Int), (∀ k ∈ ks, (1 : Int) ≤ k) → ∀ a c n, BoxOk a c n → InB ks (drs dr ks a c n)
  | [], _, _, _, _, _ => trivial
  | k :: ks, hk, a, c, n, ok => by
    obtain ⟨h1, h2, h3⟩ := h a c n k ok (hk k (by simp))
    exact ⟨rfl, h1, h2, drs_in h ks (fun z hz => hk z (by simp [hz])) _ c _ h3⟩
/-- a def of one source that makes these draws and tells True -/
def rightB (ks : List Int) : Fn := fun ws s => match ws with
  | [.ref b] => match s.get b with
    | some (.box m []) => cond (Nat.ble (m + ks.length) 1000000) (some (.bl true, s.put b (.box (m + ks.length) []))) none
    | some (.lst [.int a, .int c, .int n]) => cond (decide (0 ≤ a) && (decide (0 ≤ c) && (decide (c < 2 ^ 62) && (decide (n = 0) && Nat.ble ks.length 1000000)))) (some (.bl true, s.put b (.box ks.length []))) none
    | _ => none
  | _ => none
theorem right_box {f : Fn} {ks : List Int} (F : FnOk P w K mg base CX0 k fa fd ps (spM G f)) (hd : DrIn G.dr) (hk : ∀ k ∈ ks, (1 : Int) ≤ k) (h : ∀ m ds, InB ks ds → ∃ s', f [.ref 0] (one (.box m ds)) = some (.bl true, s') ∧ s'.get 0 = some (.box (m + ks.length) [])) : FnOk P w K mg base CX0 k fa fd ps (spM G (rightB ks)) := by
  refine F.imp fun vs H Q E hs => ?_
  obtain ⟨p, s, ws, w, s', S, l, q, kk⟩ := hs
  match ws, l, q with
  | [.ref b], .cons (.ref hb) .nil, q =>
    rename_i ab
    have core : ∀ (a c n : Int) (m : Nat), H ab = some (.lst [.int a, .int c, .int n]) → BoxOk a c n → n ≤ m → m + ks.length ≤ 1000000 → (w, s') = (.bl true, s.put b (.box (m + ks.length) [])) → spM G f [.ref ab] H Q E := by
      intro a c n m hH ok hn hm e
      cases e
      obtain ⟨s1, t1, t2⟩ := h m (drs G.dr ks a c n) (drs_in hd ks hk a c n ok)
      refine ⟨[ab], _, [.ref 0], .bl true, s1, Sim.one (o := .box m (drs G.dr ks a c n)) hH ⟨a, c, n, rfl, ok, hn, by rw [drs_len]; exact hm, drs_Dr G.dr ks a c n⟩, .cons (.ref rfl) .nil, t1, fun p1 v H' S1 f1 d1 => ?_⟩
      obtain ⟨q1, rfl, _⟩ := id f1.pre
      obtain ⟨S2, f2⟩ := S.back (o' := .box (m + ks.length) []) hb S1 f1 fun ho h2 => by
        obtain ⟨o3, ho3, g1, g2, g3⟩ := S1.ob 0 ab (by simp)
        rw [t2] at g1; cases g1
        rw [h2] at g2; cases g2
        exact g3
      cases d1
      exact kk p _ H' S2 f2 (.bl _)
    have q' : (match s.get b with
      | some (.box m []) => cond (Nat.ble (m + ks.length) 1000000) (some (Mv.bl true, s.put b (.box (m + ks.length) []))) none
      | some (.lst [.int a, .int c, .int n]) => cond (decide (0 ≤ a) && (decide (0 ≤ c) && (decide (c < 2 ^ 62) && (decide (n = 0) && Nat.ble ks.length 1000000)))) (some (Mv.bl true, s.put b (.box ks.length []))) none
      | _ => none) = some (w, s') := q
    split at q'
    · rename_i m e
      cases ec : Nat.ble (m + ks.length) 1000000 with
      | false => rw [ec] at q'; cases q'
      | true =>
        rw [ec] at q'
        obtain ⟨ho, hH, a, c, n, rfl, ok, hn, hm, _⟩ := S.get hb e
        exact core a c n m hH ok hn (Nat.le_of_ble_eq_true ec) (Option.some.inj q').symm
    · rename_i a c n e
      cases ec : (decide (0 ≤ a) && (decide (0 ≤ c) && (decide (c < 2 ^ 62) && (decide (n = 0) && Nat.ble ks.length 1000000)))) with
      | false => rw [ec] at q'; cases q'
      | true =>
        rw [ec] at q'
        obtain ⟨c1, c2⟩ := Bool.and_eq_true_iff.mp ec
        obtain ⟨c3, c4⟩ := Bool.and_eq_true_iff.mp c2
        obtain ⟨c5, c6⟩ := Bool.and_eq_true_iff.mp c4
        obtain ⟨c7, c8⟩ := Bool.and_eq_true_iff.mp c6
        obtain ⟨ho, hH, vs3, rfl, l3, _⟩ := S.get hb e
        rw [ints3 l3] at hH
        have hn := of_decide_eq_true c7
        subst hn
        refine core a c 0 0 hH ⟨of_decide_eq_true c1, of_decide_eq_true c3, of_decide_eq_true c5, by decide⟩ (by decide) (by have := Nat.le_of_ble_eq_true c8; omega) ?_
        rw [Nat.zero_add]
        exact (Option.some.inj q').symm
    · cases q'
end

end
section
/-! ### calls whose arguments and answers name no object: run over an empty store -/
/-- hands on a value that names no object, written out anew -/
def cp {β : Type} (w : Mv) : (Mv → Option β) → Option β :=
  @Mv.rec (fun _ => (Mv → Option β) → Option β) (fun _ => (List Mv → Option β) → Option β)
    (fun k => k .non) (fun b k => k (.bl b)) (fun i k => k (.int i)) (fun x k => k (.str x)) (fun ws ih k => ih fun ws' => k (.tup ws')) (fun _ _ => none) (fun t k => k (.ty t)) (fun ws ih k => ih fun ws' => k (.fl ws')) (fun c k => k (.cls c))
    (fun k => k []) (fun w ws ih1 ih2 k => ih1 fun w' => ih2 fun ws' => k (w' :: ws')) w
def cpL {β : Type} (ws : List Mv) : (List Mv → Option β) → Option β :=
  @Mv.rec_1 (fun _ => (Mv → Option β) → Option β) (fun _ => (List Mv → Option β) → Option β)
    (fun k => k .non) (fun b k => k (.bl b)) (fun i k => k (.int i)) (fun x k => k (.str x)) (fun ws ih k => ih fun ws' => k (.tup ws')) (fun _ _ => none) (fun t k => k (.ty t)) (fun ws ih k => ih fun ws' => k (.fl ws')) (fun c k => k (.cls c))
    (fun k => k []) (fun w ws ih1 ih2 k => ih1 fun w' => ih2 fun ws' => k (w' :: ws')) ws
/-- what a value that names no object stands for hangs on no list of objects -/
def Fl1 (w : Mv) : Prop := ∀ (G : Mg) p p' H v, Den G p H w v → Den G p' H w v
def FlL (ws : List Mv) : Prop := ∀ (G : Mg) p p' H vs, DenL G p H ws vs → DenL G p' H ws vs
theorem FlL.nil : FlL [] := fun G p p' H vs h => by cases h; exact .nil
theorem FlL.cons {w : Mv} {ws : List Mv} (a : Fl1 w) (b : FlL ws) : FlL (w :: ws) := fun G p p' H vs h => by
  cases h with
  | cons h1 h2 => exact .cons (a G p p' H _ h1) (b G p p' H _ h2)
theorem cp_of {β : Type} (w : Mv) : ∀ (k : Mv → Option β) (r : β), cp w k = some r → Fl1 w ∧ k w = some r :=
  @Mv.rec (fun w => ∀ (k : Mv → Option β) (r : β), cp w k = some r → Fl1 w ∧ k w = some r) (fun ws => ∀ (k : List Mv → Option β) (r : β), cpL ws k = some r → FlL ws ∧ k ws = some r)
    (fun k r h => ⟨fun G p p' H v d => by cases d; exact .non, h⟩)
    (fun b k r h => ⟨fun G p p' H v d => by cases d; exact .bl b, h⟩)
    (fun i k r h => ⟨fun G p p' H v d => by cases d; exact .int i, h⟩)
    (fun x k r h => ⟨fun G p p' H v d => by cases d; exact .str x, h⟩)
    (fun ws ih k r h => by
      obtain ⟨a, b⟩ := ih (fun ws' => k (.tup ws')) r h
      exact ⟨fun G p p' H v d => by cases d with | tup h l => exact .tup h (a G p p' H _ l), b⟩)
    (fun n k r h => by cases h)
    (fun t k r h => ⟨fun G p p' H v d => by cases d; exact .ty t, h⟩)
    (fun ws ih k r h => by
      obtain ⟨a, b⟩ := ih (fun ws' => k (.fl ws')) r h
      exact ⟨fun G p p' H v d => by cases d with | fl h l => exact .fl h (a G p p' H _ l), b⟩)
    (fun c k r h => ⟨fun G p p' H v d => by cases d; exact .cls c, h⟩)
    (fun k r h => ⟨FlL.nil, h⟩)
    (fun w ws ih1 ih2 k r h => by
      obtain ⟨a, b⟩ := ih1 (fun w' => cpL ws fun ws' => k (w' :: ws')) r h
      obtain ⟨c, d⟩ := ih2 _ r b
      exact ⟨FlL.cons a c, d⟩) w
theorem cpL_of {β : Type} : ∀ (ws : List Mv) (k : List Mv → Option β) (r : β), cpL ws k = some r → FlL ws ∧ k ws = some r
  | [], k, r, h => ⟨FlL.nil, h⟩
  | w :: ws, k, r, h => by
    obtain ⟨a, b⟩ := cp_of w (fun w' => cpL ws fun ws' => k (w' :: ws')) r h
    obtain ⟨c, d⟩ := cpL_of ws _ r b
    exact ⟨FlL.cons a c, d⟩
theorem Sim.keep {G : Mg} {p : List Addr} {s : Ms} {H H' : Hp} (S : Sim G p s H) (k : ∀ a o, H a = some o → H' a = some o) : Sim G p s H' ∧ Fra p H p H' := by
  have f : Fra p H p H' := ⟨⟨[], by simp, fun a h => by simp at h⟩, fun a o e _ => k a o e⟩
  exact ⟨⟨S.len, S.few, S.nd, fun n a h => let ⟨o, ho, q1, q2, q3⟩ := S.ob n a h; ⟨o, ho, q1, k a ho q2, q3.stay (f.stays S)⟩, S.out⟩, f⟩
/-- one more object is named -/
theorem Sim.add {G : Mg} {p : List Addr} {s s' : Ms} {H : Hp} {o : Mo} {ho : HO} {n : Nat} {a : Addr} (S : Sim G p s H) (e : s.alloc o = some (n, s')) (nin : a ∉ p) (ha : H a = some ho) (d : DenO G p H o ho) : Sim G (p ++ [a]) s' H ∧ Den G (p ++ [a]) H (.ref n) (.ref a) := by
  obtain ⟨rfl, h2, h3, h4⟩ := Ms.alloc_eq e
  have st : Stays p H (p ++ [a]) H := ⟨fun n b h => by rw [List.getElem?_append_left (List.getElem?_eq_some_iff.mp h).1]; exact h, fun _ _ e => e, fun _ _ _ e => e⟩
  have hlen : (p ++ [a])[s.sz]? = some a := by rw [← S.len]; simp
  refine ⟨⟨by rw [List.length_append, S.len, h2]; rfl, by omega, ?_, fun m b hb => ?_, fun m hm => ?_⟩, .ref hlen⟩
  · rw [List.nodup_append]
    exact ⟨S.nd, by simp, fun x hx y hy => by rw [List.mem_singleton.mp hy]; rintro rfl; exact nin hx⟩
  · by_cases hmn : m = s.sz
    · subst hmn
      rw [hlen] at hb; cases hb
      exact ⟨o, ho, by rw [h4, if_pos rfl], ha, d.stay st⟩
    · have hlt : m < p.length := by
        have := (List.getElem?_eq_some_iff.mp hb).1
        rw [List.length_append, S.len] at this
        simp at this
        have := S.len
        omega
      rw [List.getElem?_append_left hlt] at hb
      obtain ⟨o1, ho1, q1, q2, q3⟩ := S.ob m b hb
      exact ⟨o1, ho1, by rw [h4, if_neg hmn]; exact q1, q2, q3.stay st⟩
  · rw [h4, if_neg (by omega)]
    exact S.out m (by omega)
/-- an answer out of the small store, told over the great one -/
def bk (lo : Nat) (w : Mv) (s1 s : Ms) : Option (Mv × Ms) := match w with
  | .ref j => cond (Nat.ble lo j) (match s1.get j with
    | some (.lst xs) => cpL xs fun xs' => (s.alloc (.lst xs')).map fun y => (.ref y.1, y.2)
    | _ => none) none
  | w => cp w fun w' => some (w', s)
theorem bk_of {G : Mg} {p q : List Addr} {lo : Nat} {H H' : Hp} {p0 : List Addr} {s0 s1 s s' : Ms} {w w' : Mv} {v : V} (h : bk lo w s1 s = some (w', s')) (hp : p0.length = lo) (S : Sim G p s H') (f : Fra p H p H') (S1 : Sim G (p0 ++ q) s1 H') (hq : ∀ a ∈ q, H a = none) (S0 : Sim G p s0 H) (d : Den G (p0 ++ q) H' w v) :
    ∃ p', Sim G p' s' H' ∧ Fra p H p' H' ∧ Den G p' H' w' v := by
  have easy : (cp w fun w' => some (w', s)) = some (w', s') → ∃ p', Sim G p' s' H' ∧ Fra p H p' H' ∧ Den G p' H' w' v := fun h => by
    obtain ⟨a, b⟩ := cp_of w _ _ h
    cases b
    exact ⟨p, S, f, a G _ p H' v d⟩
  cases w with
  | ref j =>
    have h : cond (Nat.ble lo j) (match s1.get j with
      | some (.lst xs) => cpL xs fun xs' => (s.alloc (.lst xs')).map fun y => (Mv.ref y.1, y.2)
      | _ => none) none = some (w', s') := h
    cases e : Nat.ble lo j with
    | false => rw [e] at h; cases h
    | true =>
      rw [e, cond_true] at h
      have hl := Nat.le_of_ble_eq_true e
      split at h
      · rename_i xs e1
        obtain ⟨a, b⟩ := cpL_of xs _ _ h
        cases e2 : s.alloc (.lst xs) with
        | none => rw [e2] at b; cases b
        | some y =>
          rw [e2] at b; cases b
          cases d with
          | ref hj =>
            rename_i ad
            obtain ⟨o, ho, q1, q2, q3⟩ := S1.ob j ad hj
            rw [e1] at q1; cases q1
            have hin : ad ∈ q := by
              have := List.getElem?_append_right (l₁ := p0) (l₂ := q) (i := j) (by omega)
              rw [this] at hj
              exact List.mem_of_getElem? hj
            have hnone := hq ad hin
            have nin : ad ∉ p := fun h => by
              obtain ⟨n, hn⟩ := List.mem_iff_getElem?.mp h
              obtain ⟨_, _, _, z, _⟩ := S0.ob n ad hn
              rw [hnone] at z; cases z
            obtain ⟨vs, rfl, l, sz⟩ := q3
            obtain ⟨S2, d2⟩ := S.add (n := y.1) (s' := y.2) e2 nin q2 ⟨vs, rfl, a G _ p H' vs l, sz⟩
            refine ⟨p ++ [ad], S2, ⟨⟨[ad], rfl, fun z hz _ => by rw [List.mem_singleton.mp hz]; exact hnone⟩, f.kee⟩, d2⟩
      · cases h
  | _ => exact easy h
/-- no argument names an object -/
def pureF (f : Fn) : Fn := fun ws s => cpL ws fun ws' => (f ws' ⟨0, .nil⟩).bind fun x => bk 0 x.1 x.2 s
variable {P : Program} {w : World} {K : PySem.W.Frag} {mg : Str → Option Value} {base : Heap} {k : Nat} {fa : Addr} {fd : FuncData} {ps : List Str} {G : Mg}
theorem pure_ok {f : Fn} (F : FnOk P w K mg base CX0 k fa fd ps (spM G f)) : FnOk P w K mg base CX0 k fa fd ps (spM G (pureF f)) := by
  refine F.imp fun vs H Q E hs => ?_
  obtain ⟨p, s, ws, w, s', S, l, q, kk⟩ := hs
  obtain ⟨fl, q⟩ := cpL_of ws _ _ q
  obtain ⟨⟨w1, s1⟩, q1, q2⟩ := Option.bind_eq_some_iff.mp q
  refine ⟨[], _, ws, w1, s1, Sim.nil, fl G p [] H vs l, q1, fun p1 v H' S1 f1 d1 => ?_⟩
  obtain ⟨S2, f2⟩ := S.keep (H' := H') fun a o e => f1.kee a o e (by simp)
  obtain ⟨q3, rfl, hq⟩ := id f1.pre
  obtain ⟨p', h1, h2, h3⟩ := bk_of q2 (p0 := []) rfl S2 f2 S1 (fun a ha => hq a ha (by simp)) S d1
  exact kk p' v H' h1 h2 h3
/-- one argument is a list -/
def cp1 {β : Type} : List Mv → Ms → (List Mv → Nat → List Mv → Option β) → Option β
  | [], _, _ => none
  | .ref n :: ws, s, k => match s.get n with
    | some (.lst xs) => cpL xs fun xs' => cpL ws fun ws' => k (.ref 0 :: ws') n xs'
    | _ => none
  | w :: ws, s, k => cp w fun w' => cp1 ws s fun ws' n xs => k (w' :: ws') n xs
def pure1 (f : Fn) : Fn := fun ws s => cp1 ws s fun ws' n xs => (f ws' (one (.lst xs))).bind fun x => match x.2.get 0 with
  | some (.lst ys) => cpL ys fun ys' => bk 1 x.1 x.2 (s.put n (.lst ys'))
  | _ => none
theorem cp1_of {β : Type} {p : List Addr} {s : Ms} {H : Hp} (S : Sim G p s H) : ∀ (ws : List Mv) (vs : List V) (k : List Mv → Nat → List Mv → Option β) (r : β), DenL G p H ws vs → cp1 ws s k = some r → ∃ ws' n xs a us, k ws' n xs = some r ∧ p[n]? = some a ∧ H a = some (.lst us) ∧ us.length ≤ sizeLine ∧ FlL xs ∧ DenL G p H xs us ∧ DenL G [a] H ws' vs := by
  intro ws
  induction ws with
  | nil => intro vs k r l h; cases h
  | cons w0 ws ih =>
    intro vs k r l h
    cases l with
    | cons d l =>
      have easy : (cp w0 fun w' => cp1 ws s fun ws' n xs => k (w' :: ws') n xs) = some r → ∃ ws' n xs a us, k ws' n xs = some r ∧ p[n]? = some a ∧ H a = some (.lst us) ∧ us.length ≤ sizeLine ∧ FlL xs ∧ DenL G p H xs us ∧ DenL G [a] H ws' (_ :: _) := fun h => by
        obtain ⟨a, b⟩ := cp_of w0 _ _ h
        obtain ⟨ws', n, xs, a', us, h1, h2, h3, h4, h5, h6, h7⟩ := ih _ _ r l b
        exact ⟨_, n, xs, a', us, h1, h2, h3, h4, h5, h6, .cons (a G p _ H _ d) h7⟩
      cases w0 with
      | ref n =>
        have h : (match s.get n with
          | some (.lst xs) => cpL xs fun xs' => cpL ws fun ws' => k (.ref 0 :: ws') n xs'
          | _ => none) = some r := h
        split at h
        · rename_i xs e1
          obtain ⟨a, b⟩ := cpL_of xs _ _ h
          obtain ⟨c, e⟩ := cpL_of ws _ _ b
          cases d with
          | ref hn =>
            rename_i ad
            obtain ⟨o, ho, q1, q2, q3⟩ := S.ob n ad hn
            rw [e1] at q1; cases q1
            obtain ⟨us, rfl, lu, sz⟩ := q3
            exact ⟨_, n, xs, ad, us, e, hn, q2, sz, a, lu, .cons (.ref rfl) (c G p _ H _ l)⟩
        · cases h
      | _ => exact easy h
theorem pure1_ok {f : Fn} (F : FnOk P w K mg base CX0 k fa fd ps (spM G f)) : FnOk P w K mg base CX0 k fa fd ps (spM G (pure1 f)) := by
  refine F.imp fun vs H Q E hs => ?_
  obtain ⟨p, s, ws, w, s', S, l, q, kk⟩ := hs
  obtain ⟨ws', n, xs, a, us, q, hn, hH, sz, fl, lx, lw⟩ := cp1_of S ws vs _ _ l q
  obtain ⟨⟨w1, s1⟩, q1, q2⟩ := Option.bind_eq_some_iff.mp q
  refine ⟨[a], _, ws', w1, s1, Sim.one (o := .lst xs) hH ⟨us, rfl, fl G p _ H us lx, sz⟩, lw, q1, fun p1 v H' S1 f1 d1 => ?_⟩
  obtain ⟨q3, rfl, hq⟩ := id f1.pre
  have q2 : (match s1.get 0 with
    | some (.lst ys) => cpL ys fun ys' => bk 1 w1 s1 (s.put n (.lst ys'))
    | _ => none) = some (w, s') := q2
  split at q2
  · rename_i ys ey
    obtain ⟨fy, q2⟩ := cpL_of ys _ _ q2
    obtain ⟨S2, f2⟩ := S.back (o' := .lst ys) hn S1 f1 fun ho h2 => by
      obtain ⟨o3, ho3, g1, g2, g3⟩ := S1.ob 0 a (by simp)
      rw [ey] at g1; cases g1
      rw [h2] at g2; cases g2
      obtain ⟨vs3, rfl, l3, z3⟩ := g3
      exact ⟨vs3, rfl, fy G _ p H' vs3 l3, z3⟩
    have nd : a ∉ q3 := fun h => by
      have := S1.nd
      rw [List.nodup_append] at this
      exact this.2.2 a (by simp) a h rfl
    obtain ⟨p', h1, h2, h3⟩ := bk_of q2 (p0 := [a]) rfl S2 f2 S1 (fun z hz => hq z hz (by simp; rintro rfl; exact nd hz)) S d1
    exact kk p' v H' h1 h2 h3
  · cases q2

end
section
/-! ### a law that asks some sources for some laps each -/
theorem rng_in {lo : Int} {n i : Nat} {s : Ms} (h : i < n) : (It0.rng lo n).at i s = some (some (.int (lo + i))) := by
  show some (cond (Nat.blt i n) (some (Mv.int (lo + i))) none) = _
  have e : Nat.blt i n = true := Nat.ble_eq_true_of_le h
  rw [cond_t e]
theorem rng_out {lo : Int} {n i : Nat} {s : Ms} (h : n ≤ i) : (It0.rng lo n).at i s = some none := by
  show some (cond (Nat.blt i n) (some (Mv.int (lo + i))) none) = _
  have : Nat.blt i n = false := by
    cases e : Nat.blt i n with
    | false => rfl
    | true => have := Nat.le_of_ble_eq_true e; omega
  rw [cond_f this]
theorem loop_rng {T : Tg} {B : Fs} {lo : Int} {n : Nat} (I : Nat → Me → Ms → Prop) (step : ∀ i r s, i < n → I i r s → ∃ r1 r' s', T.asg (.int (lo + i)) r = some r1 ∧ B r1 s = some (.nx, r', s') ∧ I (i + 1) r' s') :
    ∀ (m i : Nat) (r : Me) (s : Ms), n ≤ i + m → i ≤ n → I i r s → ∃ r' s', mloop (.rng lo n) T B (m + 1) i r s = some (.nx, r', s') ∧ I n r' s'
  | m, i, r, s, h, hi, hI => by
    unfold mloop
    by_cases hlt : i < n
    · obtain ⟨r1, r2, s2, h1, h2, h3⟩ := step i r s hlt hI
      rw [rng_in hlt]
      show ∃ r' s', ((T.asg (.int (lo + i)) r).bind fun r1 => (B r1 s).bind fun x => match x.1 with
        | .nx => mloop (.rng lo n) T B m (i + 1) x.2.1 x.2.2
        | .ct => mloop (.rng lo n) T B m (i + 1) x.2.1 x.2.2
        | .bk => some (.nx, x.2)
        | .rt w => some (.rt w, x.2)) = some (Fl.nx, r', s') ∧ I n r' s'
      rw [h1]
      show ∃ r' s', ((B r1 s).bind fun x => match x.1 with
        | .nx => mloop (.rng lo n) T B m (i + 1) x.2.1 x.2.2
        | .ct => mloop (.rng lo n) T B m (i + 1) x.2.1 x.2.2
        | .bk => some (.nx, x.2)
        | .rt w => some (.rt w, x.2)) = some (Fl.nx, r', s') ∧ I n r' s'
      rw [h2]
      cases m with
      | zero => omega
      | succ m => exact loop_rng I step m (i + 1) r2 s2 (by omega) (by omega) h3
    · rw [rng_out (by omega)]
      have : i = n := by omega
      subst this
      exact ⟨r, s, rfl, hI⟩
theorem flat_rng {st : Mv → Ms → Option (List Mv × Ms)} {lo : Int} {n : Nat} {w : Mv} (I : Nat → Ms → Prop) (step : ∀ i s, i < n → I i s → ∃ s', st (.int (lo + i)) s = some ([w], s') ∧ I (i + 1) s') :
    ∀ (m i : Nat) (s : Ms), n ≤ i + m → i ≤ n → I i s → ∃ s', mflat (.rng lo n) st (m + 1) i s = some (List.replicate (n - i) w, s') ∧ I n s'
  | m, i, s, h, hi, hI => by
    unfold mflat
    by_cases hlt : i < n
    · obtain ⟨s2, h2, h3⟩ := step i s hlt hI
      rw [rng_in hlt]
      show ∃ s', ((st (.int (lo + i)) s).bind fun x => (mflat (.rng lo n) st m (i + 1) x.2).map fun y => (x.1 ++ y.1, y.2)) = some (List.replicate (n - i) w, s') ∧ I n s'
      rw [h2]
      cases m with
      | zero => omega
      | succ m =>
        obtain ⟨s3, h4, h5⟩ := flat_rng I step m (i + 1) s2 (by omega) (by omega) h3
        refine ⟨s3, ?_, h5⟩
        show (mflat (.rng lo n) st (m + 1) (i + 1) s2).map (fun y => ([w] ++ y.1, y.2)) = _
        rw [h4]
        have : n - i = (n - (i + 1)) + 1 := by omega
        rw [this, List.replicate_succ]
        rfl
    · rw [rng_out (by omega)]
      have : i = n := by omega
      subst this
      exact ⟨s, by rw [Nat.sub_self]; rfl, hI⟩
theorem put_get {s : Ms} {b : Nat} {o : Mo} (h : b < 1000000) : (s.put b o).get b = some o := by
  rw [show (s.put b o).get b = if b = b then some o else s.get b from Mt.get_set 24 s.t b o (by omega) b, if_pos rfl]
theorem alloc_ok {s : Ms} {o : Mo} (h : s.sz ≤ 1000000) : ∃ s', s.alloc o = some (s.sz, s') ∧ s'.sz = s.sz + 1 ∧ s'.get s.sz = some o := by
  have e : s.alloc o = some (s.sz, ⟨s.sz + 1, s.t.set 24 s.sz o⟩) := by unfold Ms.alloc; rw [cond_t (Nat.ble_eq_true_of_le h)]
  obtain ⟨_, h2, _, h4⟩ := Ms.alloc_eq e
  exact ⟨_, e, h2, by rw [h4, if_pos rfl]⟩
/-- what the law's making of a source must be -/
def BoxFn (bx : Fn) : Prop := ∀ (ns : List Int) (k : Int) (s : Ms), 0 ≤ k → k < 1000 → ∃ A C : Int, 0 ≤ A ∧ 0 ≤ C ∧ C < 2 ^ 62 ∧ bx [.fl (ns.map .int), .int k] s = newL [.int A, .int C, .int 0] s
def lapB (rt : Fn) (L : Int) : Fs := sif (mnot (mtst (mcall allW (mcons (mlc (miR1 (mcons (mcon (.int L)) (mnil))) (.nm 3) (myes) (mcall rt (mcons (mvar 2) (mnil))) [3]) (mnil))))) (sret (mcon (.bl false))) (snx)
def lawB (bx rt : Fn) (R L : Int) : Fs := sseq (sfor (miR1 (mcons (mop2 addW (mcon (.int 1)) (mcall min2W (mcons (mcon (.int R)) (mcons (mcall lenW (mcons (mvar 0) (mnil))) (mnil))))) (mnil))) (.nm 1) (sseq (sset 2 (mcall bx (mcons (mvar 0) (mcons (mvar 1) (mnil))))) (lapB rt L))) (sret (mcon (.bl true)))
theorem right_run {ks : List Int} {s : Ms} {b m : Nat} (h : s.get b = some (.box m [])) (hm : m + ks.length ≤ 1000000) : rightB ks [.ref b] s = some (.bl true, s.put b (.box (m + ks.length) [])) := by
  show (match s.get b with
    | some (.box m []) => cond (Nat.ble (m + ks.length) 1000000) (some (Mv.bl true, s.put b (.box (m + ks.length) []))) none
    | some (.lst [.int a, .int c, .int n]) => cond (decide (0 ≤ a) && (decide (0 ≤ c) && (decide (c < 2 ^ 62) && (decide (n = 0) && Nat.ble ks.length 1000000)))) (some (.bl true, s.put b (.box ks.length []))) none
    | _ => none) = _
  rw [h]
  show cond (Nat.ble (m + ks.length) 1000000) _ none = _
  rw [cond_t (Nat.ble_eq_true_of_le hm)]
theorem right_run0 {ks : List Int} {s : Ms} {b : Nat} {A C : Int} (h : s.get b = some (.lst [.int A, .int C, .int 0])) (h1 : 0 ≤ A) (h2 : 0 ≤ C) (h3 : C < 2 ^ 62) (hm : ks.length ≤ 1000000) : rightB ks [.ref b] s = some (.bl true, s.put b (.box ks.length [])) := by
  show (match s.get b with
    | some (.box m []) => cond (Nat.ble (m + ks.length) 1000000) (some (Mv.bl true, s.put b (.box (m + ks.length) []))) none
    | some (.lst [.int a, .int c, .int n]) => cond (decide (0 ≤ a) && (decide (0 ≤ c) && (decide (c < 2 ^ 62) && (decide (n = 0) && Nat.ble ks.length 1000000)))) (some (.bl true, s.put b (.box ks.length []))) none
    | _ => none) = _
  rw [h]
  show cond (decide (0 ≤ A) && (decide (0 ≤ C) && (decide (C < 2 ^ 62) && (decide ((0 : Int) = 0) && Nat.ble ks.length 1000000)))) _ none = _
  rw [decide_eq_true h1, decide_eq_true h2, decide_eq_true h3, decide_eq_true rfl, Nat.ble_eq_true_of_le hm]
  rfl
theorem bools_rep : ∀ n : Nat, boolsOf (List.replicate n (.bl true)) = some (List.replicate n true)
  | 0 => rfl
  | n + 1 => by
    rw [List.replicate_succ, List.replicate_succ]
    show (boolsOf (List.replicate n (.bl true))).map (fun r => true :: r) = _
    rw [bools_rep n]
    rfl
theorem call1 {f : Fn} {A : Fe} {r : Me} {s s' : Ms} {w : Mv} (h : A r s = some (w, s')) : mcall f (mcons A mnil) r s = f [w] s' := by
  unfold mcall mcons
  rw [h]
  rfl
theorem range_ok {A : Fa} {r : Me} {s s' : Ms} {j : Int} (h : A r s = some ([.int j], s')) (hj : okI j = true) : miR1 A r s = some (.rng 0 j.toNat, s') := by
  unfold miR1
  rw [h]
  show cond (okI j) (some (It0.rng 0 j.toNat, s')) none = _
  rw [hj]
  rfl
theorem lap_ok {ks : List Int} {L : Nat} (hL : L ≤ 100) (hk : ks.length ≤ 1000) {r : Me} {s : Ms} {b : Nat} {A C : Int} (hr : (mwipe r [3])[2]? = some (some (.ref b))) (hb : b < 1000000) (hs : s.sz ≤ 1000000) (h : s.get b = some (.lst [.int A, .int C, .int 0])) (h1 : 0 ≤ A) (h2 : 0 ≤ C) (h3 : C < 2 ^ 62) :
    ∃ s', lapB (rightB ks) (L : Int) r s = some (.nx, r, s') ∧ s'.sz = s.sz + 1 := by
  have hm : mwipe r [3] = r.set 3 none := rfl
  have st : ∀ (i : Nat) (s : Ms) (s' : Ms), rightB ks [.ref b] s = some (.bl true, s') → mstep (.nm 3) myes (mcall (rightB ks) (mcons (mvar 2) mnil)) (mwipe r [3]) (.int (0 + i)) s = some ([.bl true], s') := fun i s s' e => by
    have g : ((mwipe r [3]).set 3 (some (Mv.int (0 + i))))[2]? = some (some (.ref b)) := by rw [List.getElem?_set_ne (by decide)]; exact hr
    show ((mcall (rightB ks) (mcons (mvar 2) mnil)) ((mwipe r [3]).set 3 (some (Mv.int (0 + i)))) s).map (fun x => ([x.1], x.2)) = _
    have v : mvar 2 ((mwipe r [3]).set 3 (some (Mv.int (0 + i)))) s = some (.ref b, s) := by unfold mvar; rw [g]
    have c : mcall (rightB ks) (mcons (mvar 2) mnil) ((mwipe r [3]).set 3 (some (Mv.int (0 + i)))) s = rightB ks [.ref b] s := by
      unfold mcall mcons
      rw [v]
      rfl
    rw [c, e]
    rfl
  have hk3 : ∀ i : Nat, i ≤ 100 → i * ks.length ≤ 100000 := fun i hi => Nat.le_trans (Nat.mul_le_mul hi hk) (by decide)
  obtain ⟨s1, e1, z1, _⟩ := flat_rng (st := mstep (.nm 3) myes (mcall (rightB ks) (mcons (mvar 2) mnil)) (mwipe r [3])) (lo := 0) (n := L) (w := .bl true) (fun i t => t.sz = s.sz ∧ ((i = 0 ∧ t = s) ∨ (1 ≤ i ∧ t.get b = some (.box (i * ks.length) [])))) (fun i t hi ⟨hz, ht⟩ => by
    rcases ht with ⟨rfl, rfl⟩ | ⟨hi1, ht⟩
    · exact ⟨_, st 0 t _ (right_run0 h h1 h2 h3 (by omega)), hz, .inr ⟨by omega, by rw [put_get hb]; simp⟩⟩
    · have := hk3 i (by omega)
      refine ⟨_, st i t _ (right_run ht (by omega)), hz, .inr ⟨by omega, ?_⟩⟩
      rw [put_get hb, Nat.add_mul, Nat.one_mul]) 99999 0 s (by omega) (by omega) ⟨rfl, .inl ⟨rfl, rfl⟩⟩
  rw [Nat.sub_zero] at e1
  obtain ⟨s2, e2, z2, g2⟩ := alloc_ok (s := s1) (o := .lst (List.replicate L (.bl true))) (by omega)
  refine ⟨s2, ?_, by omega⟩
  have okL : okI (L : Int) = true := by unfold okI; rw [decide_eq_true (by omega), decide_eq_true (by omega)]; rfl
  have i1 : miR1 (mcons (mcon (.int (L : Int))) mnil) r s = some (.rng 0 L, s) := by
    exact range_ok rfl okL
  have nl : newL (List.replicate L (.bl true)) s1 = some (.ref s1.sz, s2) := by
    unfold newL
    rw [List.length_replicate, cond_t (Nat.ble_eq_true_of_le (by omega)), e2]
    rfl
  have lc : mlc (miR1 (mcons (mcon (.int (L : Int))) mnil)) (.nm 3) myes (mcall (rightB ks) (mcons (mvar 2) mnil)) [3] r s = some (.ref s1.sz, s2) := by
    unfold mlc
    rw [i1, Option.bind_some]
    have e1' : mflat (.rng 0 L) (mstep (.nm 3) myes (mcall (rightB ks) (mcons (mvar 2) mnil)) (mwipe r [3])) 100000 0 s = some (List.replicate L (.bl true), s1) := e1
    dsimp only
    rw [e1', Option.bind_some]
    exact nl
  have al : mcall allW (mcons (mlc (miR1 (mcons (mcon (.int (L : Int))) mnil)) (.nm 3) myes (mcall (rightB ks) (mcons (mvar 2) mnil)) [3]) mnil) r s = some (.bl true, s2) := by
    rw [call1 lc]
    have it : lstOf (.ref s1.sz) s2 = some (List.replicate L (.bl true)) := by
      show items (.ref s1.sz) s2 = _
      show (match s2.get s1.sz with
        | some (.lst ws) => some ws
        | _ => none) = _
      rw [g2]
    show ((lstOf (.ref s1.sz) s2).bind fun xs => (boolsOf xs).map fun bs => (Mv.bl (bs.all id), s2)) = _
    rw [it, Option.bind_some, bools_rep, Option.map_some]
    rw [show (List.replicate L true).all id = true by simp]
  have nt : mnot (mtst (mcall allW (mcons (mlc (miR1 (mcons (mcon (.int (L : Int))) mnil)) (.nm 3) myes (mcall (rightB ks) (mcons (mvar 2) mnil)) [3]) mnil))) r s = some (false, s2) := by
    unfold mnot mtst
    rw [al]
    rfl
  unfold lapB sif
  rw [nt]
  rfl
theorem sseq_nx {A B : Fs} {r r' : Me} {s s' : Ms} (h : A r s = some (.nx, r', s')) : sseq A B r s = B r' s' := by
  unfold sseq
  rw [h]
  rfl
theorem fnM_rt {B : Fs} {w v : Mv} {s s' : Ms} {r' : Me} (h : B [some w, none, none, none] s = some (.rt v, r', s')) : fnM 1 4 B [w] s = some (v, s') := by
  show ((B [some w, none, none, none] s).bind fun x => match x.1 with
    | .rt w => some (w, x.2.2)
    | .nx => some (Mv.non, x.2.2)
    | _ => none) = _
  rw [h]
  rfl
theorem law_gen {bx : Fn} {ks : List Int} {R L : Nat} (hb : BoxFn bx) (hR : R ≤ 100) (hL : L ≤ 100) (hk : ks.length ≤ 1000) (ns : List Int) : ∃ s', fnM 1 4 (lawB bx (rightB ks) (R : Int) (L : Int)) [.fl (ns.map .int)] ⟨0, .nil⟩ = some (.bl true, s') := by
  obtain ⟨N, hN, hN2⟩ : ∃ N : Nat, N ≤ 101 ∧ (1 + (if ((ns.map Mv.int).length : Int) < (R : Int) then ((ns.map Mv.int).length : Int) else (R : Int)) : Int) = (N : Int) := by
    by_cases h : ((ns.map Mv.int).length : Int) < (R : Int)
    · rw [if_pos h]; exact ⟨1 + (ns.map Mv.int).length, by omega, by omega⟩
    · rw [if_neg h]; exact ⟨1 + R, by omega, by omega⟩
  have okN : okI (N : Int) = true := by unfold okI; rw [decide_eq_true (by omega), decide_eq_true (by omega)]; rfl
  have i1 : miR1 (mcons (mop2 addW (mcon (.int 1)) (mcall min2W (mcons (mcon (.int R)) (mcons (mcall lenW (mcons (mvar 0) mnil)) mnil)))) mnil) [some (.fl (ns.map .int)), none, none, none] ⟨0, .nil⟩ = some (.rng 0 N, ⟨0, .nil⟩) := by
    show cond (okI (1 + (if ((ns.map Mv.int).length : Int) < (R : Int) then ((ns.map Mv.int).length : Int) else (R : Int)) : Int)) (some (It0.rng 0 (1 + (if ((ns.map Mv.int).length : Int) < (R : Int) then ((ns.map Mv.int).length : Int) else (R : Int)) : Int).toNat, (⟨0, .nil⟩ : Ms))) none = _
    rw [hN2, okN]
    rfl
  obtain ⟨r', s', e, _⟩ := loop_rng (T := .nm 1) (B := sseq (sset 2 (mcall bx (mcons (mvar 0) (mcons (mvar 1) mnil)))) (lapB (rightB ks) L)) (lo := 0) (n := N) (fun i r s => s.sz = 2 * i ∧ ∃ x y z, r = [some (.fl (ns.map .int)), x, y, z]) (fun i r s hi ⟨hz, x, y, z, hr⟩ => by
    subst hr
    obtain ⟨A, C, a1, a2, a3, a4⟩ := hb ns (0 + i) s (by omega) (by omega)
    obtain ⟨s1, e1, z1, g1⟩ := alloc_ok (s := s) (o := .lst [.int A, .int C, .int 0]) (by omega)
    have nl : newL [.int A, .int C, .int 0] s = some (.ref s.sz, s1) := by
      unfold newL
      rw [e1]
      rfl
    rw [nl] at a4
    obtain ⟨s2, e2, z2⟩ := lap_ok (ks := ks) (L := L) hL hk (r := [some (.fl (ns.map .int)), some (.int (0 + i)), some (.ref s.sz), z]) (s := s1) (b := s.sz) rfl (by omega) (by omega) g1 a1 a2 a3
    refine ⟨_, [some (.fl (ns.map .int)), some (.int (0 + i)), some (.ref s.sz), z], s2, rfl, ?_, by omega, _, _, _, rfl⟩
    have st : sset 2 (mcall bx (mcons (mvar 0) (mcons (mvar 1) mnil))) [some (.fl (ns.map .int)), some (.int (0 + i)), y, z] s = some (.nx, [some (.fl (ns.map .int)), some (.int (0 + i)), some (.ref s.sz), z], s1) := by
      show (bx [.fl (ns.map .int), .int (0 + i)] s).map _ = _
      rw [a4]
      rfl
    exact (sseq_nx st).trans e2) 99999 0 [some (.fl (ns.map .int)), none, none, none] ⟨0, .nil⟩ (by omega) (by omega) ⟨rfl, _, _, _, rfl⟩
  refine ⟨s', ?_⟩
  have st : sfor (miR1 (mcons (mop2 addW (mcon (.int 1)) (mcall min2W (mcons (mcon (.int R)) (mcons (mcall lenW (mcons (mvar 0) mnil)) mnil)))) mnil)) (.nm 1) (sseq (sset 2 (mcall bx (mcons (mvar 0) (mcons (mvar 1) mnil)))) (lapB (rightB ks) L)) [some (.fl (ns.map .int)), none, none, none] ⟨0, .nil⟩ = some (.nx, r', s') := by
    unfold sfor
    rw [i1, Option.bind_some]
    exact e
  exact fnM_rt ((sseq_nx st).trans rfl)

end
/-! ### the law's draws, as numbers -/
def drawF (k a c n : Int) : Int × Int × Int :=
  if 0 < a then (a % k, a / k, n) else
    ((((c + 51749 * (n + 1)) ^ 3 % 2147483549) * ((c + 51749 * (n + 1)) ^ 3 % 2147483549 % 30011 + 17) + (n + 1) * 7039) % 2147483629 / 32 % k, a, n + 1)
theorem drawF_in : DrIn drawF := by
  intro a c n k ok hk
  unfold drawF
  by_cases h : 0 < a
  · rw [if_pos h]
    exact ⟨Int.emod_nonneg _ (by omega), Int.emod_lt_of_pos _ (by omega), Int.ediv_nonneg ok.a0 (by omega), ok.c0, ok.c1, ok.n0⟩
  · rw [if_neg h]
    have := ok.n0
    exact ⟨Int.emod_nonneg _ (by omega), Int.emod_lt_of_pos _ (by omega), ok.a0, ok.c0, ok.c1, by show (0 : Int) ≤ n + 1; omega⟩

/-! ### the program of the law, by places -/
def top (i : Nat) : Stmt := PySem.Challenge.pw_latebound_k76_whole_one_that_brings_seve.main.body.getD i (.Pass ⟨0, 0, 0, 0⟩)
abbrev s_law : Stmt := top 60
abbrev s__law_box : Stmt := top 55
abbrev s__law_right : Stmt := top 59
abbrev s__law_of : Stmt := top 57
abbrev s__law_take : Stmt := top 56
abbrev s_least_preload : Stmt := top 52
abbrev s_looked : Stmt := top 48
abbrev s_as_tuples : Stmt := top 7
abbrev s_use_at : Stmt := top 16
abbrev s_lib_at : Stmt := top 15
abbrev s_lib_of : Stmt := top 8
abbrev s_others_of : Stmt := top 42
abbrev s_Trial___init__ : Stmt := inClass (top 47) 0
abbrev s_Trial_is_possible : Stmt := inClass (top 47) 6
abbrev s_names_in : Stmt := top 51
abbrev s_rows_of_names : Stmt := top 50
abbrev s_Trial_gives_all : Stmt := inClass (top 47) 5
abbrev s_Trial_gives : Stmt := inClass (top 47) 4
abbrev s_row : Stmt := top 17
abbrev s_main_of : Stmt := top 41
abbrev s_Trial_told_inside : Stmt := inClass (top 47) 1
abbrev s_server : Stmt := top 44
abbrev s_version_of : Stmt := top 21
abbrev s_serves : Stmt := top 20
abbrev s_rows_to_public : Stmt := top 46
abbrev s_door_row : Stmt := top 19
abbrev s__law_same : Stmt := top 58
abbrev s_is_lean : Stmt := top 53
abbrev s_gives_all : Stmt := top 49
abbrev s_with_preload : Stmt := top 43
/-! ### texts -/
def x0 : Str := ⟨#[122, 105, 112]⟩
theorem e_x0 : (Str.ofString "zip" : Str) = x0 := by decide +kernel
def x1 : Str := ⟨#[112, 97, 99, 107]⟩
theorem e_x1 : (Str.ofString "pack" : Str) = x1 := by decide +kernel
def x2 : Str := ⟨#[97, 97]⟩
theorem e_x2 : (Str.ofString "aa" : Str) = x2 := by decide +kernel
def x3 : Str := ⟨#[98]⟩
theorem e_x3 : (Str.ofString "b" : Str) = x3 := by decide +kernel
def x4 : Str := ⟨#[116, 119, 111]⟩
theorem e_x4 : (Str.ofString "two" : Str) = x4 := by decide +kernel
def x5 : Str := ⟨#[]⟩
theorem e_x5 : (Str.ofString "" : Str) = x5 := by decide +kernel
def x6 : Str := ⟨#[111, 110, 101]⟩
theorem e_x6 : (Str.ofString "one" : Str) = x6 := by decide +kernel
def x7 : Str := ⟨#[116, 98]⟩
theorem e_x7 : (Str.ofString "tb" : Str) = x7 := by decide +kernel
def x8 : Str := ⟨#[116, 97]⟩
theorem e_x8 : (Str.ofString "ta" : Str) = x8 := by decide +kernel
def x9 : Str := ⟨#[103]⟩
theorem e_x9 : (Str.ofString "g" : Str) = x9 := by decide +kernel
def x10 : Str := ⟨#[102]⟩
theorem e_x10 : (Str.ofString "f" : Str) = x10 := by decide +kernel
def x11 : Str := ⟨#[111, 108, 100]⟩
theorem e_x11 : (Str.ofString "old" : Str) = x11 := by decide +kernel
def x12 : Str := ⟨#[109, 97, 105, 110]⟩
theorem e_x12 : (Str.ofString "main" : Str) = x12 := by decide +kernel
def x13 : Str := ⟨#[100, 101, 101, 112]⟩
theorem e_x13 : (Str.ofString "deep" : Str) = x13 := by decide +kernel
def x14 : Str := ⟨#[108, 111, 99, 97, 108]⟩
theorem e_x14 : (Str.ofString "local" : Str) = x14 := by decide +kernel
def x15 : Str := ⟨#[103, 108, 111, 98, 97, 108]⟩
theorem e_x15 : (Str.ofString "global" : Str) = x15 := by decide +kernel
def x16 : Str := ⟨#[98, 111, 117, 110, 100]⟩
theorem e_x16 : (Str.ofString "bound" : Str) = x16 := by decide +kernel
def x17 : Str := ⟨#[110, 111, 98, 111, 100, 121]⟩
theorem e_x17 : (Str.ofString "nobody" : Str) = x17 := by decide +kernel
def x18 : Str := ⟨#[108, 111, 115, 116]⟩
theorem e_x18 : (Str.ofString "lost" : Str) = x18 := by decide +kernel
/-! ### what the top leaves: the facts that are asked of it -/
def dd_law : He.DefD := ⟨("law", none), "law", "law", defArgs s_law, defBody s_law, defScope s_law, [], []⟩
def dd__law_box : He.DefD := ⟨("_law_box", none), "_law_box", "_law_box", defArgs s__law_box, defBody s__law_box, defScope s__law_box, [], []⟩
def dd__law_right : He.DefD := ⟨("_law_right", none), "_law_right", "_law_right", defArgs s__law_right, defBody s__law_right, defScope s__law_right, [], []⟩
def dd__law_of : He.DefD := ⟨("_law_of", none), "_law_of", "_law_of", defArgs s__law_of, defBody s__law_of, defScope s__law_of, [], []⟩
def dd__law_take : He.DefD := ⟨("_law_take", none), "_law_take", "_law_take", defArgs s__law_take, defBody s__law_take, defScope s__law_take, [], []⟩
def dd_least_preload : He.DefD := ⟨("least_preload", none), "least_preload", "least_preload", defArgs s_least_preload, defBody s_least_preload, defScope s_least_preload, [], []⟩
def dd_looked : He.DefD := ⟨("looked", none), "looked", "looked", defArgs s_looked, defBody s_looked, defScope s_looked, [], []⟩
def dd_as_tuples : He.DefD := ⟨("as_tuples", none), "as_tuples", "as_tuples", defArgs s_as_tuples, defBody s_as_tuples, defScope s_as_tuples, [], []⟩
def dd_use_at : He.DefD := ⟨("use_at", none), "use_at", "use_at", defArgs s_use_at, defBody s_use_at, defScope s_use_at, [], []⟩
def dd_lib_at : He.DefD := ⟨("lib_at", none), "lib_at", "lib_at", defArgs s_lib_at, defBody s_lib_at, defScope s_lib_at, [], []⟩
def dd_lib_of : He.DefD := ⟨("lib_of", none), "lib_of", "lib_of", defArgs s_lib_of, defBody s_lib_of, defScope s_lib_of, [], []⟩
def dd_others_of : He.DefD := ⟨("others_of", none), "others_of", "others_of", defArgs s_others_of, defBody s_others_of, defScope s_others_of, [], []⟩
def dd_Trial___init__ : He.DefD := ⟨("Trial", some "__init__"), "__init__", "Trial.__init__", defArgs s_Trial___init__, defBody s_Trial___init__, defScope s_Trial___init__, [], []⟩
def dd_Trial_is_possible : He.DefD := ⟨("Trial", some "is_possible"), "is_possible", "Trial.is_possible", defArgs s_Trial_is_possible, defBody s_Trial_is_possible, defScope s_Trial_is_possible, [], []⟩
def dd_names_in : He.DefD := ⟨("names_in", none), "names_in", "names_in", defArgs s_names_in, defBody s_names_in, defScope s_names_in, [], []⟩
def dd_rows_of_names : He.DefD := ⟨("rows_of_names", none), "rows_of_names", "rows_of_names", defArgs s_rows_of_names, defBody s_rows_of_names, defScope s_rows_of_names, [], []⟩
def dd_Trial_gives_all : He.DefD := ⟨("Trial", some "gives_all"), "gives_all", "Trial.gives_all", defArgs s_Trial_gives_all, defBody s_Trial_gives_all, defScope s_Trial_gives_all, [], []⟩
def dd_Trial_gives : He.DefD := ⟨("Trial", some "gives"), "gives", "Trial.gives", defArgs s_Trial_gives, defBody s_Trial_gives, defScope s_Trial_gives, [], []⟩
def dd_row : He.DefD := ⟨("row", none), "row", "row", defArgs s_row, defBody s_row, defScope s_row, [], []⟩
def dd_main_of : He.DefD := ⟨("main_of", none), "main_of", "main_of", defArgs s_main_of, defBody s_main_of, defScope s_main_of, [], []⟩
def dd_Trial_told_inside : He.DefD := ⟨("Trial", some "told_inside"), "told_inside", "Trial.told_inside", defArgs s_Trial_told_inside, defBody s_Trial_told_inside, defScope s_Trial_told_inside, [], []⟩
def dd_server : He.DefD := ⟨("server", none), "server", "server", defArgs s_server, defBody s_server, defScope s_server, [], []⟩
def dd_version_of : He.DefD := ⟨("version_of", none), "version_of", "version_of", defArgs s_version_of, defBody s_version_of, defScope s_version_of, [], []⟩
def dd_serves : He.DefD := ⟨("serves", none), "serves", "serves", defArgs s_serves, defBody s_serves, defScope s_serves, [], []⟩
def dd_rows_to_public : He.DefD := ⟨("rows_to_public", none), "rows_to_public", "rows_to_public", defArgs s_rows_to_public, defBody s_rows_to_public, defScope s_rows_to_public, [], []⟩
def dd_door_row : He.DefD := ⟨("door_row", none), "door_row", "door_row", defArgs s_door_row, defBody s_door_row, defScope s_door_row, [], []⟩
def dd__law_same : He.DefD := ⟨("_law_same", none), "_law_same", "_law_same", defArgs s__law_same, defBody s__law_same, defScope s__law_same, [], []⟩
def dd_is_lean : He.DefD := ⟨("is_lean", none), "is_lean", "is_lean", defArgs s_is_lean, defBody s_is_lean, defScope s_is_lean, [], []⟩
def dd_gives_all : He.DefD := ⟨("gives_all", none), "gives_all", "gives_all", defArgs s_gives_all, defBody s_gives_all, defScope s_gives_all, [], []⟩
def dd_with_preload : He.DefD := ⟨("with_preload", none), "with_preload", "with_preload", defArgs s_with_preload, defBody s_with_preload, defScope s_with_preload, [], []⟩
def fn : List He.DefD := [dd_law, dd__law_box, dd__law_right, dd__law_of, dd__law_take, dd_least_preload, dd_looked, dd_as_tuples, dd_use_at, dd_lib_at, dd_lib_of, dd_others_of, dd_Trial___init__, dd_Trial_is_possible, dd_names_in, dd_rows_of_names, dd_Trial_gives_all, dd_Trial_gives, dd_row, dd_main_of, dd_Trial_told_inside, dd_server, dd_version_of, dd_serves, dd_rows_to_public, dd_door_row, dd__law_same, dd_is_lean, dd_gives_all, dd_with_preload]
def glos : List Str := ["_law_box", "_law_take", "_law_of", "as_tuples", "lib_of", "lib_at", "use_at", "looked", "others_of", "Trial", "names_in", "rows_of_names", "row", "main_of", "serves", "version_of", "server", "door_row", "rows_to_public", "least_preload", "_law_same", "is_lean", "gives_all", "with_preload", "_law_right", "law", "NOBODY", "LOST"]
def frees : List Str := ["range", "min", "len", "int", "abs", "all", "tuple", "isinstance", "list", "sorted", "any", "enumerate", "zip", "str", "bool"]
def fa : List He.Fa := [.str "BOUND" "bound", .str "GLOBAL" "global", .cls "Trial", .noat "Trial" "own_program", .noat "Trial" "own_walked", .meth "Trial" "gives", .meth "Trial" "gives_all", .meth "Trial" "is_possible", .meth "Trial" "told_inside", .mkr "Trial"]
def faAll : List He.Fa := fa ++ (glos.map He.Fa.glo ++ frees.map He.Fa.free)
def exB (K : PySem.W.Frag) : Bool := He.tupB K "NOBODY" [.str "nobody"] && He.tupB K "LOST" [.str "lost"]
def fnames : List Str := ["own_program", "own_walked"]
def GG (K : PySem.W.Frag) : Mg where
  K := K
  cad := fun c => He.ga K ((["Trial"] : List Str).getD c "")
  nf := 2
  nm := fun k => fnames.getD k ""
  dr := drawF
  inj := fun i j hi hj h => by
    have nd : fnames.Nodup := by decide +kernel
    have e1 : fnames[i]? = some (fnames.getD i "") := by rw [List.getD_eq_getElem?_getD, List.getElem?_eq_getElem (show i < fnames.length from hi)]; rfl
    have e2 : fnames[j]? = some (fnames.getD j "") := by rw [List.getD_eq_getElem?_getD, List.getElem?_eq_getElem (show j < fnames.length from hj)]; rfl
    exact nodup_at nd e1 (by rw [h]; exact e2)
structure Tx (K : PySem.W.Frag) (mg : Str → Option Value) where
  fd : Nat → FuncData
  df : ∀ (i : Nat) (d : He.DefD), fn[i]? = some d → FunD K d.name d.qual d.params d.body d.scope (d.dvs K) (d.kws K) (He.fAd K d.at_) (fd i)
  gl : ∀ x, x ∈ glos → mg x = some (.ref (He.ga K x))
  fr : ∀ x, x ∈ frees → mg x = none
  fc : ∀ f, f ∈ fa → f.ok K = true
  gi : ∀ (x : Str) (i : Int), He.Fa.int x i ∈ fa → ∃ t, mg x = some (.int i t)
  gs : ∀ (x z : Str), He.Fa.str x z ∈ fa → ∃ t, mg x = some (.str z t)
  ex : exB K = true
section
variable {K : PySem.W.Frag} {mg : Str → Option Value}
theorem Tx.kp (T : Tx K mg) (i : Nat) {d : He.DefD} (h : fn[i]? = some d) : PySem.W.keepIn K (.ref (He.fAd K d.at_)) = true := (T.df i d h).kp
theorem Tx.cl (T : Tx K mg) (x : Str) (h : He.Fa.cls x ∈ fa) : Cls K (He.ga K x) := He.cls_ok (T.fc _ h)
theorem Tx.na (T : Tx K mg) (x f : Str) (h : He.Fa.noat x f ∈ fa) : NoAttr K (He.ga K x) f := He.noat_ok (T.fc _ h)
theorem Tx.me (T : Tx K mg) (x m : Str) (h : He.Fa.meth x m ∈ fa) : Meth K (He.ga K x) m (He.ma K (He.ga K x) m) := He.meth_ok (T.fc _ h)
theorem Tx.mkr (T : Tx K mg) (x : Str) (h : He.Fa.mkr x ∈ fa) : Mk K (He.ga K x) (He.ma K (He.ga K x) "__init__") := He.mkr_ok (T.fc _ h)
def tw_NOBODY : List Mv := [.str x17]
theorem Tx.tp_NOBODY (T : Tx K mg) (H : Hp) : SqT K H (He.ga K "NOBODY") [.str (Str.ofString "nobody")] := He.tupB_ok (vs := [.str "nobody"]) (Bool.and_eq_true_iff.mp T.ex).1 H
theorem tl_NOBODY {p : List Addr} {H : Hp} : DenL (GG K) p H tw_NOBODY [.str (Str.ofString "nobody")] := .cons (by rw [e_x17]; exact .str _) (.nil)
def tw_LOST : List Mv := [.str x18]
theorem Tx.tp_LOST (T : Tx K mg) (H : Hp) : SqT K H (He.ga K "LOST") [.str (Str.ofString "lost")] := He.tupB_ok (vs := [.str "lost"]) (Bool.and_eq_true_iff.mp T.ex).2 H
theorem tl_LOST {p : List Addr} {H : Hp} : DenL (GG K) p H tw_LOST [.str (Str.ofString "lost")] := .cons (by rw [e_x18]; exact .str _) (.nil)
theorem hno_Trial_gives : ∀ j, j < (GG K).nf → (GG K).nm j ≠ "gives" := by
  have h : ∀ j, j < fnames.length → fnames.getD j "" ≠ "gives" := by decide +kernel
  exact h
theorem hno_Trial_gives_all : ∀ j, j < (GG K).nf → (GG K).nm j ≠ "gives_all" := by
  have h : ∀ j, j < fnames.length → fnames.getD j "" ≠ "gives_all" := by decide +kernel
  exact h
theorem hno_Trial_is_possible : ∀ j, j < (GG K).nf → (GG K).nm j ≠ "is_possible" := by
  have h : ∀ j, j < fnames.length → fnames.getD j "" ≠ "is_possible" := by decide +kernel
  exact h
theorem hno_Trial_told_inside : ∀ j, j < (GG K).nf → (GG K).nm j ≠ "told_inside" := by
  have h : ∀ j, j < fnames.length → fnames.getD j "" ≠ "told_inside" := by decide +kernel
  exact h
end
/-! ### the mirror, def by def, and what each def keeps -/
section
variable {P : Program} {w : World} {K : PySem.W.Frag} {mg : Str → Option Value} {base : Heap}
def N__law_box : List Str := ["_law_script", "_law_k", "_law_cell", "_law_seed"]
theorem sc__law_box : FnScope ["_law_script", "_law_k", "_law_cell", "_law_seed"] ["_law_script", "_law_k"] (defScope s__law_box) := ⟨rfl, rfl, rfl, by decide +kernel, rfl, by decide +kernel, by decide +kernel⟩
theorem b__law_box (T : Tx K mg) : Binds K (T.fd 1) ["_law_script", "_law_k"] [] := FunD.bindsN (T.df 1 dd__law_box rfl) fun _ _ _ _ _ _ us hl => match us, hl with | [_, _], _ => rfl
def bd__law_box : Fs :=
  sseq (sset 2 (mif (mtB (mop2 ltW (mvar 1) (mcall lenW (mcons (mvar 0) (mnil))))) (mop2 ixW (mvar 0) (mvar 1)) (mcon (.int 0))))
  (sseq (sset 3 (mop2 modW (mcall intW (mcons (mop2 mulW (mop2 addW (mop2 addW (mop2 modW (mcall intW (mcons (mvar 2) (mnil))) (mcon (.int 2305843009213693921))) (mop2 mulW (mcon (.int 41177)) (mvar 1))) (mcon (.int 53))) (mcon (.int 38923))) (mnil))) (mcon (.int 2147483563))))
  (sret (mlst (mcons (mop2 mulW (mcall absW (mcons (mvar 2) (mnil))) (mcall intW (mcons (mop2 geW (mcall absW (mcons (mvar 2) (mnil))) (mop2 powW (mcon (.int 10)) (mcon (.int 18)))) (mnil)))) (mcons (mvar 3) (mcons (mcon (.int 0)) (mnil)))))))
def m__law_box : Fn := fnM 2 4 bd__law_box
theorem ok__law_box (T : Tx K mg) : FnOk P w K mg base CX0 1 (He.ga K "_law_box") (T.fd 1) ["_law_script", "_law_k"] (spM (GG K) m__law_box) :=
  fn_okD (B := bd__law_box) (T.df 1 dd__law_box rfl) sc__law_box (hb := fun cdv A outer s H E hr => sm_cons (sm_set (ps_set (i := 2) sc__law_box.nd rfl (Or.inl rfl) (pm_if (pm_tcmp (om_lt) (pm_var (pv 1)) (pm_cB cm_len (by rfl) (T.fr "len" (by simp [frees])) bb_len (pm_cons (pm_var (pv 0)) (pm_nil))) (nomark _)) (pm_ix (pm_var (pv 0)) (pm_var (pv 1))) (pm_int))))
    (sm_cons (sm_set (ps_set (i := 3) sc__law_box.nd rfl (Or.inl rfl) (pm_bin om_mod (pm_cT cm_int (by rfl) (T.fr "int" (by simp [frees])) bb_int (pm_cons (pm_bin om_mul (pm_bin om_add (pm_bin om_add (pm_bin om_mod (pm_cT cm_int (by rfl) (T.fr "int" (by simp [frees])) bb_int (pm_cons (pm_var (pv 2)) (pm_nil))) (pm_int)) (pm_bin om_mul (pm_int) (pm_var (pv 1)))) (pm_int)) (pm_int)) (pm_nil))) (pm_int))))
    (sm_one (sm_ret (pm_lst (pm_cons (pm_bin om_mul (pm_cB cm_abs (by rfl) (T.fr "abs" (by simp [frees])) bb_abs (pm_cons (pm_var (pv 2)) (pm_nil))) (pm_cT cm_int (by rfl) (T.fr "int" (by simp [frees])) bb_int (pm_cons (pm_cmp (om_ge) (pm_cB cm_abs (by rfl) (T.fr "abs" (by simp [frees])) bb_abs (pm_cons (pm_var (pv 2)) (pm_nil))) (pm_bin om_pow (pm_int) (pm_int)) (nomark _)) (pm_nil)))) (pm_cons (pm_var (pv 3)) (pm_cons (pm_int) (pm_nil)))))))))
def N__law_take : List Str := ["_law_box_here", "_law_below", "_law_found", "_law_once", "_law_odd"]
theorem sc__law_take : FnScope ["_law_box_here", "_law_below", "_law_found", "_law_once", "_law_odd"] ["_law_box_here", "_law_below"] (defScope s__law_take) := ⟨rfl, rfl, rfl, by decide +kernel, rfl, by decide +kernel, by decide +kernel⟩
theorem b__law_take (T : Tx K mg) : Binds K (T.fd 4) ["_law_box_here", "_law_below"] [] := FunD.bindsN (T.df 4 dd__law_take rfl) fun _ _ _ _ _ _ us hl => match us, hl with | [_, _], _ => rfl
def bd__law_take : Fs :=
  sseq (sif (mtB (mop2 gtW (mop2 ixW (mvar 0) (mcon (.int 0))) (mcon (.int 0)))) (sseq (sset 2 (mop2 modW (mcall intW (mcons (mop2 ixW (mvar 0) (mcon (.int 0))) (mnil))) (mvar 1)))
  (sseq (ssub (mvar 0) (mcon (.int 0)) (mop2 divW (mop2 ixW (mvar 0) (mcon (.int 0))) (mvar 1)))
  (sret (mvar 2)))) (snx))
  (sseq (ssub (mvar 0) (mcon (.int 2)) (mop2 addW (mop2 ixW (mvar 0) (mcon (.int 2))) (mcon (.int 1))))
  (sseq (sset 3 (mop2 modW (mcall intW (mcons (mop2 powW (mop2 addW (mop2 ixW (mvar 0) (mcon (.int 1))) (mop2 mulW (mcon (.int 51749)) (mop2 ixW (mvar 0) (mcon (.int 2))))) (mcon (.int 3))) (mnil))) (mcon (.int 2147483549))))
  (sseq (sset 4 (mop2 addW (mop2 modW (mcall intW (mcons (mvar 3) (mnil))) (mcon (.int 30011))) (mcon (.int 17))))
  (sret (mop2 modW (mcall intW (mcons (mop2 divW (mop2 modW (mcall intW (mcons (mop2 addW (mop2 mulW (mvar 3) (mvar 4)) (mop2 mulW (mop2 ixW (mvar 0) (mcon (.int 2))) (mcon (.int 7039)))) (mnil))) (mcon (.int 2147483629))) (mcon (.int 32))) (mnil))) (mvar 1))))))
def m__law_take : Fn := fnM 2 5 bd__law_take
theorem ok__law_take (T : Tx K mg) : FnOk P w K mg base CX0 1 (He.ga K "_law_take") (T.fd 4) ["_law_box_here", "_law_below"] (spM (GG K) m__law_take) :=
  fn_okD (B := bd__law_take) (T.df 4 dd__law_take rfl) sc__law_take (hb := fun cdv A outer s H E hr => sm_cons (sm_if (pm_tcmp (om_gt) (pm_ix (pm_var (pv 0)) (pm_int)) (pm_int) (nomark _)) (sm_cons (sm_set (ps_set (i := 2) sc__law_take.nd rfl (Or.inl rfl) (pm_bin om_mod (pm_cT cm_int (by rfl) (T.fr "int" (by simp [frees])) bb_int (pm_cons (pm_ix (pm_var (pv 0)) (pm_int)) (pm_nil))) (pm_var (pv 1)))))
    (sm_cons (sm_sub (ps_asg (pm_bin om_div (pm_ix (pm_var (pv 0)) (pm_int)) (pm_var (pv 1))) (pg_sub (pm_var (pv 0)) (pm_int) set_list)))
    (sm_one (sm_ret (pm_var (pv 2)))))) (sm_nil))
    (sm_cons (sm_sub (ps_asg (pm_bin om_add (pm_ix (pm_var (pv 0)) (pm_int)) (pm_int)) (pg_sub (pm_var (pv 0)) (pm_int) set_list)))
    (sm_cons (sm_set (ps_set (i := 3) sc__law_take.nd rfl (Or.inl rfl) (pm_bin om_mod (pm_cT cm_int (by rfl) (T.fr "int" (by simp [frees])) bb_int (pm_cons (pm_bin om_pow (pm_bin om_add (pm_ix (pm_var (pv 0)) (pm_int)) (pm_bin om_mul (pm_int) (pm_ix (pm_var (pv 0)) (pm_int)))) (pm_int)) (pm_nil))) (pm_int))))
    (sm_cons (sm_set (ps_set (i := 4) sc__law_take.nd rfl (Or.inl rfl) (pm_bin om_add (pm_bin om_mod (pm_cT cm_int (by rfl) (T.fr "int" (by simp [frees])) bb_int (pm_cons (pm_var (pv 3)) (pm_nil))) (pm_int)) (pm_int))))
    (sm_one (sm_ret (pm_bin om_mod (pm_cT cm_int (by rfl) (T.fr "int" (by simp [frees])) bb_int (pm_cons (pm_bin om_div (pm_bin om_mod (pm_cT cm_int (by rfl) (T.fr "int" (by simp [frees])) bb_int (pm_cons (pm_bin om_add (pm_bin om_mul (pm_var (pv 3)) (pm_var (pv 4))) (pm_bin om_mul (pm_ix (pm_var (pv 0)) (pm_int)) (pm_int))) (pm_nil))) (pm_int)) (pm_int)) (pm_nil))) (pm_var (pv 1)))))))))
theorem one_put {o o' : Mo} : (one o).put 0 o' = one o' := rfl
theorem one_get0 {o : Mo} : (one o).get 0 = some o := rfl
theorem smI_of {i : Int} (h1 : -(2 ^ 64) < i) (h2 : i < 2 ^ 64) : smI i = true := by
  unfold smI; rw [decide_eq_true h1, decide_eq_true h2]; rfl
theorem at0 {x y z : Mv} : L2.atI [x, y, z] 0 = some x := rfl
theorem at1 {x y z : Mv} : L2.atI [x, y, z] 1 = some y := rfl
theorem at2 {x y z : Mv} : L2.atI [x, y, z] 2 = some z := rfl
theorem ixN0 : ixN 3 0 = some 0 := rfl
theorem ixN2 : ixN 3 2 = some 2 := rfl
theorem take_run (a c n k : Int) (ok : BoxOk a c n) (hn : n < 1000000) (hk : 1 ≤ k) (hk2 : k ≤ 1000) : m__law_take [.ref 0, .int k] (one (.lst [.int a, .int c, .int n])) = some (.int (drawF k a c n).1, one (.lst [.int (drawF k a c n).2.1, .int c, .int (drawF k a c n).2.2])) := by
  have k0 : decide (0 < k) = true := decide_eq_true (by omega)
  have k1 : decide (k < 1073741824) = true := decide_eq_true (by omega)
  have ix : ∀ (i : Int) (xs : List Mv), ixW (.ref 0) (.int i) (one (.lst xs)) = (L2.atI xs i).map fun w => (w, one (.lst xs)) := fun _ _ => rfl
  by_cases h : 0 < a
  · have hd : decide (0 < a) = true := decide_eq_true h
    simp [m__law_take, fnM, bd__law_take, sseq, sif, mtB, mop2, mvar, mcon, ix, at0, gtW, cmpI, sset, mcall, mcons, mnil, intW, modW, divW, ssub, sret, one_get0, one_put, ixN0, drawF, h, k0, k1, hd, hk]
  · have hd : decide (0 < a) = false := decide_eq_false h
    have hc := ok.c0
    have hc1 := ok.c1
    have hn0 := ok.n0
    have sm : smI (c + 51749 * (n + 1)) = true := smI_of (by omega) (by omega)
    have sm3 : ∀ j : Int, smI (j % 2147483549) = true := fun j => smI_of (by omega) (by omega)
    have sm1 : smI 51749 = true := by decide
    have sm2 : smI 7039 = true := by decide
    simp [m__law_take, fnM, bd__law_take, sseq, sif, mtB, mop2, mvar, mcon, ix, at0, at1, at2, gtW, cmpI, sset, mcall, mcons, mnil, intW, modW, divW, addW, mulW, powW, ssub, snx, sret, one_get0, one_put, ixN2, drawF, h, k0, k1, hd, hk, sm, sm1, sm2, sm3]
theorem take_ok : TakeOk drawF m__law_take := by
  intro a c n k ok hn hk hk2
  have hin := drawF_in a c n k ok hk
  refine ⟨one (.lst [.int (drawF k a c n).2.1, .int c, .int (drawF k a c n).2.2]), ?_, rfl, hin.2.2, ?_⟩
  · exact take_run a c n k ok hn hk hk2
  · unfold drawF
    split
    · show n ≤ n + 1; omega
    · show n + 1 ≤ n + 1; omega
theorem okB__law_take (T : Tx K mg) : FnOk P w K mg base CX0 1 (He.ga K "_law_take") (T.fd 4) ["_law_box_here", "_law_below"] (spM (GG K) takeB) := take_box (ok__law_take T) take_ok

def N__law_of : List Str := ["_law_box_here", "_law_some"]
theorem sc__law_of : FnScope ["_law_box_here", "_law_some"] ["_law_box_here", "_law_some"] (defScope s__law_of) := ⟨rfl, rfl, rfl, by decide +kernel, rfl, by decide +kernel, by decide +kernel⟩
theorem b__law_of (T : Tx K mg) : Binds K (T.fd 3) ["_law_box_here", "_law_some"] [] := FunD.bindsN (T.df 3 dd__law_of rfl) fun _ _ _ _ _ _ us hl => match us, hl with | [_, _], _ => rfl
def bd__law_of : Fs :=
  sret (mop2 ixW (mvar 1) (mcall takeB (mcons (mvar 0) (mcons (mcall lenW (mcons (mvar 1) (mnil))) (mnil)))))
def m__law_of : Fn := fnM 2 2 bd__law_of
theorem ok__law_of (T : Tx K mg) : FnOk P w K mg base CX0 2 (He.ga K "_law_of") (T.fd 3) ["_law_box_here", "_law_some"] (spM (GG K) m__law_of) :=
  fn_okD (B := bd__law_of) (T.df 3 dd__law_of rfl) sc__law_of (hb := fun cdv A outer s H E hr => sm_one (sm_ret (pm_ix (pm_var (pv 1)) (pm_call (okB__law_take T) (hr.mono (by decide)) (by rfl) (T.gl "_law_take" (by simp [glos])) (T.kp 4 rfl) (b__law_take T) pass0 (pm_cons (pm_var (pv 0)) (pm_cons (pm_cB cm_len (by rfl) (T.fr "len" (by simp [frees])) bb_len (pm_cons (pm_var (pv 1)) (pm_nil))) (pm_nil)))))))
def N_as_tuples : List Str := ["thing", "part"]
theorem sc_as_tuples : FnScope ["thing", "part"] ["thing"] (defScope s_as_tuples) := ⟨rfl, rfl, rfl, by decide +kernel, rfl, by decide +kernel, by decide +kernel⟩
theorem b_as_tuples (T : Tx K mg) : Binds K (T.fd 7) ["thing"] [] := FunD.bindsN (T.df 7 dd_as_tuples rfl) fun _ _ _ _ _ _ us hl => match us, hl with | [_], _ => rfl
def b0_as_tuples (m_as_tuples : Nat → Fn) (d : Nat) : Fs :=
  sret (mif (mtst (misiT (mvar 0) [.list, .tuple])) (mcall tupleW (mcons (mlc (miS (mvar 0)) (.nm 1) (myes) (mcall (m_as_tuples d) (mcons (mvar 1) (mnil))) [1]) (mnil))) (mvar 0))
def m_as_tuples : Nat → Fn
  | 0 => fun _ _ => none
  | d + 1 => fnM 1 2 (b0_as_tuples (fun _ => m_as_tuples d) d)
theorem ok_as_tuples (T : Tx K mg) : ∀ d : Nat, FnOk P w K mg base CX0 (d + 1) (He.ga K "as_tuples") (T.fd 7) ["thing"] (spM (GG K) (m_as_tuples d))
  | 0 => fn_none
  | d + 1 => fn_okD (T.df 7 dd_as_tuples rfl) sc_as_tuples (hb := fun cdv A outer s H E hr => sm_one (sm_ret (pm_if (pm_tst (pm_isiT (pm_var (pv 0)) (py_cons (t := .list) (pe_bltn (by rfl) (T.fr "list" (by simp [frees])) bb_list rfl) (py_cons (t := .tuple) (pe_bltn (by rfl) (T.fr "tuple" (by simp [frees])) bb_tuple rfl) (py_nil))) (by rfl) (T.fr "isinstance" (by simp [frees])))) (pm_cT cm_tuple (by rfl) (T.fr "tuple" (by simp [frees])) bb_tuple (pm_cons (pm_lc (own := [("part", 1)]) rfl sc_as_tuples.nd (im_seq (pm_var (pv 0))) (blkOk_by (own := [("part", 1)]) (N := N_as_tuples) (sc := defScope s_as_tuples) (by decide +kernel)) (fun _ _ _ _ _ => gm_name (pg_name (i := 1) sc_as_tuples.nd rfl (Or.inl rfl))) (fun _ _ _ _ _ => tm_nil) (fun _ _ _ _ _ => pm_call (ok_as_tuples T d) hr (by rfl) (T.gl "as_tuples" (by simp [glos])) (T.kp 7 rfl) (b_as_tuples T) pass0 (pm_cons (pm_var (pv 1)) (pm_nil)))) (pm_nil))) (pm_var (pv 0)))))
theorem okP_as_tuples (T : Tx K mg) : FnOk P w K mg base CX0 9 (He.ga K "as_tuples") (T.fd 7) ["thing"] (spM (GG K) (pureF (m_as_tuples 8))) := pure_ok (ok_as_tuples T 8)
def N_lib_of : List Str := ["program", "name", "some", "lib"]
theorem sc_lib_of : FnScope ["program", "name", "some", "lib"] ["program", "name"] (defScope s_lib_of) := ⟨rfl, rfl, rfl, by decide +kernel, rfl, by decide +kernel, by decide +kernel⟩
theorem b_lib_of (T : Tx K mg) : Binds K (T.fd 10) ["program", "name"] [] := FunD.bindsN (T.df 10 dd_lib_of rfl) fun _ _ _ _ _ _ us hl => match us, hl with | [_, _], _ => rfl
def bd_lib_of : Fs :=
  sseq (sset 2 (mlc (miS (mop2 ixW (mvar 0) (mcon (.int 0)))) (.nm 3) (mtB (mop2 eqW (mop2 ixW (mvar 3) (mcon (.int 0))) (mvar 1))) (mvar 3) [3]))
  (sret (mif (mtB (mop2 gtW (mcall lenW (mcons (mvar 2) (mnil))) (mcon (.int 0)))) (mop2 ixW (mvar 2) (mcon (.int 0))) (mcon .non)))
def m_lib_of : Fn := fnM 2 4 bd_lib_of
theorem ok_lib_of (T : Tx K mg) : FnOk P w K mg base CX0 1 (He.ga K "lib_of") (T.fd 10) ["program", "name"] (spM (GG K) m_lib_of) :=
  fn_okD (B := bd_lib_of) (T.df 10 dd_lib_of rfl) sc_lib_of (hb := fun cdv A outer s H E hr => sm_cons (sm_setLc (i := 2) (own := [("lib", 3)]) rfl sc_lib_of.nd rfl rfl (sw_true rfl rfl rfl (by decide +kernel)) (im_seq (pm_ix (pm_var (pv 0)) (pm_int))) (blkOk_by (own := [("lib", 3)]) (N := N_lib_of) (sc := defScope s_lib_of) (by decide +kernel)) (fun _ _ _ _ _ => gm_name (pg_name (i := 3) sc_lib_of.nd rfl (Or.inl rfl))) (fun _ _ _ _ _ => tm_one (pm_tcmp (om_eq hr.units) (pm_ix (pm_var (pv 3)) (pm_int)) (pm_var (pv 1)) (nomark _))) (fun _ _ _ _ _ => pm_var (pv 3)))
    (sm_one (sm_ret (pm_if (pm_tcmp (om_gt) (pm_cB cm_len (by rfl) (T.fr "len" (by simp [frees])) bb_len (pm_cons (pm_var (pv 2)) (pm_nil))) (pm_int) (nomark _)) (pm_ix (pm_var (pv 2)) (pm_int)) (pm_non)))))
theorem okP_lib_of (T : Tx K mg) : FnOk P w K mg base CX0 1 (He.ga K "lib_of") (T.fd 10) ["program", "name"] (spM (GG K) (pureF (m_lib_of))) := pure_ok (ok_lib_of T)
def N_lib_at : List Str := ["program", "name", "lib"]
theorem sc_lib_at : FnScope ["program", "name", "lib"] ["program", "name"] (defScope s_lib_at) := ⟨rfl, rfl, rfl, by decide +kernel, rfl, by decide +kernel, by decide +kernel⟩
theorem b_lib_at (T : Tx K mg) : Binds K (T.fd 9) ["program", "name"] [] := FunD.bindsN (T.df 9 dd_lib_at rfl) fun _ _ _ _ _ _ us hl => match us, hl with | [_, _], _ => rfl
def bd_lib_at : Fs :=
  sseq (sset 2 (mcall (pureF m_lib_of) (mcons (mvar 0) (mcons (mvar 1) (mnil)))))
  (sseq (sif (mtB (mop2 (isW false) (mvar 2) (mcon .non))) (sno) (snx))
  (sret (mvar 2)))
def m_lib_at : Fn := fnM 2 3 bd_lib_at
theorem ok_lib_at (T : Tx K mg) : FnOk P w K mg base CX0 2 (He.ga K "lib_at") (T.fd 9) ["program", "name"] (spM (GG K) m_lib_at) :=
  fn_okD (B := bd_lib_at) (T.df 9 dd_lib_at rfl) sc_lib_at (hb := fun cdv A outer s H E hr => sm_cons (sm_set (ps_set (i := 2) sc_lib_at.nd rfl (Or.inl rfl) (pm_call (okP_lib_of T) (hr.mono (by decide)) (by rfl) (T.gl "lib_of" (by simp [glos])) (T.kp 10 rfl) (b_lib_of T) pass0 (pm_cons (pm_var (pv 0)) (pm_cons (pm_var (pv 1)) (pm_nil))))))
    (sm_cons (sm_if (pm_tcmp (om_is) (pm_var (pv 2)) (pm_non) (nomark _)) (sm_one (sm_no)) (sm_nil))
    (sm_one (sm_ret (pm_var (pv 2))))))
theorem okP_lib_at (T : Tx K mg) : FnOk P w K mg base CX0 2 (He.ga K "lib_at") (T.fd 9) ["program", "name"] (spM (GG K) (pureF (m_lib_at))) := pure_ok (ok_lib_at T)
def N_use_at : List Str := ["program", "name", "number", "lib"]
theorem sc_use_at : FnScope ["program", "name", "number", "lib"] ["program", "name", "number"] (defScope s_use_at) := ⟨rfl, rfl, rfl, by decide +kernel, rfl, by decide +kernel, by decide +kernel⟩
theorem b_use_at (T : Tx K mg) : Binds K (T.fd 8) ["program", "name", "number"] [] := FunD.bindsN (T.df 8 dd_use_at rfl) fun _ _ _ _ _ _ us hl => match us, hl with | [_, _, _], _ => rfl
def bd_use_at : Fs :=
  sseq (sset 3 (mcall (pureF m_lib_at) (mcons (mvar 0) (mcons (mvar 1) (mnil)))))
  (sseq (sif (mnot (mtB (mchain leW ltW (mcon (.int 0)) (mvar 2) (mcall lenW (mcons (mop2 ixW (mvar 3) (mcon (.int 3))) (mnil)))))) (sno) (snx))
  (sret (mop2 ixW (mop2 ixW (mvar 3) (mcon (.int 3))) (mvar 2))))
def m_use_at : Fn := fnM 3 4 bd_use_at
theorem ok_use_at (T : Tx K mg) : FnOk P w K mg base CX0 3 (He.ga K "use_at") (T.fd 8) ["program", "name", "number"] (spM (GG K) m_use_at) :=
  fn_okD (B := bd_use_at) (T.df 8 dd_use_at rfl) sc_use_at (hb := fun cdv A outer s H E hr => sm_cons (sm_set (ps_set (i := 3) sc_use_at.nd rfl (Or.inl rfl) (pm_call (okP_lib_at T) (hr.mono (by decide)) (by rfl) (T.gl "lib_at" (by simp [glos])) (T.kp 9 rfl) (b_lib_at T) pass0 (pm_cons (pm_var (pv 0)) (pm_cons (pm_var (pv 1)) (pm_nil))))))
    (sm_cons (sm_if (pm_tnot (pm_tchain (om_le) (om_lt) (pm_int) (pm_var (pv 2)) (pm_cB cm_len (by rfl) (T.fr "len" (by simp [frees])) bb_len (pm_cons (pm_ix (pm_var (pv 3)) (pm_int)) (pm_nil))))) (sm_one (sm_no)) (sm_nil))
    (sm_one (sm_ret (pm_ix (pm_ix (pm_var (pv 3)) (pm_int)) (pm_var (pv 2)))))))
theorem okP_use_at (T : Tx K mg) : FnOk P w K mg base CX0 3 (He.ga K "use_at") (T.fd 8) ["program", "name", "number"] (spM (GG K) (pureF (m_use_at))) := pure_ok (ok_use_at T)
def N_looked : List Str := ["program", "wanted", "name", "i", "answer"]
theorem sc_looked : FnScope ["program", "wanted", "name", "i", "answer"] ["program", "wanted"] (defScope s_looked) := ⟨rfl, rfl, rfl, by decide +kernel, rfl, by decide +kernel, by decide +kernel⟩
theorem b_looked (T : Tx K mg) : Binds K (T.fd 6) ["program", "wanted"] [] := FunD.bindsN (T.df 6 dd_looked rfl) fun _ _ _ _ _ _ us hl => match us, hl with | [_, _], _ => rfl
def bd_looked : Fs :=
  sseq (spar 0 1 (mcons (mcall (pureF ((m_as_tuples 8))) (mcons (mvar 0) (mnil))) (mcons (mcall (pureF ((m_as_tuples 8))) (mcons (mvar 1) (mnil))) (mnil))))
  (sseq (sfor (miS (mvar 1)) (.tp [2, 3, 4]) (sexp (mcall (pureF m_use_at) (mcons (mvar 0) (mcons (mvar 2) (mcons (mvar 3) (mnil)))))))
  (sret (mtup (mcons (mvar 0) (mcons (mvar 1) (mnil))))))
def m_looked : Fn := fnM 2 5 bd_looked
theorem ok_looked (T : Tx K mg) : FnOk P w K mg base CX0 10 (He.ga K "looked") (T.fd 6) ["program", "wanted"] (spM (GG K) m_looked) :=
  fn_okD (B := bd_looked) (T.df 6 dd_looked rfl) sc_looked (hb := fun cdv A outer s H E hr => sm_cons (sm_par (ps_par (i := 0) (j := 1) rfl sc_looked.nd rfl rfl (by decide) rfl rfl (pm_cons (pm_call (okP_as_tuples T) (hr.mono (by decide)) (by rfl) (T.gl "as_tuples" (by simp [glos])) (T.kp 7 rfl) (b_as_tuples T) pass0 (pm_cons (pm_var (pv 0)) (pm_nil))) (pm_cons (pm_call (okP_as_tuples T) (hr.mono (by decide)) (by rfl) (T.gl "as_tuples" (by simp [glos])) (T.kp 7 rfl) (b_as_tuples T) pass0 (pm_cons (pm_var (pv 1)) (pm_nil))) (pm_nil))) (by rfl)))
    (sm_cons (sm_for' PassesOwn.never rfl (im_seq (pm_var (pv 1))) (gm_tup rfl (gm_cons (pg_name (i := 2) sc_looked.nd rfl (Or.inl rfl)) (gm_cons (pg_name (i := 3) sc_looked.nd rfl (Or.inl rfl)) (gm_cons (pg_name (i := 4) sc_looked.nd rfl (Or.inl rfl)) (gm_nil))))) (sm_one (sm_exp (pm_call (okP_use_at T) (hr.mono (by decide)) (by rfl) (T.gl "use_at" (by simp [glos])) (T.kp 8 rfl) (b_use_at T) pass0 (pm_cons (pm_var (pv 0)) (pm_cons (pm_var (pv 2)) (pm_cons (pm_var (pv 3)) (pm_nil))))))))
    (sm_one (sm_ret (pm_tup (pm_cons (pm_var (pv 0)) (pm_cons (pm_var (pv 1)) (pm_nil))))))))
theorem okP_looked (T : Tx K mg) : FnOk P w K mg base CX0 10 (He.ga K "looked") (T.fd 6) ["program", "wanted"] (spM (GG K) (pureF (m_looked))) := pure_ok (ok_looked T)
def N_others_of : List Str := ["program", "lib"]
theorem sc_others_of : FnScope ["program", "lib"] ["program"] (defScope s_others_of) := ⟨rfl, rfl, rfl, by decide +kernel, rfl, by decide +kernel, by decide +kernel⟩
theorem b_others_of (T : Tx K mg) : Binds K (T.fd 11) ["program"] [] := FunD.bindsN (T.df 11 dd_others_of rfl) fun _ _ _ _ _ _ us hl => match us, hl with | [_], _ => rfl
def bd_others_of : Fs :=
  sret (mcall sortedW (mcons (mlc (miS (mslice (mop2 ixW (mvar 0) (mcon (.int 0))) (osome (mcon (.int 1))) (onone))) (.nm 1) (myes) (mop2 ixW (mvar 1) (mcon (.int 0))) [1]) (mnil)))
def m_others_of : Fn := fnM 1 2 bd_others_of
theorem ok_others_of (T : Tx K mg) : FnOk P w K mg base CX0 1 (He.ga K "others_of") (T.fd 11) ["program"] (spM (GG K) m_others_of) :=
  fn_okD (B := bd_others_of) (T.df 11 dd_others_of rfl) sc_others_of (hb := fun cdv A outer s H E hr => sm_one (sm_ret (pm_cB cm_sorted (by rfl) (T.fr "sorted" (by simp [frees])) bb_sorted (pm_cons (pm_lc (own := [("lib", 1)]) rfl sc_others_of.nd (im_seq (pm_slice (pm_ix (pm_var (pv 0)) (pm_int)) (om_some (pm_int)) (om_none))) (blkOk_by (own := [("lib", 1)]) (N := N_others_of) (sc := defScope s_others_of) (by decide +kernel)) (fun _ _ _ _ _ => gm_name (pg_name (i := 1) sc_others_of.nd rfl (Or.inl rfl))) (fun _ _ _ _ _ => tm_nil) (fun _ _ _ _ _ => pm_ix (pm_var (pv 1)) (pm_int))) (pm_nil)))))
theorem okP_others_of (T : Tx K mg) : FnOk P w K mg base CX0 1 (He.ga K "others_of") (T.fd 11) ["program"] (spM (GG K) (pureF (m_others_of))) := pure_ok (ok_others_of T)
def N_Trial___init__ : List Str := ["self", "program"]
theorem sc_Trial___init__ : FnScope ["self", "program"] ["self", "program"] (defScope s_Trial___init__) := ⟨rfl, rfl, rfl, by decide +kernel, rfl, by decide +kernel, by decide +kernel⟩
theorem b_Trial___init__ (T : Tx K mg) : Binds K (T.fd 12) ["self", "program"] [] := FunD.bindsN (T.df 12 dd_Trial___init__ rfl) fun _ _ _ _ _ _ us hl => match us, hl with | [_, _], _ => rfl
def bd_Trial___init__ : Fs :=
  sseq (sfld 0 0 (mvar 0) (mvar 1))
  (sfld 0 1 (mvar 0) (mdn))
def m_Trial___init__ : Fn := fnM 2 2 bd_Trial___init__
theorem ok_Trial___init__ (T : Tx K mg) : FnOk P w K mg base CX0 1 (He.ma K (He.ga K "Trial") "__init__") (T.fd 12) ["self", "program"] (spM (GG K) m_Trial___init__) :=
  fn_okD (B := bd_Trial___init__) (T.df 12 dd_Trial___init__ rfl) sc_Trial___init__ (hb := fun cdv A outer s H E hr => sm_cons (sm_fld (c := 0) (k := 0) (pm_var (pv 0)) (pm_var (pv 1)) rfl (T.cl "Trial" (by simp [fa])) (T.na "Trial" "own_program" (by simp [fa])) rfl (by show 0 < 2; decide))
    (sm_one (sm_fld (c := 0) (k := 1) (pm_var (pv 0)) (pm_dn) rfl (T.cl "Trial" (by simp [fa])) (T.na "Trial" "own_walked" (by simp [fa])) rfl (by show 1 < 2; decide))))
def N_names_in : List Str := ["program", "wanted", "names", "name", "i", "answer"]
theorem sc_names_in : FnScope ["program", "wanted", "names", "name", "i", "answer"] ["program", "wanted"] (defScope s_names_in) := ⟨rfl, rfl, rfl, by decide +kernel, rfl, by decide +kernel, by decide +kernel⟩
theorem b_names_in (T : Tx K mg) : Binds K (T.fd 14) ["program", "wanted"] [] := FunD.bindsN (T.df 14 dd_names_in rfl) fun _ _ _ _ _ _ us hl => match us, hl with | [_, _], _ => rfl
def bd_names_in : Fs :=
  sseq (sset 2 (mop2 addW (mlc (miS (mvar 1)) (.tp [3, 4, 5]) (myes) (mvar 3) [3, 4, 5]) (mlc (miS (mvar 1)) (.tp [3, 4, 5]) (mtB (mop2 eqW (mop2 ixW (mvar 5) (mcon (.int 0))) (mcon (.str x16)))) (mop2 ixW (mvar 5) (mcon (.int 1))) [3, 4, 5])))
  (sret (mlc (miS (mcall (pureF m_others_of) (mcons (mvar 0) (mnil)))) (.nm 3) (mtB (mop2 inW (mvar 3) (mvar 2))) (mvar 3) [3]))
def m_names_in : Fn := fnM 2 6 bd_names_in
theorem ok_names_in (T : Tx K mg) : FnOk P w K mg base CX0 2 (He.ga K "names_in") (T.fd 14) ["program", "wanted"] (spM (GG K) m_names_in) :=
  fn_okD (B := bd_names_in) (T.df 14 dd_names_in rfl) sc_names_in (hb := fun cdv A outer s H E hr => sm_cons (sm_set (ps_set (i := 2) sc_names_in.nd rfl (Or.inr rfl) (pm_bin om_add (pm_lc (own := [("name", 3), ("i", 4), ("answer", 5)]) rfl sc_names_in.nd (im_seq (pm_var (pv 1))) (blkOk_by (own := [("name", 3), ("i", 4), ("answer", 5)]) (N := N_names_in) (sc := defScope s_names_in) (by decide +kernel)) (fun _ _ _ _ _ => gm_tup rfl (gm_cons (pg_name (i := 3) sc_names_in.nd rfl (Or.inl rfl)) (gm_cons (pg_name (i := 4) sc_names_in.nd rfl (Or.inl rfl)) (gm_cons (pg_name (i := 5) sc_names_in.nd rfl (Or.inl rfl)) (gm_nil))))) (fun _ _ _ _ _ => tm_nil) (fun _ _ _ _ _ => pm_var (pv 3))) (pm_lc (own := [("name", 3), ("i", 4), ("answer", 5)]) rfl sc_names_in.nd (im_seq (pm_var (pv 1))) (blkOk_by (own := [("name", 3), ("i", 4), ("answer", 5)]) (N := N_names_in) (sc := defScope s_names_in) (by decide +kernel)) (fun _ _ _ _ _ => gm_tup rfl (gm_cons (pg_name (i := 3) sc_names_in.nd rfl (Or.inl rfl)) (gm_cons (pg_name (i := 4) sc_names_in.nd rfl (Or.inl rfl)) (gm_cons (pg_name (i := 5) sc_names_in.nd rfl (Or.inl rfl)) (gm_nil))))) (fun _ _ _ _ _ => tm_one (pm_tcmp (om_eq hr.units) (pm_ix (pm_var (pv 5)) (pm_int)) (pm_gstr (T.gs "BOUND" "bound" (by simp [fa])) e_x16 (by rfl)) (nomark _))) (fun _ _ _ _ _ => pm_ix (pm_var (pv 5)) (pm_int))))))
    (sm_one (sm_ret (pm_lc (own := [("name", 3)]) rfl sc_names_in.nd (im_seq (pm_call (okP_others_of T) (hr.mono (by decide)) (by rfl) (T.gl "others_of" (by simp [glos])) (T.kp 11 rfl) (b_others_of T) pass0 (pm_cons (pm_var (pv 0)) (pm_nil)))) (blkOk_by (own := [("name", 3)]) (N := N_names_in) (sc := defScope s_names_in) (by decide +kernel)) (fun _ _ _ _ _ => gm_name (pg_name (i := 3) sc_names_in.nd rfl (Or.inl rfl))) (fun _ _ _ _ _ => tm_one (pm_tcmp (om_in (u65 hr)) (pm_var (pv 3)) (pm_var (pv 2)) (by rfl))) (fun _ _ _ _ _ => pm_var (pv 3))))))
theorem okP_names_in (T : Tx K mg) : FnOk P w K mg base CX0 2 (He.ga K "names_in") (T.fd 14) ["program", "wanted"] (spM (GG K) (pureF (m_names_in))) := pure_ok (ok_names_in T)
def N_rows_of_names : List Str := ["names", "many", "found", "turn", "line", "name"]
theorem sc_rows_of_names : FnScope ["names", "many", "found", "turn", "line", "name"] ["names", "many"] (defScope s_rows_of_names) := ⟨rfl, rfl, rfl, by decide +kernel, rfl, by decide +kernel, by decide +kernel⟩
theorem b_rows_of_names (T : Tx K mg) : Binds K (T.fd 15) ["names", "many"] [] := FunD.bindsN (T.df 15 dd_rows_of_names rfl) fun _ _ _ _ _ _ us hl => match us, hl with | [_, _], _ => rfl
def bd_rows_of_names : Fs :=
  sseq (sset 2 (mlst (mcons (mtup (mnil)) (mnil))))
  (sseq (sfor (miR1 (mcons (mvar 1) (mnil))) (.nm 3) (sset 2 (mlc2 (miS (mvar 2)) (.nm 4) (myes) (miS (mvar 0)) (.nm 5) (mtB (mop2 ninW (mvar 5) (mvar 4))) (mop2 addW (mvar 4) (mtup (mcons (mvar 5) (mnil)))) [4, 5] [5])))
  (sret (mvar 2)))
def m_rows_of_names : Fn := fnM 2 6 bd_rows_of_names
theorem ok_rows_of_names (T : Tx K mg) : FnOk P w K mg base CX0 1 (He.ga K "rows_of_names") (T.fd 15) ["names", "many"] (spM (GG K) m_rows_of_names) :=
  fn_okD (B := bd_rows_of_names) (T.df 15 dd_rows_of_names rfl) sc_rows_of_names (hb := fun cdv A outer s H E hr => sm_cons (sm_set (ps_set (i := 2) sc_rows_of_names.nd rfl (Or.inl rfl) (pm_lst (pm_cons (pm_tup (pm_nil)) (pm_nil)))))
    (sm_cons (sm_for' PassesOwn.never rfl (im_range1 (by rfl) (T.fr "range" (by simp [frees])) (pm_cons (pm_var (pv 1)) (pm_nil))) (gm_name (pg_name (i := 3) sc_rows_of_names.nd rfl (Or.inl rfl))) (sm_one (sm_setLc2 (own := [("line", 4), ("name", 5)]) (vs1 := [5]) (ps_setLc2 (i := 2) (own := [("line", 4), ("name", 5)]) (vs1 := [5]) rfl sc_rows_of_names.nd rfl rfl (sw_true rfl rfl rfl (by decide +kernel)) (im_seq (pm_var (pv 2))) (blkOk_by (own := [("line", 4), ("name", 5)]) (N := N_rows_of_names) (sc := defScope s_rows_of_names) (by decide +kernel)) (by decide) (fun _ _ _ _ _ => gm_name (pg_name (i := 4) sc_rows_of_names.nd rfl (Or.inl rfl))) (fun _ _ _ _ _ => tm_nil) (fun _ _ _ _ _ => im_seq (pm_var (pv 0))) (fun _ _ _ _ _ => gm_name (pg_name (i := 5) sc_rows_of_names.nd rfl (Or.inl rfl))) (fun _ _ _ _ _ => tm_one (pm_tcmp (om_nin (u65 hr)) (pm_var (pv 5)) (pm_var (pv 4)) (by rfl))) (fun _ _ _ _ _ => pm_bin om_add (pm_var (pv 4)) (pm_tup (pm_cons (pm_var (pv 5)) (pm_nil))))))))
    (sm_one (sm_ret (pm_var (pv 2))))))
theorem okP_rows_of_names (T : Tx K mg) : FnOk P w K mg base CX0 1 (He.ga K "rows_of_names") (T.fd 15) ["names", "many"] (spM (GG K) (pure1 (m_rows_of_names))) := pure1_ok (ok_rows_of_names T)
def N_row : List Str := ["program", "names", "found", "name", "at"]
theorem sc_row : FnScope ["program", "names", "found", "name", "at"] ["program", "names"] (defScope s_row) := ⟨rfl, rfl, rfl, by decide +kernel, rfl, by decide +kernel, by decide +kernel⟩
theorem b_row (T : Tx K mg) : Binds K (T.fd 18) ["program", "names"] [] := FunD.bindsN (T.df 18 dd_row rfl) fun _ _ _ _ _ _ us hl => match us, hl with | [_, _], _ => rfl
def bd_row : Fs :=
  sseq (sset 0 (mcall (pureF ((m_as_tuples 8))) (mcons (mvar 0) (mnil))))
  (sseq (sset 2 (mlst (mnil)))
  (sseq (sfor (miS (mvar 1)) (.nm 3) (sseq (sexp (mcall (pureF m_lib_at) (mcons (mvar 0) (mcons (mvar 3) (mnil)))))
  (sset 2 (mif (mtB (mop2 inW (mvar 3) (mvar 2))) (mvar 2) (mop2 addW (mvar 2) (mlst (mcons (mvar 3) (mnil))))))))
  (sseq (sset 4 (mcon (.int 0)))
  (sseq (swhl (mtB (mop2 ltW (mvar 4) (mcall lenW (mcons (mvar 2) (mnil))))) (sseq (sfor (miS (mop2 ixW (mcall (pureF m_lib_of) (mcons (mvar 0) (mcons (mop2 ixW (mvar 2) (mvar 4)) (mnil)))) (mcon (.int 1)))) (.nm 3) (sif (mtB (mop2 ninW (mvar 3) (mvar 2))) (sexp (mbmL appW (mvar 2) (mcons (mvar 3) (mnil)))) (snx)))
  (saug 4 ipW (mcon (.int 1)))))
  (sret (mvar 2))))))
def m_row : Fn := fnM 2 5 bd_row
theorem ok_row (T : Tx K mg) : FnOk P w K mg base CX0 10 (He.ga K "row") (T.fd 18) ["program", "names"] (spM (GG K) m_row) :=
  fn_okD (B := bd_row) (T.df 18 dd_row rfl) sc_row (hb := fun cdv A outer s H E hr => sm_cons (sm_set (ps_set (i := 0) sc_row.nd rfl (Or.inl rfl) (pm_call (okP_as_tuples T) (hr.mono (by decide)) (by rfl) (T.gl "as_tuples" (by simp [glos])) (T.kp 7 rfl) (b_as_tuples T) pass0 (pm_cons (pm_var (pv 0)) (pm_nil)))))
    (sm_cons (sm_set (ps_set (i := 2) sc_row.nd rfl (Or.inl rfl) (pm_lst (pm_nil))))
    (sm_cons (sm_for' PassesOwn.never rfl (im_seq (pm_var (pv 1))) (gm_name (pg_name (i := 3) sc_row.nd rfl (Or.inl rfl))) (sm_cons (sm_exp (pm_call (okP_lib_at T) (hr.mono (by decide)) (by rfl) (T.gl "lib_at" (by simp [glos])) (T.kp 9 rfl) (b_lib_at T) pass0 (pm_cons (pm_var (pv 0)) (pm_cons (pm_var (pv 3)) (pm_nil)))))
    (sm_one (sm_set (ps_set (i := 2) sc_row.nd rfl (Or.inl rfl) (pm_if (pm_tcmp (om_in (u65 hr)) (pm_var (pv 3)) (pm_var (pv 2)) (by rfl)) (pm_var (pv 2)) (pm_bin om_add (pm_var (pv 2)) (pm_lst (pm_cons (pm_var (pv 3)) (pm_nil))))))))))
    (sm_cons (sm_set (ps_set (i := 4) sc_row.nd rfl (Or.inl rfl) (pm_int)))
    (sm_cons (sm_while PassesOwn.never (pm_tcmp (om_lt) (pm_var (pv 4)) (pm_cB cm_len (by rfl) (T.fr "len" (by simp [frees])) bb_len (pm_cons (pm_var (pv 2)) (pm_nil))) (nomark _)) (sm_cons (sm_for' PassesOwn.never rfl (im_seq (pm_ix (pm_call (okP_lib_of T) (hr.mono (by decide)) (by rfl) (T.gl "lib_of" (by simp [glos])) (T.kp 10 rfl) (b_lib_of T) pass0 (pm_cons (pm_var (pv 0)) (pm_cons (pm_ix (pm_var (pv 2)) (pm_var (pv 4))) (pm_nil)))) (pm_int))) (gm_name (pg_name (i := 3) sc_row.nd rfl (Or.inl rfl))) (sm_one (sm_if (pm_tcmp (om_nin (u65 hr)) (pm_var (pv 3)) (pm_var (pv 2)) (by rfl)) (sm_one (sm_exp (pm_bmL lm_app (pe_bm PySem.F.plainAttrs_list PySem.F.slot_list_append PySem.F.type_list_append mt_append (pm_var (pv 2)) (pm_cons (pm_var (pv 3)) (pm_nil)))))) (sm_nil))))
    (sm_one (sm_aug (ps_aug (i := 4) sc_row.nd rfl (Or.inl rfl) (pm_int) pip_add)))))
    (sm_one (sm_ret (pm_var (pv 2)))))))))
theorem okP_row (T : Tx K mg) : FnOk P w K mg base CX0 10 (He.ga K "row") (T.fd 18) ["program", "names"] (spM (GG K) (pureF (m_row))) := pure_ok (ok_row T)
def N_main_of : List Str := ["program"]
theorem sc_main_of : FnScope ["program"] ["program"] (defScope s_main_of) := ⟨rfl, rfl, rfl, by decide +kernel, rfl, by decide +kernel, by decide +kernel⟩
theorem b_main_of (T : Tx K mg) : Binds K (T.fd 19) ["program"] [] := FunD.bindsN (T.df 19 dd_main_of rfl) fun _ _ _ _ _ _ us hl => match us, hl with | [_], _ => rfl
def bd_main_of : Fs :=
  sret (mop2 ixW (mop2 ixW (mop2 ixW (mvar 0) (mcon (.int 0))) (mcon (.int 0))) (mcon (.int 0)))
def m_main_of : Fn := fnM 1 1 bd_main_of
theorem ok_main_of (T : Tx K mg) : FnOk P w K mg base CX0 1 (He.ga K "main_of") (T.fd 19) ["program"] (spM (GG K) m_main_of) :=
  fn_okD (B := bd_main_of) (T.df 19 dd_main_of rfl) sc_main_of (hb := fun cdv A outer s H E hr => sm_one (sm_ret (pm_ix (pm_ix (pm_ix (pm_var (pv 0)) (pm_int)) (pm_int)) (pm_int))))
def N_serves : List Str := ["definition", "use"]
theorem sc_serves : FnScope ["definition", "use"] ["definition", "use"] (defScope s_serves) := ⟨rfl, rfl, rfl, by decide +kernel, rfl, by decide +kernel, by decide +kernel⟩
theorem b_serves (T : Tx K mg) : Binds K (T.fd 23) ["definition", "use"] [] := FunD.bindsN (T.df 23 dd_serves rfl) fun _ _ _ _ _ _ us hl => match us, hl with | [_, _], _ => rfl
def bd_serves : Fs :=
  sret (mandV (mop2 eqW (mop2 ixW (mvar 0) (mcon (.int 0))) (mop2 ixW (mvar 1) (mcon (.int 0)))) (morV (mop2 eqW (mop2 ixW (mvar 0) (mcon (.int 1))) (mop2 ixW (mvar 1) (mcon (.int 1)))) (mop2 inW (mcon (.str x5)) (mtup (mcons (mop2 ixW (mvar 0) (mcon (.int 1))) (mcons (mop2 ixW (mvar 1) (mcon (.int 1))) (mnil)))))))
def m_serves : Fn := fnM 2 2 bd_serves
theorem ok_serves (T : Tx K mg) : FnOk P w K mg base CX0 1 (He.ga K "serves") (T.fd 23) ["definition", "use"] (spM (GG K) m_serves) :=
  fn_okD (B := bd_serves) (T.df 23 dd_serves rfl) sc_serves (hb := fun cdv A outer s H E hr => sm_one (sm_ret (pm_and (pm_cmp (om_eq hr.units) (pm_ix (pm_var (pv 0)) (pm_int)) (pm_ix (pm_var (pv 1)) (pm_int)) (nomark _)) (pm_one (pm_or (pm_cmp (om_eq hr.units) (pm_ix (pm_var (pv 0)) (pm_int)) (pm_ix (pm_var (pv 1)) (pm_int)) (nomark _)) (pm_one (pm_cmp (om_in (u65 hr)) (pm_str e_x5) (pm_tup (pm_cons (pm_ix (pm_var (pv 0)) (pm_int)) (pm_cons (pm_ix (pm_var (pv 1)) (pm_int)) (pm_nil)))) (by rfl))))))))
theorem okP_serves (T : Tx K mg) : FnOk P w K mg base CX0 1 (He.ga K "serves") (T.fd 23) ["definition", "use"] (spM (GG K) (pureF (m_serves))) := pure_ok (ok_serves T)
def N_version_of : List Str := ["lib", "use", "some", "definition"]
theorem sc_version_of : FnScope ["lib", "use", "some", "definition"] ["lib", "use"] (defScope s_version_of) := ⟨rfl, rfl, rfl, by decide +kernel, rfl, by decide +kernel, by decide +kernel⟩
theorem b_version_of (T : Tx K mg) : Binds K (T.fd 22) ["lib", "use"] [] := FunD.bindsN (T.df 22 dd_version_of rfl) fun _ _ _ _ _ _ us hl => match us, hl with | [_, _], _ => rfl
def bd_version_of : Fs :=
  sseq (sset 2 (mlc (miS (mop2 ixW (mvar 0) (mcon (.int 2)))) (.nm 3) (mtst (mcall (pureF m_serves) (mcons (mvar 3) (mcons (mvar 1) (mnil))))) (mop2 ixW (mvar 3) (mcon (.int 1))) [3]))
  (sseq (sif (mtB (mop2 eqW (mcall lenW (mcons (mvar 2) (mnil))) (mcon (.int 0)))) (sret (mcon .non)) (snx))
  (sret (mif (mtB (mop2 inW (mop2 ixW (mvar 1) (mcon (.int 1))) (mvar 2))) (mop2 ixW (mvar 1) (mcon (.int 1))) (mcall minW (mcons (mvar 2) (mnil))))))
def m_version_of : Fn := fnM 2 4 bd_version_of
theorem ok_version_of (T : Tx K mg) : FnOk P w K mg base CX0 2 (He.ga K "version_of") (T.fd 22) ["lib", "use"] (spM (GG K) m_version_of) :=
  fn_okD (B := bd_version_of) (T.df 22 dd_version_of rfl) sc_version_of (hb := fun cdv A outer s H E hr => sm_cons (sm_setLc (i := 2) (own := [("definition", 3)]) rfl sc_version_of.nd rfl rfl (sw_true rfl rfl rfl (by decide +kernel)) (im_seq (pm_ix (pm_var (pv 0)) (pm_int))) (blkOk_by (own := [("definition", 3)]) (N := N_version_of) (sc := defScope s_version_of) (by decide +kernel)) (fun _ _ _ _ _ => gm_name (pg_name (i := 3) sc_version_of.nd rfl (Or.inl rfl))) (fun _ _ _ _ _ => tm_one (pm_tst (pm_call (okP_serves T) (hr.mono (by decide)) (by rfl) (T.gl "serves" (by simp [glos])) (T.kp 23 rfl) (b_serves T) pass0 (pm_cons (pm_var (pv 3)) (pm_cons (pm_var (pv 1)) (pm_nil)))))) (fun _ _ _ _ _ => pm_ix (pm_var (pv 3)) (pm_int)))
    (sm_cons (sm_if (pm_tcmp (om_eq hr.units) (pm_cB cm_len (by rfl) (T.fr "len" (by simp [frees])) bb_len (pm_cons (pm_var (pv 2)) (pm_nil))) (pm_int) (nomark _)) (sm_one (sm_ret (pm_non))) (sm_nil))
    (sm_one (sm_ret (pm_if (pm_tcmp (om_in (u65 hr)) (pm_ix (pm_var (pv 1)) (pm_int)) (pm_var (pv 2)) (by rfl)) (pm_ix (pm_var (pv 1)) (pm_int)) (pm_cB (cm_min (hu := hr.units)) (by rfl) (T.fr "min" (by simp [frees])) bb_min (pm_cons (pm_var (pv 2)) (pm_nil))))))))
theorem okP_version_of (T : Tx K mg) : FnOk P w K mg base CX0 2 (He.ga K "version_of") (T.fd 22) ["lib", "use"] (spM (GG K) (pureF (m_version_of))) := pure_ok (ok_version_of T)
def N_server : List Str := ["program", "line", "use", "name", "version"]
theorem sc_server : FnScope ["program", "line", "use", "name", "version"] ["program", "line", "use"] (defScope s_server) := ⟨rfl, rfl, rfl, by decide +kernel, rfl, by decide +kernel, by decide +kernel⟩
theorem b_server (T : Tx K mg) : Binds K (T.fd 21) ["program", "line", "use"] [] := FunD.bindsN (T.df 21 dd_server rfl) fun _ _ _ _ _ _ us hl => match us, hl with | [_, _, _], _ => rfl
def bd_server : Fs :=
  sseq (sfor (miS (mvar 1)) (.nm 3) (sseq (sset 4 (mcall (pureF m_version_of) (mcons (mcall (pureF m_lib_of) (mcons (mvar 0) (mcons (mvar 3) (mnil)))) (mcons (mvar 2) (mnil)))))
  (sif (mtB (mop2 (isW true) (mvar 4) (mcon .non))) (sret (mtup (mcons (mcon (.str x16)) (mcons (mvar 3) (mcons (mvar 4) (mnil)))))) (snx))))
  (sret (mcon .non))
def m_server : Fn := fnM 3 5 bd_server
theorem ok_server (T : Tx K mg) : FnOk P w K mg base CX0 3 (He.ga K "server") (T.fd 21) ["program", "line", "use"] (spM (GG K) m_server) :=
  fn_okD (B := bd_server) (T.df 21 dd_server rfl) sc_server (hb := fun cdv A outer s H E hr => sm_cons (sm_for' PassesOwn.never rfl (im_seq (pm_var (pv 1))) (gm_name (pg_name (i := 3) sc_server.nd rfl (Or.inl rfl))) (sm_cons (sm_set (ps_set (i := 4) sc_server.nd rfl (Or.inl rfl) (pm_call (okP_version_of T) (hr.mono (by decide)) (by rfl) (T.gl "version_of" (by simp [glos])) (T.kp 22 rfl) (b_version_of T) pass0 (pm_cons (pm_call (okP_lib_of T) (hr.mono (by decide)) (by rfl) (T.gl "lib_of" (by simp [glos])) (T.kp 10 rfl) (b_lib_of T) pass0 (pm_cons (pm_var (pv 0)) (pm_cons (pm_var (pv 3)) (pm_nil)))) (pm_cons (pm_var (pv 2)) (pm_nil))))))
    (sm_one (sm_if (pm_tcmp (om_isnot) (pm_var (pv 4)) (pm_non) (nomark _)) (sm_one (sm_ret (pm_tup (pm_cons (pm_gstr (T.gs "BOUND" "bound" (by simp [fa])) e_x16 (by rfl)) (pm_cons (pm_var (pv 3)) (pm_cons (pm_var (pv 4)) (pm_nil))))))) (sm_nil)))))
    (sm_one (sm_ret (pm_non))))
theorem okP_server (T : Tx K mg) : FnOk P w K mg base CX0 3 (He.ga K "server") (T.fd 21) ["program", "line", "use"] (spM (GG K) (pure1 (m_server))) := pure1_ok (ok_server T)
def N_door_row : List Str := ["program", "number"]
theorem sc_door_row : FnScope ["program", "number"] ["program", "number"] (defScope s_door_row) := ⟨rfl, rfl, rfl, by decide +kernel, rfl, by decide +kernel, by decide +kernel⟩
theorem b_door_row (T : Tx K mg) : Binds K (T.fd 25) ["program", "number"] [] := FunD.bindsN (T.df 25 dd_door_row rfl) fun _ _ _ _ _ _ us hl => match us, hl with | [_, _], _ => rfl
def bd_door_row : Fs :=
  sret (mcall (pureF m_row) (mcons (mvar 0) (mcons (mtup (mcons (mop2 ixW (mop2 ixW (mop2 ixW (mvar 0) (mcon (.int 2))) (mvar 1)) (mcon (.int 0))) (mnil))) (mnil))))
def m_door_row : Fn := fnM 2 2 bd_door_row
theorem ok_door_row (T : Tx K mg) : FnOk P w K mg base CX0 11 (He.ga K "door_row") (T.fd 25) ["program", "number"] (spM (GG K) m_door_row) :=
  fn_okD (B := bd_door_row) (T.df 25 dd_door_row rfl) sc_door_row (hb := fun cdv A outer s H E hr => sm_one (sm_ret (pm_call (okP_row T) (hr.mono (by decide)) (by rfl) (T.gl "row" (by simp [glos])) (T.kp 18 rfl) (b_row T) pass0 (pm_cons (pm_var (pv 0)) (pm_cons (pm_tup (pm_cons (pm_ix (pm_ix (pm_ix (pm_var (pv 0)) (pm_int)) (pm_var (pv 1))) (pm_int)) (pm_nil))) (pm_nil))))))
theorem okP_door_row (T : Tx K mg) : FnOk P w K mg base CX0 11 (He.ga K "door_row") (T.fd 25) ["program", "number"] (spM (GG K) (pureF (m_door_row))) := pure_ok (ok_door_row T)
def N_rows_to_public : List Str := ["program", "numbers", "number", "door", "name"]
theorem sc_rows_to_public : FnScope ["program", "numbers", "number", "door", "name"] ["program"] (defScope s_rows_to_public) := ⟨rfl, rfl, rfl, by decide +kernel, rfl, by decide +kernel, by decide +kernel⟩
theorem b_rows_to_public (T : Tx K mg) : Binds K (T.fd 24) ["program"] [] := FunD.bindsN (T.df 24 dd_rows_to_public rfl) fun _ _ _ _ _ _ us hl => match us, hl with | [_], _ => rfl
def bd_rows_to_public : Fs :=
  sseq (sset 1 (mlc (miE (mcons (mop2 ixW (mvar 0) (mcon (.int 2))) (mnil))) (.tp [2, 3]) (mtB (mop2 eqW (mop2 ixW (mvar 3) (mcon (.int 1))) (mcon (.str x15)))) (mvar 2) [2, 3]))
  (sret (mlc2 (miS (mvar 1)) (.nm 2) (myes) (miS (mcall (pureF m_door_row) (mcons (mvar 0) (mcons (mvar 2) (mnil))))) (.nm 4) (myes) (mvar 4) [2, 4] [4]))
def m_rows_to_public : Fn := fnM 1 5 bd_rows_to_public
theorem ok_rows_to_public (T : Tx K mg) : FnOk P w K mg base CX0 12 (He.ga K "rows_to_public") (T.fd 24) ["program"] (spM (GG K) m_rows_to_public) :=
  fn_okD (B := bd_rows_to_public) (T.df 24 dd_rows_to_public rfl) sc_rows_to_public (hb := fun cdv A outer s H E hr => sm_cons (sm_setLc (i := 1) (own := [("number", 2), ("door", 3)]) rfl sc_rows_to_public.nd rfl rfl (sw_true rfl rfl rfl (by decide +kernel)) (im_enum (by rfl) (T.fr "enumerate" (by simp [frees])) (pm_cons (pm_ix (pm_var (pv 0)) (pm_int)) (pm_nil))) (blkOk_by (own := [("number", 2), ("door", 3)]) (N := N_rows_to_public) (sc := defScope s_rows_to_public) (by decide +kernel)) (fun _ _ _ _ _ => gm_tup rfl (gm_cons (pg_name (i := 2) sc_rows_to_public.nd rfl (Or.inl rfl)) (gm_cons (pg_name (i := 3) sc_rows_to_public.nd rfl (Or.inl rfl)) (gm_nil)))) (fun _ _ _ _ _ => tm_one (pm_tcmp (om_eq hr.units) (pm_ix (pm_var (pv 3)) (pm_int)) (pm_gstr (T.gs "GLOBAL" "global" (by simp [fa])) e_x15 (by rfl)) (nomark _))) (fun _ _ _ _ _ => pm_var (pv 2)))
    (sm_one (sm_ret (pm_lc2 (own := [("number", 2), ("name", 4)]) (vs1 := [4]) rfl sc_rows_to_public.nd (im_seq (pm_var (pv 1))) (blkOk_by (own := [("number", 2), ("name", 4)]) (N := N_rows_to_public) (sc := defScope s_rows_to_public) (by decide +kernel)) (fun _ _ _ _ _ => gm_name (pg_name (i := 2) sc_rows_to_public.nd rfl (Or.inl rfl))) (fun _ _ _ _ _ => tm_nil) (fun _ _ _ _ _ => im_seq (pm_call (okP_door_row T) (hr.mono (by decide)) (by rfl) (T.gl "door_row" (by simp [glos])) (T.kp 25 rfl) (b_door_row T) pass0 (pm_cons (pm_var (pv 0)) (pm_cons (pm_var (pv 2)) (pm_nil))))) (fun _ _ _ _ _ => gm_name (pg_name (i := 4) sc_rows_to_public.nd rfl (Or.inl rfl))) (fun _ _ _ _ _ => tm_nil) (fun _ _ _ _ _ => pm_var (pv 4))))))
theorem okP_rows_to_public (T : Tx K mg) : FnOk P w K mg base CX0 12 (He.ga K "rows_to_public") (T.fd 24) ["program"] (spM (GG K) (pureF (m_rows_to_public))) := pure_ok (ok_rows_to_public T)
def N_Trial_told_inside : List Str := ["self", "first", "use", "found", "later"]
theorem sc_Trial_told_inside : FnScope ["self", "first", "use", "found", "later"] ["self", "first", "use"] (defScope s_Trial_told_inside) := ⟨rfl, rfl, rfl, by decide +kernel, rfl, by decide +kernel, by decide +kernel⟩
theorem b_Trial_told_inside (T : Tx K mg) : Binds K (T.fd 20) ["self", "first", "use"] [] := FunD.bindsN (T.df 20 dd_Trial_told_inside rfl) fun _ _ _ _ _ _ us hl => match us, hl with | [_, _, _], _ => rfl
def bd_Trial_told_inside : Fs :=
  sseq (sset 3 (mcall (pure1 m_server) (mcons (mop1 (fldW 0 0) (mvar 0)) (mcons (mvar 1) (mcons (mvar 2) (mnil))))))
  (sseq (sif (mtB (mop2 (isW true) (mvar 3) (mcon .non))) (sret (mlst (mcons (mvar 3) (mnil)))) (snx))
  (sseq (sset 4 (mcall (pure1 m_server) (mcons (mop1 (fldW 0 0) (mvar 0)) (mcons (mcall (pureF m_rows_to_public) (mcons (mop1 (fldW 0 0) (mvar 0)) (mnil))) (mcons (mvar 2) (mnil))))))
  (sret (mop2 addW (mlst (mcons (mif (mtst (mop2 ixW (mvar 2) (mcon (.int 2)))) (mcon (.tup tw_NOBODY)) (mcon (.tup tw_LOST))) (mnil))) (mif (mtB (mop2 (isW false) (mvar 4) (mcon .non))) (mlst (mnil)) (mlst (mcons (mvar 4) (mnil))))))))
def m_Trial_told_inside : Fn := fnM 3 5 bd_Trial_told_inside
theorem ok_Trial_told_inside (T : Tx K mg) : FnOk P w K mg base CX0 13 (He.ma K (He.ga K "Trial") "told_inside") (T.fd 20) ["self", "first", "use"] (spM (GG K) m_Trial_told_inside) :=
  fn_okD (B := bd_Trial_told_inside) (T.df 20 dd_Trial_told_inside rfl) sc_Trial_told_inside (hb := fun cdv A outer s H E hr => sm_cons (sm_set (ps_set (i := 3) sc_Trial_told_inside.nd rfl (Or.inl rfl) (pm_call (okP_server T) (hr.mono (by decide)) (by rfl) (T.gl "server" (by simp [glos])) (T.kp 21 rfl) (b_server T) pass0 (pm_cons (pm_fld (c := 0) (k := 0) (pm_var (pv 0)) (T.cl "Trial" (by simp [fa])) (T.na "Trial" "own_program" (by simp [fa])) rfl (by show 0 < 2; decide)) (pm_cons (pm_var (pv 1)) (pm_cons (pm_var (pv 2)) (pm_nil)))))))
    (sm_cons (sm_if (pm_tcmp (om_isnot) (pm_var (pv 3)) (pm_non) (nomark _)) (sm_one (sm_ret (pm_lst (pm_cons (pm_var (pv 3)) (pm_nil))))) (sm_nil))
    (sm_cons (sm_set (ps_set (i := 4) sc_Trial_told_inside.nd rfl (Or.inl rfl) (pm_call (okP_server T) (hr.mono (by decide)) (by rfl) (T.gl "server" (by simp [glos])) (T.kp 21 rfl) (b_server T) pass0 (pm_cons (pm_fld (c := 0) (k := 0) (pm_var (pv 0)) (T.cl "Trial" (by simp [fa])) (T.na "Trial" "own_program" (by simp [fa])) rfl (by show 0 < 2; decide)) (pm_cons (pm_call (okP_rows_to_public T) (hr.mono (by decide)) (by rfl) (T.gl "rows_to_public" (by simp [glos])) (T.kp 24 rfl) (b_rows_to_public T) pass0 (pm_cons (pm_fld (c := 0) (k := 0) (pm_var (pv 0)) (T.cl "Trial" (by simp [fa])) (T.na "Trial" "own_program" (by simp [fa])) rfl (by show 0 < 2; decide)) (pm_nil))) (pm_cons (pm_var (pv 2)) (pm_nil)))))))
    (sm_one (sm_ret (pm_bin om_add (pm_lst (pm_cons (pm_if (pm_tst (pm_ix (pm_var (pv 2)) (pm_int))) (pm_gtup (T.gl "NOBODY" (by simp [glos])) T.tp_NOBODY (fun _ _ => tl_NOBODY) (by rfl)) (pm_gtup (T.gl "LOST" (by simp [glos])) T.tp_LOST (fun _ _ => tl_LOST) (by rfl))) (pm_nil))) (pm_if (pm_tcmp (om_is) (pm_var (pv 4)) (pm_non) (nomark _)) (pm_lst (pm_nil)) (pm_lst (pm_cons (pm_var (pv 4)) (pm_nil))))))))))
def N_Trial_gives : List Str := ["self", "preload", "want", "name", "i", "wanted", "use", "first", "told", "answer"]
theorem sc_Trial_gives : FnScope ["self", "preload", "want", "name", "i", "wanted", "use", "first", "told", "answer"] ["self", "preload", "want"] (defScope s_Trial_gives) := ⟨rfl, rfl, rfl, by decide +kernel, rfl, by decide +kernel, by decide +kernel⟩
theorem b_Trial_gives (T : Tx K mg) : Binds K (T.fd 17) ["self", "preload", "want"] [] := FunD.bindsN (T.df 17 dd_Trial_gives rfl) fun _ _ _ _ _ _ us hl => match us, hl with | [_, _, _], _ => rfl
def bd_Trial_gives : Fs :=
  sseq (sasg (mvar 2) (.tp [3, 4, 5]))
  (sseq (spar 6 7 (mcons (mcall (pureF m_use_at) (mcons (mop1 (fldW 0 0) (mvar 0)) (mcons (mvar 3) (mcons (mvar 4) (mnil))))) (mcons (mcall (pureF m_row) (mcons (mop1 (fldW 0 0) (mvar 0)) (mcons (mtup (mcons (mcall m_main_of (mcons (mop1 (fldW 0 0) (mvar 0)) (mnil))) (mstar (mvar 1) (mnil)))) (mnil)))) (mnil))))
  (sseq (sset 8 (mif (mtB (mop2 inW (mvar 3) (mvar 7))) (mmeth 0 m_Trial_told_inside (mvar 0) (mcons (mvar 7) (mcons (mvar 6) (mnil)))) (mno)))
  (sret (mcall allW (mcons (mlc (miS (mvar 8)) (.nm 9) (myes) (mop2 eqW (mvar 9) (mvar 5)) [9]) (mnil))))))
def m_Trial_gives : Fn := fnM 3 10 bd_Trial_gives
theorem ok_Trial_gives (T : Tx K mg) : FnOk P w K mg base CX0 14 (He.ma K (He.ga K "Trial") "gives") (T.fd 17) ["self", "preload", "want"] (spM (GG K) m_Trial_gives) :=
  fn_okD (B := bd_Trial_gives) (T.df 17 dd_Trial_gives rfl) sc_Trial_gives (hb := fun cdv A outer s H E hr => sm_cons (sm_asg (pm_var (pv 2)) (gm_tup rfl (gm_cons (pg_name (i := 3) sc_Trial_gives.nd rfl (Or.inl rfl)) (gm_cons (pg_name (i := 4) sc_Trial_gives.nd rfl (Or.inl rfl)) (gm_cons (pg_name (i := 5) sc_Trial_gives.nd rfl (Or.inr rfl)) (gm_nil))))))
    (sm_cons (sm_par (ps_par (i := 6) (j := 7) rfl sc_Trial_gives.nd rfl rfl (by decide) rfl rfl (pm_cons (pm_call (okP_use_at T) (hr.mono (by decide)) (by rfl) (T.gl "use_at" (by simp [glos])) (T.kp 8 rfl) (b_use_at T) pass0 (pm_cons (pm_fld (c := 0) (k := 0) (pm_var (pv 0)) (T.cl "Trial" (by simp [fa])) (T.na "Trial" "own_program" (by simp [fa])) rfl (by show 0 < 2; decide)) (pm_cons (pm_var (pv 3)) (pm_cons (pm_var (pv 4)) (pm_nil))))) (pm_cons (pm_call (okP_row T) (hr.mono (by decide)) (by rfl) (T.gl "row" (by simp [glos])) (T.kp 18 rfl) (b_row T) pass0 (pm_cons (pm_fld (c := 0) (k := 0) (pm_var (pv 0)) (T.cl "Trial" (by simp [fa])) (T.na "Trial" "own_program" (by simp [fa])) rfl (by show 0 < 2; decide)) (pm_cons (pm_tup (pm_cons (pm_call (ok_main_of T) (hr.mono (by decide)) (by rfl) (T.gl "main_of" (by simp [glos])) (T.kp 19 rfl) (b_main_of T) pass0 (pm_cons (pm_fld (c := 0) (k := 0) (pm_var (pv 0)) (T.cl "Trial" (by simp [fa])) (T.na "Trial" "own_program" (by simp [fa])) rfl (by show 0 < 2; decide)) (pm_nil))) (pm_star (pm_var (pv 1)) (pm_nil)))) (pm_nil)))) (pm_nil))) (by rfl)))
    (sm_cons (sm_set (ps_set (i := 8) sc_Trial_gives.nd rfl (Or.inl rfl) (pm_if (pm_tcmp (om_in (u65 hr)) (pm_var (pv 3)) (pm_var (pv 7)) (by rfl)) (pm_meth (c := 0) (pe_meth (pm_var (pv 0)) (T.cl "Trial" (by simp [fa])) (T.me "Trial" "told_inside" (by simp [fa])) (ok_Trial_told_inside T) (hr.mono (by decide)) (b_Trial_told_inside T) .nil pass0 (pm_cons (pm_var (pv 7)) (pm_cons (pm_var (pv 6)) (pm_nil)))) (hno_Trial_told_inside)) (pm_no))))
    (sm_one (sm_ret (pm_cB cm_all (by rfl) (T.fr "all" (by simp [frees])) bb_all (pm_cons (pm_lc (own := [("answer", 9)]) rfl sc_Trial_gives.nd (im_seq (pm_var (pv 8))) (blkOk_by (own := [("answer", 9)]) (N := N_Trial_gives) (sc := defScope s_Trial_gives) (by decide +kernel)) (fun _ _ _ _ _ => gm_name (pg_name (i := 9) sc_Trial_gives.nd rfl (Or.inl rfl))) (fun _ _ _ _ _ => tm_nil) (fun _ _ _ _ _ => pm_cmp (om_eq hr.units) (pm_var (pv 9)) (pm_var (pv 5)) (nomark _))) (pm_nil))))))))
def N_Trial_gives_all : List Str := ["self", "preload", "wanted", "want"]
theorem sc_Trial_gives_all : FnScope ["self", "preload", "wanted", "want"] ["self", "preload", "wanted"] (defScope s_Trial_gives_all) := ⟨rfl, rfl, rfl, by decide +kernel, rfl, by decide +kernel, by decide +kernel⟩
theorem b_Trial_gives_all (T : Tx K mg) : Binds K (T.fd 16) ["self", "preload", "wanted"] [] := FunD.bindsN (T.df 16 dd_Trial_gives_all rfl) fun _ _ _ _ _ _ us hl => match us, hl with | [_, _, _], _ => rfl
def bd_Trial_gives_all : Fs :=
  sret (mcall allW (mcons (mlc (miS (mvar 2)) (.nm 3) (myes) (mmeth 0 m_Trial_gives (mvar 0) (mcons (mvar 1) (mcons (mvar 3) (mnil)))) [3]) (mnil)))
def m_Trial_gives_all : Fn := fnM 3 4 bd_Trial_gives_all
theorem ok_Trial_gives_all (T : Tx K mg) : FnOk P w K mg base CX0 15 (He.ma K (He.ga K "Trial") "gives_all") (T.fd 16) ["self", "preload", "wanted"] (spM (GG K) m_Trial_gives_all) :=
  fn_okD (B := bd_Trial_gives_all) (T.df 16 dd_Trial_gives_all rfl) sc_Trial_gives_all (hb := fun cdv A outer s H E hr => sm_one (sm_ret (pm_cB cm_all (by rfl) (T.fr "all" (by simp [frees])) bb_all (pm_cons (pm_lc (own := [("want", 3)]) rfl sc_Trial_gives_all.nd (im_seq (pm_var (pv 2))) (blkOk_by (own := [("want", 3)]) (N := N_Trial_gives_all) (sc := defScope s_Trial_gives_all) (by decide +kernel)) (fun _ _ _ _ _ => gm_name (pg_name (i := 3) sc_Trial_gives_all.nd rfl (Or.inl rfl))) (fun _ _ _ _ _ => tm_nil) (fun _ _ _ _ _ => pm_meth (c := 0) (pe_meth (pm_var (pv 0)) (T.cl "Trial" (by simp [fa])) (T.me "Trial" "gives" (by simp [fa])) (ok_Trial_gives T) (hr.mono (by decide)) (b_Trial_gives T) .nil pass0 (pm_cons (pm_var (pv 1)) (pm_cons (pm_var (pv 3)) (pm_nil)))) (hno_Trial_gives))) (pm_nil)))))
def N_Trial_is_possible : List Str := ["self", "wanted", "names", "some", "many", "line"]
theorem sc_Trial_is_possible : FnScope ["self", "wanted", "names", "some", "many", "line"] ["self", "wanted"] (defScope s_Trial_is_possible) := ⟨rfl, rfl, rfl, by decide +kernel, rfl, by decide +kernel, by decide +kernel⟩
theorem b_Trial_is_possible (T : Tx K mg) : Binds K (T.fd 13) ["self", "wanted"] [] := FunD.bindsN (T.df 13 dd_Trial_is_possible rfl) fun _ _ _ _ _ _ us hl => match us, hl with | [_, _], _ => rfl
def bd_Trial_is_possible : Fs :=
  sseq (sset 2 (mcall (pureF m_names_in) (mcons (mop1 (fldW 0 0) (mvar 0)) (mcons (mvar 1) (mnil)))))
  (sseq (sset 3 (mlc2 (miR1 (mcons (mop2 addW (mcall lenW (mcons (mvar 2) (mnil))) (mcon (.int 1))) (mnil))) (.nm 4) (myes) (miS (mcall (pure1 m_rows_of_names) (mcons (mvar 2) (mcons (mvar 4) (mnil))))) (.nm 5) (myes) (mvar 5) [4, 5] [5]))
  (sret (mcall anyW (mcons (mlc (miS (mvar 3)) (.nm 5) (myes) (mmeth 0 m_Trial_gives_all (mvar 0) (mcons (mvar 5) (mcons (mvar 1) (mnil)))) [5]) (mnil)))))
def m_Trial_is_possible : Fn := fnM 2 6 bd_Trial_is_possible
theorem ok_Trial_is_possible (T : Tx K mg) : FnOk P w K mg base CX0 16 (He.ma K (He.ga K "Trial") "is_possible") (T.fd 13) ["self", "wanted"] (spM (GG K) m_Trial_is_possible) :=
  fn_okD (B := bd_Trial_is_possible) (T.df 13 dd_Trial_is_possible rfl) sc_Trial_is_possible (hb := fun cdv A outer s H E hr => sm_cons (sm_set (ps_set (i := 2) sc_Trial_is_possible.nd rfl (Or.inr rfl) (pm_call (okP_names_in T) (hr.mono (by decide)) (by rfl) (T.gl "names_in" (by simp [glos])) (T.kp 14 rfl) (b_names_in T) pass0 (pm_cons (pm_fld (c := 0) (k := 0) (pm_var (pv 0)) (T.cl "Trial" (by simp [fa])) (T.na "Trial" "own_program" (by simp [fa])) rfl (by show 0 < 2; decide)) (pm_cons (pm_var (pv 1)) (pm_nil))))))
    (sm_cons (sm_setLc2 (own := [("many", 4), ("line", 5)]) (vs1 := [5]) (ps_setLc2 (i := 3) (own := [("many", 4), ("line", 5)]) (vs1 := [5]) rfl sc_Trial_is_possible.nd rfl rfl (sw_true rfl rfl rfl (by decide +kernel)) (im_range1 (by rfl) (T.fr "range" (by simp [frees])) (pm_cons (pm_bin om_add (pm_cB cm_len (by rfl) (T.fr "len" (by simp [frees])) bb_len (pm_cons (pm_var (pv 2)) (pm_nil))) (pm_int)) (pm_nil))) (blkOk_by (own := [("many", 4), ("line", 5)]) (N := N_Trial_is_possible) (sc := defScope s_Trial_is_possible) (by decide +kernel)) (by decide) (fun _ _ _ _ _ => gm_name (pg_name (i := 4) sc_Trial_is_possible.nd rfl (Or.inl rfl))) (fun _ _ _ _ _ => tm_nil) (fun _ _ _ _ _ => im_seq (pm_call (okP_rows_of_names T) (hr.mono (by decide)) (by rfl) (T.gl "rows_of_names" (by simp [glos])) (T.kp 15 rfl) (b_rows_of_names T) pass0 (pm_cons (pm_var (pv 2)) (pm_cons (pm_var (pv 4)) (pm_nil))))) (fun _ _ _ _ _ => gm_name (pg_name (i := 5) sc_Trial_is_possible.nd rfl (Or.inl rfl))) (fun _ _ _ _ _ => tm_nil) (fun _ _ _ _ _ => pm_var (pv 5))))
    (sm_one (sm_ret (pm_cB cm_any (by rfl) (T.fr "any" (by simp [frees])) bb_any (pm_cons (pm_lc (own := [("line", 5)]) rfl sc_Trial_is_possible.nd (im_seq (pm_var (pv 3))) (blkOk_by (own := [("line", 5)]) (N := N_Trial_is_possible) (sc := defScope s_Trial_is_possible) (by decide +kernel)) (fun _ _ _ _ _ => gm_name (pg_name (i := 5) sc_Trial_is_possible.nd rfl (Or.inl rfl))) (fun _ _ _ _ _ => tm_nil) (fun _ _ _ _ _ => pm_meth (c := 0) (pe_meth (pm_var (pv 0)) (T.cl "Trial" (by simp [fa])) (T.me "Trial" "gives_all" (by simp [fa])) (ok_Trial_gives_all T) (hr.mono (by decide)) (b_Trial_gives_all T) .nil pass0 (pm_cons (pm_var (pv 5)) (pm_cons (pm_var (pv 1)) (pm_nil)))) (hno_Trial_gives_all))) (pm_nil)))))))
def N_least_preload : List Str := ["program", "wanted", "trial", "names", "many", "some", "line"]
theorem sc_least_preload : FnScope ["program", "wanted", "trial", "names", "many", "some", "line"] ["program", "wanted"] (defScope s_least_preload) := ⟨rfl, rfl, rfl, by decide +kernel, rfl, by decide +kernel, by decide +kernel⟩
theorem b_least_preload (T : Tx K mg) : Binds K (T.fd 5) ["program", "wanted"] [] := FunD.bindsN (T.df 5 dd_least_preload rfl) fun _ _ _ _ _ _ us hl => match us, hl with | [_, _], _ => rfl
def bd_least_preload : Fs :=
  sseq (sasg (mcall (pureF m_looked) (mcons (mvar 0) (mcons (mvar 1) (mnil)))) (.tp [0, 1]))
  (sseq (sasg (mtup (mcons (mmake 0 m_Trial___init__ (mcons (mvar 0) (mnil))) (mcons (mcall (pureF m_others_of) (mcons (mvar 0) (mnil))) (mnil)))) (.tp [2, 3]))
  (sseq (sif (mnot (mtst (mmeth 0 m_Trial_is_possible (mvar 2) (mcons (mvar 1) (mnil))))) (sret (mcon .non)) (snx))
  (sseq (sfor (miR1 (mcons (mop2 addW (mcall lenW (mcons (mvar 3) (mnil))) (mcon (.int 1))) (mnil))) (.nm 4) (sseq (sset 5 (mlc (miS (mcall (pure1 m_rows_of_names) (mcons (mvar 3) (mcons (mvar 4) (mnil))))) (.nm 6) (mtst (mmeth 0 m_Trial_gives_all (mvar 2) (mcons (mvar 6) (mcons (mvar 1) (mnil))))) (mvar 6) [6]))
  (sif (mtB (mop2 gtW (mcall lenW (mcons (mvar 5) (mnil))) (mcon (.int 0)))) (sret (mop2 ixW (mvar 5) (mcon (.int 0)))) (snx))))
  (sret (mcon .non)))))
def m_least_preload : Fn := fnM 2 7 bd_least_preload
theorem ok_least_preload (T : Tx K mg) : FnOk P w K mg base CX0 17 (He.ga K "least_preload") (T.fd 5) ["program", "wanted"] (spM (GG K) m_least_preload) :=
  fn_okD (B := bd_least_preload) (T.df 5 dd_least_preload rfl) sc_least_preload (hb := fun cdv A outer s H E hr => sm_cons (sm_asg (pm_call (okP_looked T) (hr.mono (by decide)) (by rfl) (T.gl "looked" (by simp [glos])) (T.kp 6 rfl) (b_looked T) pass0 (pm_cons (pm_var (pv 0)) (pm_cons (pm_var (pv 1)) (pm_nil)))) (gm_tup rfl (gm_cons (pg_name (i := 0) sc_least_preload.nd rfl (Or.inl rfl)) (gm_cons (pg_name (i := 1) sc_least_preload.nd rfl (Or.inr rfl)) (gm_nil)))))
    (sm_cons (sm_asg (pm_tup (pm_cons (pm_make (c := 0) (pe_make (T.mkr "Trial" (by simp [fa])) (ok_Trial___init__ T) (hr.mono (by decide)) (by rfl) (T.gl "Trial" (by simp [glos])) (b_Trial___init__ T) .nil pass0 (pm_cons (pm_var (pv 0)) (pm_nil)))) (pm_cons (pm_call (okP_others_of T) (hr.mono (by decide)) (by rfl) (T.gl "others_of" (by simp [glos])) (T.kp 11 rfl) (b_others_of T) pass0 (pm_cons (pm_var (pv 0)) (pm_nil))) (pm_nil)))) (gm_tup rfl (gm_cons (pg_name (i := 2) sc_least_preload.nd rfl (Or.inr rfl)) (gm_cons (pg_name (i := 3) sc_least_preload.nd rfl (Or.inl rfl)) (gm_nil)))))
    (sm_cons (sm_if (pm_tnot (pm_tst (pm_meth (c := 0) (pe_meth (pm_var (pv 2)) (T.cl "Trial" (by simp [fa])) (T.me "Trial" "is_possible" (by simp [fa])) (ok_Trial_is_possible T) (hr.mono (by decide)) (b_Trial_is_possible T) .nil pass0 (pm_cons (pm_var (pv 1)) (pm_nil))) (hno_Trial_is_possible)))) (sm_one (sm_ret (pm_non))) (sm_nil))
    (sm_cons (sm_for' PassesOwn.never rfl (im_range1 (by rfl) (T.fr "range" (by simp [frees])) (pm_cons (pm_bin om_add (pm_cB cm_len (by rfl) (T.fr "len" (by simp [frees])) bb_len (pm_cons (pm_var (pv 3)) (pm_nil))) (pm_int)) (pm_nil))) (gm_name (pg_name (i := 4) sc_least_preload.nd rfl (Or.inl rfl))) (sm_cons (sm_setLc (i := 5) (own := [("line", 6)]) rfl sc_least_preload.nd rfl rfl (sw_true rfl rfl rfl (by decide +kernel)) (im_seq (pm_call (okP_rows_of_names T) (hr.mono (by decide)) (by rfl) (T.gl "rows_of_names" (by simp [glos])) (T.kp 15 rfl) (b_rows_of_names T) pass0 (pm_cons (pm_var (pv 3)) (pm_cons (pm_var (pv 4)) (pm_nil))))) (blkOk_by (own := [("line", 6)]) (N := N_least_preload) (sc := defScope s_least_preload) (by decide +kernel)) (fun _ _ _ _ _ => gm_name (pg_name (i := 6) sc_least_preload.nd rfl (Or.inl rfl))) (fun _ _ _ _ _ => tm_one (pm_tst (pm_meth (c := 0) (pe_meth (pm_var (pv 2)) (T.cl "Trial" (by simp [fa])) (T.me "Trial" "gives_all" (by simp [fa])) (ok_Trial_gives_all T) (hr.mono (by decide)) (b_Trial_gives_all T) .nil pass0 (pm_cons (pm_var (pv 6)) (pm_cons (pm_var (pv 1)) (pm_nil)))) (hno_Trial_gives_all)))) (fun _ _ _ _ _ => pm_var (pv 6)))
    (sm_one (sm_if (pm_tcmp (om_gt) (pm_cB cm_len (by rfl) (T.fr "len" (by simp [frees])) bb_len (pm_cons (pm_var (pv 5)) (pm_nil))) (pm_int) (nomark _)) (sm_one (sm_ret (pm_ix (pm_var (pv 5)) (pm_int)))) (sm_nil)))))
    (sm_one (sm_ret (pm_non)))))))
theorem okP_least_preload (T : Tx K mg) : FnOk P w K mg base CX0 17 (He.ga K "least_preload") (T.fd 5) ["program", "wanted"] (spM (GG K) (pureF (m_least_preload))) := pure_ok (ok_least_preload T)
def N__law_same : List Str := ["_law_found", "_law_due", "_law_mine", "_law_its"]
theorem sc__law_same : FnScope ["_law_found", "_law_due", "_law_mine", "_law_its"] ["_law_found", "_law_due"] (defScope s__law_same) := ⟨rfl, rfl, rfl, by decide +kernel, rfl, by decide +kernel, by decide +kernel⟩
theorem b__law_same (T : Tx K mg) : Binds K (T.fd 26) ["_law_found", "_law_due"] [] := FunD.bindsN (T.df 26 dd__law_same rfl) fun _ _ _ _ _ _ us hl => match us, hl with | [_, _], _ => rfl
def b0__law_same (m__law_same : Nat → Fn) (d : Nat) : Fs :=
  sseq (sif (mtst (misiT (mvar 1) [.list, .tuple])) (sseq (sif (mtB (mop2 neW (mcall isiW (mcons (mvar 0) (mcons (mcon (.ty .list)) mnil))) (mcall isiW (mcons (mvar 1) (mcons (mcon (.ty .list)) mnil))))) (sret (mcon (.bl false))) (snx))
  (sseq (sif (mtB (mop2 neW (mcall isiW (mcons (mvar 0) (mcons (mcon (.ty .tuple)) mnil))) (mcall isiW (mcons (mvar 1) (mcons (mcon (.ty .tuple)) mnil))))) (sret (mcon (.bl false))) (snx))
  (sret (mandV (mop2 eqW (mcall lenW (mcons (mvar 0) (mnil))) (mcall lenW (mcons (mvar 1) (mnil)))) (mcall allW (mcons (mlc (miZ (mcons (mvar 0) (mcons (mvar 1) (mnil)))) (.tp [2, 3]) (myes) (mcall (m__law_same d) (mcons (mvar 2) (mcons (mvar 3) (mnil)))) [2, 3]) (mnil))))))) (snx))
  (sseq (sif (mor (mtB (mop2 (isW false) (mvar 1) (mcon .non))) (mtst (misiT (mvar 1) [.bool, .str]))) (sret (mandV (mop2 eqW (mvar 0) (mvar 1)) (mandV (mop2 eqW (mcall isiW (mcons (mvar 0) (mcons (mcon (.ty .bool)) mnil))) (mcall isiW (mcons (mvar 1) (mcons (mcon (.ty .bool)) mnil)))) (mop2 eqW (mop2 (isW false) (mvar 0) (mcon .non)) (mop2 (isW false) (mvar 1) (mcon .non)))))) (snx))
  (sret (mandV (mcall isiW (mcons (mvar 0) (mcons (mcon (.ty .int)) mnil))) (mandV (mnotV (mcall isiW (mcons (mvar 0) (mcons (mcon (.ty .bool)) mnil)))) (mop2 eqW (mvar 0) (mvar 1))))))
def m__law_same : Nat → Fn
  | 0 => fun _ _ => none
  | d + 1 => fnM 2 4 (b0__law_same (fun _ => m__law_same d) d)
theorem ok__law_same (T : Tx K mg) : ∀ d : Nat, FnOk P w K mg base CX0 (d + 1) (He.ga K "_law_same") (T.fd 26) ["_law_found", "_law_due"] (spM (GG K) (m__law_same d))
  | 0 => fn_none
  | d + 1 => fn_okD (T.df 26 dd__law_same rfl) sc__law_same (hb := fun cdv A outer s H E hr => sm_cons (sm_if (pm_tst (pm_isiT (pm_var (pv 1)) (py_cons (t := .list) (pe_bltn (by rfl) (T.fr "list" (by simp [frees])) bb_list rfl) (py_cons (t := .tuple) (pe_bltn (by rfl) (T.fr "tuple" (by simp [frees])) bb_tuple rfl) (py_nil))) (by rfl) (T.fr "isinstance" (by simp [frees])))) (sm_cons (sm_if (pm_tcmp (om_ne hr.units) (pm_cB cm_isi (by rfl) (T.fr "isinstance" (by simp [frees])) bb_isinstance (pm_cons (pm_var (pv 0)) (pm_cons (pm_con (v := .ty "list") (pe_bltn (by rfl) (T.fr "list" (by simp [frees])) bb_list rfl) (fun _ _ _ _ => .ty .list)) pm_nil))) (pm_cB cm_isi (by rfl) (T.fr "isinstance" (by simp [frees])) bb_isinstance (pm_cons (pm_var (pv 1)) (pm_cons (pm_con (v := .ty "list") (pe_bltn (by rfl) (T.fr "list" (by simp [frees])) bb_list rfl) (fun _ _ _ _ => .ty .list)) pm_nil))) (nomark _)) (sm_one (sm_ret (pm_bl))) (sm_nil))
    (sm_cons (sm_if (pm_tcmp (om_ne hr.units) (pm_cB cm_isi (by rfl) (T.fr "isinstance" (by simp [frees])) bb_isinstance (pm_cons (pm_var (pv 0)) (pm_cons (pm_con (v := .ty "tuple") (pe_bltn (by rfl) (T.fr "tuple" (by simp [frees])) bb_tuple rfl) (fun _ _ _ _ => .ty .tuple)) pm_nil))) (pm_cB cm_isi (by rfl) (T.fr "isinstance" (by simp [frees])) bb_isinstance (pm_cons (pm_var (pv 1)) (pm_cons (pm_con (v := .ty "tuple") (pe_bltn (by rfl) (T.fr "tuple" (by simp [frees])) bb_tuple rfl) (fun _ _ _ _ => .ty .tuple)) pm_nil))) (nomark _)) (sm_one (sm_ret (pm_bl))) (sm_nil))
    (sm_one (sm_ret (pm_and (pm_cmp (om_eq hr.units) (pm_cB cm_len (by rfl) (T.fr "len" (by simp [frees])) bb_len (pm_cons (pm_var (pv 0)) (pm_nil))) (pm_cB cm_len (by rfl) (T.fr "len" (by simp [frees])) bb_len (pm_cons (pm_var (pv 1)) (pm_nil))) (nomark _)) (pm_one (pm_cB cm_all (by rfl) (T.fr "all" (by simp [frees])) bb_all (pm_cons (pm_lc (own := [("_law_mine", 2), ("_law_its", 3)]) rfl sc__law_same.nd (im_zip (by rfl) (T.fr "zip" (by simp [frees])) (pm_cons (pm_var (pv 0)) (pm_cons (pm_var (pv 1)) (pm_nil)))) (blkOk_by (own := [("_law_mine", 2), ("_law_its", 3)]) (N := N__law_same) (sc := defScope s__law_same) (by decide +kernel)) (fun _ _ _ _ _ => gm_tup rfl (gm_cons (pg_name (i := 2) sc__law_same.nd rfl (Or.inl rfl)) (gm_cons (pg_name (i := 3) sc__law_same.nd rfl (Or.inl rfl)) (gm_nil)))) (fun _ _ _ _ _ => tm_nil) (fun _ _ _ _ _ => pm_call (ok__law_same T d) hr (by rfl) (T.gl "_law_same" (by simp [glos])) (T.kp 26 rfl) (b__law_same T) pass0 (pm_cons (pm_var (pv 2)) (pm_cons (pm_var (pv 3)) (pm_nil))))) (pm_nil))))))))) (sm_nil))
    (sm_cons (sm_if (PW.pt (pm_wor (pm_tcmp (om_is) (pm_var (pv 1)) (pm_non) (nomark _)) (pm_wor1 (pm_tst (pm_isiT (pm_var (pv 1)) (py_cons (t := .bool) (pe_bltn (by rfl) (T.fr "bool" (by simp [frees])) bb_bool rfl) (py_cons (t := .str) (pe_bltn (by rfl) (T.fr "str" (by simp [frees])) bb_str rfl) (py_nil))) (by rfl) (T.fr "isinstance" (by simp [frees]))))))) (sm_one (sm_ret (pm_and (pm_cmp (om_eq hr.units) (pm_var (pv 0)) (pm_var (pv 1)) (nomark _)) (pm_and (pm_cmp (om_eq hr.units) (pm_cB cm_isi (by rfl) (T.fr "isinstance" (by simp [frees])) bb_isinstance (pm_cons (pm_var (pv 0)) (pm_cons (pm_con (v := .ty "bool") (pe_bltn (by rfl) (T.fr "bool" (by simp [frees])) bb_bool rfl) (fun _ _ _ _ => .ty .bool)) pm_nil))) (pm_cB cm_isi (by rfl) (T.fr "isinstance" (by simp [frees])) bb_isinstance (pm_cons (pm_var (pv 1)) (pm_cons (pm_con (v := .ty "bool") (pe_bltn (by rfl) (T.fr "bool" (by simp [frees])) bb_bool rfl) (fun _ _ _ _ => .ty .bool)) pm_nil))) (nomark _)) (pm_one (pm_cmp (om_eq hr.units) (pm_cmp (om_is) (pm_var (pv 0)) (pm_non) (nomark _)) (pm_cmp (om_is) (pm_var (pv 1)) (pm_non) (nomark _)) (nomark _))))))) (sm_nil))
    (sm_one (sm_ret (pm_and (pm_cB cm_isi (by rfl) (T.fr "isinstance" (by simp [frees])) bb_isinstance (pm_cons (pm_var (pv 0)) (pm_cons (pm_con (v := .ty "int") (pe_bltn (by rfl) (T.fr "int" (by simp [frees])) bb_int rfl) (fun _ _ _ _ => .ty .int)) pm_nil))) (pm_and (pm_not (pm_cB cm_isi (by rfl) (T.fr "isinstance" (by simp [frees])) bb_isinstance (pm_cons (pm_var (pv 0)) (pm_cons (pm_con (v := .ty "bool") (pe_bltn (by rfl) (T.fr "bool" (by simp [frees])) bb_bool rfl) (fun _ _ _ _ => .ty .bool)) pm_nil)))) (pm_one (pm_cmp (om_eq hr.units) (pm_var (pv 0)) (pm_var (pv 1)) (nomark _)))))))))
def N_is_lean : List Str := ["program", "wanted", "preload", "trial", "less", "at", "line"]
theorem sc_is_lean : FnScope ["program", "wanted", "preload", "trial", "less", "at", "line"] ["program", "wanted", "preload"] (defScope s_is_lean) := ⟨rfl, rfl, rfl, by decide +kernel, rfl, by decide +kernel, by decide +kernel⟩
theorem b_is_lean (T : Tx K mg) : Binds K (T.fd 27) ["program", "wanted", "preload"] [] := FunD.bindsN (T.df 27 dd_is_lean rfl) fun _ _ _ _ _ _ us hl => match us, hl with | [_, _, _], _ => rfl
def bd_is_lean : Fs :=
  sseq (sasg (mcall (pureF m_looked) (mcons (mvar 0) (mcons (mvar 1) (mnil)))) (.tp [0, 1]))
  (sseq (sset 2 (mcall tupleW (mcons (mvar 2) (mnil))))
  (sseq (sasg (mtup (mcons (mmake 0 m_Trial___init__ (mcons (mvar 0) (mnil))) (mcons (mlc (miR1 (mcons (mcall lenW (mcons (mvar 2) (mnil))) (mnil))) (.nm 5) (myes) (mop2 addW (mslice (mvar 2) (onone) (osome (mvar 5))) (mslice (mvar 2) (osome (mop2 addW (mvar 5) (mcon (.int 1)))) (onone))) [5]) (mnil)))) (.tp [3, 4]))
  (sret (mandV (mmeth 0 m_Trial_gives_all (mvar 3) (mcons (mvar 2) (mcons (mvar 1) (mnil)))) (mnotV (mcall anyW (mcons (mlc (miS (mvar 4)) (.nm 6) (myes) (mmeth 0 m_Trial_gives_all (mvar 3) (mcons (mvar 6) (mcons (mvar 1) (mnil)))) [6]) (mnil))))))))
def m_is_lean : Fn := fnM 3 7 bd_is_lean
theorem ok_is_lean (T : Tx K mg) : FnOk P w K mg base CX0 16 (He.ga K "is_lean") (T.fd 27) ["program", "wanted", "preload"] (spM (GG K) m_is_lean) :=
  fn_okD (B := bd_is_lean) (T.df 27 dd_is_lean rfl) sc_is_lean (hb := fun cdv A outer s H E hr => sm_cons (sm_asg (pm_call (okP_looked T) (hr.mono (by decide)) (by rfl) (T.gl "looked" (by simp [glos])) (T.kp 6 rfl) (b_looked T) pass0 (pm_cons (pm_var (pv 0)) (pm_cons (pm_var (pv 1)) (pm_nil)))) (gm_tup rfl (gm_cons (pg_name (i := 0) sc_is_lean.nd rfl (Or.inl rfl)) (gm_cons (pg_name (i := 1) sc_is_lean.nd rfl (Or.inr rfl)) (gm_nil)))))
    (sm_cons (sm_set (ps_set (i := 2) sc_is_lean.nd rfl (Or.inr rfl) (pm_cT cm_tuple (by rfl) (T.fr "tuple" (by simp [frees])) bb_tuple (pm_cons (pm_var (pv 2)) (pm_nil)))))
    (sm_cons (sm_asg (pm_tup (pm_cons (pm_make (c := 0) (pe_make (T.mkr "Trial" (by simp [fa])) (ok_Trial___init__ T) (hr.mono (by decide)) (by rfl) (T.gl "Trial" (by simp [glos])) (b_Trial___init__ T) .nil pass0 (pm_cons (pm_var (pv 0)) (pm_nil)))) (pm_cons (pm_lc (own := [("at", 5)]) rfl sc_is_lean.nd (im_range1 (by rfl) (T.fr "range" (by simp [frees])) (pm_cons (pm_cB cm_len (by rfl) (T.fr "len" (by simp [frees])) bb_len (pm_cons (pm_var (pv 2)) (pm_nil))) (pm_nil))) (blkOk_by (own := [("at", 5)]) (N := N_is_lean) (sc := defScope s_is_lean) (by decide +kernel)) (fun _ _ _ _ _ => gm_name (pg_name (i := 5) sc_is_lean.nd rfl (Or.inl rfl))) (fun _ _ _ _ _ => tm_nil) (fun _ _ _ _ _ => pm_bin om_add (pm_slice (pm_var (pv 2)) (om_none) (om_some (pm_var (pv 5)))) (pm_slice (pm_var (pv 2)) (om_some (pm_bin om_add (pm_var (pv 5)) (pm_int))) (om_none)))) (pm_nil)))) (gm_tup rfl (gm_cons (pg_name (i := 3) sc_is_lean.nd rfl (Or.inr rfl)) (gm_cons (pg_name (i := 4) sc_is_lean.nd rfl (Or.inl rfl)) (gm_nil)))))
    (sm_one (sm_ret (pm_and (pm_meth (c := 0) (pe_meth (pm_var (pv 3)) (T.cl "Trial" (by simp [fa])) (T.me "Trial" "gives_all" (by simp [fa])) (ok_Trial_gives_all T) (hr.mono (by decide)) (b_Trial_gives_all T) .nil pass0 (pm_cons (pm_var (pv 2)) (pm_cons (pm_var (pv 1)) (pm_nil)))) (hno_Trial_gives_all)) (pm_one (pm_not (pm_cB cm_any (by rfl) (T.fr "any" (by simp [frees])) bb_any (pm_cons (pm_lc (own := [("line", 6)]) rfl sc_is_lean.nd (im_seq (pm_var (pv 4))) (blkOk_by (own := [("line", 6)]) (N := N_is_lean) (sc := defScope s_is_lean) (by decide +kernel)) (fun _ _ _ _ _ => gm_name (pg_name (i := 6) sc_is_lean.nd rfl (Or.inl rfl))) (fun _ _ _ _ _ => tm_nil) (fun _ _ _ _ _ => pm_meth (c := 0) (pe_meth (pm_var (pv 3)) (T.cl "Trial" (by simp [fa])) (T.me "Trial" "gives_all" (by simp [fa])) (ok_Trial_gives_all T) (hr.mono (by decide)) (b_Trial_gives_all T) .nil pass0 (pm_cons (pm_var (pv 6)) (pm_cons (pm_var (pv 1)) (pm_nil)))) (hno_Trial_gives_all))) (pm_nil)))))))))))
theorem okP_is_lean (T : Tx K mg) : FnOk P w K mg base CX0 16 (He.ga K "is_lean") (T.fd 27) ["program", "wanted", "preload"] (spM (GG K) (pureF (m_is_lean))) := pure_ok (ok_is_lean T)
def N_gives_all : List Str := ["program", "wanted"]
theorem sc_gives_all : FnScope ["program", "wanted"] ["program", "wanted"] (defScope s_gives_all) := ⟨rfl, rfl, rfl, by decide +kernel, rfl, by decide +kernel, by decide +kernel⟩
theorem b_gives_all (T : Tx K mg) : Binds K (T.fd 28) ["program", "wanted"] [] := FunD.bindsN (T.df 28 dd_gives_all rfl) fun _ _ _ _ _ _ us hl => match us, hl with | [_, _], _ => rfl
def bd_gives_all : Fs :=
  sseq (sasg (mcall (pureF m_looked) (mcons (mvar 0) (mcons (mvar 1) (mnil)))) (.tp [0, 1]))
  (sret (mmeth 0 m_Trial_gives_all (mmake 0 m_Trial___init__ (mcons (mvar 0) (mnil))) (mcons (mop2 ixW (mvar 0) (mcon (.int 1))) (mcons (mvar 1) (mnil)))))
def m_gives_all : Fn := fnM 2 2 bd_gives_all
theorem ok_gives_all (T : Tx K mg) : FnOk P w K mg base CX0 16 (He.ga K "gives_all") (T.fd 28) ["program", "wanted"] (spM (GG K) m_gives_all) :=
  fn_okD (B := bd_gives_all) (T.df 28 dd_gives_all rfl) sc_gives_all (hb := fun cdv A outer s H E hr => sm_cons (sm_asg (pm_call (okP_looked T) (hr.mono (by decide)) (by rfl) (T.gl "looked" (by simp [glos])) (T.kp 6 rfl) (b_looked T) pass0 (pm_cons (pm_var (pv 0)) (pm_cons (pm_var (pv 1)) (pm_nil)))) (gm_tup rfl (gm_cons (pg_name (i := 0) sc_gives_all.nd rfl (Or.inl rfl)) (gm_cons (pg_name (i := 1) sc_gives_all.nd rfl (Or.inl rfl)) (gm_nil)))))
    (sm_one (sm_ret (pm_meth (c := 0) (pe_meth (pm_make (c := 0) (pe_make (T.mkr "Trial" (by simp [fa])) (ok_Trial___init__ T) (hr.mono (by decide)) (by rfl) (T.gl "Trial" (by simp [glos])) (b_Trial___init__ T) .nil pass0 (pm_cons (pm_var (pv 0)) (pm_nil)))) (T.cl "Trial" (by simp [fa])) (T.me "Trial" "gives_all" (by simp [fa])) (ok_Trial_gives_all T) (hr.mono (by decide)) (b_Trial_gives_all T) .nil pass0 (pm_cons (pm_ix (pm_var (pv 0)) (pm_int)) (pm_cons (pm_var (pv 1)) (pm_nil)))) (hno_Trial_gives_all)))))
theorem okP_gives_all (T : Tx K mg) : FnOk P w K mg base CX0 16 (He.ga K "gives_all") (T.fd 28) ["program", "wanted"] (spM (GG K) (pureF (m_gives_all))) := pure_ok (ok_gives_all T)
def N_with_preload : List Str := ["program", "preload"]
theorem sc_with_preload : FnScope ["program", "preload"] ["program", "preload"] (defScope s_with_preload) := ⟨rfl, rfl, rfl, by decide +kernel, rfl, by decide +kernel, by decide +kernel⟩
theorem b_with_preload (T : Tx K mg) : Binds K (T.fd 29) ["program", "preload"] [] := FunD.bindsN (T.df 29 dd_with_preload rfl) fun _ _ _ _ _ _ us hl => match us, hl with | [_, _], _ => rfl
def bd_with_preload : Fs :=
  sseq (sset 0 (mcall (pureF ((m_as_tuples 8))) (mcons (mvar 0) (mnil))))
  (sret (mtup (mcons (mop2 ixW (mvar 0) (mcon (.int 0))) (mcons (mcall tupleW (mcons (mvar 1) (mnil))) (mcons (mop2 ixW (mvar 0) (mcon (.int 2))) (mnil))))))
def m_with_preload : Fn := fnM 2 2 bd_with_preload
theorem ok_with_preload (T : Tx K mg) : FnOk P w K mg base CX0 10 (He.ga K "with_preload") (T.fd 29) ["program", "preload"] (spM (GG K) m_with_preload) :=
  fn_okD (B := bd_with_preload) (T.df 29 dd_with_preload rfl) sc_with_preload (hb := fun cdv A outer s H E hr => sm_cons (sm_set (ps_set (i := 0) sc_with_preload.nd rfl (Or.inl rfl) (pm_call (okP_as_tuples T) (hr.mono (by decide)) (by rfl) (T.gl "as_tuples" (by simp [glos])) (T.kp 7 rfl) (b_as_tuples T) pass0 (pm_cons (pm_var (pv 0)) (pm_nil)))))
    (sm_one (sm_ret (pm_tup (pm_cons (pm_ix (pm_var (pv 0)) (pm_int)) (pm_cons (pm_cT cm_tuple (by rfl) (T.fr "tuple" (by simp [frees])) bb_tuple (pm_cons (pm_var (pv 1)) (pm_nil))) (pm_cons (pm_ix (pm_var (pv 0)) (pm_int)) (pm_nil))))))))
theorem okP_with_preload (T : Tx K mg) : FnOk P w K mg base CX0 10 (He.ga K "with_preload") (T.fd 29) ["program", "preload"] (spM (GG K) (pureF (m_with_preload))) := pure_ok (ok_with_preload T)
def N__law_right : List Str := ["_law_box_here", "_law_is_so", "_law_title", "_law_versions_so", "_law_first", "_law_later", "_law_libs", "_law_prog", "_law_wishes", "_law_due", "_law_heard", "_law_one_so", "_law_two_so"]
theorem sc__law_right : FnScope ["_law_box_here", "_law_is_so", "_law_title", "_law_versions_so", "_law_first", "_law_later", "_law_libs", "_law_prog", "_law_wishes", "_law_due", "_law_heard", "_law_one_so", "_law_two_so"] ["_law_box_here"] (defScope s__law_right) := ⟨rfl, rfl, rfl, by decide +kernel, rfl, by decide +kernel, by decide +kernel⟩
theorem b__law_right (T : Tx K mg) : Binds K (T.fd 2) ["_law_box_here"] [] := FunD.bindsN (T.df 2 dd__law_right rfl) fun _ _ _ _ _ _ us hl => match us, hl with | [_], _ => rfl
def bd__law_right : Fs :=
  sseq (spar 1 2 (mcons (mop2 eqW (mcall takeB (mcons (mvar 0) (mcons (mcon (.int 2)) (mnil)))) (mcon (.int 0))) (mcons (mcall m__law_of (mcons (mvar 0) (mcons (mlst (mcons (mcon (.str x2)) (mcons (mcon (.str x1)) (mcons (mcon (.str x0)) (mnil))))) (mnil)))) (mnil))))
  (sseq (sset 3 (mcall m__law_of (mcons (mvar 0) (mcons (mlst (mcons (mtup (mcons (mcon (.str x5)) (mcons (mcon (.str x5)) (mnil)))) (mcons (mtup (mcons (mcon (.str x6)) (mcons (mcon (.str x5)) (mnil)))) (mcons (mtup (mcons (mcon (.str x5)) (mcons (mcon (.str x4)) (mnil)))) (mcons (mtup (mcons (mcon (.str x3)) (mcons (mcon (.str x3)) (mnil)))) (mnil)))))) (mnil)))))
  (sseq (sasg (mif (mtst (mvar 1)) (mtup (mcons (mcon (.str x8)) (mcons (mcon (.str x7)) (mnil)))) (mtup (mcons (mcon (.str x7)) (mcons (mcon (.str x8)) (mnil))))) (.tp [4, 5]))
  (sseq (sset 6 (mlst (mcons (mtup (mcons (mcon (.str x12)) (mcons (mtup (mnil)) (mcons (mtup (mnil)) (mcons (mtup (mcons (mtup (mcons (mcon (.str x10)) (mcons (mcon (.str x5)) (mcons (mcon (.bl false)) (mnil))))) (mcons (mtup (mcons (mcon (.str x9)) (mcons (mcon (.str x5)) (mcons (mcon (.bl true)) (mnil))))) (mnil)))) (mnil)))))) (mcons (mtup (mcons (mcon (.str x11)) (mcons (mtup (mnil)) (mcons (mtup (mcons (mtup (mcons (mcon (.str x10)) (mcons (mcon (.str x5)) (mnil)))) (mcons (mtup (mcons (mcon (.str x9)) (mcons (mcon (.str x5)) (mnil)))) (mnil)))) (mcons (mtup (mnil)) (mnil)))))) (mnil)))))
  (sseq (sexp (mbmL appW (mvar 6) (mcons (mtup (mcons (mcon (.str x8)) (mcons (mtup (mnil)) (mcons (mtup (mcons (mtup (mcons (mcon (.str x10)) (mcons (mop2 ixW (mvar 3) (mcon (.int 0))) (mnil)))) (mcons (mtup (mcons (mcon (.str x9)) (mcons (mop2 ixW (mvar 3) (mcon (.int 0))) (mnil)))) (mnil)))) (mcons (mtup (mnil)) (mnil)))))) (mnil))))
  (sseq (sexp (mbmL appW (mvar 6) (mcons (mtup (mcons (mcon (.str x7)) (mcons (mtup (mnil)) (mcons (mtup (mcons (mtup (mcons (mcon (.str x10)) (mcons (mop2 ixW (mvar 3) (mcon (.int 1))) (mnil)))) (mnil))) (mcons (mtup (mnil)) (mnil)))))) (mnil))))
  (sseq (sexp (mbmL appW (mvar 6) (mcons (mtup (mcons (mvar 2) (mcons (mtup (mcons (mvar 4) (mcons (mvar 5) (mnil)))) (mcons (mtup (mnil)) (mcons (mtup (mcons (mtup (mcons (mcon (.str x10)) (mcons (mcon (.str x5)) (mcons (mcon (.bl true)) (mnil))))) (mnil))) (mnil)))))) (mnil))))
  (sseq (sset 7 (mtup (mcons (mcall tupleW (mcons (mvar 6) (mnil))) (mcons (mtup (mnil)) (mcons (mtup (mcons (mtup (mcons (mcon (.str x11)) (mcons (mcall m__law_of (mcons (mvar 0) (mcons (mlst (mcons (mcon (.str x15)) (mcons (mcon (.str x14)) (mnil)))) (mnil)))) (mnil)))) (mcons (mtup (mcons (mcon (.str x8)) (mcons (mcon (.str x13)) (mnil)))) (mnil)))) (mnil))))))
  (sseq (sset 8 (mtup (mcons (mtup (mcons (mcon (.str x12)) (mcons (mcon (.int 0)) (mcons (mtup (mcons (mcon (.str x16)) (mcons (mcon (.str x7)) (mcons (mop2 ixW (mvar 3) (mcon (.int 1))) (mnil))))) (mnil))))) (mcons (mtup (mcons (mcon (.str x12)) (mcons (mcon (.int 1)) (mcons (mtup (mcons (mcon (.str x16)) (mcons (mcon (.str x8)) (mcons (mop2 ixW (mvar 3) (mcon (.int 0))) (mnil))))) (mnil))))) (mnil)))))
  (sseq (sset 9 (mif (mand (mtB (mop2 eqW (mvar 2) (mcon (.str x2)))) (mtst (mvar 1))) (mtup (mcons (mcon (.str x2)) (mcons (mcon (.str x7)) (mnil)))) (mtup (mcons (mvar 2) (mnil)))))
  (sseq (sif (mand (mtst (mvar 1)) (mtB (mop2 neW (mvar 2) (mcon (.str x2))))) (sset 9 (mif (mtB (mop2 eqW (mvar 2) (mcon (.str x1)))) (mtup (mcons (mcon (.str x1)) (mcons (mcon (.str x7)) (mnil)))) (mtup (mcons (mcon (.str x7)) (mcons (mcon (.str x8)) (mnil)))))) (snx))
  (sseq (sset 10 (mlst (mcons (mcall (pureF m_least_preload) (mcons (mvar 7) (mcons (mvar 8) (mnil)))) (mcons (mcall (pureF m_least_preload) (mcons (mvar 7) (mcons (mslice (mvar 8) (onone) (osome (mcon (.int 1)))) (mnil)))) (mcons (mcall (pureF m_least_preload) (mcons (mvar 7) (mcons (mslice (mvar 8) (osome (mcon (.int 1))) (onone)) (mnil)))) (mnil))))))
  (sseq (sset 11 (mif (mand (mnot (mtst (mvar 1))) (mtB (mop2 ltW (mvar 2) (mcon (.str x7))))) (mtup (mcons (mvar 2) (mnil))) (mtup (mcons (mcon (.str x7)) (mnil)))))
  (sseq (sset 12 (mif (mtB (mop2 ltW (mvar 2) (mcon (.str x8)))) (mtup (mcons (mvar 2) (mnil))) (mtup (mcons (mcon (.str x8)) (mnil)))))
  (sseq (sif (mnot (mtst (mcall (m__law_same 6) (mcons (mvar 10) (mcons (mlst (mcons (mvar 9) (mcons (mvar 11) (mcons (mvar 12) (mnil))))) (mnil)))))) (sret (mcon (.bl false))) (snx))
  (sseq (sif (mor (mnot (mtst (mcall (pureF m_is_lean) (mcons (mvar 7) (mcons (mvar 8) (mcons (mvar 9) (mnil))))))) (mnot (mtst (mcall (pureF m_is_lean) (mcons (mvar 7) (mcons (mvar 8) (mcons (mtup (mcons (mcon (.str x7)) (mcons (mcon (.str x8)) (mnil)))) (mnil)))))))) (sret (mcon (.bl false))) (snx))
  (sret (mcall (pureF m_gives_all) (mcons (mcall (pureF m_with_preload) (mcons (mvar 7) (mcons (mvar 9) (mnil)))) (mcons (mvar 8) (mnil))))))))))))))))))))
def m__law_right : Fn := fnM 1 13 bd__law_right
theorem ok__law_right (T : Tx K mg) : FnOk P w K mg base CX0 18 (He.ga K "_law_right") (T.fd 2) ["_law_box_here"] (spM (GG K) m__law_right) :=
  fn_okD (B := bd__law_right) (T.df 2 dd__law_right rfl) sc__law_right (hb := fun cdv A outer s H E hr => sm_cons (sm_par (ps_par (i := 1) (j := 2) rfl sc__law_right.nd rfl rfl (by decide) rfl rfl (pm_cons (pm_cmp (om_eq hr.units) (pm_call (okB__law_take T) (hr.mono (by decide)) (by rfl) (T.gl "_law_take" (by simp [glos])) (T.kp 4 rfl) (b__law_take T) pass0 (pm_cons (pm_var (pv 0)) (pm_cons (pm_int) (pm_nil)))) (pm_int) (nomark _)) (pm_cons (pm_call (ok__law_of T) (hr.mono (by decide)) (by rfl) (T.gl "_law_of" (by simp [glos])) (T.kp 3 rfl) (b__law_of T) pass0 (pm_cons (pm_var (pv 0)) (pm_cons (pm_lst (pm_cons (pm_str e_x2) (pm_cons (pm_str e_x1) (pm_cons (pm_str e_x0) (pm_nil))))) (pm_nil)))) (pm_nil))) (by rfl)))
    (sm_cons (sm_set (ps_set (i := 3) sc__law_right.nd rfl (Or.inl rfl) (pm_call (ok__law_of T) (hr.mono (by decide)) (by rfl) (T.gl "_law_of" (by simp [glos])) (T.kp 3 rfl) (b__law_of T) pass0 (pm_cons (pm_var (pv 0)) (pm_cons (pm_lst (pm_cons (pm_tup (pm_cons (pm_str e_x5) (pm_cons (pm_str e_x5) (pm_nil)))) (pm_cons (pm_tup (pm_cons (pm_str e_x6) (pm_cons (pm_str e_x5) (pm_nil)))) (pm_cons (pm_tup (pm_cons (pm_str e_x5) (pm_cons (pm_str e_x4) (pm_nil)))) (pm_cons (pm_tup (pm_cons (pm_str e_x3) (pm_cons (pm_str e_x3) (pm_nil)))) (pm_nil)))))) (pm_nil))))))
    (sm_cons (sm_asg (pm_if (pm_tst (pm_var (pv 1))) (pm_tup (pm_cons (pm_str e_x8) (pm_cons (pm_str e_x7) (pm_nil)))) (pm_tup (pm_cons (pm_str e_x7) (pm_cons (pm_str e_x8) (pm_nil))))) (gm_tup rfl (gm_cons (pg_name (i := 4) sc__law_right.nd rfl (Or.inl rfl)) (gm_cons (pg_name (i := 5) sc__law_right.nd rfl (Or.inl rfl)) (gm_nil)))))
    (sm_cons (sm_set (ps_set (i := 6) sc__law_right.nd rfl (Or.inl rfl) (pm_lst (pm_cons (pm_tup (pm_cons (pm_str e_x12) (pm_cons (pm_tup (pm_nil)) (pm_cons (pm_tup (pm_nil)) (pm_cons (pm_tup (pm_cons (pm_tup (pm_cons (pm_str e_x10) (pm_cons (pm_str e_x5) (pm_cons (pm_bl) (pm_nil))))) (pm_cons (pm_tup (pm_cons (pm_str e_x9) (pm_cons (pm_str e_x5) (pm_cons (pm_bl) (pm_nil))))) (pm_nil)))) (pm_nil)))))) (pm_cons (pm_tup (pm_cons (pm_str e_x11) (pm_cons (pm_tup (pm_nil)) (pm_cons (pm_tup (pm_cons (pm_tup (pm_cons (pm_str e_x10) (pm_cons (pm_str e_x5) (pm_nil)))) (pm_cons (pm_tup (pm_cons (pm_str e_x9) (pm_cons (pm_str e_x5) (pm_nil)))) (pm_nil)))) (pm_cons (pm_tup (pm_nil)) (pm_nil)))))) (pm_nil))))))
    (sm_cons (sm_exp (pm_bmL lm_app (pe_bm PySem.F.plainAttrs_list PySem.F.slot_list_append PySem.F.type_list_append mt_append (pm_var (pv 6)) (pm_cons (pm_tup (pm_cons (pm_str e_x8) (pm_cons (pm_tup (pm_nil)) (pm_cons (pm_tup (pm_cons (pm_tup (pm_cons (pm_str e_x10) (pm_cons (pm_ix (pm_var (pv 3)) (pm_int)) (pm_nil)))) (pm_cons (pm_tup (pm_cons (pm_str e_x9) (pm_cons (pm_ix (pm_var (pv 3)) (pm_int)) (pm_nil)))) (pm_nil)))) (pm_cons (pm_tup (pm_nil)) (pm_nil)))))) (pm_nil)))))
    (sm_cons (sm_exp (pm_bmL lm_app (pe_bm PySem.F.plainAttrs_list PySem.F.slot_list_append PySem.F.type_list_append mt_append (pm_var (pv 6)) (pm_cons (pm_tup (pm_cons (pm_str e_x7) (pm_cons (pm_tup (pm_nil)) (pm_cons (pm_tup (pm_cons (pm_tup (pm_cons (pm_str e_x10) (pm_cons (pm_ix (pm_var (pv 3)) (pm_int)) (pm_nil)))) (pm_nil))) (pm_cons (pm_tup (pm_nil)) (pm_nil)))))) (pm_nil)))))
    (sm_cons (sm_exp (pm_bmL lm_app (pe_bm PySem.F.plainAttrs_list PySem.F.slot_list_append PySem.F.type_list_append mt_append (pm_var (pv 6)) (pm_cons (pm_tup (pm_cons (pm_var (pv 2)) (pm_cons (pm_tup (pm_cons (pm_var (pv 4)) (pm_cons (pm_var (pv 5)) (pm_nil)))) (pm_cons (pm_tup (pm_nil)) (pm_cons (pm_tup (pm_cons (pm_tup (pm_cons (pm_str e_x10) (pm_cons (pm_str e_x5) (pm_cons (pm_bl) (pm_nil))))) (pm_nil))) (pm_nil)))))) (pm_nil)))))
    (sm_cons (sm_set (ps_set (i := 7) sc__law_right.nd rfl (Or.inl rfl) (pm_tup (pm_cons (pm_cT cm_tuple (by rfl) (T.fr "tuple" (by simp [frees])) bb_tuple (pm_cons (pm_var (pv 6)) (pm_nil))) (pm_cons (pm_tup (pm_nil)) (pm_cons (pm_tup (pm_cons (pm_tup (pm_cons (pm_str e_x11) (pm_cons (pm_call (ok__law_of T) (hr.mono (by decide)) (by rfl) (T.gl "_law_of" (by simp [glos])) (T.kp 3 rfl) (b__law_of T) pass0 (pm_cons (pm_var (pv 0)) (pm_cons (pm_lst (pm_cons (pm_str e_x15) (pm_cons (pm_str e_x14) (pm_nil)))) (pm_nil)))) (pm_nil)))) (pm_cons (pm_tup (pm_cons (pm_str e_x8) (pm_cons (pm_str e_x13) (pm_nil)))) (pm_nil)))) (pm_nil)))))))
    (sm_cons (sm_set (ps_set (i := 8) sc__law_right.nd rfl (Or.inl rfl) (pm_tup (pm_cons (pm_tup (pm_cons (pm_str e_x12) (pm_cons (pm_int) (pm_cons (pm_tup (pm_cons (pm_str e_x16) (pm_cons (pm_str e_x7) (pm_cons (pm_ix (pm_var (pv 3)) (pm_int)) (pm_nil))))) (pm_nil))))) (pm_cons (pm_tup (pm_cons (pm_str e_x12) (pm_cons (pm_int) (pm_cons (pm_tup (pm_cons (pm_str e_x16) (pm_cons (pm_str e_x8) (pm_cons (pm_ix (pm_var (pv 3)) (pm_int)) (pm_nil))))) (pm_nil))))) (pm_nil))))))
    (sm_cons (sm_set (ps_set (i := 9) sc__law_right.nd rfl (Or.inl rfl) (pm_if (PW.pt (pm_wand (pm_tcmp (om_eq hr.units) (pm_var (pv 2)) (pm_str e_x2) (nomark _)) (pm_wand1 (pm_tst (pm_var (pv 1)))))) (pm_tup (pm_cons (pm_str e_x2) (pm_cons (pm_str e_x7) (pm_nil)))) (pm_tup (pm_cons (pm_var (pv 2)) (pm_nil))))))
    (sm_cons (sm_if (PW.pt (pm_wand (pm_tst (pm_var (pv 1))) (pm_wand1 (pm_tcmp (om_ne hr.units) (pm_var (pv 2)) (pm_str e_x2) (nomark _))))) (sm_one (sm_set (ps_set (i := 9) sc__law_right.nd rfl (Or.inl rfl) (pm_if (pm_tcmp (om_eq hr.units) (pm_var (pv 2)) (pm_str e_x1) (nomark _)) (pm_tup (pm_cons (pm_str e_x1) (pm_cons (pm_str e_x7) (pm_nil)))) (pm_tup (pm_cons (pm_str e_x7) (pm_cons (pm_str e_x8) (pm_nil)))))))) (sm_nil))
    (sm_cons (sm_set (ps_set (i := 10) sc__law_right.nd rfl (Or.inl rfl) (pm_lst (pm_cons (pm_call (okP_least_preload T) (hr.mono (by decide)) (by rfl) (T.gl "least_preload" (by simp [glos])) (T.kp 5 rfl) (b_least_preload T) pass0 (pm_cons (pm_var (pv 7)) (pm_cons (pm_var (pv 8)) (pm_nil)))) (pm_cons (pm_call (okP_least_preload T) (hr.mono (by decide)) (by rfl) (T.gl "least_preload" (by simp [glos])) (T.kp 5 rfl) (b_least_preload T) pass0 (pm_cons (pm_var (pv 7)) (pm_cons (pm_slice (pm_var (pv 8)) (om_none) (om_some (pm_int))) (pm_nil)))) (pm_cons (pm_call (okP_least_preload T) (hr.mono (by decide)) (by rfl) (T.gl "least_preload" (by simp [glos])) (T.kp 5 rfl) (b_least_preload T) pass0 (pm_cons (pm_var (pv 7)) (pm_cons (pm_slice (pm_var (pv 8)) (om_some (pm_int)) (om_none)) (pm_nil)))) (pm_nil)))))))
    (sm_cons (sm_set (ps_set (i := 11) sc__law_right.nd rfl (Or.inl rfl) (pm_if (PW.pt (pm_wand (pm_tnot (pm_tst (pm_var (pv 1)))) (pm_wand1 (pm_tcmp (om_lt) (pm_var (pv 2)) (pm_str e_x7) (nomark _))))) (pm_tup (pm_cons (pm_var (pv 2)) (pm_nil))) (pm_tup (pm_cons (pm_str e_x7) (pm_nil))))))
    (sm_cons (sm_set (ps_set (i := 12) sc__law_right.nd rfl (Or.inl rfl) (pm_if (pm_tcmp (om_lt) (pm_var (pv 2)) (pm_str e_x8) (nomark _)) (pm_tup (pm_cons (pm_var (pv 2)) (pm_nil))) (pm_tup (pm_cons (pm_str e_x8) (pm_nil))))))
    (sm_cons (sm_if (pm_tnot (pm_tst (pm_call (ok__law_same T 6) (hr.mono (by decide)) (by rfl) (T.gl "_law_same" (by simp [glos])) (T.kp 26 rfl) (b__law_same T) pass0 (pm_cons (pm_var (pv 10)) (pm_cons (pm_lst (pm_cons (pm_var (pv 9)) (pm_cons (pm_var (pv 11)) (pm_cons (pm_var (pv 12)) (pm_nil))))) (pm_nil)))))) (sm_one (sm_ret (pm_bl))) (sm_nil))
    (sm_cons (sm_if (PW.pt (pm_wor (pm_tnot (pm_tst (pm_call (okP_is_lean T) (hr.mono (by decide)) (by rfl) (T.gl "is_lean" (by simp [glos])) (T.kp 27 rfl) (b_is_lean T) pass0 (pm_cons (pm_var (pv 7)) (pm_cons (pm_var (pv 8)) (pm_cons (pm_var (pv 9)) (pm_nil))))))) (pm_wor1 (pm_tnot (pm_tst (pm_call (okP_is_lean T) (hr.mono (by decide)) (by rfl) (T.gl "is_lean" (by simp [glos])) (T.kp 27 rfl) (b_is_lean T) pass0 (pm_cons (pm_var (pv 7)) (pm_cons (pm_var (pv 8)) (pm_cons (pm_tup (pm_cons (pm_str e_x7) (pm_cons (pm_str e_x8) (pm_nil)))) (pm_nil)))))))))) (sm_one (sm_ret (pm_bl))) (sm_nil))
    (sm_one (sm_ret (pm_call (okP_gives_all T) (hr.mono (by decide)) (by rfl) (T.gl "gives_all" (by simp [glos])) (T.kp 28 rfl) (b_gives_all T) pass0 (pm_cons (pm_call (okP_with_preload T) (hr.mono (by decide)) (by rfl) (T.gl "with_preload" (by simp [glos])) (T.kp 29 rfl) (b_with_preload T) pass0 (pm_cons (pm_var (pv 7)) (pm_cons (pm_var (pv 9)) (pm_nil)))) (pm_cons (pm_var (pv 8)) (pm_nil))))))))))))))))))))))
def rks : List Int := [2, 3, 4, 2]
def told (o : Option (Mv × Ms)) : Option (Option Bool × Option Mo) := o.map fun x => ((match x.1 with | .bl b => some b | _ => none), x.2.get 0)
theorem told_of {o : Option (Mv × Ms)} {k : Option Mo} (h : told o = some (some true, k)) : ∃ s', o = some (.bl true, s') ∧ s'.get 0 = k := by
  cases o with
  | none => cases h
  | some x =>
    obtain ⟨w, s⟩ := x
    cases w with
    | bl b =>
      have h : some (some b, s.get 0) = some (some true, k) := h
      cases h
      exact ⟨s, rfl, rfl⟩
    | _ =>
      have z : (none : Option Bool) = some true := congrArg (fun z : Option (Option Bool × Option Mo) => (z.getD (none, none)).1) h
      cases z
theorem r_0000 (m : Nat) : told (m__law_right [.ref 0] (one (.box m [(2, 0), (3, 0), (4, 0), (2, 0)]))) = some (some true, some (.box (m + 4) [])) := by kernel_rfl
theorem r_0001 (m : Nat) : told (m__law_right [.ref 0] (one (.box m [(2, 0), (3, 0), (4, 0), (2, 1)]))) = some (some true, some (.box (m + 4) [])) := by kernel_rfl
theorem r_0010 (m : Nat) : told (m__law_right [.ref 0] (one (.box m [(2, 0), (3, 0), (4, 1), (2, 0)]))) = some (some true, some (.box (m + 4) [])) := by kernel_rfl
theorem r_0011 (m : Nat) : told (m__law_right [.ref 0] (one (.box m [(2, 0), (3, 0), (4, 1), (2, 1)]))) = some (some true, some (.box (m + 4) [])) := by kernel_rfl
theorem r_0020 (m : Nat) : told (m__law_right [.ref 0] (one (.box m [(2, 0), (3, 0), (4, 2), (2, 0)]))) = some (some true, some (.box (m + 4) [])) := by kernel_rfl
theorem r_0021 (m : Nat) : told (m__law_right [.ref 0] (one (.box m [(2, 0), (3, 0), (4, 2), (2, 1)]))) = some (some true, some (.box (m + 4) [])) := by kernel_rfl
theorem r_0030 (m : Nat) : told (m__law_right [.ref 0] (one (.box m [(2, 0), (3, 0), (4, 3), (2, 0)]))) = some (some true, some (.box (m + 4) [])) := by kernel_rfl
theorem r_0031 (m : Nat) : told (m__law_right [.ref 0] (one (.box m [(2, 0), (3, 0), (4, 3), (2, 1)]))) = some (some true, some (.box (m + 4) [])) := by kernel_rfl
theorem r_0100 (m : Nat) : told (m__law_right [.ref 0] (one (.box m [(2, 0), (3, 1), (4, 0), (2, 0)]))) = some (some true, some (.box (m + 4) [])) := by kernel_rfl
theorem r_0101 (m : Nat) : told (m__law_right [.ref 0] (one (.box m [(2, 0), (3, 1), (4, 0), (2, 1)]))) = some (some true, some (.box (m + 4) [])) := by kernel_rfl
theorem r_0110 (m : Nat) : told (m__law_right [.ref 0] (one (.box m [(2, 0), (3, 1), (4, 1), (2, 0)]))) = some (some true, some (.box (m + 4) [])) := by kernel_rfl
theorem r_0111 (m : Nat) : told (m__law_right [.ref 0] (one (.box m [(2, 0), (3, 1), (4, 1), (2, 1)]))) = some (some true, some (.box (m + 4) [])) := by kernel_rfl
theorem r_0120 (m : Nat) : told (m__law_right [.ref 0] (one (.box m [(2, 0), (3, 1), (4, 2), (2, 0)]))) = some (some true, some (.box (m + 4) [])) := by kernel_rfl
theorem r_0121 (m : Nat) : told (m__law_right [.ref 0] (one (.box m [(2, 0), (3, 1), (4, 2), (2, 1)]))) = some (some true, some (.box (m + 4) [])) := by kernel_rfl
theorem r_0130 (m : Nat) : told (m__law_right [.ref 0] (one (.box m [(2, 0), (3, 1), (4, 3), (2, 0)]))) = some (some true, some (.box (m + 4) [])) := by kernel_rfl
theorem r_0131 (m : Nat) : told (m__law_right [.ref 0] (one (.box m [(2, 0), (3, 1), (4, 3), (2, 1)]))) = some (some true, some (.box (m + 4) [])) := by kernel_rfl
theorem r_0200 (m : Nat) : told (m__law_right [.ref 0] (one (.box m [(2, 0), (3, 2), (4, 0), (2, 0)]))) = some (some true, some (.box (m + 4) [])) := by kernel_rfl
theorem r_0201 (m : Nat) : told (m__law_right [.ref 0] (one (.box m [(2, 0), (3, 2), (4, 0), (2, 1)]))) = some (some true, some (.box (m + 4) [])) := by kernel_rfl
theorem r_0210 (m : Nat) : told (m__law_right [.ref 0] (one (.box m [(2, 0), (3, 2), (4, 1), (2, 0)]))) = some (some true, some (.box (m + 4) [])) := by kernel_rfl
theorem r_0211 (m : Nat) : told (m__law_right [.ref 0] (one (.box m [(2, 0), (3, 2), (4, 1), (2, 1)]))) = some (some true, some (.box (m + 4) [])) := by kernel_rfl
theorem r_0220 (m : Nat) : told (m__law_right [.ref 0] (one (.box m [(2, 0), (3, 2), (4, 2), (2, 0)]))) = some (some true, some (.box (m + 4) [])) := by kernel_rfl
theorem r_0221 (m : Nat) : told (m__law_right [.ref 0] (one (.box m [(2, 0), (3, 2), (4, 2), (2, 1)]))) = some (some true, some (.box (m + 4) [])) := by kernel_rfl
theorem r_0230 (m : Nat) : told (m__law_right [.ref 0] (one (.box m [(2, 0), (3, 2), (4, 3), (2, 0)]))) = some (some true, some (.box (m + 4) [])) := by kernel_rfl
theorem r_0231 (m : Nat) : told (m__law_right [.ref 0] (one (.box m [(2, 0), (3, 2), (4, 3), (2, 1)]))) = some (some true, some (.box (m + 4) [])) := by kernel_rfl
theorem r_1000 (m : Nat) : told (m__law_right [.ref 0] (one (.box m [(2, 1), (3, 0), (4, 0), (2, 0)]))) = some (some true, some (.box (m + 4) [])) := by kernel_rfl
theorem r_1001 (m : Nat) : told (m__law_right [.ref 0] (one (.box m [(2, 1), (3, 0), (4, 0), (2, 1)]))) = some (some true, some (.box (m + 4) [])) := by kernel_rfl
theorem r_1010 (m : Nat) : told (m__law_right [.ref 0] (one (.box m [(2, 1), (3, 0), (4, 1), (2, 0)]))) = some (some true, some (.box (m + 4) [])) := by kernel_rfl
theorem r_1011 (m : Nat) : told (m__law_right [.ref 0] (one (.box m [(2, 1), (3, 0), (4, 1), (2, 1)]))) = some (some true, some (.box (m + 4) [])) := by kernel_rfl
theorem r_1020 (m : Nat) : told (m__law_right [.ref 0] (one (.box m [(2, 1), (3, 0), (4, 2), (2, 0)]))) = some (some true, some (.box (m + 4) [])) := by kernel_rfl
theorem r_1021 (m : Nat) : told (m__law_right [.ref 0] (one (.box m [(2, 1), (3, 0), (4, 2), (2, 1)]))) = some (some true, some (.box (m + 4) [])) := by kernel_rfl
theorem r_1030 (m : Nat) : told (m__law_right [.ref 0] (one (.box m [(2, 1), (3, 0), (4, 3), (2, 0)]))) = some (some true, some (.box (m + 4) [])) := by kernel_rfl
theorem r_1031 (m : Nat) : told (m__law_right [.ref 0] (one (.box m [(2, 1), (3, 0), (4, 3), (2, 1)]))) = some (some true, some (.box (m + 4) [])) := by kernel_rfl
theorem r_1100 (m : Nat) : told (m__law_right [.ref 0] (one (.box m [(2, 1), (3, 1), (4, 0), (2, 0)]))) = some (some true, some (.box (m + 4) [])) := by kernel_rfl
theorem r_1101 (m : Nat) : told (m__law_right [.ref 0] (one (.box m [(2, 1), (3, 1), (4, 0), (2, 1)]))) = some (some true, some (.box (m + 4) [])) := by kernel_rfl
theorem r_1110 (m : Nat) : told (m__law_right [.ref 0] (one (.box m [(2, 1), (3, 1), (4, 1), (2, 0)]))) = some (some true, some (.box (m + 4) [])) := by kernel_rfl
theorem r_1111 (m : Nat) : told (m__law_right [.ref 0] (one (.box m [(2, 1), (3, 1), (4, 1), (2, 1)]))) = some (some true, some (.box (m + 4) [])) := by kernel_rfl
theorem r_1120 (m : Nat) : told (m__law_right [.ref 0] (one (.box m [(2, 1), (3, 1), (4, 2), (2, 0)]))) = some (some true, some (.box (m + 4) [])) := by kernel_rfl
theorem r_1121 (m : Nat) : told (m__law_right [.ref 0] (one (.box m [(2, 1), (3, 1), (4, 2), (2, 1)]))) = some (some true, some (.box (m + 4) [])) := by kernel_rfl
theorem r_1130 (m : Nat) : told (m__law_right [.ref 0] (one (.box m [(2, 1), (3, 1), (4, 3), (2, 0)]))) = some (some true, some (.box (m + 4) [])) := by kernel_rfl
theorem r_1131 (m : Nat) : told (m__law_right [.ref 0] (one (.box m [(2, 1), (3, 1), (4, 3), (2, 1)]))) = some (some true, some (.box (m + 4) [])) := by kernel_rfl
theorem r_1200 (m : Nat) : told (m__law_right [.ref 0] (one (.box m [(2, 1), (3, 2), (4, 0), (2, 0)]))) = some (some true, some (.box (m + 4) [])) := by kernel_rfl
theorem r_1201 (m : Nat) : told (m__law_right [.ref 0] (one (.box m [(2, 1), (3, 2), (4, 0), (2, 1)]))) = some (some true, some (.box (m + 4) [])) := by kernel_rfl
theorem r_1210 (m : Nat) : told (m__law_right [.ref 0] (one (.box m [(2, 1), (3, 2), (4, 1), (2, 0)]))) = some (some true, some (.box (m + 4) [])) := by kernel_rfl
theorem r_1211 (m : Nat) : told (m__law_right [.ref 0] (one (.box m [(2, 1), (3, 2), (4, 1), (2, 1)]))) = some (some true, some (.box (m + 4) [])) := by kernel_rfl
theorem r_1220 (m : Nat) : told (m__law_right [.ref 0] (one (.box m [(2, 1), (3, 2), (4, 2), (2, 0)]))) = some (some true, some (.box (m + 4) [])) := by kernel_rfl
theorem r_1221 (m : Nat) : told (m__law_right [.ref 0] (one (.box m [(2, 1), (3, 2), (4, 2), (2, 1)]))) = some (some true, some (.box (m + 4) [])) := by kernel_rfl
theorem r_1230 (m : Nat) : told (m__law_right [.ref 0] (one (.box m [(2, 1), (3, 2), (4, 3), (2, 0)]))) = some (some true, some (.box (m + 4) [])) := by kernel_rfl
theorem r_1231 (m : Nat) : told (m__law_right [.ref 0] (one (.box m [(2, 1), (3, 2), (4, 3), (2, 1)]))) = some (some true, some (.box (m + 4) [])) := by kernel_rfl
theorem right_ok : ∀ m ds, InB rks ds → ∃ s', m__law_right [.ref 0] (one (.box m ds)) = some (.bl true, s') ∧ s'.get 0 = some (.box (m + rks.length) [])
  | m, [(_, a), (_, b), (_, c), (_, d)], ⟨rfl, a0, a1, rfl, b0, b1, rfl, c0, c1, rfl, d0, d1, _⟩ => by
    have ha : a = 0 ∨ a = 1 := by omega
    have hb : b = 0 ∨ b = 1 ∨ b = 2 := by omega
    have hc : c = 0 ∨ c = 1 ∨ c = 2 ∨ c = 3 := by omega
    have hd : d = 0 ∨ d = 1 := by omega
    refine told_of ?_
    rcases ha with rfl | rfl <;> rcases hb with rfl | rfl | rfl <;> rcases hc with rfl | rfl | rfl | rfl <;> rcases hd with rfl | rfl
    · exact r_0000 m
    · exact r_0001 m
    · exact r_0010 m
    · exact r_0011 m
    · exact r_0020 m
    · exact r_0021 m
    · exact r_0030 m
    · exact r_0031 m
    · exact r_0100 m
    · exact r_0101 m
    · exact r_0110 m
    · exact r_0111 m
    · exact r_0120 m
    · exact r_0121 m
    · exact r_0130 m
    · exact r_0131 m
    · exact r_0200 m
    · exact r_0201 m
    · exact r_0210 m
    · exact r_0211 m
    · exact r_0220 m
    · exact r_0221 m
    · exact r_0230 m
    · exact r_0231 m
    · exact r_1000 m
    · exact r_1001 m
    · exact r_1010 m
    · exact r_1011 m
    · exact r_1020 m
    · exact r_1021 m
    · exact r_1030 m
    · exact r_1031 m
    · exact r_1100 m
    · exact r_1101 m
    · exact r_1110 m
    · exact r_1111 m
    · exact r_1120 m
    · exact r_1121 m
    · exact r_1130 m
    · exact r_1131 m
    · exact r_1200 m
    · exact r_1201 m
    · exact r_1210 m
    · exact r_1211 m
    · exact r_1220 m
    · exact r_1221 m
    · exact r_1230 m
    · exact r_1231 m
theorem okB__law_right (T : Tx K mg) : FnOk P w K mg base CX0 18 (He.ga K "_law_right") (T.fd 2) ["_law_box_here"] (spM (GG K) (rightB rks)) := right_box (ok__law_right T) drawF_in (by decide) right_ok

def N_law : List Str := ["_law_script", "_law_k", "_law_box_here", "_law_lap"]
theorem sc_law : FnScope ["_law_script", "_law_k", "_law_box_here", "_law_lap"] ["_law_script"] (defScope s_law) := ⟨rfl, rfl, rfl, by decide +kernel, rfl, by decide +kernel, by decide +kernel⟩
theorem b_law (T : Tx K mg) : Binds K (T.fd 0) ["_law_script"] [] := FunD.bindsN (T.df 0 dd_law rfl) fun _ _ _ _ _ _ us hl => match us, hl with | [_], _ => rfl
def bd_law : Fs :=
  sseq (sfor (miR1 (mcons (mop2 addW (mcon (.int 1)) (mcall min2W (mcons (mcon (.int 1)) (mcons (mcall lenW (mcons (mvar 0) (mnil))) (mnil))))) (mnil))) (.nm 1) (sseq (sset 2 (mcall m__law_box (mcons (mvar 0) (mcons (mvar 1) (mnil)))))
  (sif (mnot (mtst (mcall allW (mcons (mlc (miR1 (mcons (mcon (.int 3)) (mnil))) (.nm 3) (myes) (mcall (rightB rks) (mcons (mvar 2) (mnil))) [3]) (mnil))))) (sret (mcon (.bl false))) (snx))))
  (sret (mcon (.bl true)))
def m_law : Fn := fnM 1 4 bd_law
theorem ok_law (T : Tx K mg) : FnOk P w K mg base CX0 19 (He.ga K "law") (T.fd 0) ["_law_script"] (spM (GG K) m_law) :=
  fn_okD (B := bd_law) (T.df 0 dd_law rfl) sc_law (hb := fun cdv A outer s H E hr => sm_cons (sm_for' PassesOwn.never rfl (im_range1 (by rfl) (T.fr "range" (by simp [frees])) (pm_cons (pm_bin om_add (pm_int) (pm_cB cm_min2 (by rfl) (T.fr "min" (by simp [frees])) bb_min (pm_cons (pm_int) (pm_cons (pm_cB cm_len (by rfl) (T.fr "len" (by simp [frees])) bb_len (pm_cons (pm_var (pv 0)) (pm_nil))) (pm_nil))))) (pm_nil))) (gm_name (pg_name (i := 1) sc_law.nd rfl (Or.inl rfl))) (sm_cons (sm_set (ps_set (i := 2) sc_law.nd rfl (Or.inr rfl) (pm_call (ok__law_box T) (hr.mono (by decide)) (by rfl) (T.gl "_law_box" (by simp [glos])) (T.kp 1 rfl) (b__law_box T) pass0 (pm_cons (pm_var (pv 0)) (pm_cons (pm_var (pv 1)) (pm_nil))))))
    (sm_one (sm_if (pm_tnot (pm_tst (pm_cB cm_all (by rfl) (T.fr "all" (by simp [frees])) bb_all (pm_cons (pm_lc (own := [("_law_lap", 3)]) rfl sc_law.nd (im_range1 (by rfl) (T.fr "range" (by simp [frees])) (pm_cons (pm_int) (pm_nil))) (blkOk_by (own := [("_law_lap", 3)]) (N := N_law) (sc := defScope s_law) (by decide +kernel)) (fun _ _ _ _ _ => gm_name (pg_name (i := 3) sc_law.nd rfl (Or.inl rfl))) (fun _ _ _ _ _ => tm_nil) (fun _ _ _ _ _ => pm_call (okB__law_right T) (hr.mono (by decide)) (by rfl) (T.gl "_law_right" (by simp [glos])) (T.kp 2 rfl) (b__law_right T) pass0 (pm_cons (pm_var (pv 2)) (pm_nil)))) (pm_nil))))) (sm_one (sm_ret (pm_bl))) (sm_nil)))))
    (sm_one (sm_ret (pm_bl))))
end

/-! ### the law -/
theorem box_ok : BoxFn m__law_box := by
  intro ns k s h0 h1
  have hc : ∃ x : Int, (mif (mtB (mop2 ltW (mvar 1) (mcall lenW (mcons (mvar 0) (mnil))))) (mop2 ixW (mvar 0) (mvar 1)) (mcon (.int 0))) [some (.fl (ns.map .int)), some (.int k), none, none] s = some (.int x, s) := by
    by_cases h : k < (ns.length : Int)
    · have hx : ∃ x, L2.atI (ns.map Mv.int) k = some (.int x) := by
        have hl : k.toNat < ns.length := by omega
        refine ⟨ns[k.toNat], ?_⟩
        unfold L2.atI L2.ixN
        rw [if_pos h0, if_pos (by rw [List.length_map]; exact h)]
        simp [hl]
      obtain ⟨x, hx⟩ := hx
      exact ⟨x, by simp [mif, mtB, mop2, ltW, cmpI, mvar, mcall, mcons, mnil, lenW, lenB, ixW, items, hx, h]⟩
    · exact ⟨0, by simp [mif, mtB, mop2, ltW, cmpI, mvar, mcall, mcons, mnil, lenW, lenB, mcon, h]⟩
  obtain ⟨x, hx⟩ := hc
  have sm0 : smI 41177 = true := by decide
  have sm1 : smI 38923 = true := by decide
  have sm2 : ∀ y : Int, smI (if 1000000000000000000 ≤ y then 1 else 0) = true := fun y => by split <;> decide
  have ge : ∀ b : Bool, (0 : Int) ≤ if b = true then 1 else 0 := fun b => by cases b <;> decide
  have sm3 : smI 10 = true := by decide
  refine ⟨(if x < 0 then -x else x) * (if (decide ((10 : Int) ^ 18 ≤ if x < 0 then -x else x)) = true then 1 else 0), (x % 2305843009213693921 + 41177 * k + 53) * 38923 % 2147483563, ?_, Int.emod_nonneg _ (by decide), ?_, ?_⟩
  · refine Int.mul_nonneg ?_ ?_
    · split <;> omega
    · exact ge _
  · have := Int.emod_lt_of_pos ((x % 2305843009213693921 + 41177 * k + 53) * 38923) (b := 2147483563) (by decide)
    omega
  · simp [m__law_box, fnM, bd__law_box, sseq, sset, hx]
    simp [mop2, modW, mcall, intW, mcons, mulW, addW, mvar, mcon, mnil, sm0, sm1, sm2, sm3, sret, mlst, absW, geW, cmpI, powW]
    generalize newL _ s = o
    cases o <;> rfl
theorem law_true (ns : List Int) : ∃ s', m_law [.fl (ns.map .int)] ⟨0, .nil⟩ = some (.bl true, s') := law_gen (bx := m__law_box) (ks := rks) (R := 1) (L := 3) box_ok (by decide) (by decide) (by decide) ns

def loose0 : List Str := ["_wall", "__name__", "GLOBAL", "DEEP", "OPEN", "CLOSE", "CALL", "as_tuples", "lib_of", "NoDoor", "NoLib", "NoUse", "NotThere", "lib_at", "use_at", "row", "first_row", "door_row", "serves", "version_of", "MOST", "OPENED", "CLOSED", "FULL", "SHUT", "BOUND", "NOBODY", "LOST", "TORN", "Ground"]
def loose1 : List Str := ["Process", "next_steps", "walk", "first_runs", "bindings", "main_of", "others_of", "with_preload", "server", "doors_of", "rows_to_public", "Trial", "looked", "gives_all", "rows_of_names", "names_in", "least_preload", "is_lean", "_law_box", "_law_take", "_law_of", "_law_same", "_law_right"]
def loose : List Str := loose0 ++ loose1
abbrev R : PySem.W.OpenRow := PySem.W.OpenLaw.row PySem.Challenge.rw_latebound_k76_whole_one_that_brings_seve
abbrev hk : PySem.W.Hook := He.hookX 4 faAll fn [] [] exB
def ob (s : PySem.W.SharedT) : He.AlX := He.obsX 4 faAll fn [] [] exB (HandSHeadRun.getT s)
theorem ob_eq (s : PySem.W.SharedT) : ob s = hk.obs s.abs := He.obsX_eq (HandSHeadRun.getT_eq s)
theorem run (w : World) : HandSHeadRun.RunEq R (PySem.W.view R.prog [60]) hk ob 12000 loose w := by
  intro os
  kernel_rfl
theorem facts {P : Program} {w : World} {K : PySem.W.Frag} {h : Heap} {mg : Str → Option Value} {f : Addr} (X : K.In h) (G : h.Ns mainGlobals mg) (hfa : mg ("law" : Str) = some (.ref f)) (c : He.SaysX faAll fn [] [] exB w h K) :
    ∃ fd : FuncData, (∀ (s : Shared) (v : Value), BindsTo s fd ⟨[v], []⟩ [("_law_script", v)]) ∧ ∀ base : Heap, K.In base → base.Ns mainGlobals mg → FnOk P w K mg base CX0 19 f fd ["_law_script"] (spM (GG K) m_law) := by
  have ex : ∀ i : Nat, ∃ fd : FuncData, ∀ d : He.DefD, fn[i]? = some d → FunD K d.name d.qual d.params d.body d.scope (d.dvs K) (d.kws K) (He.fAd K d.at_) fd := by
    intro i
    cases e : fn[i]? with
    | none =>
      obtain ⟨fd, _⟩ := c.t.d.def_ 0 (d := dd_law) rfl
      exact ⟨fd, fun d hd => by cases hd⟩
    | some d =>
      obtain ⟨fd, F⟩ := c.t.d.def_ i (d := d) e
      exact ⟨fd, fun d' hd => by cases hd; exact F⟩
  have fc : ∀ g, g ∈ faAll → g.ok K = true := fun g hg => He.SaysD.facts c.t.d hg
  have T : Tx K mg :=
    { fd := fun i => Classical.choose (ex i)
      df := fun i d hd => Classical.choose_spec (ex i) d hd
      gl := fun x hx => He.glo_ok X G (fc (.glo x) (List.mem_append_right _ (List.mem_append_left _ (List.mem_map_of_mem hx))))
      fr := fun x hx => He.free_ok X G (fc (.free x) (List.mem_append_right _ (List.mem_append_right _ (List.mem_map_of_mem hx))))
      fc := fun g hg => fc g (List.mem_append_left _ hg)
      gi := fun x i hx => He.int_ok X G (fc (.int x i) (List.mem_append_left _ hx))
      gs := fun x z hx => He.str_ok X G (fc (.str x z) (List.mem_append_left _ hx))
      ex := c.more }
  have e := hfa.symm.trans (T.gl "law" (by simp [glos]))
  cases e
  have b := FunD.bindsA (ps := ["_law_script"]) (T.df 0 dd_law rfl) fun _ _ _ _ _ _ us hl => match us, hl with | [_], _ => rfl
  exact ⟨T.fd 0, fun s v => b s [v] rfl, fun base _ _ => ok_law T⟩
theorem denInts {G : Mg} {p : List Addr} {H : Hp} : ∀ ns : List Int, DenL G p H (ns.map Mv.int) (ns.map V.int)
  | [] => .nil
  | n :: ns => .cons (.int n) (denInts ns)
theorem flOf {K : PySem.W.Frag} {H : Hp} {a : Addr} {vs : List V} (on : Only H) (h : SqL K H a vs) : FlAt K [] H a vs := by
  rcases h with h | h
  · rcases h with h | h
    · rcases on a with e | ⟨o, xs, e⟩
      · rw [e] at h; cases h
      · rw [e] at h; cases h
    · exact .inl h
  · exact .inr (.inr h)
theorem lawSp {K : PySem.W.Frag} {H : Hp} {a : Addr} {ns : List Int} {E : XK} (hl : ns.length ≤ 63) (on : Only H) (hS : SqL K H a (ns.map V.int)) : spM (GG K) m_law [.ref a] H (fun v _ => v = .bl true) E := by
  obtain ⟨s', hs⟩ := law_true ns
  exact ⟨[], _, [.fl (ns.map Mv.int)], .bl true, s', Sim.nil, .cons (.fl (flOf on hS) (denInts ns)) .nil, hs, fun p v H' _ _ d => by cases d; rfl⟩
end Mi
open PySem PySem.W PySem.Calls PyProof.Rows
theorem PySem.Challenge.cw_latebound_k76_whole_one_that_brings_seve_holds : PySem.Challenge.rw_latebound_k76_whole_one_that_brings_seve.Holds := by
  w_on; o_law
  refine HandSHeadRun.head_any (r := OpenLaw.row PySem.Challenge.rw_latebound_k76_whole_one_that_brings_seve) (q := view (OpenLaw.row PySem.Challenge.rw_latebound_k76_whole_one_that_brings_seve).prog [60]) (H := Mi.hk) (ob := Mi.ob) (M := 12000) (loose := Mi.loose) (d := HandSHeadRun.topDef (OpenLaw.row PySem.Challenge.rw_latebound_k76_whole_one_that_brings_seve).prog 60) (kwd := []) Mi.ob_eq
    (by kernel_rfl) (fun s => by kernel_rfl) Mi.run (by kernel_rfl) (by kernel_rfl) (by kernel_rfl) (by rfl) (by first | assumption | decide +kernel) (by decide +kernel) ⟨rfl, rfl, rfl, rfl, rfl, by decide +kernel⟩ ?hw ?hc
  case hw => w_witness2
  case hc =>
    refine L2.walk_ofE (l := PySem.Challenge.rw_latebound_k76_whole_one_that_brings_seve) (n := 63) (k := 19) (x := "_law_script") (CX := L2.CX0) rfl (by decide) (by kernel_rfl) ⟨rfl, by decide, by decide⟩ ?F (fun _ _ _ _ z => z)
    intro w mg fa h Y G hmg0
    obtain ⟨K, KX, c⟩ := Y
    have hmg : mg ("law" : PySem.Str) = some (.ref fa) := by
      have e : (HandSHeadRun.topDef (OpenLaw.row PySem.Challenge.rw_latebound_k76_whole_one_that_brings_seve).prog 60).name = ("law" : PySem.Str) := by kernel_rfl
      rw [← e]
      exact hmg0
    obtain ⟨fd, hb, hF⟩ := Mi.facts (P := (PySem.Challenge.rw_latebound_k76_whole_one_that_brings_seve).prog) (w := w) KX G hmg c
    exact ⟨K, fd, Mi.spM (Mi.GG K) Mi.m_law, KX, hb, fun H a ns hl on hS => Mi.lawSp hl on hS, hF⟩
